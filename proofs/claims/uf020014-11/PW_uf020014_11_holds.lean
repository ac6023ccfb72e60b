import PyProof.Rows.All
import Wide.All
import Open.Line
import Wide.FinOn
import OpenK.KWalk
import PyProof.TupleIter
import PyProof.RulesTry
import PyProof.TupleKey
import PyProof.DictKinds
import PyProof.DictRoadsH
import PyProof.CompFree
import PyProof.CompMap
import PyProof.Cells
import PyProof.DefCall
import PyProof.ForAny
import PyProof.RaisesMany
import PyProof.RangeIter
import PyProof.DictList
import PyProof.RulesAssignMore
import PyProof.WalksMore
import PyProof.StrWalks
import PyProof.EnumMake
import PyProof.WalksPairs
import PyProof.DictTable
import PyProof.LetGo
import PyProof.Rules2
import PyProof.Rules3
import PyProof.EvalArms
import PyProof.DictStraight
import PyProof.EnumFor
import PyProof.ZipIter
import PyProof.RulesAs
import PyProof.NsDelKeeps
import PyProof.AssignAttr
import KE.KTryMore
import OpenK.KMake
import PyProof.ExcBaseAll.ValueError
import PyProof.ExcClass2
import KE.KDictOf
import PyProof.SetKind
import PyProof.SetRoads
import PyProof.SetNew
import PyProof.Walks
import PyProof.CollectIter
import PyProof.TupleOfSeq
import PyProof.Rows.SortWalk
import PyProof.ListRange
import PyProof.AttrMissHeap
import PyProof.AutoSeq1
import PyProof.Rows.ExtendIn
import PyProof.Rows.MinMaxN
import KE.KFind
import KE.KSetAt
import KE.KSortTup
import PyProof.MeetsSeq
import PySem.Challenge.RW_uf020014_11
set_option Elab.async false
set_option bootstrap.genMatcherCode false
set_option genInjectivity false
set_option genSizeOf false
set_option autoImplicit false
set_option linter.unusedVariables false
open PySem.Str renaming ofString → Dn
open PySem renaming wpAny_bind → Dq, wpAny_mono → Dy, sizeLine → Dz, PyData → DK, wpAny_holding → DT, Builtin → DX, Around → D4, wpAny_newObj_type → D6, Stmt → Ed, Program → Ee, wpAny_standAt → Ej, model → Er, wpAny_call_entry → EC, wpAny_field → EG, codeAny_builtin → EH, wpAny_setField_rec → EJ, BoolOp → EY, wpAny_setState_of → E0, NameKind → E1, mainGlobals → E4, wpAny_isInstance → E6, seqIndex? → Fa, Data → Fi, wpAny_callSpecial?_slot → Fo, scanBound → Fp, World → Fq, assignEach → Fv, wpAny_specialOf → Fy, stored → FC, holding → FH, wpAny_seqItems → FL, CmpOp → FO, pyNext → FW, eval → FX, strIterType → F8, cLine → F9, wpAny_setField → Gb, recursionLimit → Gc, isSubtype_type → Gd, Operator → Gg, builtinLookup_eq_fast → Gl, DictEntry → Gs, wpAny_attempt → Gu, plainId_quiet → Gv, assign → GA, wpAny_typeOf → GI, codeAny → GJ, wpAny_operateT → GO, sysModules → GP, starEach → GQ, wpAny_truthy_bool → GY, wpAny_pyIter_list → GZ, notedBy → G0, ExcName → G5, wpAny_askSetting → G9, entryFor_of_tree → G_, checkBuiltinCall → Ha, wpAny_call → Hl, tupleKeyHash → Hm, codeAny_mono → Hn, cameBackBy → Ho, builtinsNs → Hp, UnaryOp → Hq, typeLookup_type → Hu, letOwnedTupleGo → Hv, isSubtype_tuple_tuple → HD, wpAny_letTemporaryGo → HG, firstArgMember → HH
open List renaming length_map → Dt, getElem?_eq_getElem → DA, getElem?_map → DC, getElem?_eq_some_iff → DD, getD_eq_getElem?_getD → DL, replicate → DN, map_append → DO, mem_of_getElem? → DQ, range → DU, length_append → DZ, length → D0, getElem?_append_right → D1, map_cons → D3, take_add_one → D7, take_length → Ec, mem_map → Ef, mem_append → El, mem_filter → Ep, all_eq_true → Et, length_eq_zero_iff → Ey, take_of_length_le → ED, getElem?_append_left → EE, drop_eq_getElem_cons → EF, lookup_cons → EL, find?_cons → EQ, pairwise_iff_getElem → ER, mem_singleton → EV, mem_cons → EW, drop_eq_nil_of_le → E3, length_cons → E7, replicate_succ → Fk, rec → Fr, mem_range → Fs, zip_cons_cons → Fw, filter_append → Fx, length_singleton → FD, length_replicate → FE, length_filter_le → FF, size_toArray → FJ, append_assoc → FK, not_mem_nil → FQ, map_map → FR, getElem_mem → FS, filter_cons → FT, nodup_cons → F1, length_nil → F3, forIn_cons → F4, foldl_cons → F5, pairwise_cons → F7, flatMap_eq_nil_iff → Ga, foldl_append → Gi, length_take → Gn, length_drop → Go, foldl → Gp, mem_of_mem_take → Gz, nil_append → GC, append_nil → GE, toList_toArray → GF, getD_cons_zero → GG, getD_cons_succ → GH, map → GV, mem_flatMap → Hf, ext_getElem → Hg, any_eq_true → Hh, filter_eq_nil_iff → Hr, mem_iff_getElem? → HF, range' → HK, pairwise_append → HL, forIn_nil → HM, filter → HN
open PySem.Value renaming ref → Du, int → DB, type → DF, none → DJ, str → DM, bool → Ek, builtin → EB, isInt → F_
open PySem.Heap renaming get?_push_of_some → Dv, get?_push_size → DG, lt_size → D_, SameBut → Eg, get?_update_self → Ew, get?_update_other → EN, ExtBut → Fu, get? → Hi
open Option renaming map_eq_some_iff → DE, some → Eo, none → EK, isSome_iff_exists → Fj, elim → HI
open Bool renaming and_eq_true_iff → DH, false_ne_true → DP, false_eq_true → D2, and_eq_true → Ev, not_true → E5, not_eq_true' → Gk
open PySem.SetTable renaming below → DR, grown → FM
open Array renaming length_toList → DS, getElem?_eq_getElem → D8, getD_eq_getD_getElem? → En, getElem?_toList → FG, getElem?_eq_none_iff → GW, toList_push → G6, getElem?_eq_none → Ht, getElem_toList → HO
open PySem.Builtin.Range renaming rangeSize → DV
open PySem.PyData renaming depthAll → DW, canLayAll0 → Eb, depth → Ei, eqv → Em, canLay0 → Es, tuple → E2, int → E8, list → Gx, keyHash → GS, eqvAll → G7
open Nat renaming le_of_ble_eq_true → DY, le_refl → Ea, le_trans → EI, zero_le → EP, le_of_not_lt → EU, lt_or_ge → Fd, le_of_eq → FP, lt_irrefl → FY, min_eq_left → GB, ne_of_lt → GK, lt_trans → GL, not_lt → GT, add_sub_cancel → GU, lt_of_not_le → He, not_lt_zero → Hw, le_succ → HJ
open Int renaming emod_lt_of_pos → D5, emod_nonneg → D9, zero_add → Fe, toNat_natCast → Fh, toNat_of_nonneg → Fm, eq_ofNat_of_zero_le → Ft, not_lt → Gq, le_refl → G3, ediv_nonneg → HB
open Option.some renaming inj → Eh, injEq → G1
open PySem.Obj renaming mapFields → Eu, mapSeq → EM, cls_mapFields → Gh, isFreed_of_fields → HE
open PySem.SeqAt renaming eqv_refl → Ez
open PySem.Heap.SameBut renaming update → EO
open PySem.Builtin.Slice renaming sliceAdjust → ET, slicePlaces → FV
open PySem.Data renaming fields → EX, func → FA, cls → Gj, noConfusion → Hk
open PySem.Around renaming under_plainId → EZ
open Ne renaming symm → E9
open PySem.Builtin.Tuple renaming tupleHashOf → E_, tupleExact → FZ
open ForInStep renaming yield → Fb
open PySem.NameKind renaming free → Fz, cell → G8
open PySem.Expr.Name renaming elim → FN
open PySem.F renaming called_set → FU, slot_tuple_getattribute → GX, slot_tuple_hash → G4, slot_tuple_eq → HC
open PySem.Expr.Tuple renaming elim → F6
open PySem.W renaming findIn → Ge, emptyDict → GN
open PySem.SetTable.below renaming go → Gf
open LawfulBEq renaming eq_of_beq → Gm
open PySem.Env renaming kindOf → Gr
open PyProof.Rows renaming IntsAre → Gw, slot_tuple_getitem → GR
open Prod renaming ext → Gy
open PySem.Code renaming builtin → GM
open PySem.Manifest renaming Receiver → G2
open PySem.Stmt.Assign renaming elim → Hb
open PySem.Expr renaming Name → Hj, Tuple → Hs
open List.cons renaming injEq → HA
namespace Vc.Internal
theorem az {p0 p1 G:Prop}(h:p0/\p1)(f:p0->p1->G):G:=by obtain ⟨h0,h1⟩:=h;exact f h0 h1
theorem fA {p0 p1 p2 G:Prop}(h:p0/\p1/\p2)(f:p0->p1->p2->G):G:=by obtain ⟨h0,h1,h2⟩:=h;exact f h0 h1 h2
theorem kU {p0 p1 p2 p3 G:Prop}(h:p0/\p1/\p2/\p3)(f:p0->p1->p2->p3->G):G:=by obtain ⟨h0,h1,h2,h3⟩:=h;exact f h0 h1 h2 h3
theorem js {p0 p1 p2 p3 p4 G:Prop}(h:p0/\p1/\p2/\p3/\p4)(f:p0->p1->p2->p3->p4->G):G:=by obtain ⟨h0,h1,h2,h3,h4⟩:=h;exact f h0 h1 h2 h3 h4
theorem rg {p0 p1 p2 p3 p4 p5 G:Prop}(h:p0/\p1/\p2/\p3/\p4/\p5)(f:p0->p1->p2->p3->p4->p5->G):G:=by obtain ⟨h0,h1,h2,h3,h4,h5⟩:=h;exact f h0 h1 h2 h3 h4 h5
theorem vS {p0 p1 p2 p3 p4 p5 p6 p7 G:Prop}(h:p0/\p1/\p2/\p3/\p4/\p5/\p6/\p7)(f:p0->p1->p2->p3->p4->p5->p6->p7->G):G:=by obtain ⟨h0,h1,h2,h3,h4,h5,h6,h7⟩:=h;exact f h0 h1 h2 h3 h4 h5 h6 h7
theorem aF.{u0}{A0:Sort u0}{p0:A0->Prop}{G:Prop}(h:∃ a0,p0 a0)(f:∀ a0,p0 a0->G):G:=by obtain ⟨a0,h0⟩:=h;exact f a0 h0
theorem ad.{u0}{A0:Sort u0}{p0 p1:A0->Prop}{G:Prop}(h:∃ a0,p0 a0/\p1 a0)(f:∀ a0,p0 a0->p1 a0->G):G:=by obtain ⟨a0,h0,h1⟩:=h;exact f a0 h0 h1
theorem bN.{u0}{A0:Sort u0}{p0 p1 p2:A0->Prop}{G:Prop}(h:∃ a0,p0 a0/\p1 a0/\p2 a0)(f:∀ a0,p0 a0->p1 a0->p2 a0->G):G:=by obtain ⟨a0,h0,h1,h2⟩:=h;exact f a0 h0 h1 h2
theorem cY.{u0}{A0:Sort u0}{p0 p1 p2 p3:A0->Prop}{G:Prop}(h:∃ a0,p0 a0/\p1 a0/\p2 a0/\p3 a0)(f:∀ a0,p0 a0->p1 a0->p2 a0->p3 a0->G):G:=by obtain ⟨a0,h0,h1,h2,h3⟩:=h;exact f a0 h0 h1 h2 h3
theorem rj.{u0}{A0:Sort u0}{p0 p1 p2 p3 p4:A0->Prop}{G:Prop}(h:∃ a0,p0 a0/\p1 a0/\p2 a0/\p3 a0/\p4 a0)(f:∀ a0,p0 a0->p1 a0->p2 a0->p3 a0->p4 a0->G):G:=by obtain ⟨a0,h0,h1,h2,h3,h4⟩:=h;exact f a0 h0 h1 h2 h3 h4
theorem Bo.{u0}{A0:Sort u0}{p0 p1 p2 p3 p4 p5:A0->Prop}{G:Prop}(h:∃ a0,p0 a0/\p1 a0/\p2 a0/\p3 a0/\p4 a0/\p5 a0)(f:∀ a0,p0 a0->p1 a0->p2 a0->p3 a0->p4 a0->p5 a0->G):G:=by obtain ⟨a0,h0,h1,h2,h3,h4,h5⟩:=h;exact f a0 h0 h1 h2 h3 h4 h5
theorem vT.{u0,u1}{A0:Sort u0}{A1:Sort u1}{p0:A0->A1->Prop}{G:Prop}(h:∃ a0 a1,p0 a0 a1)(f:∀ a0 a1,p0 a0 a1->G):G:=by obtain ⟨a0,a1,h0⟩:=h;exact f a0 a1 h0
theorem eT.{u0,u1}{A0:Sort u0}{A1:Sort u1}{p0 p1:A0->A1->Prop}{G:Prop}(h:∃ a0 a1,p0 a0 a1/\p1 a0 a1)(f:∀ a0 a1,p0 a0 a1->p1 a0 a1->G):G:=by obtain ⟨a0,a1,h0,h1⟩:=h;exact f a0 a1 h0 h1
theorem aG.{u0,u1}{A0:Sort u0}{A1:Sort u1}{p0 p1 p2:A0->A1->Prop}{G:Prop}(h:∃ a0 a1,p0 a0 a1/\p1 a0 a1/\p2 a0 a1)(f:∀ a0 a1,p0 a0 a1->p1 a0 a1->p2 a0 a1->G):G:=by obtain ⟨a0,a1,h0,h1,h2⟩:=h;exact f a0 a1 h0 h1 h2
theorem dC.{u0,u1}{A0:Sort u0}{A1:Sort u1}{p0 p1 p2 p3:A0->A1->Prop}{G:Prop}(h:∃ a0 a1,p0 a0 a1/\p1 a0 a1/\p2 a0 a1/\p3 a0 a1)(f:∀ a0 a1,p0 a0 a1->p1 a0 a1->p2 a0 a1->p3 a0 a1->G):G:=by obtain ⟨a0,a1,h0,h1,h2,h3⟩:=h;exact f a0 a1 h0 h1 h2 h3
theorem dD.{u0,u1}{A0:Sort u0}{A1:Sort u1}{p0 p1 p2 p3 p4:A0->A1->Prop}{G:Prop}(h:∃ a0 a1,p0 a0 a1/\p1 a0 a1/\p2 a0 a1/\p3 a0 a1/\p4 a0 a1)(f:∀ a0 a1,p0 a0 a1->p1 a0 a1->p2 a0 a1->p3 a0 a1->p4 a0 a1->G):G:=by obtain ⟨a0,a1,h0,h1,h2,h3,h4⟩:=h;exact f a0 a1 h0 h1 h2 h3 h4
theorem C7.{u0,u1}{A0:Sort u0}{A1:Sort u1}{p0 p1 p2 p3 p4 p5:A0->A1->Prop}{G:Prop}(h:∃ a0 a1,p0 a0 a1/\p1 a0 a1/\p2 a0 a1/\p3 a0 a1/\p4 a0 a1/\p5 a0 a1)(f:∀ a0 a1,p0 a0 a1->p1 a0 a1->p2 a0 a1->p3 a0 a1->p4 a0 a1->p5 a0 a1->G):G:=by obtain ⟨a0,a1,h0,h1,h2,h3,h4,h5⟩:=h;exact f a0 a1 h0 h1 h2 h3 h4 h5
theorem f8.{u0,u1,u2}{A0:Sort u0}{A1:Sort u1}{A2:Sort u2}{p0 p1:A0->A1->A2->Prop}{G:Prop}(h:∃ a0 a1 a2,p0 a0 a1 a2/\p1 a0 a1 a2)(f:∀ a0 a1 a2,p0 a0 a1 a2->p1 a0 a1 a2->G):G:=by obtain ⟨a0,a1,a2,h0,h1⟩:=h;exact f a0 a1 a2 h0 h1
theorem eU.{u0,u1,u2}{A0:Sort u0}{A1:Sort u1}{A2:Sort u2}{p0 p1 p2:A0->A1->A2->Prop}{G:Prop}(h:∃ a0 a1 a2,p0 a0 a1 a2/\p1 a0 a1 a2/\p2 a0 a1 a2)(f:∀ a0 a1 a2,p0 a0 a1 a2->p1 a0 a1 a2->p2 a0 a1 a2->G):G:=by obtain ⟨a0,a1,a2,h0,h1,h2⟩:=h;exact f a0 a1 a2 h0 h1 h2
theorem cZ.{u0,u1,u2}{A0:Sort u0}{A1:Sort u1}{A2:Sort u2}{p0 p1 p2 p3:A0->A1->A2->Prop}{G:Prop}(h:∃ a0 a1 a2,p0 a0 a1 a2/\p1 a0 a1 a2/\p2 a0 a1 a2/\p3 a0 a1 a2)(f:∀ a0 a1 a2,p0 a0 a1 a2->p1 a0 a1 a2->p2 a0 a1 a2->p3 a0 a1 a2->G):G:=by obtain ⟨a0,a1,a2,h0,h1,h2,h3⟩:=h;exact f a0 a1 a2 h0 h1 h2 h3
theorem cR.{u0,u1,u2}{A0:Sort u0}{A1:Sort u1}{A2:Sort u2}{p0 p1 p2 p3 p4:A0->A1->A2->Prop}{G:Prop}(h:∃ a0 a1 a2,p0 a0 a1 a2/\p1 a0 a1 a2/\p2 a0 a1 a2/\p3 a0 a1 a2/\p4 a0 a1 a2)(f:∀ a0 a1 a2,p0 a0 a1 a2->p1 a0 a1 a2->p2 a0 a1 a2->p3 a0 a1 a2->p4 a0 a1 a2->G):G:=by obtain ⟨a0,a1,a2,h0,h1,h2,h3,h4⟩:=h;exact f a0 a1 a2 h0 h1 h2 h3 h4
theorem kW.{u0,u1,u2}{A0:Sort u0}{A1:Sort u1}{A2:Sort u2}{p0 p1 p2 p3 p4 p5:A0->A1->A2->Prop}{G:Prop}(h:∃ a0 a1 a2,p0 a0 a1 a2/\p1 a0 a1 a2/\p2 a0 a1 a2/\p3 a0 a1 a2/\p4 a0 a1 a2/\p5 a0 a1 a2)(f:∀ a0 a1 a2,p0 a0 a1 a2->p1 a0 a1 a2->p2 a0 a1 a2->p3 a0 a1 a2->p4 a0 a1 a2->p5 a0 a1 a2->G):G:=by obtain ⟨a0,a1,a2,h0,h1,h2,h3,h4,h5⟩:=h;exact f a0 a1 a2 h0 h1 h2 h3 h4 h5
theorem Bp.{u0,u1,u2}{A0:Sort u0}{A1:Sort u1}{A2:Sort u2}{p0 p1 p2 p3 p4 p5 p6:A0->A1->A2->Prop}{G:Prop}(h:∃ a0 a1 a2,p0 a0 a1 a2/\p1 a0 a1 a2/\p2 a0 a1 a2/\p3 a0 a1 a2/\p4 a0 a1 a2/\p5 a0 a1 a2/\p6 a0 a1 a2)(f:∀ a0 a1 a2,p0 a0 a1 a2->p1 a0 a1 a2->p2 a0 a1 a2->p3 a0 a1 a2->p4 a0 a1 a2->p5 a0 a1 a2->p6 a0 a1 a2->G):G:=by obtain ⟨a0,a1,a2,h0,h1,h2,h3,h4,h5,h6⟩:=h;exact f a0 a1 a2 h0 h1 h2 h3 h4 h5 h6
theorem rk.{u0,u1,u2,u3}{A0:Sort u0}{A1:Sort u1}{A2:Sort u2}{A3:Sort u3}{p0 p1:A0->A1->A2->A3->Prop}{G:Prop}(h:∃ a0 a1 a2 a3,p0 a0 a1 a2 a3/\p1 a0 a1 a2 a3)(f:∀ a0 a1 a2 a3,p0 a0 a1 a2 a3->p1 a0 a1 a2 a3->G):G:=by obtain ⟨a0,a1,a2,a3,h0,h1⟩:=h;exact f a0 a1 a2 a3 h0 h1
theorem vU.{u0,u1,u2,u3}{A0:Sort u0}{A1:Sort u1}{A2:Sort u2}{A3:Sort u3}{p0 p1 p2:A0->A1->A2->A3->Prop}{G:Prop}(h:∃ a0 a1 a2 a3,p0 a0 a1 a2 a3/\p1 a0 a1 a2 a3/\p2 a0 a1 a2 a3)(f:∀ a0 a1 a2 a3,p0 a0 a1 a2 a3->p1 a0 a1 a2 a3->p2 a0 a1 a2 a3->G):G:=by obtain ⟨a0,a1,a2,a3,h0,h1,h2⟩:=h;exact f a0 a1 a2 a3 h0 h1 h2
theorem nH.{u0,u1,u2,u3}{A0:Sort u0}{A1:Sort u1}{A2:Sort u2}{A3:Sort u3}{p0 p1 p2 p3 p4:A0->A1->A2->A3->Prop}{G:Prop}(h:∃ a0 a1 a2 a3,p0 a0 a1 a2 a3/\p1 a0 a1 a2 a3/\p2 a0 a1 a2 a3/\p3 a0 a1 a2 a3/\p4 a0 a1 a2 a3)(f:∀ a0 a1 a2 a3,p0 a0 a1 a2 a3->p1 a0 a1 a2 a3->p2 a0 a1 a2 a3->p3 a0 a1 a2 a3->p4 a0 a1 a2 a3->G):G:=by obtain ⟨a0,a1,a2,a3,h0,h1,h2,h3,h4⟩:=h;exact f a0 a1 a2 a3 h0 h1 h2 h3 h4
theorem vV.{u0,u1,u2,u3}{A0:Sort u0}{A1:Sort u1}{A2:Sort u2}{A3:Sort u3}{p0 p1 p2 p3 p4 p5 p6:A0->A1->A2->A3->Prop}{G:Prop}(h:∃ a0 a1 a2 a3,p0 a0 a1 a2 a3/\p1 a0 a1 a2 a3/\p2 a0 a1 a2 a3/\p3 a0 a1 a2 a3/\p4 a0 a1 a2 a3/\p5 a0 a1 a2 a3/\p6 a0 a1 a2 a3)(f:∀ a0 a1 a2 a3,p0 a0 a1 a2 a3->p1 a0 a1 a2 a3->p2 a0 a1 a2 a3->p3 a0 a1 a2 a3->p4 a0 a1 a2 a3->p5 a0 a1 a2 a3->p6 a0 a1 a2 a3->G):G:=by obtain ⟨a0,a1,a2,a3,h0,h1,h2,h3,h4,h5,h6⟩:=h;exact f a0 a1 a2 a3 h0 h1 h2 h3 h4 h5 h6
theorem Bq.{u0,u1,u2,u3,u4}{A0:Sort u0}{A1:Sort u1}{A2:Sort u2}{A3:Sort u3}{A4:Sort u4}{p0 p1 p2 p3:A0->A1->A2->A3->A4->Prop}{G:Prop}(h:∃ a0 a1 a2 a3 a4,p0 a0 a1 a2 a3 a4/\p1 a0 a1 a2 a3 a4/\p2 a0 a1 a2 a3 a4/\p3 a0 a1 a2 a3 a4)(f:∀ a0 a1 a2 a3 a4,p0 a0 a1 a2 a3 a4->p1 a0 a1 a2 a3 a4->p2 a0 a1 a2 a3 a4->p3 a0 a1 a2 a3 a4->G):G:=by obtain ⟨a0,a1,a2,a3,a4,h0,h1,h2,h3⟩:=h;exact f a0 a1 a2 a3 a4 h0 h1 h2 h3
theorem iI.{u0,u1,u2,u3,u4}{A0:Sort u0}{A1:Sort u1}{A2:Sort u2}{A3:Sort u3}{A4:Sort u4}{p0 p1 p2 p3 p4:A0->A1->A2->A3->A4->Prop}{G:Prop}(h:∃ a0 a1 a2 a3 a4,p0 a0 a1 a2 a3 a4/\p1 a0 a1 a2 a3 a4/\p2 a0 a1 a2 a3 a4/\p3 a0 a1 a2 a3 a4/\p4 a0 a1 a2 a3 a4)(f:∀ a0 a1 a2 a3 a4,p0 a0 a1 a2 a3 a4->p1 a0 a1 a2 a3 a4->p2 a0 a1 a2 a3 a4->p3 a0 a1 a2 a3 a4->p4 a0 a1 a2 a3 a4->G):G:=by obtain ⟨a0,a1,a2,a3,a4,h0,h1,h2,h3,h4⟩:=h;exact f a0 a1 a2 a3 a4 h0 h1 h2 h3 h4
theorem Br.{u0,u1,u2,u3,u4}{A0:Sort u0}{A1:Sort u1}{A2:Sort u2}{A3:Sort u3}{A4:Sort u4}{p0 p1 p2 p3 p4 p5:A0->A1->A2->A3->A4->Prop}{G:Prop}(h:∃ a0 a1 a2 a3 a4,p0 a0 a1 a2 a3 a4/\p1 a0 a1 a2 a3 a4/\p2 a0 a1 a2 a3 a4/\p3 a0 a1 a2 a3 a4/\p4 a0 a1 a2 a3 a4/\p5 a0 a1 a2 a3 a4)(f:∀ a0 a1 a2 a3 a4,p0 a0 a1 a2 a3 a4->p1 a0 a1 a2 a3 a4->p2 a0 a1 a2 a3 a4->p3 a0 a1 a2 a3 a4->p4 a0 a1 a2 a3 a4->p5 a0 a1 a2 a3 a4->G):G:=by obtain ⟨a0,a1,a2,a3,a4,h0,h1,h2,h3,h4,h5⟩:=h;exact f a0 a1 a2 a3 a4 h0 h1 h2 h3 h4 h5
theorem Bs.{u0,u1,u2,u3,u4,u5}{A0:Sort u0}{A1:Sort u1}{A2:Sort u2}{A3:Sort u3}{A4:Sort u4}{A5:Sort u5}{p0 p1 p2:A0->A1->A2->A3->A4->A5->Prop}{G:Prop}(h:∃ a0 a1 a2 a3 a4 a5,p0 a0 a1 a2 a3 a4 a5/\p1 a0 a1 a2 a3 a4 a5/\p2 a0 a1 a2 a3 a4 a5)(f:∀ a0 a1 a2 a3 a4 a5,p0 a0 a1 a2 a3 a4 a5->p1 a0 a1 a2 a3 a4 a5->p2 a0 a1 a2 a3 a4 a5->G):G:=by obtain ⟨a0,a1,a2,a3,a4,a5,h0,h1,h2⟩:=h;exact f a0 a1 a2 a3 a4 a5 h0 h1 h2
theorem rp.{u0,u1,u2,u3,u4,u5}{A0:Sort u0}{A1:Sort u1}{A2:Sort u2}{A3:Sort u3}{A4:Sort u4}{A5:Sort u5}{p0 p1 p2 p3 p4:A0->A1->A2->A3->A4->A5->Prop}{G:Prop}(h:∃ a0 a1 a2 a3 a4 a5,p0 a0 a1 a2 a3 a4 a5/\p1 a0 a1 a2 a3 a4 a5/\p2 a0 a1 a2 a3 a4 a5/\p3 a0 a1 a2 a3 a4 a5/\p4 a0 a1 a2 a3 a4 a5)(f:∀ a0 a1 a2 a3 a4 a5,p0 a0 a1 a2 a3 a4 a5->p1 a0 a1 a2 a3 a4 a5->p2 a0 a1 a2 a3 a4 a5->p3 a0 a1 a2 a3 a4 a5->p4 a0 a1 a2 a3 a4 a5->G):G:=by obtain ⟨a0,a1,a2,a3,a4,a5,h0,h1,h2,h3,h4⟩:=h;exact f a0 a1 a2 a3 a4 a5 h0 h1 h2 h3 h4
theorem C8.{u0,u1}{A0:Sort u0}{A1:Sort u1}{p0 p1:A0->A1->Prop}(a0:A0)(a1:A1)(h0:p0 a0 a1)(h1:p1 a0 a1)  : ∃ a0 a1,p0 a0 a1/\p1 a0 a1:=⟨a0,a1,h0,h1⟩
theorem kY.{u0,u1}{A0:Sort u0}{A1:Sort u1}{p0 p1 p2:A0->A1->Prop}(a0:A0)(a1:A1)(h0:p0 a0 a1)(h1:p1 a0 a1)(h2:p2 a0 a1)  : ∃ a0 a1,p0 a0 a1/\p1 a0 a1/\p2 a0 a1:=⟨a0,a1,h0,h1,h2⟩
theorem vW.{u0,u1}{A0:Sort u0}{A1:Sort u1}{p0 p1 p2 p3:A0->A1->Prop}(a0:A0)(a1:A1)(h0:p0 a0 a1)(h1:p1 a0 a1)(h2:p2 a0 a1)(h3:p3 a0 a1)  : ∃ a0 a1,p0 a0 a1/\p1 a0 a1/\p2 a0 a1/\p3 a0 a1:=⟨a0,a1,h0,h1,h2,h3⟩
theorem nI.{u0,u1}{A0:Sort u0}{A1:Sort u1}{p0 p1 p2 p3 p4:A0->A1->Prop}(a0:A0)(a1:A1)(h0:p0 a0 a1)(h1:p1 a0 a1)(h2:p2 a0 a1)(h3:p3 a0 a1)(h4:p4 a0 a1)  : ∃ a0 a1,p0 a0 a1/\p1 a0 a1/\p2 a0 a1/\p3 a0 a1/\p4 a0 a1:=⟨a0,a1,h0,h1,h2,h3,h4⟩
theorem C9.{u0,u1}{A0:Sort u0}{A1:Sort u1}{p0 p1 p2 p3 p4 p5:A0->A1->Prop}(a0:A0)(a1:A1)(h0:p0 a0 a1)(h1:p1 a0 a1)(h2:p2 a0 a1)(h3:p3 a0 a1)(h4:p4 a0 a1)(h5:p5 a0 a1)  : ∃ a0 a1,p0 a0 a1/\p1 a0 a1/\p2 a0 a1/\p3 a0 a1/\p4 a0 a1/\p5 a0 a1:=⟨a0,a1,h0,h1,h2,h3,h4,h5⟩
theorem C_.{u0,u1,u2}{A0:Sort u0}{A1:Sort u1}{A2:Sort u2}{p0 p1 p2:A0->A1->A2->Prop}(a0:A0)(a1:A1)(a2:A2)(h0:p0 a0 a1 a2)(h1:p1 a0 a1 a2)(h2:p2 a0 a1 a2)  : ∃ a0 a1 a2,p0 a0 a1 a2/\p1 a0 a1 a2/\p2 a0 a1 a2:=⟨a0,a1,a2,h0,h1,h2⟩
theorem rq.{u0,u1,u2}{A0:Sort u0}{A1:Sort u1}{A2:Sort u2}{p0 p1 p2 p3:A0->A1->A2->Prop}(a0:A0)(a1:A1)(a2:A2)(h0:p0 a0 a1 a2)(h1:p1 a0 a1 a2)(h2:p2 a0 a1 a2)(h3:p3 a0 a1 a2)  : ∃ a0 a1 a2,p0 a0 a1 a2/\p1 a0 a1 a2/\p2 a0 a1 a2/\p3 a0 a1 a2:=⟨a0,a1,a2,h0,h1,h2,h3⟩
theorem nJ.{u0,u1,u2}{A0:Sort u0}{A1:Sort u1}{A2:Sort u2}{p0 p1 p2 p3 p4:A0->A1->A2->Prop}(a0:A0)(a1:A1)(a2:A2)(h0:p0 a0 a1 a2)(h1:p1 a0 a1 a2)(h2:p2 a0 a1 a2)(h3:p3 a0 a1 a2)(h4:p4 a0 a1 a2)  : ∃ a0 a1 a2,p0 a0 a1 a2/\p1 a0 a1 a2/\p2 a0 a1 a2/\p3 a0 a1 a2/\p4 a0 a1 a2:=⟨a0,a1,a2,h0,h1,h2,h3,h4⟩
theorem vX.{u0,u1,u2}{A0:Sort u0}{A1:Sort u1}{A2:Sort u2}{p0 p1 p2 p3 p4 p5:A0->A1->A2->Prop}(a0:A0)(a1:A1)(a2:A2)(h0:p0 a0 a1 a2)(h1:p1 a0 a1 a2)(h2:p2 a0 a1 a2)(h3:p3 a0 a1 a2)(h4:p4 a0 a1 a2)(h5:p5 a0 a1 a2)  : ∃ a0 a1 a2,p0 a0 a1 a2/\p1 a0 a1 a2/\p2 a0 a1 a2/\p3 a0 a1 a2/\p4 a0 a1 a2/\p5 a0 a1 a2:=⟨a0,a1,a2,h0,h1,h2,h3,h4,h5⟩
theorem vY.{u0,u1,u2,u3}{A0:Sort u0}{A1:Sort u1}{A2:Sort u2}{A3:Sort u3}{p0 p1 p2 p3 p4:A0->A1->A2->A3->Prop}(a0:A0)(a1:A1)(a2:A2)(a3:A3)(h0:p0 a0 a1 a2 a3)(h1:p1 a0 a1 a2 a3)(h2:p2 a0 a1 a2 a3)(h3:p3 a0 a1 a2 a3)(h4:p4 a0 a1 a2 a3)  : ∃ a0 a1 a2 a3,p0 a0 a1 a2 a3/\p1 a0 a1 a2 a3/\p2 a0 a1 a2 a3/\p3 a0 a1 a2 a3/\p4 a0 a1 a2 a3:=⟨a0,a1,a2,a3,h0,h1,h2,h3,h4⟩
theorem rr.{u0,u1,u2,u3}{A0:Sort u0}{A1:Sort u1}{A2:Sort u2}{A3:Sort u3}{p0 p1 p2 p3 p4 p5 p6:A0->A1->A2->A3->Prop}(a0:A0)(a1:A1)(a2:A2)(a3:A3)(h0:p0 a0 a1 a2 a3)(h1:p1 a0 a1 a2 a3)(h2:p2 a0 a1 a2 a3)(h3:p3 a0 a1 a2 a3)(h4:p4 a0 a1 a2 a3)(h5:p5 a0 a1 a2 a3)(h6:p6 a0 a1 a2 a3)  : ∃ a0 a1 a2 a3,p0 a0 a1 a2 a3/\p1 a0 a1 a2 a3/\p2 a0 a1 a2 a3/\p3 a0 a1 a2 a3/\p4 a0 a1 a2 a3/\p5 a0 a1 a2 a3/\p6 a0 a1 a2 a3:=⟨a0,a1,a2,a3,h0,h1,h2,h3,h4,h5,h6⟩
end Vc.Internal
namespace Mine
open PySem PySem.W in
noncomputable def ke (P:Params) (x:String) (t:Nat) (v:Value):Gs:=⟨GS P (Dn x),.str (Dn x) t,v⟩
end Mine
namespace Vc.Internal
section
set_option genCtorIdx false in
inductive Ln
 | v (i:Nat) | n (k:Nat) | g (k:Nat) | p (i k:Nat) | a (x y:Ln) | s (x y:Ln) | m (k:Nat) (x:Ln) | w (k:Nat) (x:Ln)
noncomputable instance (i:Nat):OfNat Ln i:=⟨cond (Nat.blt i 10) (.v i) (cond (Nat.blt i 110) (.p (i / 10-1) (i % 10)) (.n (i-110)))⟩
noncomputable def Ln.ev (c:List Int) (x:Ln):Int :=
 Ln.rec (fun i=>c.getD i 0) (fun k=>(k:Int)) (fun k=>-(k:Int)) (fun i k=>c.getD i 0+(k:Int)) (fun zz zz x y=>x+y) (fun zz zz x y=>x-y) (fun k zz x=>(k:Int)*x) (fun zz zz x=>x) x
noncomputable def j7 (i:Nat):Nat->Int:=fun j=>if j=i then 1 else 0
noncomputable def Ln.co (x:Ln):Nat->Int :=
 Ln.rec (fun i=>j7 (i+1)) (fun k j=>(k:Int)*j7 0 j) (fun k j=>-(k:Int)*j7 0 j) (fun i k j=>j7 (i+1) j+(k:Int)*j7 0 j) (fun zz zz x y j=>x j+y j) (fun zz zz x y j=>x j + -1*y j) (fun k zz x j=>(k:Int)*x j) (fun zz zz x=>x) x
noncomputable def Ln.wt (x:Ln):Nat:=Ln.rec (fun zz=>1) (fun zz=>1) (fun zz=>1) (fun zz zz=>1) (fun zz zz zz zz=>1) (fun zz zz zz zz=>1) (fun zz zz zz=>1) (fun k zz zz=>k) x
noncomputable def sC (c:List Int):(Nat->Int)->Int:=Fr (fun zz=>0) (fun a zz ih f=>f 0*a+ih (fun i=>f (i+1))) c
theorem Ch (a b c d:Int):a+b+(c+d)=a+c+(b+d):=by rw[Int.add_assoc,Int.add_left_comm b,<- Int.add_assoc]
theorem Cd (i j:Nat):j7 (i+1) (j+1)=j7 i j:=by simp only[j7,Nat.add_right_cancel_iff]
theorem kJ (c:List Int):∀ f g,sC c (fun j=>f j+g j)=sC c f+sC c g :=
 Fr (fun zz zz=>rfl) (fun a c ih f g=>(congr (congrArg _ (Int.add_mul (f 0) (g 0) a)) (ih (fun i=>f (i+1)) fun i=>g (i+1))).trans
  (Ch (f 0*a) (g 0*a) _ _)) c
theorem kK (c:List Int)(k:Int):∀ f,sC c (fun j=>k*f j)=k*sC c f :=
 Fr (fun zz=>(Int.mul_zero k).symm) (fun a c ih f=>(congr (congrArg _ (Int.mul_assoc k (f 0) a)) (ih fun i=>f (i+1))).trans (Int.mul_add k (f 0*a) _).symm) c
theorem oe (c:List Int):∀ f:Nat->Int,(∀ j,j<c.length->f j=0)->sC c f=0 :=
 Fr (fun zz zz=>rfl) (fun a c ih f h=>(congr (congrArg (fun y=>HAdd.hAdd (y*a)) (h 0 (Nat.succ_pos _))) (ih (fun i=>f (i+1)) fun j hj=>h (j+1) (Nat.succ_lt_succ hj))).trans
  ((Int.add_zero _).trans (Int.zero_mul a))) c
theorem tS (c:List Int):∀ i,sC c (j7 i)=c.getD i 0 :=
 Fr (fun zz=>rfl) (fun a c ih i=>Nat.casesOn (motive:=fun i=>sC (a::c) (j7 i)=(a::c).getD i 0) i
  ((congrArg (1*a + ·) (oe c (fun i=>j7 0 (i+1)) fun j zz=>rfl)).trans ((Int.add_zero _).trans (Int.one_mul a)))
  (fun i=>(congrArg (0*a + ·) ((congrArg (sC c) (funext fun j=>Cd i j)).trans (ih i))).trans
   ((congrArg (· + c.getD i 0) (Int.zero_mul a)).trans (Fe _)))) c
theorem wP (c:List Int)(k:Int):sC (1::c) (fun j=>k*j7 0 j)=k :=
 (kK _ k _).trans ((congrArg (k * ·) (tS (1::c) 0)).trans (Int.mul_one k))
theorem xM (c:List Int)(x:Ln):sC (1::c) x.co=x.ev c :=
 Ln.rec (fun i=>tS (1::c) (i+1)) (fun k=>wP c k) (fun k=>wP c (-k))
  (fun i k=>(kJ _ _ _).trans (congr (congrArg _ (tS (1::c) (i+1))) (wP c k)))
  (fun x y h h'=>(kJ _ x.co y.co).trans (congr (congrArg _ h) h'))
  (fun x y h h'=>(kJ _ x.co fun j=>-1*y.co j).trans (congr (congrArg _ h) ((kK _ (-1) y.co).trans ((congrArg (-1 * ·) h').trans (Int.neg_one_mul _)))))
  (fun k x h=>(kK _ k x.co).trans (congrArg ((k:Int) * ·) h)) (fun zz zz h=>h) x
noncomputable def pL (l r:Ln) (j:Nat):Int:=r.co j + -1*l.co j
noncomputable def f6 (t:List (Ln × Ln)):Nat->Int :=
 Fr (fun zz=>0) (fun p zz f j=>(p.1.wt:Int)*pL p.1 p.2 j+f j) t
noncomputable def wo (c:List Int) (t:List (Ln × Ln)):Prop :=
 Fr False (fun p zz h=>p.1.ev c<=p.2.ev c->h) t
noncomputable def CW (n:Nat) (t:List (Ln × Ln)):Bool:=decide (f6 t 0<0)&&Nat.rec true (fun j b=>decide (f6 t (j+1)=0)&&b) n
theorem zU (c:List Int)(l r:Ln)(h:l.ev c<=r.ev c):0<=sC (1::c) (pL l r) :=
 have e:sC (1::c) (pL l r)=r.ev c + -1*l.ev c:=(kJ _ r.co fun j=>-1*l.co j).trans (congr (congrArg _ (xM c r)) ((kK _ (-1) l.co).trans (congrArg (-1 * ·) (xM c l))))
 e ▸ Int.neg_one_mul (l.ev c) ▸ Int.sub_nonneg_of_le h
theorem uS (c:List Int)(t:List (Ln × Ln)):∀ a:Int,0<=a->a+sC (1::c) (f6 t)<0->wo c t :=
 Fr (fun a h h'=>absurd h (Int.not_le.mpr (Int.add_zero a ▸ oe (1::c) (fun zz=>0) (fun zz zz=>rfl) ▸ h')))
  (fun p t ih a h h' e=>ih (a+(p.1.wt:Int)*sC (1::c) (pL p.1 p.2)) (Int.add_nonneg h (Int.mul_nonneg (Int.natCast_nonneg _) (zU c p.1 p.2 e)))
   (by rw[Int.add_assoc,<- kK];exact kJ (1::c) (fun j=>(p.1.wt:Int)*pL p.1 p.2 j) (f6 t) ▸ h')) t
theorem Au (t:List (Ln × Ln))(n:Nat):Nat.rec true (fun j b=>decide (f6 t (j+1)=0)&&b) n=true -> ∀ j,j<n->f6 t (j+1)=0 :=
 Nat.rec (fun zz j h=>absurd h (Hw j)) (fun n ih h j hj=>
  have h:=DH.mp h
  (Nat.lt_succ_iff_lt_or_eq.mp hj).elim (ih h.2 j) fun e=>e ▸ of_decide_eq_true h.1) n
theorem am (c:List Int)(t:List (Ln × Ln))(h:CW c.length t=true):wo c t :=
 have h:=DH.mp h
 uS c t 0 (G3 0) (by
  rw[Fe]
  show f6 t 0*1+sC c (fun i=>f6 t (i+1))<0
  rw[oe c _ (Au t _ h.2),Int.add_zero,Int.mul_one]
  exact of_decide_eq_true h.1)
noncomputable def Ln.eN (c:List Nat) (x:Ln):Nat :=
 Ln.rec (fun i=>c.getD i 0) (fun k=>k) (fun zz=>0) (fun i k=>c.getD i 0+k) (fun zz zz x y=>x+y) (fun zz zz zz zz=>0) (fun k zz x=>k*x) (fun zz zz x=>x) x
noncomputable def Ln.iN (x:Ln):Bool :=
 Ln.rec (fun zz=>true) (fun zz=>true) (fun zz=>false) (fun zz zz=>true) (fun zz zz x y=>x&&y) (fun zz zz zz zz=>false) (fun zz zz x=>x) (fun zz zz x=>x) x
noncomputable def zL (c:List Nat):List Int:=Fr [] (fun a zz z=>(a:Int)::z) c
theorem vZ (c:List Nat):∀ i,(zL c).getD i 0=(c.getD i 0:Nat) :=
 Fr (fun zz=>rfl) (fun a c ih i=>Nat.casesOn (motive:=fun i=>(zL (a::c)).getD i 0=((a::c).getD i 0:Nat)) i rfl ih) c
theorem xN (c:List Nat)(x:Ln):x.iN=true->x.ev (zL c)=(x.eN c:Nat) :=
 Ln.rec (fun i zz=>vZ c i) (fun zz zz=>rfl) (fun zz h=>nomatch h) (fun i k zz=>congrArg (· + (k:Int)) (vZ c i))
  (fun x y h h' e=>have e:=DH.mp e;congr (congrArg (fun u v:Int=>u+v) (h e.1)) (h' e.2)) (fun zz zz zz zz h=>nomatch h) (fun k x h e=>congrArg ((k:Int) * ·) (h e)) (fun zz zz h=>h) x
noncomputable def zY (c:List Nat) (t:List (Ln × Ln)):Prop :=
 Fr False (fun p zz h=>p.1.eN c<=p.2.eN c->h) t
noncomputable def CX (c:List Nat) (t:List (Ln × Ln)):Bool :=
 (decide (f6 t 0<0)&&Nat.rec true (fun j b=>decide (f6 t (j+1)<=0)&&b) c.length)&&Fr true (fun p zz b=>(p.1.iN&&p.2.iN)&&b) t
theorem Bx (c:List Nat)(t:List (Ln × Ln)):Fr true (fun p zz b=>(p.1.iN&&p.2.iN)&&b) t=true->wo (zL c) t->zY c t :=
 Fr (fun zz h=>h) (fun p t ih h f e=>
  have h:=DH.mp h
  have g:=DH.mp h.1
  ih h.2 (f (by rw[xN c _ g.1,xN c _ g.2];exact Int.ofNat_le.mpr e))) t
theorem A7 (c:List Nat):∀ f:Nat->Int,(∀ j,j<c.length->f j<=0)->sC (zL c) f<=0 :=
 Fr (fun zz zz=>G3 0) (fun a c ih f h=>Int.add_nonpos (Int.mul_nonpos_of_nonpos_of_nonneg (h 0 (Nat.succ_pos _)) (Int.natCast_nonneg a)) (ih (fun i=>f (i+1)) fun j hj=>h (j+1) (Nat.succ_lt_succ hj))) c
theorem Av (t:List (Ln × Ln))(n:Nat):Nat.rec true (fun j b=>decide (f6 t (j+1)<=0)&&b) n=true -> ∀ j,j<n->f6 t (j+1)<=0 :=
 Nat.rec (fun zz j h=>absurd h (Hw j)) (fun n ih h j hj=>
  have h:=DH.mp h
  (Nat.lt_succ_iff_lt_or_eq.mp hj).elim (ih h.2 j) fun e=>e ▸ of_decide_eq_true h.1) n
theorem ae (c:List Nat)(t:List (Ln × Ln))(h:CX c t=true):zY c t :=
 have h:=DH.mp h
 have g:=DH.mp h.1
 Bx c t h.2 (uS (zL c) t 0 (G3 0) (by
  rw[Fe]
  show f6 t 0*1+sC (zL c) (fun i=>f6 t (i+1))<0
  rw[Int.mul_one]
  exact Int.add_neg_of_neg_of_nonpos (of_decide_eq_true g.1) (A7 c _ (Av t _ g.2))))
theorem me {a b:Nat}(h:a=b):a<=b:=FP h
theorem mf {a b:Nat}(h:a=b):b<=a:=FP h.symm
theorem mn {a b:Nat}(h:¬ a<b):b<=a:=EU h
theorem mo {a b:Nat}(h:¬ a<=b):b+1<=a:=He h
theorem ms (a b:Nat):a<=a-b+b:=Nat.sub_le_iff_le_add.mp (Ea _)
theorem md {a b:Nat}(h:a+1<=b->False):a-b+b<=a:=FP (Nat.sub_add_cancel (EU h))
theorem mu {a b:Nat}(h:b+1<=a->False):a-b<=0:=FP (Nat.sub_eq_zero_of_le (EU h))
theorem au {a b:Nat}(h:b+1<=a->False):a<=b:=EU h
theorem be {a b:Nat}(h:b<=a->False):a<b:=He h
theorem cy {a b:Nat}(h:a+1<=b->False)(h':b+1<=a->False):a=b:=Nat.le_antisymm (au h') (au h)
theorem BT {a b:Nat}(h:a<=b->b<=a->False):¬ a=b:=fun e=>h (me e) (mf e)
theorem gO {a:Nat}(h:a<=PySem.sizeLine):a<=16777216:=h
theorem Dj {a:Nat}(h:a<PySem.sizeLine):a+1<=16777216:=h
theorem mN (a k:Nat)(h:decide (0<k)=true):a % k+1<=k:=Nat.mod_lt a (of_decide_eq_true h)
theorem mv (a k:Nat):k*(a / k)<=a:=Nat.mul_div_le a k
theorem mV (a k:Nat)(h:decide (0<k)=true):a+1<=k*(a / k+1):=Nat.lt_mul_div_succ a (of_decide_eq_true h)
theorem ql {a b:Nat}(h:a<=b):(a:Int)<=b:=Int.ofNat_le.mpr h
theorem qe {a b:Nat}(h:a=b):(a:Int)<=b:=ql (FP h)
theorem qf {a b:Nat}(h:a=b):(b:Int)<=a:=ql (FP h.symm)
theorem qn {a b:Nat}(h:¬ a<b):(b:Int)<=a:=ql (EU h)
theorem qk {a b:Nat}(h:¬ a<=b):(b:Int)+1<=a:=ql (He h)
theorem q0 (a:Nat):((0:Nat):Int)<=a:=Int.natCast_nonneg a
theorem qs (a b:Nat):(a:Int)<=(a-b:Nat)+(b:Int):=ql (Nat.sub_le_iff_le_add.mp (Ea _))
theorem qd {a b:Nat}(h:(a:Int)+1<=b->False):((a-b:Nat):Int)+b<=a :=
 ql (FP (Nat.sub_add_cancel (EU fun x=>h (ql x))))
theorem qu {a b:Nat}(h:(b:Int)+1<=a->False):((a-b:Nat):Int)<=0:=ql (FP (Nat.sub_eq_zero_of_le (EU fun x=>h (ql x))))
theorem qt (x:Int):x<=x.toNat:=Int.self_le_toNat x
theorem qT {x:Int}(h:x+1<=0->False):(x.toNat:Int)<=x:=Int.le_of_eq (Fm (Gq.mp h))
theorem dF {a b:Nat}(h:(b:Int)+1<=a->False):a<=b:=EU fun x=>h (ql x)
theorem im {a b:Nat}(h:(b:Int)<=a->False):a<b:=He fun x=>h (ql x)
theorem sB {a b:Nat}(h:(a:Int)+1<=b->False)(h':(b:Int)+1<=a->False):a=b:=Nat.le_antisymm (dF h') (dF h)
theorem Dk {a b:Nat}(h:(a:Int)<=b->(b:Int)<=a->False):¬ a=b:=fun e=>h (qe e) (qf e)
theorem ze {a b:Int}(h:a=b):a<=b:=Int.le_of_eq h
theorem zn {a b:Int}(h:¬ a<b):b<=a:=Gq.mp h
theorem zk {a b:Int}(h:¬ a<=b):b+1<=a:=Int.not_le.mp h
theorem zf {a b:Int}(h:a=b):b<=a:=Int.le_of_eq h.symm
theorem aY {a b:Int}(h:b+1<=a->False):a<=b:=Gq.mp h
theorem bE {a b:Int}(h:b<=a->False):a<b:=Int.not_le.mp h
theorem eV {a b:Int}(h:a+1<=b->False)(h':b+1<=a->False):a=b:=Int.le_antisymm (aY h') (aY h)
theorem f9 {a b:Int}(h:a<=b->b<=a->False):¬ a=b:=fun e=>h (Int.le_of_eq e) (zf e)
theorem my {a:Nat}(h:a<=PySem.sizeLine):(a:Int)<=(16777216:Nat):=ql h
theorem Dh {a:Nat}(h:a<PySem.sizeLine):(a:Int)+1<=(16777216:Nat):=ql h
theorem aB {a:Nat}(h:a<=16777216):a<=PySem.sizeLine:=h
theorem De {a:Nat}(h:a<16777216):a<PySem.sizeLine:=h
theorem qm (a k:Int)(h:decide (0<k)=true):0<=a % k:=D9 a (Int.ne_of_gt (of_decide_eq_true h))
theorem qM (a k:Int)(h:decide (0<k)=true):a % k+1<=k:=D5 a (of_decide_eq_true h)
theorem qN (a k:Nat)(h:decide (0<k)=true):((a % k:Nat):Int)+1<=k:=ql (Nat.mod_lt a (of_decide_eq_true h))
theorem qv (a k:Nat):(k:Int)*(a / k:Nat)<=a:=ql (Nat.mul_div_le a k)
theorem qV (a k:Nat)(h:decide (0<k)=true):(a:Int)+1<=(k:Int)*((a / k:Nat)+1):=ql (Nat.lt_mul_div_succ a (of_decide_eq_true h))
theorem zv (a k:Int)(h:decide (0<k)=true):k*(a / k)<=a:=Int.mul_ediv_self_le (Int.ne_of_gt (of_decide_eq_true h))
theorem zV (a k:Int)(h:decide (0<k)=true):a+1<=k*(a / k)+k:=Int.lt_mul_ediv_self_add (of_decide_eq_true h)
example (i w z:Nat) (x:Int) (h:i+2<=w) (h2:(w:Int)<=x-1):(i:Int)+3<=x:=aY (am [i,w,x] [(12,1),(1,.s 2 111),(31,13)] rfl (ql h) h2)
example (i w z:Nat) (h:i+2<=w) (h2:w<z):i+3<=z:=au (ae [i,w,z] [(12,1),(21,2),(31,13)] rfl h h2)
end
section
open PySem PyProof.Rows
noncomputable def B3 (t:Ed):Bool:=if h:t.ctorIdx=5 then Hb (motive_2:=fun zz=>Bool) t h (fun ts zz zz=>match ts with | [e]=>(if h:e.ctorIdx=23 then FN (motive_1:=fun zz=>Bool) e h (fun x zz=>x==Dn "__name__") else false) | _=>false) else false
noncomputable def mz (p:Ee):Ee:={ p with main:={ p.main with body:=p.main.body.filter (fun t=>!B3 t) } }
noncomputable abbrev MT:=Option (Arguments × List Ed × Scope)
noncomputable def Ap (m:String) (l:List Ed):MT:=l.foldr (fun t r=>if h:t.ctorIdx=0 then Ed.FunctionDef.elim (motive_2:=fun zz=>MT) t h (fun name a b zz zz zz sc zz zz zz=>if name==Dn m then some (a,b,sc) else r) else r) none
noncomputable def qg (c m:String) (l:List Ed):MT:=l.foldr (fun t r=>if h:t.ctorIdx=2 then Ed.ClassDef.elim (motive_2:=fun zz=>MT) t h (fun name zz zz body zz zz zz zz zz zz zz=>if name==Dn c then Ap m body else r) else r) none
noncomputable def As:Arguments:={ posonlyargs:=[],args:=[],vararg:=none,kwonlyargs:=[],kw_defaults:=[],kwarg:=none,defaults:=[] }
noncomputable def fD (p:Ee) (c m:String):Arguments:=match qg c m p.main.body with | some (a,_,_)=>a | none=>As
noncomputable def fC (p:Ee) (c m:String):List Ed:=match qg c m p.main.body with | some (_,b,_)=>b | none=>[]
noncomputable def fE (p:Ee) (c m:String):Scope:=match qg c m p.main.body with | some (_,_,s)=>s | none=>{ kind:=.function,names:=[],isGenerator:=false,isCoroutine:=false }
end
end Vc.Internal
section
open PySem PySem.W PyProof.Rows
set_option maxRecDepth 100000
set_option maxHeartbeats 8000000
namespace Mine
noncomputable def oj (P:Params):Frag:=[
 (3,{ cls:=DF "dict",data:=Fi.dict #[Mine.ke P "__name__" 165 (DM (Dn "law_uf020014_11") 608),Mine.ke P "__doc__" 166 (DJ),Mine.ke P "__package__" 167 (DJ),Mine.ke P "__loader__" 168 (EB "__main__.__loader__#opaque"),Mine.ke P "__spec__" 169 (DJ),Mine.ke P "__annotations__" 170 (Du 6),Mine.ke P "__builtins__" 171 (Du 4),Mine.ke P "__file__" 173 (DM (Dn "/claim/cut.py") 172),Mine.ke P "__cached__" 174 (DJ),Mine.ke P "WorkError" 206 (Du 24),Mine.ke P "BadWork" 222 (Du 37),Mine.ke P "BadGiven" 238 (Du 49),Mine.ke P "BadLook" 254 (Du 61),Mine.ke P "BadSet" 270 (Du 73),Mine.ke P "HasRoom" 286 (Du 85),Mine.ke P "NoLine" 302 (Du 97),Mine.ke P "NoLook" 318 (Du 109),Mine.ke P "BadText" 334 (Du 121),Mine.ke P "MOST_RING" 338 (DB 5 337),Mine.ke P "MOST_INPUTS" 340 (DB 6 339),Mine.ke P "MOST_PARTS" 342 (DB 10 341),Mine.ke P "is_among" 351 (Du 130),Mine.ke P "lines_of" 358 (Du 137),Mine.ke P "is_part" 364 (Du 142),Mine.ke P "need_work" 376 (Du 149),Mine.ke P "given_of" 387 (Du 156),Mine.ke P "is_given" 393 (Du 161),Mine.ke P "need_look" 403 (Du 168),Mine.ke P "wanted_from" 417 (Du 175),Mine.ke P "Walk" 464 (Du 202),Mine.ke P "least_digits" 473 (Du 213),Mine.ke P "has_room" 479 (Du 218),Mine.ke P "shown_by" 485 (Du 223),Mine.ke P "sets_of" 493 (Du 228),Mine.ke P "is_within" 499 (Du 233),Mine.ke P "least_sets" 505 (Du 238),Mine.ke P "load_of" 513 (Du 243),Mine.ke P "Search" 607 (Du 314),Mine.ke P "_law_cell" 617 (Du 325),Mine.ke P "_law_mixed" 625 (Du 332),Mine.ke P "_law_part" 637 (Du 339),Mine.ke P "_law_work" 643 (Du 344),Mine.ke P "_law_due" 653 (Du 351),Mine.ke P "_law_run" 664 (Du 358),Mine.ke P "_law_given" 670 (Du 363),Mine.ke P "_law_look" 688 (Du 370),Mine.ke P "_law_looks" 702 (Du 377),Mine.ke P "_law_word" 708 (Du 382),Mine.ke P "_law_line" 717 (Du 389),Mine.ke P "_law_next_good" 733 (Du 396),Mine.ke P "_law_good" 739 (Du 401),Mine.ke P "_law_back" 749 (Du 408),Mine.ke P "_law_see" 763 (Du 415),Mine.ke P "_law_made" 773 (Du 422),Mine.ke P "_law_deed" 784 (Du 429),Mine.ke P "law" 790 (Du 434)] 56 }),
 (23,{ cls:=DF "dict",data:=Fi.dict #[Mine.ke P "__module__" 196 (DM (Dn "whichbroke.errors") 187),Mine.ke P "__firstlineno__" 200 (DB 2 199),Mine.ke P "__static_attributes__" 201 (Du 22),Mine.ke P "__weakref__" 203 (Du 25),Mine.ke P "__doc__" 204 (DJ)] 3 }),
 (24,{ cls:=DF "type",data:=Gj { name:=Dn "WorkError",bases:=[DF "ValueError"],mro:=[Du 24,DF "ValueError",DF "Exception",DF "BaseException",DF "object"],ns:=23,qualname:=Dn "WorkError",subclasses:=[Du 37,Du 49,Du 61,Du 73,Du 85,Du 97,Du 109,Du 121] },slots:=#[some (Du 15),none,some (DM (Dn "WorkError") 189),some (DM (Dn "WorkError") 197),some (EB "ValueError.__new__"),some (Ek true)] }),
 (37,{ cls:=DF "type",data:=Gj { name:=Dn "BadWork",bases:=[Du 24],mro:=[Du 37,Du 24,DF "ValueError",DF "Exception",DF "BaseException",DF "object"],ns:=36,qualname:=Dn "BadWork" },slots:=#[some (Du 28),none,some (DM (Dn "BadWork") 207),some (DM (Dn "BadWork") 215),some (EB "ValueError.__new__"),some (Ek true)] }),
 (49,{ cls:=DF "type",data:=Gj { name:=Dn "BadGiven",bases:=[Du 24],mro:=[Du 49,Du 24,DF "ValueError",DF "Exception",DF "BaseException",DF "object"],ns:=48,qualname:=Dn "BadGiven" },slots:=#[some (Du 40),none,some (DM (Dn "BadGiven") 223),some (DM (Dn "BadGiven") 231),some (EB "ValueError.__new__"),some (Ek true)] }),
 (60,{ cls:=DF "dict",data:=Fi.dict #[Mine.ke P "__module__" 246 (DM (Dn "whichbroke.errors") 187),Mine.ke P "__firstlineno__" 250 (DB 8 249),Mine.ke P "__static_attributes__" 251 (Du 59),Mine.ke P "__doc__" 252 (DJ)] 2 }),
 (61,{ cls:=DF "type",data:=Gj { name:=Dn "BadLook",bases:=[Du 24],mro:=[Du 61,Du 24,DF "ValueError",DF "Exception",DF "BaseException",DF "object"],ns:=60,qualname:=Dn "BadLook" },slots:=#[some (Du 52),none,some (DM (Dn "BadLook") 239),some (DM (Dn "BadLook") 247),some (EB "ValueError.__new__"),some (Ek true)] }),
 (73,{ cls:=DF "type",data:=Gj { name:=Dn "BadSet",bases:=[Du 24],mro:=[Du 73,Du 24,DF "ValueError",DF "Exception",DF "BaseException",DF "object"],ns:=72,qualname:=Dn "BadSet" },slots:=#[some (Du 64),none,some (DM (Dn "BadSet") 255),some (DM (Dn "BadSet") 263),some (EB "ValueError.__new__"),some (Ek true)] }),
 (85,{ cls:=DF "type",data:=Gj { name:=Dn "HasRoom",bases:=[Du 24],mro:=[Du 85,Du 24,DF "ValueError",DF "Exception",DF "BaseException",DF "object"],ns:=84,qualname:=Dn "HasRoom" },slots:=#[some (Du 76),none,some (DM (Dn "HasRoom") 271),some (DM (Dn "HasRoom") 279),some (EB "ValueError.__new__"),some (Ek true)] }),
 (97,{ cls:=DF "type",data:=Gj { name:=Dn "NoLine",bases:=[Du 24],mro:=[Du 97,Du 24,DF "ValueError",DF "Exception",DF "BaseException",DF "object"],ns:=96,qualname:=Dn "NoLine" },slots:=#[some (Du 88),none,some (DM (Dn "NoLine") 287),some (DM (Dn "NoLine") 295),some (EB "ValueError.__new__"),some (Ek true)] }),
 (108,{ cls:=DF "dict",data:=Fi.dict #[Mine.ke P "__module__" 310 (DM (Dn "whichbroke.errors") 187),Mine.ke P "__firstlineno__" 314 (DB 16 313),Mine.ke P "__static_attributes__" 315 (Du 107),Mine.ke P "__doc__" 316 (DJ)] 2 }),
 (109,{ cls:=DF "type",data:=Gj { name:=Dn "NoLook",bases:=[Du 24],mro:=[Du 109,Du 24,DF "ValueError",DF "Exception",DF "BaseException",DF "object"],ns:=108,qualname:=Dn "NoLook" },slots:=#[some (Du 100),none,some (DM (Dn "NoLook") 303),some (DM (Dn "NoLook") 311),some (EB "ValueError.__new__"),some (Ek true)] }),
 (121,{ cls:=DF "type",data:=Gj { name:=Dn "BadText",bases:=[Du 24],mro:=[Du 121,Du 24,DF "ValueError",DF "Exception",DF "BaseException",DF "object"],ns:=120,qualname:=Dn "BadText" },slots:=#[some (Du 112),none,some (DM (Dn "BadText") 319),some (DM (Dn "BadText") 327),some (EB "ValueError.__new__"),some (Ek true)] }),
 (188,{ cls:=DF "code",data:=EX #[DM (Dn "__init__") 430,DM (Dn "Walk.__init__") 431,DM (Dn "/claim/cut.py") 432,DB 89 0,DB 4 0,DB 0 0,DB 0 0,DB 3 0,Du 183,Ek true,DB 181 0,Du 184,DJ,Du 185,Du 186,Du 187,DB 437 0,DB 89 0,DM (Dn "/claim/cut.py") 438] }),
 (189,{ cls:=DF "function",data:=FA { name:=Dn "__init__",qualname:=Dn "Walk.__init__",params:=Vc.Internal.fD PySem.Challenge.pw_uf020014_11 "Walk" "__init__",body:=PySem.FuncBody.stmts (Vc.Internal.fC PySem.Challenge.pw_uf020014_11 "Walk" "__init__"),scope:=Vc.Internal.fE PySem.Challenge.pw_uf020014_11 "Walk" "__init__",globals:=3,closure:=[],defaults:=DJ,kwdefaults:=DJ,pyModule:=DM (Dn "whichbroke.rooms") 404,code:=Du 188 } }),
 (193,{ cls:=DF "code",data:=EX #[DM (Dn "choices") 440,DM (Dn "Walk.choices") 441,DM (Dn "/claim/cut.py") 442,DB 96 0,DB 3 0,DB 0 0,DB 0 0,DB 3 0,Du 190,Ek true,DB 181 0,Du 191,DJ,DJ,DJ,Du 192,DB 443 0,DB 96 0,DM (Dn "/claim/cut.py") 444] }),
 (194,{ cls:=DF "function",data:=FA { name:=Dn "choices",qualname:=Dn "Walk.choices",params:=Vc.Internal.fD PySem.Challenge.pw_uf020014_11 "Walk" "choices",body:=PySem.FuncBody.stmts (Vc.Internal.fC PySem.Challenge.pw_uf020014_11 "Walk" "choices"),scope:=Vc.Internal.fE PySem.Challenge.pw_uf020014_11 "Walk" "choices",globals:=3,closure:=[],defaults:=DJ,kwdefaults:=DJ,pyModule:=DM (Dn "whichbroke.rooms") 404,code:=Du 193 } }),
 (198,{ cls:=DF "code",data:=EX #[DM (Dn "grown") 446,DM (Dn "Walk.grown") 447,DM (Dn "/claim/cut.py") 448,DB 104 0,DB 2 0,DB 0 0,DB 0 0,DB 3 0,Du 195,Ek true,DB 181 0,Du 196,DJ,DJ,DJ,Du 197,DB 449 0,DB 104 0,DM (Dn "/claim/cut.py") 450] }),
 (199,{ cls:=DF "function",data:=FA { name:=Dn "grown",qualname:=Dn "Walk.grown",params:=Vc.Internal.fD PySem.Challenge.pw_uf020014_11 "Walk" "grown",body:=PySem.FuncBody.stmts (Vc.Internal.fC PySem.Challenge.pw_uf020014_11 "Walk" "grown"),scope:=Vc.Internal.fE PySem.Challenge.pw_uf020014_11 "Walk" "grown",globals:=3,closure:=[],defaults:=DJ,kwdefaults:=DJ,pyModule:=DM (Dn "whichbroke.rooms") 404,code:=Du 198 } }),
 (201,{ cls:=DF "dict",data:=Fi.dict #[Mine.ke P "__module__" 425 (DM (Dn "whichbroke.rooms") 404),Mine.ke P "__firstlineno__" 429 (DB 87 428),Mine.ke P "__init__" 439 (Du 189),Mine.ke P "choices" 445 (Du 194),Mine.ke P "grown" 451 (Du 199),Mine.ke P "__static_attributes__" 457 (Du 200),Mine.ke P "__dict__" 459 (Du 203),Mine.ke P "__weakref__" 461 (Du 204),Mine.ke P "__doc__" 462 (DJ)] 4 }),
 (202,{ cls:=DF "type",data:=Gj { name:=Dn "Walk",bases:=[DF "object"],mro:=[Du 202,DF "object"],ns:=201,qualname:=Dn "Walk" },slots:=#[none,none,some (DM (Dn "Walk") 418),some (DM (Dn "Walk") 426),some (EB "object.__new__"),some (Ek true)] }),
 (256,{ cls:=DF "code",data:=EX #[DM (Dn "__init__") 526,DM (Dn "Search.__init__") 527,DM (Dn "/claim/cut.py") 528,DB 164 0,DB 2 0,DB 0 0,DB 0 0,DB 3 0,Du 251,Ek true,DB 181 0,Du 252,DJ,Du 253,Du 254,Du 255,DB 531 0,DB 164 0,DM (Dn "/claim/cut.py") 532] }),
 (257,{ cls:=DF "function",data:=FA { name:=Dn "__init__",qualname:=Dn "Search.__init__",params:=Vc.Internal.fD PySem.Challenge.pw_uf020014_11 "Search" "__init__",body:=PySem.FuncBody.stmts (Vc.Internal.fC PySem.Challenge.pw_uf020014_11 "Search" "__init__"),scope:=Vc.Internal.fE PySem.Challenge.pw_uf020014_11 "Search" "__init__",globals:=3,closure:=[],defaults:=DJ,kwdefaults:=DJ,pyModule:=DM (Dn "whichbroke.searching") 506,code:=Du 256 } }),
 (263,{ cls:=DF "code",data:=EX #[DM (Dn "look") 534,DM (Dn "Search.look") 535,DM (Dn "/claim/cut.py") 536,DB 170 0,DB 3 0,DB 0 0,DB 0 0,DB 3 0,Du 258,Ek true,DB 181 0,Du 259,DJ,Du 260,Du 261,Du 262,DB 540 0,DB 170 0,DM (Dn "/claim/cut.py") 541] }),
 (264,{ cls:=DF "function",data:=FA { name:=Dn "look",qualname:=Dn "Search.look",params:=Vc.Internal.fD PySem.Challenge.pw_uf020014_11 "Search" "look",body:=PySem.FuncBody.stmts (Vc.Internal.fC PySem.Challenge.pw_uf020014_11 "Search" "look"),scope:=Vc.Internal.fE PySem.Challenge.pw_uf020014_11 "Search" "look",globals:=3,closure:=[],defaults:=DJ,kwdefaults:=DJ,pyModule:=DM (Dn "whichbroke.searching") 506,code:=Du 263 } }),
 (270,{ cls:=DF "code",data:=EX #[DM (Dn "need_number") 543,DM (Dn "Search.need_number") 544,DM (Dn "/claim/cut.py") 545,DB 175 0,DB 2 0,DB 0 0,DB 0 0,DB 3 0,Du 265,Ek true,DB 181 0,Du 266,DJ,Du 267,Du 268,Du 269,DB 548 0,DB 175 0,DM (Dn "/claim/cut.py") 549] }),
 (271,{ cls:=DF "function",data:=FA { name:=Dn "need_number",qualname:=Dn "Search.need_number",params:=Vc.Internal.fD PySem.Challenge.pw_uf020014_11 "Search" "need_number",body:=PySem.FuncBody.stmts (Vc.Internal.fC PySem.Challenge.pw_uf020014_11 "Search" "need_number"),scope:=Vc.Internal.fE PySem.Challenge.pw_uf020014_11 "Search" "need_number",globals:=3,closure:=[],defaults:=DJ,kwdefaults:=DJ,pyModule:=DM (Dn "whichbroke.searching") 506,code:=Du 270 } }),
 (275,{ cls:=DF "code",data:=EX #[DM (Dn "see") 551,DM (Dn "Search.see") 552,DM (Dn "/claim/cut.py") 553,DB 179 0,DB 4 0,DB 0 0,DB 0 0,DB 3 0,Du 272,Ek true,DB 181 0,Du 273,DJ,DJ,DJ,Du 274,DB 554 0,DB 179 0,DM (Dn "/claim/cut.py") 555] }),
 (276,{ cls:=DF "function",data:=FA { name:=Dn "see",qualname:=Dn "Search.see",params:=Vc.Internal.fD PySem.Challenge.pw_uf020014_11 "Search" "see",body:=PySem.FuncBody.stmts (Vc.Internal.fC PySem.Challenge.pw_uf020014_11 "Search" "see"),scope:=Vc.Internal.fE PySem.Challenge.pw_uf020014_11 "Search" "see",globals:=3,closure:=[],defaults:=DJ,kwdefaults:=DJ,pyModule:=DM (Dn "whichbroke.searching") 506,code:=Du 275 } }),
 (282,{ cls:=DF "code",data:=EX #[DM (Dn "back") 557,DM (Dn "Search.back") 558,DM (Dn "/claim/cut.py") 559,DB 190 0,DB 1 0,DB 0 0,DB 0 0,DB 3 0,Du 277,Ek true,DB 181 0,Du 278,DJ,Du 279,Du 280,Du 281,DB 561 0,DB 190 0,DM (Dn "/claim/cut.py") 562] }),
 (283,{ cls:=DF "function",data:=FA { name:=Dn "back",qualname:=Dn "Search.back",params:=Vc.Internal.fD PySem.Challenge.pw_uf020014_11 "Search" "back",body:=PySem.FuncBody.stmts (Vc.Internal.fC PySem.Challenge.pw_uf020014_11 "Search" "back"),scope:=Vc.Internal.fE PySem.Challenge.pw_uf020014_11 "Search" "back",globals:=3,closure:=[],defaults:=DJ,kwdefaults:=DJ,pyModule:=DM (Dn "whichbroke.searching") 506,code:=Du 282 } }),
 (289,{ cls:=DF "code",data:=EX #[DM (Dn "looks") 564,DM (Dn "Search.looks") 565,DM (Dn "/claim/cut.py") 566,DB 196 0,DB 1 0,DB 0 0,DB 0 0,DB 3 0,Du 284,Ek true,DB 181 0,Du 285,DJ,Du 286,Du 287,Du 288,DB 568 0,DB 196 0,DM (Dn "/claim/cut.py") 569] }),
 (290,{ cls:=DF "function",data:=FA { name:=Dn "looks",qualname:=Dn "Search.looks",params:=Vc.Internal.fD PySem.Challenge.pw_uf020014_11 "Search" "looks",body:=PySem.FuncBody.stmts (Vc.Internal.fC PySem.Challenge.pw_uf020014_11 "Search" "looks"),scope:=Vc.Internal.fE PySem.Challenge.pw_uf020014_11 "Search" "looks",globals:=3,closure:=[],defaults:=DJ,kwdefaults:=DJ,pyModule:=DM (Dn "whichbroke.searching") 506,code:=Du 289 } }),
 (296,{ cls:=DF "code",data:=EX #[DM (Dn "known") 571,DM (Dn "Search.known") 572,DM (Dn "/claim/cut.py") 573,DB 199 0,DB 1 0,DB 0 0,DB 0 0,DB 3 0,Du 291,Ek true,DB 181 0,Du 292,DJ,Du 293,Du 294,Du 295,DB 575 0,DB 199 0,DM (Dn "/claim/cut.py") 576] }),
 (297,{ cls:=DF "function",data:=FA { name:=Dn "known",qualname:=Dn "Search.known",params:=Vc.Internal.fD PySem.Challenge.pw_uf020014_11 "Search" "known",body:=PySem.FuncBody.stmts (Vc.Internal.fC PySem.Challenge.pw_uf020014_11 "Search" "known"),scope:=Vc.Internal.fE PySem.Challenge.pw_uf020014_11 "Search" "known",globals:=3,closure:=[],defaults:=DJ,kwdefaults:=DJ,pyModule:=DM (Dn "whichbroke.searching") 506,code:=Du 296 } }),
 (303,{ cls:=DF "code",data:=EX #[DM (Dn "sets") 578,DM (Dn "Search.sets") 579,DM (Dn "/claim/cut.py") 580,DB 204 0,DB 1 0,DB 0 0,DB 0 0,DB 3 0,Du 298,Ek true,DB 181 0,Du 299,DJ,Du 300,Du 301,Du 302,DB 582 0,DB 204 0,DM (Dn "/claim/cut.py") 583] }),
 (304,{ cls:=DF "function",data:=FA { name:=Dn "sets",qualname:=Dn "Search.sets",params:=Vc.Internal.fD PySem.Challenge.pw_uf020014_11 "Search" "sets",body:=PySem.FuncBody.stmts (Vc.Internal.fC PySem.Challenge.pw_uf020014_11 "Search" "sets"),scope:=Vc.Internal.fE PySem.Challenge.pw_uf020014_11 "Search" "sets",globals:=3,closure:=[],defaults:=DJ,kwdefaults:=DJ,pyModule:=DM (Dn "whichbroke.searching") 506,code:=Du 303 } }),
 (310,{ cls:=DF "code",data:=EX #[DM (Dn "next_line") 585,DM (Dn "Search.next_line") 586,DM (Dn "/claim/cut.py") 587,DB 207 0,DB 2 0,DB 0 0,DB 0 0,DB 3 0,Du 305,Ek true,DB 181 0,Du 306,DJ,Du 307,Du 308,Du 309,DB 594 0,DB 207 0,DM (Dn "/claim/cut.py") 595] }),
 (311,{ cls:=DF "function",data:=FA { name:=Dn "next_line",qualname:=Dn "Search.next_line",params:=Vc.Internal.fD PySem.Challenge.pw_uf020014_11 "Search" "next_line",body:=PySem.FuncBody.stmts (Vc.Internal.fC PySem.Challenge.pw_uf020014_11 "Search" "next_line"),scope:=Vc.Internal.fE PySem.Challenge.pw_uf020014_11 "Search" "next_line",globals:=3,closure:=[],defaults:=DJ,kwdefaults:=DJ,pyModule:=DM (Dn "whichbroke.searching") 506,code:=Du 310 } }),
 (313,{ cls:=DF "dict",data:=Fi.dict #[Mine.ke P "__module__" 521 (DM (Dn "whichbroke.searching") 506),Mine.ke P "__firstlineno__" 525 (DB 162 524),Mine.ke P "__init__" 533 (Du 257),Mine.ke P "look" 542 (Du 264),Mine.ke P "need_number" 550 (Du 271),Mine.ke P "see" 556 (Du 276),Mine.ke P "back" 563 (Du 283),Mine.ke P "looks" 570 (Du 290),Mine.ke P "known" 577 (Du 297),Mine.ke P "sets" 584 (Du 304),Mine.ke P "next_line" 596 (Du 311),Mine.ke P "__static_attributes__" 600 (Du 312),Mine.ke P "__dict__" 602 (Du 315),Mine.ke P "__weakref__" 604 (Du 316),Mine.ke P "__doc__" 605 (DJ)] 4 }),
 (314,{ cls:=DF "type",data:=Gj { name:=Dn "Search",bases:=[DF "object"],mro:=[Du 314,DF "object"],ns:=313,qualname:=Dn "Search" },slots:=#[none,none,some (DM (Dn "Search") 514),some (DM (Dn "Search") 522),some (EB "object.__new__"),some (Ek true)] })]
noncomputable def zG:List Addr:=[3,23,24,37,49,60,61,73,85,97,108,109,121,188,189,193,194,198,199,201,202,256,257,263,264,270,271,275,276,282,283,289,290,296,297,303,304,310,311,313,314]
theorem zH:∀ P,zG=(oj P).map (·.1):=fun zz=>rfl
noncomputable abbrev jA:Hook:=kHook oj zG zH
noncomputable abbrev xC:Shared->Bool:=fun s=>xlAt (Vc.Internal.mz PySem.Challenge.pw_uf020014_11) [] s&&recOk (RowW.records PySem.Challenge.rw_uf020014_11.row.toRowW) s
theorem said:PySem.Challenge.rw_uf020014_11.wellSaid=true:=by kernel_rfl
noncomputable abbrev eR:Ee:=Vc.Internal.mz PySem.Challenge.pw_uf020014_11
noncomputable abbrev rX (w:Fq):Option Shared:=openEnds treeTable PySem.Challenge.pw_uf020014_11 w 7588
theorem B8:∀ w,(rX w).map (fun s=>(Hook.obs jA s,s.heap.bltView,pinSeenD eR (drecsOf eR) s))=some (Hook.val jA w,bltViewBooted,pinGoodD (drecsOf eR)):=fun w=>by kernel_rfl
theorem B7:∀ w,(rX w).map (fun s=>seen ((recsOf eR).map (·.name)) (ownsOf eR) [] { s with gens:=#[] })=some (expectedOf eR):=fun w=>by kernel_rfl
theorem B6:∀ w,(rX w).map (fun s=>s.heap.keysOk (looseW eR []) ((recsOf eR).map (·.name)) ((litsOf eR).map (·.1)) ((clssOf eR (looseW eR [])).map (·.name))&&s.heap.accountedOkI (importedModules PySem.Challenge.pw_uf020014_11.main.body)&&s.heap.isNs E4&&s.heap.isNs Hp&&tablesOk eR s.heap&&xC s&&(if true then s.gens.size==0 else !leftWithCleanup s.gens))=some true:=fun w=>by kernel_rfl
theorem B9:∀ w,(rX w).map (fun s=>tabsOk eR s)=some true:=fun w=>by kernel_rfl
theorem B_:∀ w,(rX w).map (fun s=>plainSeenE eR (looseW eR []) s)=some (plainGoodE eR (looseW eR [])):=fun w=>by kernel_rfl
theorem Ca:∀ w,(rX w).map (fun s=>(plainSeenD eR [] s,wideSeen eR s,clsSeenW eR [] s))=some (plainGoodD eR [],wideGood eR,clsGoodW eR []):=fun w=>by kernel_rfl
theorem left:LeftO PySem.Challenge.pw_uf020014_11 (Vc.Internal.mz PySem.Challenge.pw_uf020014_11) [] xC (Hook.obs jA) (Hook.val jA) 7588:=fun w=>by
 have c:=B8 w
 have b:=B7 w
 have d:=B9 w
 have e:=B_ w
 have f:=Ca w
 obtain ⟨s,h1,h2⟩:=DE.mp (B6 w)
 rw[h1] at b c d e f
 rw[show openEnds treeTable PySem.Challenge.pw_uf020014_11 w 7588=some s from h1]
 replace c:=Eh c
 replace f:=Eh f
 have c1:=congrArg Prod.fst c
 have c2:=congrArg (fun x=>x.2.1) c
 have c3:=congrArg (fun x=>x.2.2) c
 have f1:=congrArg Prod.fst f
 have f2:=congrArg (fun x=>x.2.1) f
 have f3:=congrArg (fun x=>x.2.2) f
 exact congrArg some (Gy (Gy (Eh b) (Gy c2 (Gy h2 (Gy (Eh d) (Gy c3 (Gy (Eh e) (Gy f1 (Gy f2 f3)))))))) c1)
end Mine
end
namespace Vc.Internal
section
open PySem
noncomputable def oi (h:Heap) (vs:Array Value):Prop:=vs[2]? = some .none ∨ ∃ b o ws r,vs[2]? = some (.ref b)/\h.get? b=some o/\o.cls = .ref r/\o.data = .fields ws/\ws[2]? = some .none
noncomputable def lN (c:String) (h:Heap) (vs:Array Value):Prop:=vs[2]? = some .none ∨ (c = "BadText" /\ oi h vs)
theorem lN.ctx {c:String}{h:Heap}{vs:Array Value}(x:lN c h vs):oi h vs:=x.elim .inl (·.2)
noncomputable def j9 (A:D4) (h:Heap):Prop :=
 A.handled=none ∨ ∃ a o vs r,A.handled=some (.ref a)/\h.get? a=some o/\o.cls = .ref r/\o.data = .fields vs/\oi h vs
theorem j9.ext {A:D4}{h h':Heap}{i:Addr}(x:j9 A h)(e:Fu i h h')(hi:∀ o r,h.get? i=some o->o.cls ≠ .ref r):j9 A h':=by
 rcases x with x | ⟨a,o,vs,r,x1,x2,x3,x4,x5⟩
 ·exact .inl x
 ·refine .inr ⟨a,o,vs,r,x1,e a o (fun q=>hi o r (q ▸ x2) x3) x2,x3,x4,x5.imp id fun y=>y.imp fun b y=>y.imp fun o' y=>y.imp fun ws y=>y.imp fun r' y=>⟨y.1,e b o' (fun q=>hi o' r' (q ▸ y.2.1) y.2.2.1) y.2.1,y.2.2.1,y.2.2.2⟩⟩
theorem gJ:entryFor table "proto.unchain" = some DX.«proto.unchain» := by
 exact G_ (by kernel_rfl)
section
variable {prog:Ee}{w:Fq}{A:D4}{E:Value->Shared->Prop}{s:Shared}
theorem zq {a b:Addr}{o:Obj}{vs:Array Value}{Q:Value->Shared->Prop}(ho:s.heap.get? b=some o)(hd:o.data = .fields vs)(h2:vs[2]? = some .none)(hQ:Q .none s) :
  wpAny (Er prog w) A (runValue (.builtin "proto.unchain" ⟨[.ref a,.ref b,.ref b,.bool false],[]⟩)) Q E s:=by
 refine wpAny_runValue (EH gJ ?_)
 unfold DX.«proto.unchain»
 refine Dq (EG ho hd h2 ?_)
 exact wpAny_pure hQ
theorem xr {a b b2:Addr}{o o2:Obj}{vs ws:Array Value}{Q:Value->Shared->Prop}(ho:s.heap.get? b=some o)(hd:o.data = .fields vs)(h2:vs[2]? = some (.ref b2))
  (ho2:s.heap.get? b2=some o2) (hd2:o2.data = .fields ws) (h22:ws[2]? = some .none) (hab:b2≠a) (hbb:b2≠b) (hQ:Q .none s) :
  wpAny (Er prog w) A (runValue (.builtin "proto.unchain" ⟨[.ref a,.ref b,.ref b,.bool false],[]⟩)) Q E s:=by
 refine wpAny_runValue (EH gJ ?_)
 unfold DX.«proto.unchain»
 refine Dq (EG ho hd h2 ?_)
 rw[if_neg (show ¬ ((Du b2==DJ)=true) from DP),if_neg (by simpa using hab),if_neg (by simpa using hbb)]
 refine Dq (wpAny_pure (wpAny_pure ?_))
 refine ⟨Code.quiet_builtin _ (by decide +kernel),EH gJ ?_⟩
 unfold DX.«proto.unchain»
 refine Dq (EG ho2 hd2 h22 ?_)
 exact wpAny_pure hQ
theorem xu {a b:Addr}{h:Heap}{o:Obj}{vs:Array Value}{Q:Value->Shared->Prop}(k:∀ b o,h.get? b=some o->s.heap.get? b=some o)(ha:h.get? a=none)(ho:h.get? b=some o)(hd:o.data = .fields vs)(hc:oi h vs)(hQ:Q .none s) :
  wpAny (Er prog w) A (runValue (.builtin "proto.unchain" ⟨[.ref a,.ref b,.ref b,.bool false],[]⟩)) Q E s:=by
 rcases hc with h2 | ⟨b2,o2,ws,r,h2,ho2,_,hd2,h22⟩
 ·exact zq (k _ _ ho) hd h2 hQ
 ·refine xr (k _ _ ho) hd h2 (k _ _ ho2) hd2 h22 (fun e=>?_) (fun e=>?_) hQ
  ·subst e;rw[ha] at ho2;cases ho2
  ·subst e;rw[ho] at ho2;cases ho2;rw[hd] at hd2;cases hd2;rw[h2] at h22;cases h22
theorem nu {α:Type}{Q:α->Shared->Prop}(hh:j9 A s.heap)(hQ:∀ a h',(∀ b o,s.heap.get? b=some o->h'.get? b=some o)->(∃ o,h'.get? a=some o/\o.cls = .type "StopIteration")->E (.ref a) { s with heap:=h' }) :
  wpAny (Er prog w) A (newExc (.type "StopIteration") [] >>= fun e=>(raiseNew e:Sem α)) Q E s:=by
 refine Dq ?_
 simp -iota only[newExc,newTuple]
 refine Dq (D6 ?_ (by size_fits))
 refine Dq (m:=HH _ _) (wpAny_of_eq (a:=DJ) (by first | rfl | (simp -iota only[HH];rfl)) ?_)
 refine D6 ?_ (by size_fits)
 simp -iota only[raiseNew]
 refine Dq (wpAny_handled ?_)
 have k2:∀ (o1 o2:Obj) b o,s.heap.get? b=some o->((s.heap.push o1).push o2).get? b=some o:=fun o1 o2 b o e=>Dv _ (Dv _ e)
 rcases hh with hh | ⟨b,o,vs,r,hh,ho,hc,hd,h2⟩
 ·rw[hh]
  exact Dq (wpAny_pure (wpAny_throw (hQ _ _ (k2 _ _) ⟨_,DG _ rfl,rfl⟩)))
 ·rw[hh]
  dsimp only
  have hne:b≠(s.heap.push { cls:=.type "tuple",data:=.seq #[] }).objs.size:=GK (D_ (Dv _ ho))
  rw[if_pos (by simpa using hne)]
  have hnew:s.heap.get? (s.heap.push { cls:=.type "tuple",data:=.seq #[] }).objs.size=none:=by
   cases e:s.heap.get? (s.heap.push { cls:=.type "tuple",data:=.seq #[] }).objs.size with
   | none=>rfl
   | some o'=>exact absurd (D_ (Dv { cls:=.type "tuple",data:=.seq #[] } e)) (FY _)
  refine Dq (DT (xu (k2 _ _) hnew ho hd h2 ?_))
  have he:=DG (s.heap.push { cls:=.type "tuple",data:=.seq #[] }) (o:={ cls:=DF "StopIteration",data:=EX (#[Du s.heap.objs.size,DJ,DJ,DJ,Ek false,DJ]++ownMembersOf (DF "StopIteration") []) }) rfl
  refine Dq (m:=setField (.ref _) 2 (.ref b)) (Gb he rfl ?_ (wpAny_throw (hQ _ _ (fun c oc e=>?_) ⟨_,Ew _ he rfl,rfl⟩)))
  ·simp -iota;decide
  ·rw[EN _ _ (Nat.ne_of_gt (D_ (Dv _ e)))]
   exact k2 _ _ _ _ e
theorem n8 {it l:Addr}{i:Nat}{items:Array Value}{Q:Option Value->Shared->Prop}(hh:j9 A s.heap)
  (hit:s.heap.IsListIter it l i) (hl:s.heap.IsList l items) (hx:items[i]? = none)
  (hQ:∀ h',Fu it s.heap h'->Q none { s with heap:=h' }):wpAny (Er prog w) A (FW (.ref it)) Q E s:=by
 refine bN (id hit) fun o ho hc hd=>?_
 obtain ⟨ol,hol,_,nl,hdl⟩:=hl
 unfold FW
 refine Dq (Gu (Fo (name:=Dn "__next__") hit.typeIs slot_listiter_next
  (EC slot_listiter_next hit.typeIs entry_listiter_next ?_ (args_listiter_next _))))
 refine Dq (m:=field (.ref it) 0) (EG ho hd (x:=.ref l) rfl ?_)
 rw[if_neg (show ¬ ((Du l==DJ)=true) from DP)]
 refine Dq (m:=field (.ref it) 1) (EG ho hd (x:=.int i 0) rfl (Dq (m:=seqItems? (.ref l)) (FL hol hdl ?_)))
 simp only[Fh,hx]
 have eb:Fu it s.heap (s.heap.update it (Eu (·.setIfInBounds 0 .none))):=(EO ..).extBut
 refine Dq (wpAny_rule (Dq (Gb ho hd (by simp) ?_)))
 refine nu (A:=A.in1) (s:={ s with heap:=s.heap.update it (Eu (·.setIfInBounds 0 .none)) }) (j9.ext (A:=A.in1) hh eb fun o' r q e=>?_) fun a h' k hq1=>ad hq1 fun oa ha hca=>?_
 ·rw[ho] at q;cases q;rw[hc] at e;cases e
 ·refine Dq (E6 (T := "StopIteration") (b:=true) ⟨_,ha,hca⟩ isSubtype_stop (wpAny_pure (hQ _ fun b ob n e=>k b ob (eb b ob n e))))
theorem iU {it t:Addr}{i:Nat}{items:Array Value}{Q:Option Value->Shared->Prop}(hh:j9 A s.heap)
  (hit:s.heap.IsTupleIter it t i) (ht:s.heap.IsTuple t items) (hx:items[i]? = none)
  (hQ:∀ h',Fu it s.heap h'->Q none { s with heap:=h' }):wpAny (Er prog w) A (FW (.ref it)) Q E s:=by
 refine bN (id hit) fun o ho hc hd=>?_
 obtain ⟨ol,hol,_,nl,hdl⟩:=ht
 unfold FW
 refine Dq (Gu (Fo (name:=Dn "__next__") hit.typeIs F.slot_tuple_iterator_next
  (EC F.slot_tuple_iterator_next hit.typeIs F.entry_tuple_iterator_next ?_ (F.args_tuple_iterator_next_1 _))))
 refine Dq (m:=field (.ref it) 0) (EG ho hd (x:=.ref t) rfl ?_)
 rw[if_neg (show ¬ ((Du t==DJ)=true) from DP)]
 refine Dq (m:=field (.ref it) 1) (EG ho hd (x:=.int i 0) rfl (Dq (m:=seqItems? (.ref t)) (FL hol hdl ?_)))
 simp only[Fh,hx]
 have eb:Fu it s.heap (s.heap.update it (Eu (·.setIfInBounds 0 .none))):=(EO ..).extBut
 refine Dq (wpAny_rule (Dq (Gb ho hd (by simp) ?_)))
 refine nu (A:=A.in1) (s:={ s with heap:=s.heap.update it (Eu (·.setIfInBounds 0 .none)) }) (j9.ext (A:=A.in1) hh eb fun o' r q e=>?_) fun a h' k hq2=>ad hq2 fun oa ha hca=>?_
 ·rw[ho] at q;cases q;rw[hc] at e;cases e
 ·refine Dq (E6 (T := "StopIteration") (b:=true) ⟨_,ha,hca⟩ isSubtype_stop (wpAny_pure (hQ _ fun b ob n e=>k b ob (eb b ob n e))))
theorem o6 {t:Addr}{items:Array Value}{Q:List Value->Shared->Prop}(hh:j9 A s.heap)(ht:s.heap.IsTuple t items)
  (hQ:∀ h',Fu s.heap.objs.size s.heap h'->Q items.toList { s with heap:=h' }):wpAny (Er prog w) A (unpackItems (.ref t) items.size none) Q E s:=by
 have hlt:t≠s.heap.objs.size:=by obtain ⟨o,ho,_⟩:=ht;exact GK (D_ ho)
 unfold unpackItems notIterableAtAll
 refine Dq (Dq (Fy ht.typeIs F.slot_tuple_iter.lookup (wpAny_pure ?_)))
 rw[if_neg (by decide)]
 refine Dq (DT (wpAny_pyIter_tuple ht (Dq (DT (wpAny_draw_tuple hlt items.size 0 _ _ ⟨_,DG _ rfl,rfl,rfl⟩ (ht.push _) (by exact au (ae [items.size] [(11,.a 110 0)] rfl)) fun h₁ hit₁ hs₁=>?_)))))
 have hall:List.take items.size (List.drop 0 items.toList)=items.toList:=by
  rw[List.drop_zero];exact ED (by simp)
 rw[hall,if_neg (by simp)]
 have eb:Fu s.heap.objs.size s.heap h₁:=fun b o hb e=>hs₁.extBut b o hb (Dv _ e)
 refine Dq (DT (iU (j9.ext hh eb fun o r q=>?_) hit₁ ((ht.push _).extBut hs₁.extBut hlt) (by simp) fun h₂ he₂=>?_))
 ·exact absurd (D_ q) (FY _)
 ·rw[Option.isSome_none,if_neg (by decide)]
  exact wpAny_pure (hQ h₂ fun b o hb e=>he₂ b o hb (eb b o hb e))
theorem oS {env:Env}{elts:List Expr}{k:Nat}{pos:Pos}{t:Addr}{items:Array Value}{Q:Unit->Shared->Prop}(hh:j9 A s.heap)(ht:s.heap.IsTuple t items)
  (hn:(Fv elts env).length=items.size) (hstar:(Fv elts env).findIdx? (·.1)=none)
  (h:∀ h',Fu s.heap.objs.size s.heap h'->wpAny (Er prog w) A (assignInOrder ((Fv elts env).map (·.2)) items.toList) Q E { s with heap:=h' }) :
  wpAny (Er prog w) A (GA (.Tuple elts k pos) env (.ref t)) Q E s:=by
 rw[arm_assign_Tuple]
 refine Dq (Ej ?_)
 unfold unpack
 rw[hn,hstar]
 exact Dq (DT (o6 hh ht h))
end
end
section
open PySem
section
variable {prog:Ee}{w:Fq}{A:D4}{E:Value->Shared->Prop}{s:Shared}
noncomputable def cJ (prog:Ee) (w:Fq) (h:Heap) (k:Int × List Int) (a:Addr):Prop :=
 ∃ o items n b t,h.get? a=some o/\o.cls = .type "tuple" /\ o.data = .seq items n/\items.toList = [.int k.1 t,.ref b]/\IsTupleKey (intKind prog w) h k.2 b
theorem cJ.typeIs {k:Int × List Int}{a:Addr}(x:cJ prog w s.heap k a):s.TypeIs (.ref a) "tuple" := Exists.imp (fun o x=>Exists.elim x fun zz x=>Exists.elim x fun zz x=>Exists.elim x fun zz x=>Exists.elim x fun zz x=>⟨x.1,x.2.1⟩) x
theorem cJ.inj {h:Heap}{a:Addr}{x y:Int × List Int}(hx:cJ prog w h x a)(hy:cJ prog w h y a):x=y:=by
 refine iI hx fun o items n b t ho zz hd hi hk=>?_
 try clear hx
 refine iI hy fun o' items' n' b' t' ho' zz hd' hi' hk'=>?_
 try clear hy
 rw[ho] at ho';cases ho'
 rw[hd] at hd';cases hd'
 rw[hi] at hi'
 simp only[HA,DB.injEq,Du.injEq,and_true] at hi'
 refine az hi' fun ho22_0 hr22_1=>?_
 try clear hi'
 obtain ⟨h1,_⟩:=ho22_0
 subst hr22_1
 have h2:=hk.inj hk'
 cases x;cases y;simp at h1 h2;rw[h1,h2]
theorem cJ.keeps {h h':Heap}{k:Int × List Int}{a d:Addr}{o:Obj}{es ep}(x:cJ prog w h k a)(ho:h.get? d=some o)(hd:o.data = .dict es ep)(hs:Eg d h h'):cJ prog w h' k a:=by
 refine iI x fun o' items n b t ho' hc hd' hi hk=>?_
 try clear x
 have hne:a≠d:=by
  rintro rfl
  rw[ho] at ho';cases ho'
  rw[hd] at hd';cases hd'
 exact ⟨o',items,n,b,t,(hs.2 a hne).trans ho',hc,hd',hi,hk.keeps ho hd hs⟩
noncomputable def lZ (prog:Ee) (w:Fq) (k:Int × List Int):Int:=reduceHash (E_ [(intKind prog w).hash k.1,Hm (intKind prog w) k.2])
theorem uX {k:Int × List Int}{a:Addr}{Q:Int->Shared->Prop}(hu:A.units+1<F9)(hk:cJ prog w s.heap k a)(h:Q (lZ prog w k) { s with toks:=s.toks+(k.2.length+3) }) :
  wpAny (Er prog w) A (pyHash (.ref a)) Q E s:=by
 have hT:=hk.typeIs
 refine iI hk fun o items n b t ho zz hd hi hb=>?_
 try clear hk
 unfold pyHash
 first | unfold pyHashByItsType | skip
 first | refine Dq (wpAny_cRoomFor_or (.inr (by exact be (ae [A.units,F9] [(.a 11 111,1),(1,0)] rfl hu))) ?_) | skip
 refine Dq (Fy hT G4.lookup ?_)
 show wpAny _ _ (if (some (EB "tuple.__hash__")==some DJ)=true then _ else _) Q E s
 rw[if_neg (by rw[beq_builtin_none];exact DP)]
 refine Dq (Fy hT G4.lookup ?_)
 show wpAny _ _ (callSpecialIfBoundUnlessNone? (.ref a) "__hash__" _ >>= _) Q E s
 refine Dq (wpAny_callSpecialIfBoundUnlessNone?_slot hT G4 (EC G4 hT F.entry_tuple_hash ?_ (F.args_tuple_hash_1 _)))
 show wpAny _ _ (DX.Tuple.tupleItemsOf (.ref a) >>= _) _ _ s
 refine Dq (wpAny_tupleItemsOf ho hd ?_)
 refine Dq ?_
 rw[<- Array.forIn_toList,hi]
 simp -iota only[F4,HM]
 refine Dq (Dq ((intKind prog w).pyHash (k:=k.1) (by simp[intKind,F_]) (wpAny_pure ?_)))
 refine Dq (Dq (wpAny_pyHash_tuple (knd:=intKind prog w) (s:={ s with toks:=s.toks+1 }) hu hb (wpAny_pure (wpAny_pure ?_))))
 refine wpAny_ret_mkInt ?_
 show wpAny _ _ (if (decide (-(2:Int) ^ 63<=E_ [(intKind prog w).hash k.1,Hm (intKind prog w) k.2])&&decide (E_ [(intKind prog w).hash k.1,Hm (intKind prog w) k.2]<2 ^ 63))=true then _ else _) Q E _
 have et:s.toks+1+(k.2.length+1)+1=s.toks+(k.2.length+3):=by exact cy (ae [s.toks,k.snd.length] [(.a (.a (.a 11 21) 111) 111,.a 0 23)] rfl) (ae [s.toks,k.snd.length] [(.a (.a 0 23) 111,.a (.a 11 21) 111)] rfl)
 unfold lZ reduceHash at h
 by_cases hr:(decide (-(2:Int) ^ 63<=E_ [(intKind prog w).hash k.1,Hm (intKind prog w) k.2])&&decide (E_ [(intKind prog w).hash k.1,Hm (intKind prog w) k.2]<2 ^ 63))=true
 ·rw[if_pos hr]
  rw[if_pos hr] at h
  refine wpAny_pure ?_
  show Q _ { s with toks:=s.toks+1+(k.2.length+1)+1 }
  rw[et];exact h
 ·rw[if_neg hr]
  rw[if_neg hr] at h
  refine Dq (wpAny_rule (wpAny_pure ?_))
  show Q _ { s with toks:=s.toks+1+(k.2.length+1)+1 }
  rw[et];exact h
theorem qr {x y:Int × List Int}{a b:Addr}{P:Fin->Shared->Prop}(hu:A.units<F9)(hx:cJ prog w s.heap x a)(hy:cJ prog w s.heap y b)(h:P (.done (.ret (.bool (decide (x=y))))) s) :
  wpAny (Er prog w) A (DX.«tuple.__eq__» ⟨[.ref a,.ref b],[]⟩) P E s:=by
 have hTb:=hy.typeIs
 refine iI hx fun oa xs na xb xt hoa zz hda hia hxk=>?_
 try clear hx
 refine iI hy fun ob ys nb yb yt hob zz hdb hib hyk=>?_
 try clear hy
 show wpAny _ _ (isInstance (.ref b) (.type "tuple") >>= _) _ _ s
 refine Dq (E6 hTb HD ?_)
 simp -iota only[E5,D2,if_false]
 refine Dq (wpAny_tupleItemsOf hoa hda ?_)
 refine Dq (wpAny_tupleItemsOf hob hdb ?_)
 refine Dq ?_
 rw[hia,hib]
 simp -iota only[Fw,List.zip_nil_left,List.zip_nil_right,F4,HM]
 refine Dq (Dq ((intKind prog w).eqBool (a:=x.1) (b:=y.1) (by simp[intKind,F_]) (by simp[intKind,F_]) ?_))
 by_cases h1:x.1=y.1
 ·rw[decide_eq_true h1]
  simp -iota only[E5,D2,if_false]
  refine wpAny_pure ?_
  refine Dq (Dq (wpAny_eqBool_tuple (knd:=intKind prog w) hu hxk hyk ?_))
  by_cases h2:x.2=y.2
  ·rw[decide_eq_true h2]
   simp -iota only[E5,D2,if_false]
   refine wpAny_pure (wpAny_pure ?_)
   have e:x=y:=Gy h1 h2
   have e1:xs.size=2:=by rw[<- DS,hia];rfl
   have e2:ys.size=2:=by rw[<- DS,hib];rfl
   rw[e1,e2]
   rw[decide_eq_true e] at h
   exact wpAny_pure h
  ·rw[decide_eq_false h2]
   simp -iota only[Bool.not_false,if_true]
   rw[decide_eq_false (fun e=>h2 (by rw[e]))] at h
   exact Dq (wpAny_pure (wpAny_pure (wpAny_pure (wpAny_pure h))))
 ·rw[decide_eq_false h1]
  simp -iota only[Bool.not_false,if_true]
  rw[decide_eq_false (fun e=>h1 (by rw[e]))] at h
  exact Dq (wpAny_pure (wpAny_pure (wpAny_pure (wpAny_pure h))))
theorem yH {x y:Int × List Int}{a b:Addr}{Q:Bool->Shared->Prop}(hu:A.units+1<F9)(hx:cJ prog w s.heap x a)(hy:cJ prog w s.heap y b)(h:Q (decide (x=y)) s) :
  wpAny (Er prog w) A (eqBool (.ref a) (.ref b)) Q E s:=by
 unfold eqBool
 try with_reducible refine DT ?_
 show wpAny _ _ (if (Du a==Du b)=true then _ else _) Q E s
 by_cases hab:(Du a==Du b)=true
 ·rw[if_pos hab]
  have e:a=b:=by have:=Gm hab;injection this
  subst e
  obtain rfl:=hx.inj hy
  exact Dq (wpAny_rule (wpAny_pure (by simpa using h)))
 ·rw[if_neg hab]
  exact Dq (wpAny_richCompare_same_room (op:=.Eq) hx.typeIs hy.typeIs HC
   (EC HC hx.typeIs F.entry_tuple_eq (qr (by show A.units+1<_;exact be (ae [A.units,F9] [(.a 11 111,1),(1,11)] rfl hu)) hx hy ⟨_,rfl,(fun e=>nomatch e),GY h⟩) (F.args_tuple_eq_2 _ _)) (by exact be (ae [A.units,F9] [(.a 11 111,1),(1,0)] rfl hu)))
theorem vq {ks:List Int}{a:Addr}{n:Nat}{Q:Bool->Shared->Prop}(hk:IsTupleKey (intKind prog w) s.heap ks a)(h:Q true s):wpAny (Er prog w) A (eqIsQuiet (n+1) (.ref a)) Q E s:=by
 have hT:=hk.typeIs
 refine cZ hk fun o items m ho zz hd hi=>?_
 try clear hk
 unfold eqIsQuiet
 refine Dq (Fy hT HC.lookup ?_)
 show wpAny _ _ (isInstance (.ref a) (.type "tuple") >>= _) _ _ s
 refine Dq (E6 hT HD ?_)
 simp -iota only[E5,D2,if_false]
 refine Dq (FL ho hd ?_)
 refine Dq ?_
 show wpAny _ _ (forIn items _ _) _ _ s
 rw[<- Array.forIn_toList]
 refine wpAny_forIn_list _ (fun rest r s'=>r.1=none/\s'=s /\ ∀ v∈rest,carriedByValue v=true) _ ?_ ?_ _ _ ⟨rfl,rfl,hi.byValue⟩
 ·rintro v rest r s' ⟨hr,rfl,hall⟩
  rw[eqIsQuiet_byValue _ (hall v List.mem_cons_self)]
  refine Dq (wpAny_pure ?_)
  simp -iota only[E5,D2,if_false]
  exact wpAny_pure ⟨rfl,rfl,fun u hu'=>hall u (List.mem_cons_of_mem _ hu')⟩
 ·rintro ⟨r1,r2⟩ s' ⟨hr,rfl,_⟩
  simp -iota only at hr
  subst hr
  exact wpAny_pure h
theorem tJ {k:Int × List Int}{a:Addr}{Q:Bool->Shared->Prop}(hk:cJ prog w s.heap k a)(h:Q true s):wpAny (Er prog w) A (eqIsQuiet 8 (.ref a)) Q E s:=by
 have hT:=hk.typeIs
 refine iI hk fun o items n b t ho zz hd hi hb=>?_
 try clear hk
 unfold eqIsQuiet
 refine Dq (Fy hT HC.lookup ?_)
 show wpAny _ _ (isInstance (.ref a) (.type "tuple") >>= _) _ _ s
 refine Dq (E6 hT HD ?_)
 simp -iota only[E5,D2,if_false]
 refine Dq (FL ho hd ?_)
 refine Dq ?_
 show wpAny _ _ (forIn items _ _) _ _ s
 rw[<- Array.forIn_toList,hi]
 simp -iota only[F4,HM]
 rw[eqIsQuiet_byValue _ (by rfl)]
 refine Dq (Dq (wpAny_pure ?_))
 simp -iota only[E5,D2,if_false]
 refine wpAny_pure ?_
 refine Dq (Dq (vq hb ?_))
 simp -iota only[E5,D2,if_false]
 exact wpAny_pure (wpAny_pure (wpAny_pure h))
end
noncomputable def il (prog:Ee) (w:Fq):HeapKind prog w (Int × List Int) where
 is:=cJ prog w
 hash:=lZ prog w
 draws:=fun k=>k.2.length+3
 room:=fun A=>A.units+1<F9
 inj:=fun hx hy=>hx.inj hy
 keeps:=fun x ho hd hs=>x.keeps ho hd hs
 pyHash:=fun hu hk h=>uX hu hk h
 eqBool:=fun hu hx hy h=>yH hu hx hy h
 quiet:=fun hk h=>tJ hk h
end
section
open PySem
set_option genInjectivity true in
inductive V where
 | none
 | bool (b:Bool)
 | int (i:Int)
 | str (s:Str)
 | tup (l:List V)
 | ref (a:Addr)
 | exc (c:String)
 | glb (x:String)
 | rng (a b c:Int)
 deriving Inhabited
noncomputable def tb (o:Obj):Prop:=(o.cls = .type "tuple" /\ ∃ xs n,o.data = .seq xs n) ∨ (o.cls = .type "range" /\ ∃ vs,o.data = .fields vs)
structure VS (h h':Heap):Prop where
 solid:∀ b o,h.get? b=some o->tb o->h'.get? b=some o
 exc:∀ b o vs r,h.get? b=some o->o.cls = .ref r->o.data = .fields vs -> ∃ o' vs',h'.get? b=some o'/\(o'.cls=o.cls/\o'.dict=o.dict)/\o'.data = .fields vs'/\vs'[2]? = vs[2]?
theorem oi.keep {h h':Heap}{vs vs':Array Value}(x:oi h vs)(k:VS h h')(e:vs'[2]? = vs[2]?):oi h' vs':=by
 rcases x with x | ⟨b,o,ws,r,x1,x2,x3,x4,x5⟩
 ·exact .inl (e.trans x)
 ·refine dC (k.exc b o ws r x2 x3 x4) fun o' ws' y1 y2 y3 y4=>?_
  exact .inr ⟨b,o',ws',r,e.trans x1,y1,y2.1.trans x3,y3,y4.trans x5⟩
theorem lN.keep {c:String}{h h':Heap}{vs vs':Array Value}(x:lN c h vs)(k:VS h h')(e:vs'[2]? = vs[2]?):lN c h' vs':=x.imp (fun q=>e.trans q) fun q=>⟨q.1,q.2.keep k e⟩
structure Pr where
 P:Ee->Fq->Heap->Addr->Prop
 keep:∀ {p:Ee} {w:Fq} {h h':Heap} {a:Addr},VS h h'->(∀ o,h.get? a=some o->h'.get? a=some o)->P p w h a->P p w h' a
 there:∀ {p:Ee} {w:Fq} {h:Heap} {a:Addr},P p w h a -> ∃ ob,h.get? a=some ob /\ ∀ vs,ob.data ≠ .fields vs
theorem cJ.solid {p:Ee}{w:Fq}{h h':Heap}{k:Int × List Int}{a:Addr}(v:VS h h')(x:cJ p w h k a):cJ p w h' k a:=by
 obtain ⟨o,items,n,b,t,ho,hc,hd,hi,o2,i2,n2,ho2,hc2,hd2,hi2⟩:=x
 exact ⟨o,items,n,b,t,v.solid a o ho (.inl ⟨hc,items,n,hd⟩),hc,hd,hi,o2,i2,n2,v.solid b o2 ho2 (.inl ⟨hc2,i2,n2,hd2⟩),hc2,hd2,hi2⟩
noncomputable def eK (ks:List (Int × List Int)):Pr where
 P p w h a:=a≠GP /\ ∃ xs,h.DictOfH (il p w) a xs/\xs.map (·.1)=ks
 keep:=fun v e x=>⟨x.1,x.2.imp fun xs y=>⟨y.1.imp fun o z=>z.imp fun es z=>z.imp fun ep z=>⟨e o z.1,z.2.1,z.2.2.1,z.2.2.2.1,fun x hx=>cJ.solid v (z.2.2.2.2.1 x hx),z.2.2.2.2.2⟩,y.2⟩⟩
 there:=fun x=>x.2.elim fun xs y=>y.1.imp fun o z=>z.elim fun es z=>z.elim fun ep z=>⟨z.1,fun vs e=>Hk (z.2.2.1.symm.trans e)⟩
inductive O where
 | lst (l:List V)
 | fro (l:List V)
 | dci (l:List (Int × V))
 | dcs (l:List (Str × V))
 | ins (c:String) (dx:Addr)
 | nsd (l:List (String × V))
 | prd (p:Pr)
 deriving Inhabited
noncomputable abbrev MH:=Addr->Option O
noncomputable def an (H:MH) (a:Addr) (o:O):MH:=fun b=>if b=a then some o else H b
theorem aj (H:MH)(a:Addr)(o:O):an H a o a=some o:=if_pos rfl
theorem aP {H:MH}{a b:Addr}{o:O}(h:b≠a):an H a o b=H b:=if_neg h
structure Cx where
 prog:Ee
 w:Fq
 h0:Heap
 mg:Str->Option Value
 mb:Str->Option Value
noncomputable def Cx.G (C:Cx) (x:String) (v:Value):Prop:=C.mg (Dn x)=some v ∨ (C.mg (Dn x)=none/\C.mb (Dn x)=some v)
structure Cx.Good (C:Cx):Prop where
 g:C.h0.Ns E4 C.mg
 b:C.h0.Ns Hp C.mb
 nolimit:C.h0.NoLimit
theorem Cx.G.uniq {C:Cx}{x:String}{v v':Value}(h:C.G x v)(h':C.G x v'):v=v':=by
 rcases h with h | ⟨h1,h2⟩ <;> rcases h' with h' | ⟨h1',h2'⟩
 ·exact Eh (h.symm.trans h')
 ·rw[h] at h1';cases h1'
 ·rw[h1] at h';cases h'
 ·exact Eh (h2.symm.trans h2')
noncomputable abbrev Cx.M (C:Cx):Model:=Er C.prog C.w
noncomputable def ka (h:Heap) (a:Addr):Prop:=∀ o,h.get? a=some o->o.dict=EK
theorem ka.of {h:Heap}{a:Addr}{o:Obj}(e:h.get? a=some o)(d:o.dict=EK):ka h a:=fun o' e'=>by rw[e] at e';cases e';exact d
mutual
noncomputable def VR (C:Cx) (h:Heap):V->Value->Prop
 | .none,v=>v = .none
 | .bool b,v=>v = .bool b
 | .int i,v=>∃ t,v = .int i t
 | .str s,v=>∃ t,v = .str s t
 | .tup l,v=>∃ a items,(v = .ref a/\ka h a)/\h.IsTuple a items/\aJ C h l items.toList
 | .ref a,v=>v = .ref a
 | .exc c,v=>∃ a o vs r,v = .ref a/\h.get? a=some o/\o.cls = .ref r/\(C.G c (.ref r)/\o.dict=EK)/\o.data = .fields vs
 | .glb x,v=>C.G x v
 | .rng a b c,v=>∃ r t u w,v = .ref r/\IsRange h r a b c t u w
noncomputable def aJ (C:Cx) (h:Heap):List V->List Value->Prop
 | [],[]=>True
 | x::xs,v::vs=>VR C h x v/\aJ C h xs vs
 | [],_::_=>False
 | _::_,[]=>False
end
section
variable {C:Cx}{h h' h'':Heap}
theorem aJ.nil:aJ C h [] []:=by dsimp only[aJ]
theorem aJ.cons {x:V}{v:Value}{xs:List V}{vs:List Value}(a:VR C h x v)(b:aJ C h xs vs):aJ C h (x::xs) (v::vs):=by dsimp only[aJ];exact ⟨a,b⟩
theorem aJ.head {x:V}{v:Value}{xs:List V}{vs:List Value}(a:aJ C h (x::xs) (v::vs)):VR C h x v:=by dsimp only[aJ] at a;exact a.1
theorem aJ.tail {x:V}{v:Value}{xs:List V}{vs:List Value}(a:aJ C h (x::xs) (v::vs)):aJ C h xs vs:=by dsimp only[aJ] at a;exact a.2
theorem aJ.inv_nil {vs:List Value}(a:aJ C h [] vs):vs = []:=by
 cases vs with
 | nil=>rfl
 | cons _ _=>exact (show False from a).elim
theorem aJ.inv_cons {x:V}{xs:List V}{vs:List Value}(a:aJ C h (x::xs) vs):∃ v vs',vs=v::vs'/\VR C h x v/\aJ C h xs vs':=by
 cases vs with
 | nil=>exact (show False from a).elim
 | cons v vs'=>exact ⟨v,vs',rfl,a.head,a.tail⟩
theorem aJ.length:∀ {xs:List V} {vs:List Value},aJ C h xs vs->xs.length=vs.length
 | [],[],_=>rfl
 | _::xs,_::vs,x=>by simp[aJ.length x.tail]
 | [],_::_,x=>(show False from x).elim
 | _::_,[],x=>(show False from x).elim
theorem aJ.get:∀ {xs:List V} {vs:List Value} {i:Nat} {x:V},aJ C h xs vs->xs[i]? = some x -> ∃ v,vs[i]? = some v/\VR C h x v
 | y::xs,v::vs,0,x,r,e=>by simp at e;subst e;exact ⟨v,rfl,r.head⟩
 | _::xs,_::vs,i+1,x,r,e=>by simp at e;simpa using aJ.get r.tail e
 | [],_,_,_,_,e=>by simp at e
 | _::_,[],_,_,r,_=>(show False from r).elim
theorem aJ.append:∀ {xs ys:List V} {vs ws:List Value},aJ C h xs vs->aJ C h ys ws->aJ C h (xs++ys) (vs++ws)
 | [],_,[],_,_,r=>r
 | _::xs,_,_::vs,_,x,r=>aJ.cons x.head (aJ.append x.tail r)
 | [],_,_::_,_,x,_=>(show False from x).elim
 | _::_,_,[],_,x,_=>(show False from x).elim
theorem aJ.take:∀ {xs:List V} {vs:List Value} (n:Nat),aJ C h xs vs->aJ C h (xs.take n) (vs.take n)
 | _,_,0,_=>by simpa using aJ.nil
 | [],[],_+1,_=>by simpa using aJ.nil
 | _::_,_::_,n+1,r=>by simpa using aJ.cons r.head (aJ.take n r.tail)
 | [],_::_,_+1,r=>(show False from r).elim
 | _::_,[],_+1,r=>(show False from r).elim
theorem aJ.drop:∀ {xs:List V} {vs:List Value} (n:Nat),aJ C h xs vs->aJ C h (xs.drop n) (vs.drop n)
 | _,_,0,r=>by simpa using r
 | [],[],_+1,_=>by simpa using aJ.nil
 | _::_,_::_,n+1,r=>by simpa using aJ.drop n r.tail
 | [],_::_,_+1,r=>(show False from r).elim
 | _::_,[],_+1,r=>(show False from r).elim
theorem aJ.set:∀ {xs:List V} {vs:List Value} (n:Nat) {x:V} {v:Value},aJ C h xs vs->VR C h x v->aJ C h (xs.set n x) (vs.set n v)
 | [],[],_,_,_,_,_=>by simpa using aJ.nil
 | _::_,_::_,0,_,_,r,q=>by simpa using aJ.cons q r.tail
 | _::_,_::_,n+1,_,_,r,q=>by simpa using aJ.cons r.head (aJ.set n r.tail q)
 | [],_::_,_,_,_,r,_=>(show False from r).elim
 | _::_,[],_,_,_,r,_=>(show False from r).elim
end
structure VK (h h':Heap):Prop where
 solid:∀ b o,h.get? b=some o->tb o->h'.get? b=some o
 exc:∀ b o vs r,h.get? b=some o->o.cls = .ref r->o.data = .fields vs -> ∃ o' vs',h'.get? b=some o'/\(o'.cls=o.cls/\o'.dict=o.dict)/\o'.data = .fields vs'/\vs'[2]? = vs[2]?
 dct:∀ b o es ep,h.get? b=some o->o.data = .dict es ep -> ∃ o' es' ep',h'.get? b=some o'/\o'.data = .dict es' ep'
theorem VK.s {h h':Heap}(x:VK h h'):VS h h':=⟨x.solid,x.exc⟩
theorem VK.refl (h:Heap):VK h h:=⟨fun zz zz e zz=>e,fun zz o vs zz e c d=>⟨o,vs,e,⟨rfl,rfl⟩,d,rfl⟩,fun zz o es ep e d=>⟨o,es,ep,e,d⟩⟩
theorem VK.trans {h h' h'':Heap}(x:VK h h')(y:VK h' h''):VK h h'' :=
 ⟨fun b o e s=>y.solid b o (x.solid b o e s) s,fun b o vs r e c d=>by
  refine dC (x.exc b o vs r e c d) fun o' vs' e' c' d' g'=>?_
  refine dC (y.exc b o' vs' r e' (c'.1.trans c) d') fun o'' vs'' e'' c'' d'' g''=>?_
  exact ⟨o'',vs'',e'',⟨c''.1.trans c'.1,c''.2.trans c'.2⟩,d'',g''.trans g'⟩,fun b o es ep e d=>by
  refine f8 (x.dct b o es ep e d) fun o' es' ep' e' d'=>?_
  exact y.dct b o' es' ep' e' d'⟩
theorem VK.of_keeps {h h':Heap}(k:∀ b o,h.get? b=some o->h'.get? b=some o):VK h h' :=
 ⟨fun b o e zz=>k b o e,fun b o vs r e c d=>⟨o,vs,k b o e,⟨rfl,rfl⟩,d,rfl⟩,fun b o es ep e d=>⟨o,es,ep,k b o e,d⟩⟩
noncomputable def eW (o:Obj):Prop:=(∃ es ep,o.data = .dict es ep) ∨ (∃ v,o.data = .cell v) ∨ (∃ T,o.cls = .type T/\T ≠ "tuple" /\ T ≠ "range")
theorem eW.not_solid {o:Obj}(l:eW o)(s:tb o):False:=by
 rcases s with ⟨c,xs,n,d⟩ | ⟨c,vs,d⟩ <;> rcases l with ⟨es,ep,d'⟩ | ⟨v,d'⟩ | ⟨T,c',n1,n2⟩
 ·rw[d] at d';cases d'
 ·rw[d] at d';cases d'
 ·rw[c] at c';injection c' with e;exact n1 e.symm
 ·rw[d] at d';cases d'
 ·rw[d] at d';cases d'
 ·rw[c] at c';injection c' with e;exact n2 e.symm
theorem eW.not_exc {o:Obj}(l:eW o){r:Addr}{vs:Array Value}(c:o.cls = .ref r)(d:o.data = .fields vs):False:=by
 rcases l with ⟨es,ep,d'⟩ | ⟨v,d'⟩ | ⟨T,c',_,_⟩
 ·rw[d] at d';cases d'
 ·rw[d] at d';cases d'
 ·rw[c] at c';cases c'
theorem VK.of_but {h h':Heap}{D:Addr->Prop}(k:∀ b o,h.get? b=some o -> ¬ D b->h'.get? b=some o)(l:∀ b o,h.get? b=some o->D b->eW o)
  (d:∀ b o es ep,h.get? b=some o->D b->o.data = .dict es ep -> ∃ o' es' ep',h'.get? b=some o'/\o'.data = .dict es' ep'):VK h h' :=
 ⟨fun b o e s=>k b o e fun q=>(l b o e q).not_solid s,fun b o vs r e c dd=>⟨o,vs,k b o e fun q=>(l b o e q).not_exc c dd,⟨rfl,rfl⟩,dd,rfl⟩,fun b o es ep e dd=>
  Classical.byCases (fun q:D b=>d b o es ep e q dd) fun q=>⟨o,es,ep,k b o e q,dd⟩⟩
mutual
theorem VR.keepS {C:Cx}{h h':Heap}(k:VS h h'):∀ {x:V} {v:Value},VR C h x v->VR C h' x v
 | .none,_,r=>r
 | .bool _,_,r=>r
 | .int _,_,r=>r
 | .str _,_,r=>r
 | .tup l,v,r=>by
  refine aG ((show ∃ a items,(v = .ref a/\ka h a)/\h.IsTuple a items/\aJ C h l items.toList from r)) fun a items ho217_2 ho217_3 rs=>?_
  obtain ⟨e,nd⟩:=ho217_2
  obtain ⟨o,ho,hc,n,hd⟩:=ho217_3
  exact ⟨a,items,⟨e,.of (k.solid a o ho (.inl ⟨hc,items,n,hd⟩)) (nd o ho)⟩,⟨o,k.solid a o ho (.inl ⟨hc,items,n,hd⟩),hc,n,hd⟩,aJ.keepS k rs⟩
 | .ref _,_,r=>r
 | .exc c,v,r=>by
  refine nH ((show ∃ a o vs r,v = .ref a/\h.get? a=some o/\o.cls = .ref r/\(C.G c (.ref r)/\o.dict=EK)/\o.data = .fields vs from r)) fun a o vs r e ho hc g hd=>?_
  refine dC (k.exc a o vs r ho hc hd) fun o' vs' ho' hc' hd' zz=>?_
  exact ⟨a,o',vs',r,e,ho',hc'.1.trans hc,⟨g.1,hc'.2.trans g.2⟩,hd'⟩
 | .glb _,_,r=>r
 | .rng a b c,v,r=>by
  refine rk ((show ∃ r t u w,v = .ref r/\IsRange h r a b c t u w from r)) fun q t u w e hr=>?_
  exact ⟨q,t,u,w,e,k.solid q _ hr (.inr ⟨rfl,_,rfl⟩)⟩
theorem aJ.keepS {C:Cx}{h h':Heap}(k:VS h h'):∀ {xs:List V} {vs:List Value},aJ C h xs vs->aJ C h' xs vs
 | [],[],_=>aJ.nil
 | _::_,_::_,r=>aJ.cons (VR.keepS k r.head) (aJ.keepS k r.tail)
 | [],_::_,r=>(show False from r).elim
 | _::_,[],r=>(show False from r).elim
end
theorem VR.keep {C:Cx}{h h':Heap}(k:VK h h'){x:V}{v:Value}(r:VR C h x v):VR C h' x v:=r.keepS k.s
theorem aJ.keep {C:Cx}{h h':Heap}(k:VK h h'){xs:List V}{vs:List Value}(r:aJ C h xs vs):aJ C h' xs vs:=r.keepS k.s
noncomputable def kb (C:Cx) (h:Heap):List (String × V)->List Gs->Prop
 | [],[]=>True
 | (x,v)::l,e::es=>(∃ t,e.key = .str (Dn x) t)/\e.hash=hashStr C.w (Dn x)/\VR C h v e.val/\kb C h l es
 | [],_::_=>False
 | _::_,[]=>False
theorem kb.keepS {C:Cx}{h h':Heap}(k:VS h h'):∀ {l:List (String × V)} {es:List Gs},kb C h l es->kb C h' l es
 | [],[],_=>trivial
 | (_,_)::_,_::_,r=>⟨r.1,r.2.1,r.2.2.1.keepS k,kb.keepS k r.2.2.2⟩
 | [],_::_,r=>r.elim
 | _::_,[],r=>r.elim
noncomputable def OR (C:Cx) (h:Heap) (a:Addr):O->Prop
 | .lst l=>C.h0.get? a=none /\ ∃ items,h.PlainList a items/\aJ C h l items.toList
 | .fro l=>∃ items,h.IsList a items/\aJ C h l items.toList
 | .dci l=>C.h0.get? a=none/\a≠GP /\ ∃ kvs:List (Int × Value),h.DictOf (intKind C.prog C.w) a kvs/\kvs.map (·.1)=l.map (·.1)/\aJ C h (l.map (·.2)) (kvs.map (·.2))
 | .dcs l=>C.h0.get? a=none/\a≠GP /\ ∃ kvs:List (Str × Value),h.DictOf (strKind C.prog C.w) a kvs/\kvs.map (·.1)=l.map (·.1)/\aJ C h (l.map (·.2)) (kvs.map (·.2))
 | .ins c dx=>C.h0.get? a=none /\ ∃ r,C.G c (.ref r)/\h.get? a=some { cls:=.ref r,dict:=some dx,data:=.plain }
 | .nsd l=>C.h0.get? a=none /\ ∃ es n,h.get? a=some { cls:=.type "dict",data:=.dict es n }/\kb C h l es.toList
 | .prd p=>C.h0.get? a=none/\p.P C.prog C.w h a
theorem OR.keepS {C:Cx}{h h':Heap}{a:Addr}(k:VS h h')(e:∀ o,h.get? a=some o->h'.get? a=some o):∀ {o:O},OR C h a o->OR C h' a o
 | .lst _,x=>⟨x.1,x.2.imp fun zz y=>⟨y.1.at e,y.2.keepS k⟩⟩
 | .fro _,x=>x.imp fun zz y=>⟨y.1.imp fun o q=>⟨e o q.1,q.2⟩,y.2.keepS k⟩
 | .dci _,x=>⟨x.1,x.2.1,x.2.2.imp fun zz y=>⟨y.1.imp fun o z=>z.imp fun zz z=>z.imp fun zz q=>⟨e o q.1,q.2⟩,y.2.1,y.2.2.keepS k⟩⟩
 | .dcs _,x=>⟨x.1,x.2.1,x.2.2.imp fun zz y=>⟨y.1.imp fun o z=>z.imp fun zz z=>z.imp fun zz q=>⟨e o q.1,q.2⟩,y.2.1,y.2.2.keepS k⟩⟩
 | .ins _ _,x=>⟨x.1,x.2.imp fun zz y=>⟨y.1,e _ y.2⟩⟩
 | .nsd _,x=>⟨x.1,x.2.imp fun zz y=>y.imp fun zz z=>⟨e _ z.1,z.2.keepS k⟩⟩
 | .prd p,x=>⟨x.1,p.keep k e x.2⟩
theorem OR.keep {C:Cx}{h h':Heap}{a:Addr}(k:VK h h')(e:∀ o,h.get? a=some o->h'.get? a=some o){o:O}(r:OR C h a o):OR C h' a o:=r.keepS k.s e
theorem OR.there {C:Cx}{h:Heap}{a:Addr}:∀ {o:O},OR C h a o -> ∃ ob,h.get? a=some ob
 | .lst _,x=>x.2.elim fun zz y=>y.1.elim fun zz p=>⟨_,p⟩
 | .fro _,x=>x.elim fun zz y=>y.1.imp fun zz q=>q.1
 | .dci _,x=>x.2.2.elim fun zz y=>y.1.imp fun zz z=>z.elim fun zz z=>z.elim fun zz q=>q.1
 | .dcs _,x=>x.2.2.elim fun zz y=>y.1.imp fun zz z=>z.elim fun zz z=>z.elim fun zz q=>q.1
 | .ins _ _,x=>x.2.elim fun zz y=>⟨_,y.2⟩
 | .nsd _,x=>x.2.elim fun zz y=>y.elim fun zz z=>⟨_,z.1⟩
 | .prd p,x=>(p.there x.2).imp fun zz q=>q.1
noncomputable def HR (C:Cx) (H:MH) (h:Heap):Prop:=∀ a o,H a=some o->OR C h a o
theorem HR.keep {C:Cx}{H:MH}{h h':Heap}(r:HR C H h)(k:VK h h')(e:∀ b o,(H b).isSome=true->h.get? b=some o->h'.get? b=some o):HR C H h' :=
 fun a o q=>(r a o q).keep k fun ob=>e a ob (by rw[q];rfl)
theorem HR.there {C:Cx}{H:MH}{h:Heap}(r:HR C H h){a:Addr}(q:(H a).isSome=true):∃ ob,h.get? a=some ob:=by
 refine aF (Fj.mp q) fun o e=>?_
 exact (r a o e).there
theorem HR.fresh {C:Cx}{H:MH}{h:Heap}(r:HR C H h){a:Addr}(q:h.get? a=none):H a=none:=by
 cases e:H a with
 | none=>rfl
 | some o=>obtain ⟨ob,w⟩:=(r a o e).there;rw[q] at w;cases w
structure Step (C:Cx)(D:Addr->Prop)(H:MH)(s:Shared)(H':MH)(s':Shared):Prop where
 rel:HR C H' s'.heap
 chg:∀ b o,s.heap.get? b=some o->H b=none -> ¬ D b -> ∃ sl,s'.heap.get? b=some { o with slots:=sl }/\((∀ es ep,o.data ≠ .dict es ep)->sl=o.slots)
 top:C.h0.StaysIn s'.heap
 dom:∀ b,(H b).isSome=true->(H' b).isSome=true
 new:∀ b,(H' b).isSome=true->(H b).isSome=true ∨ s.heap.get? b=none
 dn:∀ b,D b->H b=none->H' b=none
 vk:VK s.heap s'.heap
 gens:s'.gens=s.gens
 os:s'.os=s.os
noncomputable abbrev No:Addr->Prop:=fun zz=>False
section
variable {C:Cx}{D D':Addr->Prop}{H H' H'':MH}{s s' s'':Shared}
theorem Step.refl (r:HR C H s.heap)(t:C.h0.StaysIn s.heap):Step C D H s H s :=
 ⟨r,fun b o e zz zz=>⟨o.slots,e,fun zz=>rfl⟩,t,fun zz e=>e,fun zz e=>.inl e,fun zz zz e=>e,.refl _,rfl,rfl⟩
theorem Step.trans (x:Step C D H s H' s')(y:Step C D H' s' H'' s''):Step C D H s H'' s'' where
 rel:=y.rel
 chg:=fun b o e n d=>by
  refine ad (x.chg b o e n d) fun sl e' q=>?_
  have n':H' b=none:=by
   cases w:H' b with
   | none=>rfl
   | some z=>
    rcases x.new b (by rw[w];rfl) with u | u
    ·rw[n] at u;cases u
    ·rw[e] at u;cases u
  refine ad (y.chg b _ e' n' d) fun sl' e'' q'=>?_
  exact ⟨sl',e'',fun f=>(q' f).trans (q f)⟩
 top:=y.top
 dom:=fun b e=>y.dom b (x.dom b e)
 new:=fun b e=>by
  rcases y.new b e with u | u
  ·exact x.new b u
  ·by_cases w:(H b).isSome=true
   ·exact .inl w
   ·right
    cases v:s.heap.get? b with
    | none=>rfl
    | some o=>
     have n:H b=none:=by simpa using w
     by_cases d:D b
     ·have:=y.dn b d (x.dn b d n)
      rw[this] at e;cases e
     ·refine ad (x.chg b o v n d) fun sl e' zz=>?_
      rw[u] at e';cases e'
 dn:=fun b d n=>y.dn b d (x.dn b d n)
 vk:=x.vk.trans y.vk
 gens:=y.gens.trans x.gens
 os:=y.os.trans x.os
theorem Step.gone (x:Step C D H s H' s'){b:Addr}{o:Obj}(e:s.heap.get? b=some o)(n:H b=EK):H' b=EK:=by
 cases w:H' b with
 | none=>rfl
 | some z=>
  rcases x.new b (by rw[w];rfl) with u | u
  ·rw[n] at u;cases u
  ·rw[e] at u;cases u
theorem Step.weaken (x:Step C No H s H' s')(hD:∀ b,D b -> ∃ o,s.heap.get? b=some o):Step C D H s H' s' :=
 { x with chg:=fun b o e n zz=>x.chg b o e n (fun f=>f),dn:=fun b d n=>let ⟨_,e⟩:=hD b d;x.gone e n }
theorem Step.narrow (x:Step C D H s H' s')(hD:∀ b,D' b->D b)(hF:∀ b,D b->D' b ∨ s.heap.get? b=EK):Step C D' H s H' s' :=
 { x with chg:=fun b o e n d=>x.chg b o e n fun q=>by
             rcases hF b q with u | u
             · exact d u
             · rw[e] at u;cases u
          dn:=fun b d n=>x.dn b (hD b d) n }
theorem Step.trans_new (x:Step C D H s H' s')(y:Step C D' H' s' H'' s'')(hn:∀ b,D' b->s.heap.get? b=EK)(hd:∀ b,D b -> ∃ o,s'.heap.get? b=some o):Step C D H s H'' s'' where
 rel:=y.rel
 chg:=fun b o e n d=>by
  refine ad (x.chg b o e n d) fun sl e' q=>?_
  obtain ⟨sl',e'',q'⟩:=y.chg b _ e' (x.gone e n) fun w=>by rw[hn b w] at e;cases e
  exact ⟨sl',e'',fun f=>(q' f).trans (q f)⟩
 top:=y.top
 dom:=fun b e=>y.dom b (x.dom b e)
 new:=fun b e=>by
  rcases y.new b e with u | u
  ·exact x.new b u
  ·by_cases w:(H b).isSome=true
   ·exact .inl w
   ·right
    cases v:s.heap.get? b with
    | none=>rfl
    | some o=>
     by_cases d:D b
     ·refine aF (hd b d) fun o' e'=>?_
      rw[u] at e';cases e'
     ·refine ad (x.chg b o v (by simpa using w) d) fun sl e' zz=>?_
      rw[u] at e';cases e'
 dn:=fun b d n=>let ⟨_,e⟩:=hd b d;y.gone e (x.dn b d n)
 vk:=x.vk.trans y.vk
 gens:=y.gens.trans x.gens
 os:=y.os.trans x.os
theorem Step.keeps (r:HR C H s.heap)(t:C.h0.StaysIn s.heap)(k:∀ b o,s.heap.get? b=some o->s'.heap.get? b=some o)(g:s'.gens=s.gens)(os:s'.os=s.os):Step C D H s H s' :=
 ⟨r.keep (.of_keeps k) fun b o zz e=>k b o e,fun b o e zz zz=>⟨o.slots,k b o e,fun zz=>rfl⟩,fun b o e=>k b o (t b o e),fun zz e=>e,fun zz e=>.inl e,fun zz zz e=>e,.of_keeps k,g,os⟩
theorem Step.but (r:HR C H s.heap)(t:C.h0.StaysIn s.heap)(k:∀ b o,s.heap.get? b=some o -> ¬ D b->s'.heap.get? b=some o)
  (hH:∀ b,D b->H b=EK) (h0:∀ b,D b->C.h0.get? b=EK) (l:∀ b o,s.heap.get? b=some o->D b->eW o)
  (d:∀ b o es ep,s.heap.get? b=some o->D b->o.data = .dict es ep -> ∃ o' es' ep',s'.heap.get? b=some o'/\o'.data = .dict es' ep')
  (g:s'.gens=s.gens) (os:s'.os=s.os):Step C D H s H s' :=
 have vk:VK s.heap s'.heap:=VK.of_but k l d
 ⟨r.keep vk fun b o q e=>k b o e fun w=>(by rw[hH b w] at q;cases q),fun b o e zz nd=>⟨o.slots,k b o e nd,fun zz=>rfl⟩,
  fun b o e=>k b o (t b o e) fun w=>(by rw[h0 b w] at e;cases e),fun zz e=>e,fun zz e=>.inl e,fun zz zz e=>e,vk,g,os⟩
theorem ba (h:Heap):h.get? h.objs.size=EK:=by
 cases e:h.get? h.objs.size with
 | none=>rfl
 | some o=>exact absurd (D_ e) (FY _)
theorem Step.alloc {o:O}{ob:Obj}(r:HR C H s.heap)(t:C.h0.StaysIn s.heap)
  (ho:OR C (s.heap.push ob) s.heap.objs.size o) (hs:s'.heap=s.heap.push ob) (g:s'.gens=s.gens) (os:s'.os=s.os):Step C No H s (an H s.heap.objs.size o) s':=by
 have k:∀ b o,s.heap.get? b=some o->s'.heap.get? b=some o:=fun b o e=>by rw[hs];exact Dv _ e
 refine ⟨fun b o' e=>?_,fun b o e zz zz=>⟨o.slots,k b o e,fun zz=>rfl⟩,fun b o e=>k b o (t b o e),fun b e=>?_,fun b e=>?_,fun b d n=>d.elim,.of_keeps k,g,os⟩
 ·by_cases q:b=s.heap.objs.size
  ·subst q;rw[aj] at e;cases e;rw[hs];exact ho
  ·rw[aP q] at e;exact (r b o' e).keep (.of_keeps k) fun ob=>k b ob
 ·by_cases q:b=s.heap.objs.size
  ·subst q;rw[aj];rfl
  ·rw[aP q];exact e
 ·by_cases q:b=s.heap.objs.size
  ·subst q;exact .inr (ba _)
  ·rw[aP q] at e;exact .inl e
theorem Step.mut {a:Addr}{o:O}(r:HR C H s.heap)(t:C.h0.StaysIn s.heap)(hH:(H a).isSome=true)(h0:C.h0.get? a=EK)(hs:Eg a s.heap s'.heap)
  (l:∀ ob,s.heap.get? a=some ob->eW ob) (d:∀ ob es ep,s.heap.get? a=some ob->ob.data = .dict es ep -> ∃ o' es' ep',s'.heap.get? a=some o'/\o'.data = .dict es' ep')
  (ho:VK s.heap s'.heap->OR C s'.heap a o) (g:s'.gens=s.gens) (os:s'.os=s.os):Step C No H s (an H a o) s':=by
 have k:∀ b o,s.heap.get? b=some o->b≠a->s'.heap.get? b=some o:=fun b o e n=>(hs.2 b n).trans e
 have vk:VK s.heap s'.heap:=VK.of_but (D:=(· = a)) k (fun b o e q=>l o (by rw[<- q];exact e)) fun b o es ep e q dd=>by subst q;exact d o es ep e dd
 refine ⟨fun b o' e=>?_,fun b o e n zz=>?_,fun b o e=>k b o (t b o e) ?_,fun b e=>?_,fun b e=>?_,fun b d n=>d.elim,vk,g,os⟩
 ·by_cases q:b=a
  ·subst q;rw[aj] at e;cases e;exact ho vk
  ·rw[aP q] at e;exact (r b o' e).keep vk fun ob w=>k b ob w q
 ·refine ⟨o.slots,k b o e fun q=>?_,fun zz=>rfl⟩
  subst q;rw[n] at hH;cases hH
 ·rintro rfl;rw[h0] at e;cases e
 ·by_cases q:b=a
  ·subst q;rw[aj];rfl
  ·rw[aP q];exact e
 ·by_cases q:b=a
  ·subst q;exact .inl hH
  ·rw[aP q] at e;exact .inl e
end
noncomputable def BX (A:D4) (d:Nat):Prop:=A.depth+2*d+2<Gc/\A.units+8*d+40<F9
noncomputable def iK (C:Cx) (H:MH) (h:Heap) (l:List Env):Prop :=
 ∀ env∈l,env.scope.kind ≠ .module /\ ∃ L o es ep,env.frame=some L/\h.get? L=some o/\o.data = .dict es ep/\H L=none/\C.h0.get? L=none
theorem iK.step {C:Cx}{D:Addr->Prop}{H H':MH}{s s':Shared}{l:List Env}(x:iK C H s.heap l)(y:Step C D H s H' s'):iK C H' s'.heap l:=fun env he=>by
 obtain ⟨k,L,o,es,ep,f,g,d,n,z⟩:=x env he
 refine f8 (y.vk.dct L o es ep g d) fun o' es' ep' g' d'=>?_
 exact ⟨k,L,o',es',ep',f,g',d',y.gone g n,z⟩
structure Md where
 n:Nat
 q:Bool
structure Ok (C:Cx)(d:Md)(H:MH)(A:D4)(s:Shared):Prop where
 rel:HR C H s.heap
 top:C.h0.StaysIn s.heap
 room:BX A d.n
 hnd:(d.q=true->A.handled=none)/\(A.handled=none ∨ ∃ a o vs r,A.handled=some (.ref a)/\s.heap.get? a=some o/\o.cls = .ref r/\o.data = .fields vs/\oi s.heap vs)
 frs:∃ l,A.frames=some l/\iK C H s.heap l
theorem Ok.step {C:Cx}{D:Addr->Prop}{d:Md}{H H':MH}{A:D4}{s s':Shared}(x:Ok C d H A s)(y:Step C D H s H' s'):Ok C d H' A s':=by
 refine ⟨y.rel,y.top,x.room,⟨x.hnd.1,x.hnd.2.imp id ?_⟩,let ⟨l,e,f⟩:=x.frs;⟨l,e,f.step y⟩⟩
 rintro ⟨a,o,vs,r,e,g,c,dd,z⟩
 refine dC (y.vk.exc a o vs r g c dd) fun o' vs' g' c' d' z'=>?_
 exact ⟨a,o',vs',r,e,g',c'.1.trans c,d',z.keep y.vk.s z'⟩
theorem Ok.refl {C:Cx}{D:Addr->Prop}{d:Md}{H:MH}{A:D4}{s:Shared}(x:Ok C d H A s):Step C D H s H s:=.refl x.rel x.top
theorem Ok.toks {C:Cx}{D:Addr->Prop}{d:Md}{H:MH}{A:D4}{s:Shared}(x:Ok C d H A s)(n:Nat):Step C D H s H { s with toks:=n }:=.keeps x.rel x.top (fun zz zz e=>e) rfl rfl
end
section
open PySem
theorem e7 (o:Obj)(f:Array Value->Array Value):(o.mapFields f).dict=o.dict:=by
 obtain ⟨c,d,dt,sl⟩:=o
 cases dt <;> rfl
theorem jG {h:Heap}{a:Addr}{ob o:Obj}{vs:Array Value}(e:h.get? a=some ob)(d:ob.data = .fields vs)(p:h.get? a=some o)(q:∀ vs,o.data ≠ .fields vs):False:=q vs (Eh (e.symm.trans p) ▸ d)
theorem OR.not_fields {C:Cx}{h:Heap}{a:Addr}{ob:Obj}{vs:Array Value}(e:h.get? a=some ob)(d:ob.data = .fields vs):∀ {o:O},¬ OR C h a o
 | .lst _,x=>x.2.elim fun zz y=>y.1.elim fun zz p=>jG e d p fun zz=>nofun
 | .fro _,x=>x.elim fun zz y=>y.1.elim fun zz q=>q.2.2.elim fun zz w=>jG e d q.1 fun zz u=>nomatch w.symm.trans u
 | .dci _,x=>x.2.2.elim fun zz y=>y.1.elim fun zz z=>z.elim fun zz z=>z.elim fun zz q=>jG e d q.1 fun zz u=>nomatch q.2.2.1.symm.trans u
 | .dcs _,x=>x.2.2.elim fun zz y=>y.1.elim fun zz z=>z.elim fun zz z=>z.elim fun zz q=>jG e d q.1 fun zz u=>nomatch q.2.2.1.symm.trans u
 | .ins _ _,x=>x.2.elim fun zz y=>jG e d y.2 fun zz=>nofun
 | .nsd _,x=>x.2.elim fun zz y=>y.elim fun zz z=>jG e d z.1 fun zz=>nofun
 | .prd p,x=>(p.there x.2).elim fun zz k=>jG e d k.1 k.2
theorem HR.no_fields {C:Cx}{H:MH}{h:Heap}{a:Addr}{ob:Obj}{vs:Array Value}(r:HR C H h)(e:h.get? a=some ob)(d:ob.data = .fields vs):H a=none:=by
 cases q:H a with
 | none=>rfl
 | some o=>exact ((r a o q).not_fields e d).elim
structure Fly (C:Cx)(tr:Bool)(s:Shared)(a:Addr)(c:String)(h:Heap):Prop where
 new:s.heap.get? a=none
 obj:∃ o vs r,h.get? a=some o/\o.cls = .ref r/\(C.G c (.ref r)/\o.dict=none)/\o.data = .fields vs/\1<vs.size/\lN c h vs /\
  ((tr=false/\vs[1]? = some .none) ∨ ∃ T oT ts,vs[1]? = some (.ref T)/\s.heap.get? T=none/\T≠a/\h.get? T=some oT/\oT.cls = .type "traceback" /\ oT.data = .fields ts/\3<ts.size)
noncomputable abbrev XP:=String->MH->Prop
noncomputable abbrev XH:=String->MH->Heap->Prop
noncomputable def up (X:XP):XH:=fun c H zz=>X c H
noncomputable def ly (C:Cx) (X:XH):Prop:=∀ c (H:MH) (s s':Shared) (D:Addr->Prop),Step C D H s H s'->(∀ b o,D b->s.heap.get? b=some o -> ∃ vs,o.data = .fields vs)->X c H s.heap->X c H s'.heap
theorem vI {C:Cx}{X:XP}:ly C (up X):=fun zz zz zz zz zz zz zz h=>h
noncomputable def XG (tr:Bool) (C:Cx) (D:Addr->Prop) (H:MH) (s:Shared) (X:XH) (e:Value) (s':Shared):Prop :=
 ∃ a c H',e = .ref a/\Step C D H s H' s'/\(∀ b,D b -> ∃ o,s'.heap.get? b=some o)/\Fly C tr s a c s'.heap/\X c H' s'.heap
noncomputable abbrev XQ (tr:Bool) (C:Cx) (D:Addr->Prop) (H:MH) (s:Shared) (X:XP):Value->Shared->Prop:=XG tr C D H s (up X)
theorem Fly.mono {C:Cx}{s:Shared}{a:Addr}{c:String}{h:Heap}(x:Fly C true s a c h):Fly C false s a c h :=
 ⟨x.new,x.obj.imp fun zz y=>y.imp fun zz y=>y.imp fun zz z=>⟨z.1,z.2.1,z.2.2.1,z.2.2.2.1,z.2.2.2.2.1,z.2.2.2.2.2.1,z.2.2.2.2.2.2.imp (fun q=>nomatch q.1) id⟩⟩
theorem XG.mono {C:Cx}{D:Addr->Prop}{H:MH}{s:Shared}{X:XH}{e:Value}{s':Shared}(x:XG true C D H s X e s'):XG false C D H s X e s' :=
 Exists.imp (fun zz x=>Exists.imp (fun zz x=>Exists.imp (fun zz x=>⟨x.1,x.2.1,x.2.2.1,x.2.2.2.1.mono,x.2.2.2.2⟩) x) x) x
theorem VK.of_records {h h':Heap}{D:Addr->Prop}(k:∀ b o,h.get? b=some o -> ¬ D b -> ∃ sl,h'.get? b=some { o with slots:=sl }/\((∀ es ep,o.data ≠ .dict es ep)->sl=o.slots))
  (d:∀ b o,h.get? b=some o->D b -> ∃ o' vs vs',h'.get? b=some o'/\o.data = .fields vs/\o'.data = .fields vs'/\(o'.cls=o.cls/\o'.dict=o.dict)/\o.cls ≠ .type "range" /\ vs'[2]? = vs[2]?):VK h h':=by
 refine ⟨fun b o e s=>?_,fun b o vs r e c dd=>?_,fun b o es ep e dd=>?_⟩
 ·by_cases q:D b
  ·refine kW (d b o e q) fun o' vs vs' e' d1 d2 c' n zz=>?_
   rcases s with ⟨_,_,_,d3⟩ | ⟨c3,_⟩
   ·rw[d1] at d3;cases d3
   ·exact (n c3).elim
  ·refine ad (k b o e q) fun sl e' w=>?_
   have:sl=o.slots:=w fun es ep d3=>by
    rcases s with ⟨_,_,_,d4⟩ | ⟨_,_,d4⟩ <;> rw[d4] at d3 <;> cases d3
   rw[this] at e';exact e'
 ·by_cases q:D b
  ·refine kW (d b o e q) fun o' vs1 vs' e' d1 d2 c' n g=>?_
   rw[d1] at dd;cases dd
   exact ⟨o',vs',e',c',d2,g⟩
  ·refine ad (k b o e q) fun sl e' w=>?_
   exact ⟨_,vs,e',⟨rfl,rfl⟩,dd,rfl⟩
 ·by_cases q:D b
  ·refine kW (d b o e q) fun o' vs vs' e' d1 d2 c' n zz=>?_
   rw[d1] at dd;cases dd
  ·refine ad (k b o e q) fun sl e' w=>?_
   exact ⟨_,es,ep,e',dd⟩
theorem Step.records {C:Cx}{D:Addr->Prop}{H:MH}{s s':Shared}(r:HR C H s.heap)(t:C.h0.StaysIn s.heap)(h0:∀ b,D b->C.h0.get? b=none)
  (k:∀ b o,s.heap.get? b=some o -> ¬ D b->(s'.heap.get? b=some o ∨ (H b=none/\C.h0.get? b=none/\(∃ es ep,o.data = .dict es ep) /\ ∃ sl,s'.heap.get? b=some { o with slots:=sl })))
  (d:∀ b o,s.heap.get? b=some o->D b -> ∃ o' vs vs',s'.heap.get? b=some o'/\o.data = .fields vs/\o'.data = .fields vs'/\(o'.cls=o.cls/\o'.dict=o.dict)/\o.cls ≠ .type "range" /\ vs'[2]? = vs[2]?)
  (g:s'.gens=s.gens) (os:s'.os=s.os):Step C D H s H s':=by
 have k':∀ b o,s.heap.get? b=some o -> ¬ D b -> ∃ sl,s'.heap.get? b=some { o with slots:=sl }/\((∀ es ep,o.data ≠ .dict es ep)->sl=o.slots):=fun b o e n=>by
  rcases k b o e n with w | ⟨_,_,⟨es,ep,w⟩,sl,w'⟩
  ·exact ⟨o.slots,w,fun zz=>rfl⟩
  ·exact ⟨sl,w',fun q=>(q es ep w).elim⟩
 have vk:=VK.of_records k' d
 refine ⟨r.keep vk fun b o q e=>?_,fun b o e zz n=>k' b o e n,fun b o e=>?_,fun zz e=>e,fun zz e=>.inl e,fun zz zz e=>e,vk,g,os⟩
 ·by_cases w:D b
  ·refine eU (d b o e w) fun o' vs zz zz d1 zz=>?_
   rw[r.no_fields e d1] at q;cases q
  ·rcases k b o e w with u | ⟨u,_⟩
   ·exact u
   ·rw[u] at q;cases q
 ·have e1:=t b o e
  by_cases w:D b
  ·rw[h0 b w] at e;cases e
  ·rcases k b o e1 w with u | ⟨_,u,_⟩
   ·exact u
   ·rw[u] at e;cases e
theorem iK.fun {C:Cx}{H:MH}{h:Heap}:∀ {l:List Env},iK C H h l->h.FunFrames ⟨#[],{}⟩ l
 | [],_=>trivial
 | env::l,x=>by
  obtain ⟨k,L,o,es,ep,f,g,d,_⟩:=x env (.head _)
  exact ⟨k,⟨L,o,f,rfl,g,fun vs q=>by rw[d] at q;cases q⟩,iK.fun fun e he=>x e (.tail _ he)⟩
theorem iK.mem {C:Cx}{H:MH}{h:Heap}{l:List Env}(x:iK C H h l){b:Addr}(hb:b∈l.filterMap (·.frame)):H b=none/\C.h0.get? b=none /\ ∃ o es ep,h.get? b=some o/\o.data = .dict es ep:=by
 refine ad (List.mem_filterMap.mp hb) fun env he hf=>?_
 obtain ⟨_,L,o,es,ep,f,g,d,n,z⟩:=x env he
 rw[f] at hf;cases hf
 exact ⟨n,z,o,es,ep,g,d⟩
theorem bY {C:Cx}{h:Heap}(t:C.h0.StaysIn h){b:Addr}(e:h.get? b=none):C.h0.get? b=none:=by
 cases q:C.h0.get? b with
 | none=>rfl
 | some o=>rw[t b o q] at e;cases e
section
variable {C:Cx}{A:D4}{D:Addr->Prop}{H:MH}{s s':Shared}{X:XH}{e:Value}{env fenv:Env}{outer:List Env}{E:Value->Shared->Prop}
theorem tD {l:List Env}{L:Addr}{Q:Value->Shared->Prop}(hfr:A.frames=some (fenv::outer))(hl:s.heap.FunFrames ⟨#[],{}⟩ (fenv::outer))(hff:fenv.frame=env.frame)
  (hf:env.frame=some L) (h:∀ h',Heap.SlotsOnly ((fenv::outer).filterMap (·.frame)) s.heap h'->Q (.ref L) { s with heap:=h' }):wpAny C.M A (frameOf env) Q E s:=by
 unfold frameOf
 refine Dq (wpAny_frameEnvs hfr ?_)
 have hdw:((fenv::outer).dropWhile fun x=>x.frame != env.frame)=fenv::outer:=by simp[List.dropWhile,hff]
 rw[hdw]
 unfold frameObject
 refine Dq (Dq (wpAny_readyFrames_fun hl fun h₁ hs₁=>wpAny_pure ?_))
 rw[hff,hf]
 exact wpAny_pure (h h₁ hs₁)
theorem oM {a L:Addr}{c:String}{H':MH}{head:Value}{hadNext:Bool}{Q:Unit->Shared->Prop}(hfr:A.frames=some (fenv::outer))(hff:fenv.frame=env.frame)(hl:iK C H' s'.heap (fenv::outer))(hf:env.frame=some L)
  (ht:C.h0.StaysIn s.heap) (st:Step C D H s H' s') (hD:∀ b,D b -> ∃ o,s'.heap.get? b=some o) {o:Obj} {vs:Array Value} {r:Addr} (new:s.heap.get? a=none) (ho:s'.heap.get? a=some o) (hc:o.cls = .ref r) (hg:C.G c (.ref r)/\o.dict=none) (hd:o.data = .fields vs) (hsz:1<vs.size) (h2:lN c s'.heap vs)
  (hQ:∀ h',Step C D H s H' { s' with heap:=h' }->(∀ b o',s'.heap.get? b=some o' -> ∃ o'',h'.get? b=some o'')->(∀ X:XH,ly C X->X c H' s'.heap->X c H' h')->Fly C true s a c h'->Q () { s' with heap:=h' }) :
  wpAny C.M A (do let f <- frameOf env;let pl <- entryPlaceOf L hadNext;let b <- EntryCells.newEntry head f .none (rawInt L) .none pl;setField (.ref a) 1 b) Q E s':=by
 refine Dq (tD (l:=[]) hfr hl.fun hff hf fun h₁ hs₁=>?_)
 refine Dq (wpAny_entryPlaceOf fun pl hpl=>?_)
 unfold EntryCells.newEntry newFields
 refine Dq (D6 ?_ (hpl.sizeOk5 _ _ _ _ _))
 have hna:a ∉ (fenv::outer).filterMap (·.frame):=fun hm=>by
  obtain ⟨_,_,o',es,ep,g,d⟩:=hl.mem hm
  rw[ho] at g;cases g;rw[hd] at d;cases d
 have ho₁:h₁.get? a=some o:=(hs₁.2.1 a hna).trans ho
 generalize hTB:({ cls:=.type "traceback",dict:=none,data:=.fields ([head,.ref L,.none,rawInt L,.none]++(if pl.isEmpty then DN 6 DJ else pl)).toArray }:Obj)=TB
 have hTBc:TB.cls = .type "traceback" := by rw[<- hTB]
 have hTBd:∃ ts,TB.data = .fields ts/\3<ts.size:=by rw[<- hTB];exact ⟨_,rfl,by simp⟩
 have hTBf:TB.isFreed=false:=by rw[<- hTB];rfl
 have ho₂:=Dv (h:=h₁) TB ho₁
 refine Gb ho₂ hd hsz ?_
 have hne:h₁.objs.size≠a:=Nat.ne_of_gt (D_ ho₁)
 have hd₃:=Obj.data_mapFields hd (·.setIfInBounds 1 (Du h₁.objs.size))
 have ho₃:=Ew (Eu (·.setIfInBounds 1 (Du h₁.objs.size))) ho₂ (HE hd₃)
 have hT₃:=(EN (h₁.push TB) (Eu (·.setIfInBounds 1 (Du h₁.objs.size))) (E9 hne)).trans (DG h₁ hTBf)
 have hTs:s.heap.get? h₁.objs.size=none:=by
  cases q:s.heap.get? h₁.objs.size with
  | none=>rfl
  | some o'=>
   exfalso
   have hlt:h₁.objs.size<s'.heap.objs.size:=by
    by_cases u:(H h₁.objs.size).isSome=true
    ·refine aF (st.rel.there (st.dom _ u)) fun ob w=>?_
     exact D_ w
    ·by_cases dd:D h₁.objs.size
     ·refine aF (hD _ dd) fun ob w=>?_
      exact D_ w
     ·refine ad (st.chg _ o' q (by simpa using u) dd) fun sl w zz=>?_
      exact D_ w
   rw[hs₁.1] at hlt;exact FY _ hlt
 have keep:∀ b o',s'.heap.get? b=some o'->b≠a->(((h₁.push TB).update a (Eu (·.setIfInBounds 1 (Du h₁.objs.size)))).get? b=some o' ∨
   (H' b=none/\C.h0.get? b=none/\(∃ es ep,o'.data = .dict es ep) /\ ∃ sl,((h₁.push TB).update a (Eu (·.setIfInBounds 1 (Du h₁.objs.size)))).get? b=some { o' with slots:=sl })):=fun b o' hb hba=>by
  rw[EN _ _ (E9 hba)]
  by_cases m:b∈(fenv::outer).filterMap (·.frame)
  ·obtain ⟨n,z,o'',es,ep,g,d⟩:=hl.mem m
   rw[hb] at g;cases g
   refine aF (hs₁.2.2 b o' hb) fun sl w=>?_
   exact .inr ⟨n,z,⟨es,ep,d⟩,sl,Dv _ w⟩
  ·exact .inl (Dv _ ((hs₁.2.1 b m).trans hb))
 have z:Step C (· = a) H' s' H' { s' with heap:=(h₁.push TB).update a (Eu (·.setIfInBounds 1 (Du h₁.objs.size))) }:=by
  refine Step.records st.rel st.top (fun b q=>?_) (fun b o' hb hba=>keep b o' hb hba) (fun b o' hb q=>?_) rfl rfl
  ·subst q;exact bY ht new
  ·subst q
   rw[ho] at hb;cases hb
   exact ⟨_,vs,_,ho₃,hd,hd₃,⟨Gh ..,e7 ..⟩,by rw[hc];exact Value.noConfusion,by simp⟩
 refine hQ _ ?_ (fun b o' hb=>?_) (fun X sx hx=>sx c H' s' _ _ z (fun b ob q e=>by subst q;rw[ho] at e;cases e;exact ⟨vs,hd⟩) hx) ⟨new,_,_,r,ho₃,(Gh ..).trans hc,⟨hg.1,(e7 ..).trans hg.2⟩,hd₃,by simpa using hsz,h2.keep z.vk.s (by simp),.inr ⟨h₁.objs.size,TB,_,by simp[hsz],hTs,hne,hT₃,hTBc,hTBd.choose_spec.1,hTBd.choose_spec.2⟩⟩
 ·exact st.trans_new z (fun b q=>by subst q;exact new) hD
 ·by_cases q:b=a
  ·subst q;exact ⟨_,ho₃⟩
  ·rcases keep b o' hb q with w | ⟨_,_,_,_,w⟩ <;> exact ⟨_,w⟩
theorem tM (sx:ly C X)(t0:C.h0.StaysIn s.heap)(hfr:A.frames=some (fenv::outer))(hff:fenv.frame=env.frame)(hlo:∀ H':MH,∀ s':Shared,Step C D H s H' s'->iK C H' s'.heap (fenv::outer))(x:XG false C D H s X e s'){Q:Unit->Shared->Prop}(hQ:∀ s'',XG true C D H s X e s''->Q () s''):wpAny C.M A (noteFrame e env) Q E s':=by
 refine Dy (Q:=fun zz s''=>XG true C D H s X e s'') (E:=E) ?_ (fun zz s'' h=>hQ s'' h) fun zz zz h=>h
 refine cR x fun a c H' hr185_3 st hD ho185_6 hX=>?_
 try clear x
 subst hr185_3
 obtain ⟨new,o,vs,r,ho,hc,hg,hd,hsz,h2,hT⟩:=ho185_6
 have hl:=hlo H' s' st
 obtain ⟨_,L,_,_,_,hf',_⟩:=hl fenv (.head _)
 have hf:env.frame=some L:=hff ▸ hf'
 unfold noteFrame
 simp -iota only[hf]
 rcases hT with ⟨_,h1⟩ | ⟨T,oT,ts,h1,newT,hTa,hoT,hcT,hdT,hszT⟩
 ·refine Dq (EG ho hd h1 ?_)
  rw[if_neg (by decide)]
  refine oM hfr hff hl hf t0 st hD new ho hc hg hd hsz h2 fun h' st' kp kx fl=>⟨a,c,H',rfl,st',fun b db=>let ⟨o,w⟩:=hD b db;kp b o w,fl,kx X sx hX⟩
 ·refine Dq (EG ho hd h1 ?_)
  rw[if_pos (show (Du T != DJ)=true from by simp -iota)]
  refine Dq (EG hoT hdT (x:=ts[3]) (by simp -iota [hszT]) ?_)
  by_cases q:(ts[3]==rawInt L)=true
  ·rw[if_pos q]
   exact wpAny_pure ⟨a,c,H',rfl,st,hD,⟨new,o,vs,r,ho,hc,hg,hd,hsz,h2,.inr ⟨T,oT,ts,h1,newT,hTa,hoT,hcT,hdT,hszT⟩⟩,hX⟩
  ·rw[if_neg q]
   have hdT':=Obj.data_mapFields hdT (·.setIfInBounds 3 DJ)
   have hoT':=Ew (Eu (·.setIfInBounds 3 DJ)) hoT (HE hdT')
   have oth:∀ b,b≠T->(s'.heap.update T (Eu (·.setIfInBounds 3 DJ))).get? b=s'.heap.get? b:=fun b hb=>EN _ _ (E9 hb)
   refine Dq (Gb hoT hdT hszT ?_)
   have z:Step C (· = T) H' s' H' { s' with heap:=s'.heap.update T (Eu (·.setIfInBounds 3 DJ)) }:=by
    refine Step.records st.rel st.top (fun b q=>?_) (fun b o' hb hba=>.inl ((oth b hba).trans hb)) (fun b o' hb q=>?_) rfl rfl
    ·subst q;exact bY t0 newT
    ·subst q
     rw[hoT] at hb;cases hb
     exact ⟨_,ts,_,hoT',hdT,hdT',⟨Gh ..,e7 ..⟩,by rw[hcT];simp -iota,by simp -iota⟩
   have st':=st.trans_new z (fun b q=>by subst q;exact newT) hD
   have ex:∀ b o',s'.heap.get? b=some o' -> ∃ o'',(s'.heap.update T (Eu (·.setIfInBounds 3 DJ))).get? b=some o'':=fun b o' hb=>by
    by_cases q:b=T
    ·subst q;exact ⟨_,hoT'⟩
    ·exact ⟨o',(oth b q).trans hb⟩
   refine oM hfr hff (hlo H' _ st') hf t0 st' (fun b db=>let ⟨o,w⟩:=hD b db;ex b o w) new ((oth a (E9 hTa)).trans ho) hc hg hd hsz (h2.keep z.vk.s rfl) fun h' st'' kp kx fl=>⟨a,c,H',rfl,st'',fun b db=>let ⟨o,w⟩:=hD b db;let ⟨o',w'⟩:=ex b o w;kp b o' w',fl,kx X sx (sx c H' s' _ _ z (fun b ob q e=>by subst q;rw[hoT] at e;cases e;exact ⟨ts,hdT⟩) hX)⟩
theorem ji {fr:Option Addr}{Q:Unit->Shared->Prop}(sx:ly C X)(t0:C.h0.StaysIn s.heap)(x:XG true C D H s X e s')(hQ:∀ s'',XG true C D H s X e s''->Q () s''):wpAny C.M A (setFlight e fr) Q E s':=by
 refine cR x fun a c H' hr221_3 st hD ho221_6 hX=>?_
 try clear x
 subst hr221_3
 obtain ⟨new,o,vs,r,ho,hc,hg,hd,hsz,h2,hT⟩:=ho221_6
 rcases hT with ⟨q,_⟩ | ⟨T,oT,ts,h1,newT,hTa,hoT,hcT,hdT,hszT⟩
 ·cases q
 unfold setFlight
 refine Dq (EG ho hd h1 ?_)
 rw[if_pos (show (Du T != DJ)=true from by simp)]
 generalize (fr.elim DJ fun f=>rawInt f)=fv
 have hdT':=Obj.data_mapFields hdT (·.setIfInBounds 3 fv)
 have hoT':=Ew (Eu (·.setIfInBounds 3 fv)) hoT (HE hdT')
 have oth:∀ b,b≠T->(s'.heap.update T (Eu (·.setIfInBounds 3 fv))).get? b=s'.heap.get? b:=fun b hb=>EN _ _ (E9 hb)
 refine Gb hoT hdT hszT ?_
 have z:Step C (· = T) H' s' H' { s' with heap:=s'.heap.update T (Eu (·.setIfInBounds 3 fv)) }:=by
  refine Step.records st.rel st.top (fun b q=>?_) (fun b o' hb hba=>.inl ((oth b hba).trans hb)) (fun b o' hb q=>?_) rfl rfl
  ·subst q;exact bY t0 newT
  ·subst q
   rw[hoT] at hb;cases hb
   exact ⟨_,ts,_,hoT',hdT,hdT',⟨Gh ..,e7 ..⟩,by rw[hcT];simp,by simp⟩
 refine hQ _ ⟨a,c,H',rfl,st.trans_new z (fun b q=>by subst q;exact newT) hD,fun b db=>?_,⟨new,o,vs,r,(oth a (E9 hTa)).trans ho,hc,hg,hd,hsz,h2.keep z.vk.s rfl,.inr ⟨T,_,_,h1,newT,hTa,hoT',(Gh ..).trans hcT,hdT',by simpa using hszT⟩⟩,sx c H' s' _ _ z (fun b ob q e=>by subst q;rw[hoT] at e;cases e;exact ⟨ts,hdT⟩) hX⟩
 refine aF (hD b db) fun ob w=>?_
 by_cases q:b=T
 ·subst q;exact ⟨_,hoT'⟩
 ·exact ⟨ob,(oth b q).trans w⟩
theorem pG {d:Md}(sx:ly C X)(ok:Ok C d H A s)(x:XG true C D H s X e s'):Ho C.M A env (XG true C D H s X) e s':=by
 refine cR (id x) fun a c H' hr245_3 st hD fl hX=>?_
 subst hr245_3
 obtain ⟨new,o,vs,r,ho,hc,hg,hd,hsz,h2,hT⟩:=id fl
 rcases hT with ⟨q,_⟩ | ⟨T,oT,ts,h1,newT,hTa,hoT,hcT,hdT,hszT⟩
 ·cases q
 unfold Ho
 refine Dq (EG ho hd h1 ?_)
 rw[if_neg (show ¬ (Du T==DJ)=true from by simp)]
 exact ji sx ok.top x fun s'' x'=>x'
theorem BC {d:Md}(sx:ly C X)(ok:Ok C d H A s)(hfr:A.frames=some (fenv::outer))(hff:fenv.frame=env.frame)(hlo:∀ H':MH,∀ s':Shared,Step C D H s H' s'->iK C H' s'.heap (fenv::outer))(x:XG false C D H s X e s')
  {Q:Unit->Shared->Prop} (hQ:∀ s'',XG true C D H s X e s''->Q () s''):wpAny C.M A (leaving env e) Q E s':=by
 unfold leaving
 exact Dq (tM sx ok.top hfr hff hlo x fun s₁ x₁=>ji sx ok.top x₁ hQ)
theorem wF {d:Md}(sx:ly C X)(ok:Ok C d H A s)(hfr:A.frames=some (fenv::outer))(hff:fenv.frame=env.frame)(hlo:∀ H':MH,∀ s':Shared,Step C D H s H' s'->iK C H' s'.heap (fenv::outer))(x:XG false C D H s X e s'):G0 C.M A env (XG true C D H s X) e s' :=
 tM sx ok.top hfr hff hlo x fun zz h=>h
theorem od {d:Md}{α:Type}{what:String}{Q:α->Shared->Prop}(sx:ly C X)(ok:Ok C d H A s)(x:XG true C D H s X e s')(hE:∀ s'',XG true C D H s X e s''->E e s''):wpAny C.M A (passOn what e env:Sem α) Q E s':=by
 refine cR (id x) fun a c H' hr263_3 st hD fl hX=>?_
 subst hr263_3
 obtain ⟨new,o,vs,r,ho,hc,hg,hd,hsz,h2,hT⟩:=id fl
 rcases hT with ⟨q,_⟩ | ⟨T,oT,ts,h1,newT,hTa,hoT,hcT,hdT,hszT⟩
 ·cases q
 unfold passOn
 refine Dq (EG ho hd h1 ?_)
 rw[if_neg (show ¬ (Du T==DJ)=true from by simp)]
 exact Dq (ji sx ok.top x fun s'' x'=>wpAny_throw (hE s'' x'))
end
end
section
open PySem
inductive Ex where
 | nm (i:Nat)
 | gl (x:String)
 | ci (i:Int)
 | cs (s:String)
 | cb (b:Bool)
 | cn
 | bin (op:Gg) (l r:Ex)
 | una (op:Hq) (e:Ex)
 | cmp (op:FO) (l r:Ex)
 | cmp2 (op op':FO) (l m r:Ex)
 | bop (op:EY) (es:List Ex)
 | ife (c a b:Ex)
 | lst (es:List Ex)
 | tup (es:List Ex)
 | emp (k:Nat)
 | dct (ks:List String) (es:List Ex)
 | sub (o i:Ex)
 | sli (o l u t:Ex)
 | call (f:String) (es:List Ex)
 | meth (o:Ex) (m:String) (es:List Ex)
 | att (o:Ex) (a:String)
 | comp (k:Nat) (elt it:Ex) (ifs:List Ex)
 deriving Inhabited
inductive Src where
 | pl (e:Ex)
 | en (e:Ex)
 | zp (a b:Ex)
 deriving Inhabited
inductive St where
 | asg (i:Nat) (e:Ex)
 | unp (is:List Nat) (e:Ex)
 | seti (o i e:Ex)
 | seta (o:Ex) (a:String) (e:Ex)
 | exp (e:Ex)
 | ret (e:Ex)
 | ife (c:Ex) (a b:List St)
 | for (k:List Nat) (it:Src) (body:List St)
 | whl (c:Ex) (body:List St)
 | rais (c:String) (msg:String)
 | tre (body:List St) (c:String) (as:Option Nat) (hb:List St) (el:List St)
 | pas
 | fz (i j:Nat) (a b:Ex) (body:List St)
 | trr (body:List St) (c c2 m:String)
 deriving Inhabited
noncomputable abbrev Lo:=List (Option V)
noncomputable def lk:Lo->Nat->Option V
 | [],_=>none
 | x::_,0=>x
 | _::r,i+1=>lk r i
noncomputable def ls:Lo->Nat->V->Lo
 | [],_,_=>[]
 | _::r,0,v=>some v::r
 | x::r,i+1,v=>x::ls r i v
theorem kB:∀ (r:Lo) (i:Nat) (v:V),(ls r i v).length=r.length
 | [],_,_=>rfl
 | _::_,0,_=>rfl
 | _::r,i+1,v=>by simp[ls,kB r i v]
theorem ik:∀ {r:Lo} {i j:Nat} {v:V},i≠j->lk (ls r i v) j=lk r j
 | [],_,_,_,_=>rfl
 | _::_,0,0,_,h=>(h rfl).elim
 | _::_,0,_+1,_,_=>rfl
 | _::_,_+1,0,_,_=>rfl
 | _::r,i+1,j+1,v,h=>by simpa [ls,lk] using ik (r:=r) (v:=v) fun e=>h (by rw[e])
theorem jE:∀ {r:Lo} {i:Nat} {v w:V},lk (ls r i v) i=some w->v=w
 | [],_,_,_,h=>by simp[ls,lk] at h
 | _::_,0,_,_,h=>by simpa [ls,lk] using h
 | _::r,i+1,v,w,h=>by simp[ls,lk] at h;exact jE h
theorem iT:∀ {r t:Lo} {i:Nat},lk (r++t) (r.length+i)=lk t i
 | [],_,_=>by simp
 | _::r,t,i=>by rw[List.cons_append,E7,show r.length+1+i=(r.length+i)+1 by exact cy (ae [r.length,i] [(.a (.a 11 1) 111,.a (.a 0 1) 111)] rfl) (ae [r.length,i] [(.a (.a (.a 0 1) 111) 111,.a 11 1)] rfl)];simpa [lk] using iT (r:=r)
theorem fX:∀ {r t:Lo} {i:Nat},i<r.length->lk (r++t) i=lk r i
 | [],_,_,h=>by simp at h
 | _::_,_,0,_=>rfl
 | _::r,t,i+1,h=>by simpa [lk] using fX (r:=r) (t:=t) (i:=i) (by simpa using h)
noncomputable def dB (a b c:Int):List V:=(DU (DV a b c).toNat).map fun (k:Nat)=>V.int (a+(k:Int)*c)
noncomputable def aS (H:MH):V->Option (List V)
 | .ref a=>(match H a with | some (.lst l)=>some l | some (.fro l)=>some l | _=>none)
 | .tup l=>some l
 | .rng a b c=>some (dB a b c)
 | .str x=>some (x.cps.toList.map fun c=>V.str ⟨#[c]⟩)
 | _=>none
section
variable (C:Cx)(d:Md)
noncomputable def QP (H:MH) (s:Shared) (Q:V->MH->Prop) (v:Value) (s':Shared):Prop:=∃ r H',Step C No H s H' s'/\VR C s'.heap r v/\Q r H'
noncomputable def fQ (op:Gg) (a b:V) (H:MH) (Q:V->MH->Prop) (X:XP):Prop :=
 ∀ A s ca cb,Ok C d H A s->VR C s.heap a ca->VR C s.heap b cb->wpAny C.M A (binaryOp op ca cb) (QP C H s Q) (XQ false C No H s X) s
noncomputable def bX (op:FO) (a b:V) (H:MH) (Q:V->MH->Prop) (X:XP):Prop :=
 ∀ A s ca cb,Ok C d H A s->VR C s.heap a ca->VR C s.heap b cb->wpAny C.M A (compareOp op ca cb) (QP C H s Q) (XQ false C No H s X) s
noncomputable def pp (op:Hq) (a:V) (H:MH) (Q:V->MH->Prop) (X:XP):Prop :=
 ∀ A s ca,Ok C d H A s->VR C s.heap a ca->wpAny C.M A (unaryOp op ca) (QP C H s Q) (XQ false C No H s X) s
noncomputable def eI (a:V) (H:MH) (Q:Bool->MH->Prop) (X:XP):Prop :=
 ∀ A s ca,Ok C d H A s->VR C s.heap a ca->wpAny C.M A (truthy ca) (fun b s'=>∃ H',Step C No H s H' s'/\Q b H') (XQ false C No H s X) s
noncomputable def fR (o i:V) (H:MH) (Q:V->MH->Prop) (X:XP):Prop :=
 ∀ A s co ci,Ok C d H A s->VR C s.heap o co->VR C s.heap i ci ->
  wpAny C.M A (getitemInPython co) (fun b s'=>b=false/\s'=s) (fun zz zz=>False) s/\wpAny C.M A (getItem co ci) (QP C H s Q) (XQ false C No H s X) s
noncomputable def s_ (o l u t:V) (H:MH) (Q:V->MH->Prop) (X:XP):Prop :=
 ∀ A s co cl cu ct q,Ok C d H A s->VR C s.heap o co->VR C s.heap l cl->VR C s.heap u cu->VR C s.heap t ct->s.heap.get? q=some { cls:=.type "slice",data:=.fields #[cl,cu,ct] } ->
  wpAny C.M A (getitemInPython co) (fun b s'=>b=false/\s'=s) (fun zz zz=>False) s/\wpAny C.M A (getItem co (.ref q)) (QP C H s Q) (XQ false C No H s X) s
noncomputable def fm (fv:Value):Prop:=∀ A s (Q:Keeper->Shared->Prop) (E:Value->Shared->Prop),C.h0.StaysIn s.heap->(∀ k,Q k s)->wpAny C.M A (keeperOf fv) Q E s
noncomputable def bn (fv:Value) (args:List V) (H:MH) (Q:V->MH->Prop) (X:XP):Prop :=
 ∀ A s cargs,Ok C d H A s->aJ C s.heap args cargs->wpAny C.M A (call fv cargs) (QP C H s Q) (XQ false C No H s X) s
noncomputable def Fn (f:String):Prop:=∃ fv,C.G f fv/\fm C fv
noncomputable def bB (f:String) (args:List V) (H:MH) (Q:V->MH->Prop) (X:XP):Prop:=∀ fv,C.G f fv->bn C d fv args H Q X
noncomputable def j_ (o:V) (m:String) (fv:Value) (H:MH):Prop :=
 ∀ A s co pl (Q:Value × List Value->Shared->Prop) (E:Value->Shared->Prop),Ok C d H A s->VR C s.heap o co->Q (fv,[co]) s->wpAny C.M A (getMethod co (Dn m) pl) Q E s
noncomputable def v3 (o:V) (a:String) (H:MH) (Q:V->MH->Prop) (X:XP):Prop :=
 ∀ A s co,Ok C d H A s->VR C s.heap o co->wpAny C.M A (getAttr co (Dn a) true) (QP C H s Q) (XQ false C No H s X) s
noncomputable def k6 (o i v:V) (H:MH) (Q:MH->Prop) (X:XP):Prop :=
 ∀ A s co ci cv,Ok C d H A s->VR C s.heap o co->VR C s.heap i ci->VR C s.heap v cv->wpAny C.M A (setItem co ci cv) (fun zz s'=>∃ H',Step C No H s H' s'/\Q H') (XQ false C No H s X) s
noncomputable def s9 (o:V) (a:String) (v:V) (H:MH) (Q:MH->Prop) (X:XP):Prop :=
 ∀ A s co cv,Ok C d H A s->VR C s.heap o co->VR C s.heap v cv->wpAny C.M A (setAttr co (Dn a) cv) (fun zz s'=>∃ H',Step C No H s H' s'/\Q H') (XQ false C No H s X) s
noncomputable def zx (ks:List String) (vs:List V) (H:MH) (Q:V->MH->Prop):Prop :=
 ks.length=vs.length/\vs.length<=16/\(ks.map Dn).Nodup /\ ∀ a,H a=none->Q (.ref a) (an H a (.dcs ((ks.map Dn).zip vs)))
noncomputable def BV (k:Nat) (H:MH) (Q:V->MH->Prop):Prop:=∀ a,H a=none->Q (.ref a) (an H a (match k with | 0=>.dci [] | 1=>.dcs [] | _=>.prd (eK [])))
noncomputable def sZ (vs:List V) (H:MH) (Q:V->MH->Prop):Prop:=vs.length<=Dz /\ ∀ a,H a=none->Q (.ref a) (an H a (.lst vs))
noncomputable def zC (vs:List V) (H:MH) (Q:V->MH->Prop):Prop:=vs.length<=Dz/\Q (.tup vs) H
noncomputable def gM (d:Md) (iv:V):Prop:=(d.q=true ∨ (∃ a,iv = .ref a) ∨ ∃ l,iv = .tup l)/\(∀ a b c,iv = .rng a b c->DX.Range.small a b c=true)
noncomputable def parts (k:Nat) (x:V):Option (List V) :=
 if k=1 then some [x] else match x with
  | .tup l=>if l.length=k then some l else none
  | _=>none
noncomputable def jr (k:Nat) (iv:V) (all:List V) (stp:List V->MH->(Option V->MH->Prop)->Prop):List V->List V->MH->(List V->MH->Prop)->Prop
 | [],acc,H,K=>aS H iv=some all/\K acc H
 | x::xs,acc,H,K=>aS H iv=some all /\ ∃ vs,parts k x=some vs/\stp vs H (fun r H'=>jr k iv all stp xs (match r with | some v=>acc ++ [v] | none=>acc) H' K)
noncomputable abbrev WE:=Lo->MH->(V->MH->Prop)->XP->Prop
noncomputable abbrev WT:=Lo->MH->(Bool->MH->Prop)->XP->Prop
structure WX where
 e:WE
 t:WT
noncomputable def CZ (E:WE):WT:=fun ρ H P X=>E ρ H (fun v H1=>eI C d v H1 P X) X
noncomputable def dx (E:WE):WX:=⟨E,CZ C d E⟩
noncomputable def rf:List WX->Lo->MH->(List V->MH->Prop)->XP->Prop
 | [],_,H,Q,_=>Q [] H
 | e::es,ρ,H,Q,X=>e.e ρ H (fun v H1=>rf es ρ H1 (fun vs H2=>Q (v::vs) H2) X) X
noncomputable def xB (op:EY):List WX->WE
 | [],_,_,_,_=>False
 | e::es,ρ,H,Q,X=>match es with
  | []=>e.e ρ H Q X
  | _::_=>e.e ρ H (fun v H1=>eI C d v H1 (fun t H2=>if (op = .And/\t=false) ∨ (op = .Or/\t=true) then Q v H2 else xB op es ρ H2 Q X) X) X
noncomputable def xA (op:EY):List WX->WT
 | [],_,H,Q,_=>Q (decide (op = .And)) H
 | e::es,ρ,H,Q,X=>e.t ρ H (fun t H1=>if (op = .And/\t=false) ∨ (op = .Or/\t=true) then Q t H1 else xA op es ρ H1 Q X) X
noncomputable def Bn:List WX->WT
 | [],_,H,Q,_=>Q true H
 | e::es,ρ,H,Q,X=>e.t ρ H (fun t H1=>if t=true then Bn es ρ H1 Q X else Q false H1) X
mutual
noncomputable def dw:Ex->WX
 | .nm i=>dx C d fun ρ H Q zz=>∃ v,lk ρ i=some v/\Q v H
 | .gl x=>dx C d fun zz H Q zz=>∃ v cv,C.G x cv/\VR C C.h0 v cv/\Q v H
 | .ci i=>dx C d fun zz H Q zz=>Q (.int i) H
 | .cs s=>dx C d fun zz H Q zz=>Q (.str (Dn s)) H
 | .cb b=>dx C d fun zz H Q zz=>Q (.bool b) H
 | .cn=>dx C d fun zz H Q zz=>Q .none H
 | .bin op l r=>dx C d fun ρ H Q X=>(dw l).e ρ H (fun a H1=>(dw r).e ρ H1 (fun b H2=>fQ C d op a b H2 Q X) X) X
 | .una op e=>⟨fun ρ H Q X=>(dw e).e ρ H (fun a H1=>pp C d op a H1 Q X) X,match op with
   | .Not=>fun ρ H Q X=>(dw e).t ρ H (fun t H1=>Q (!t) H1) X
   | op=>fun ρ H Q X=>(dw e).e ρ H (fun a H1=>pp C d op a H1 (fun v H1=>eI C d v H1 Q X) X) X⟩
 | .cmp op l r=>dx C d fun ρ H Q X=>(dw l).e ρ H (fun a H1=>(dw r).e ρ H1 (fun b H2=>bX C d op a b H2 Q X) X) X
 | .cmp2 op op' l m r=>⟨fun ρ H Q X=>(dw l).e ρ H (fun a H1=>(dw m).e ρ H1 (fun b H2=>bX C d op a b H2 (fun c H3=>eI C d c H3 (fun t H4=>
   if t=true then (dw r).e ρ H4 (fun b' H5=>bX C d op' b b' H5 Q X) X else Q c H4) X) X) X) X,
   fun ρ H Q X=>(dw l).e ρ H (fun a H1=>(dw m).e ρ H1 (fun b H2=>bX C d op a b H2 (fun c H3=>eI C d c H3 (fun t H4=>
   if t=true then (dw r).e ρ H4 (fun b' H5=>bX C d op' b b' H5 (fun c' H6=>eI C d c' H6 Q X) X) X else Q false H4) X) X) X) X⟩
 | .bop op es=>⟨xB C d op (gm es),xA op (gm es)⟩
 | .ife c a b=>⟨fun ρ H Q X=>(dw c).t ρ H (fun t H1=>if t=true then (dw a).e ρ H1 Q X else (dw b).e ρ H1 Q X) X,
   fun ρ H Q X=>(dw c).t ρ H (fun t H1=>if t=true then (dw a).t ρ H1 Q X else (dw b).t ρ H1 Q X) X⟩
 | .lst es=>dx C d fun ρ H Q X=>rf (gm es) ρ H (fun vs H1=>sZ vs H1 Q) X
 | .tup es=>dx C d fun ρ H Q X=>rf (gm es) ρ H (fun vs H1=>zC vs H1 Q) X
 | .emp k=>dx C d fun zz H Q zz=>BV k H Q
 | .dct ks es=>dx C d fun ρ H Q X=>rf (gm es) ρ H (fun vs H1=>zx ks vs H1 Q) X
 | .sub o i=>dx C d fun ρ H Q X=>(dw o).e ρ H (fun a H1=>(dw i).e ρ H1 (fun b H2=>fR C d a b H2 Q X) X) X
 | .sli o l u t=>dx C d fun ρ H Q X=>(dw o).e ρ H (fun a H1=>(dw l).e ρ H1 (fun b H2=>(dw u).e ρ H2 (fun c H3=>(dw t).e ρ H3 (fun e H4=>s_ C d a b c e H4 Q X) X) X) X) X
 | .call f es=>dx C d fun ρ H Q X=>Fn C f/\rf (gm es) ρ H (fun vs H1=>bB C d f vs H1 Q X) X
 | .meth o m es=>dx C d fun ρ H Q X=>(dw o).e ρ H (fun ov H1=>∃ fv,j_ C d ov m fv H1/\fm C fv/\rf (gm es) ρ H1 (fun vs H2=>bn C d fv (ov::vs) H2 Q X) X) X
 | .att o a=>dx C d fun ρ H Q X=>(dw o).e ρ H (fun ov H1=>v3 C d ov a H1 Q X) X
 | .comp k elt it ifs=>dx C d fun ρ H Q X=>(dw it).e ρ H (fun iv H1=>∃ all,gM d iv/\aS H1 iv=some all/\all.length<=Dz /\
   jr k iv all (fun vs H2 Q'=>Bn (gm ifs) (ρ++vs.map some) H2 (fun t H3=>if t=true then (dw elt).e (ρ++vs.map some) H3 (fun v H4=>Q' (some v) H4) X else Q' none H3) X) all [] H1
    (fun vs H2=>sZ vs H2 Q)) X
noncomputable def gm:List Ex->List WX
 | []=>[]
 | e::es=>dw e::gm es
end
noncomputable def aU (e:Ex):WE:=(dw C d e).e
noncomputable def dH (e:Ex):WT:=(dw C d e).t
noncomputable def dq (es:List Ex):Lo->MH->(List V->MH->Prop)->XP->Prop:=rf (gm C d es)
noncomputable def j8 (op:EY) (es:List Ex):WE:=xB C d op (gm C d es)
noncomputable def iH (op:EY) (es:List Ex):WT:=xA op (gm C d es)
noncomputable def gL (es:List Ex):WT:=Bn (gm C d es)
end
end
section
open PySem
inductive Fl where
 | next
 | ret (v:V)
inductive Sv where
 | pl (v:V)
 | en (v:V)
 | zp (a b:V)
noncomputable def e8:Nat->List V->List V
 | _,[]=>[]
 | n,x::xs=>.tup [.int n,x]::e8 (n+1) xs
noncomputable def Bt:List V->List V->List V
 | x::xs,y::ys=>.tup [x,y]::Bt xs ys
 | _,_=>[]
noncomputable def cz (H:MH):Sv->Option (List V)
 | .pl v=>aS H v
 | .en v=>(match v with | .ref _=>(aS H v).map (e8 0) | _=>none)
 | .zp a b=>(match a,b with
  | .ref _,.ref _=>(match aS H a,aS H b with | some l,some m=>some (Bt l m) | _,_=>none)
  | _,_=>none)
noncomputable def j1:Lo->List Nat->List V->Lo
 | ρ,i::is,v::vs=>j1 (ls ρ i v) is vs
 | ρ,_,_=>ρ
noncomputable abbrev KP:=Fl->Lo->MH->Prop
noncomputable abbrev XS:=String->Lo->MH->Prop
noncomputable def iY (k:List Nat) (sv:Sv) (all:List V) (stp:Lo->MH->KP->Prop):List V->Lo->MH->KP->Prop
 | [],ρ,H,K=>cz H sv=some all/\K .next ρ H
 | x::xs,ρ,H,K=>cz H sv=some all /\ ∃ vs,parts k.length x=some vs/\stp (j1 ρ k vs) H (fun f ρ' H'=>match f with
   | .next=>iY k sv all stp xs ρ' H' K
   | .ret v=>K (.ret v) ρ' H')
noncomputable def Cg (d:Md):Sv->Prop
 | .pl v=>gM d v
 | .en v=>d.q=true/\gM d v
 | .zp a b=>gM d a/\gM d b
section
variable (C:Cx)(d:Md)
noncomputable def nM (c:String) (H:MH) (X:XP):Prop :=
 ∀ A s msg,Ok C d H A s -> ∀ (env:Env) pos pos' npos cpos k,env.kindOf (Dn c)=some .globalImplicit->env.scope.kind = .function->env.globals=E4->env.builtins=Hp ->
  wpAny C.M A (exec (.Raise (some (.Call (.Name (Dn c) npos) [.Constant (.str msg) k cpos] [] pos')) none pos) env) (fun zz zz=>False) (XQ false C No H s X) s
noncomputable def Db (c:String) (H:MH) (X:XP):Prop :=
 ∀ A s msg b ob vs r,Ok C d H A s->(A.handled=some (.ref b)/\s.heap.get? b=some ob/\ob.cls = .ref r/\ob.data = .fields vs/\vs[2]? = some .none) -> ∀ (env:Env) pos pos' npos cpos k,env.kindOf (Dn c)=some .globalImplicit->env.scope.kind = .function->env.globals=E4->env.builtins=Hp ->
  wpAny C.M A (exec (.Raise (some (.Call (.Name (Dn c) npos) [.Constant (.str msg) k cpos] [] pos')) none pos) env) (fun zz zz=>False) (XQ false C No H s X) s
noncomputable def rd:Src->Lo->MH->(Sv->MH->Prop)->XP->Prop
 | .pl e,ρ,H,Q,X=>aU C d e ρ H (fun v H1=>Q (.pl v) H1) X
 | .en e,ρ,H,Q,X=>C.G "enumerate" (.type "enumerate")/\aU C d e ρ H (fun v H1=>Q (.en v) H1) X
 | .zp _ _,_,_,_,_=>False
noncomputable def oR (tst:Lo->MH->(Bool->MH->Prop)->Prop) (stp:Lo->MH->KP->Prop):Nat->Lo->MH->KP->Prop
 | 0,_,_,_=>False
 | n+1,ρ,H,K=>tst ρ H (fun t H1=>if t=true then stp ρ H1 (fun f ρ' H'=>match f with
   | .next=>oR tst stp n ρ' H' K
   | .ret v=>K (.ret v) ρ' H') else K .next ρ H1)
noncomputable def B2:V->Bool
 | .int _=>true
 | _=>false
noncomputable def tB:V->Bool
 | .tup l=>l.all B2
 | .exc _=>false
 | _=>true
noncomputable def tC (ρ:Lo):Prop:=∀ i v,lk ρ i=some v->tB v=true
noncomputable def C4 (stp:Lo->MH->KP->Prop) (f:Addr) (i j:Nat):List V->List V->Lo->List V->(Lo->List V->Prop)->Prop
 | [],_,ρ,acc,K=>(tC ρ/\acc.all tB=true)/\K ρ acc
 | _::_,[],ρ,acc,K=>(tC ρ/\acc.all tB=true)/\K ρ acc
 | x::xs,y::ys,ρ,acc,K=>(tC ρ/\acc.all tB=true) /\ ∀ Hz:MH,Hz f=some (.lst acc) ->
   stp (j1 ρ [i,j] [x,y]) Hz (fun fl ρ' H'=>match fl with
    | .next=>(∀ a,a≠f->(Hz a).isSome=true->H' a=Hz a) /\ ∃ acc',H' f=some (.lst acc')/\C4 stp f i j xs ys ρ' acc' K
    | .ret _=>False)
noncomputable def pg (c h:String) (b:Bool):Prop :=
 (∃ rh,C.G h (.ref rh)) /\ ∀ A s a o r rh,C.h0.StaysIn s.heap->s.heap.get? a=some o->o.cls = .ref r->C.G c (.ref r)->C.G h (.ref rh) -> ∀ (Q:Bool->Shared->Prop) (E:Value->Shared->Prop),Q b s->wpAny C.M A (excMatches (.ref a) (.ref rh)) Q E s
noncomputable def Md.in (d:Md):Md:=⟨d.n,false⟩
noncomputable def zI (as:Option Nat) (ρ:Lo) (c:String):Lo:=match as with | none=>ρ | some i=>ls ρ i (.exc c)
noncomputable def xJ (as:Option Nat) (ρ:Lo):Lo:=match as with | none=>ρ | some i=>ρ.set i none
end
section
variable (C:Cx)
mutual
noncomputable def dG:Md->St->Lo->MH->KP->XS->Prop
 | d,.asg i e,ρ,H,K,X=>aU C d e ρ H (fun v H1=>K .next (ls ρ i v) H1) (fun c H1=>X c ρ H1)
 | d,.unp is e,ρ,H,K,X=>aU C d e ρ H (fun v H1=>∃ l,v = .tup l/\gM d v/\l.length=is.length/\K .next (j1 ρ is l) H1) (fun c H1=>X c ρ H1)
 | d,.seti o i e,ρ,H,K,X=>aU C d e ρ H (fun v H1=>aU C d o ρ H1 (fun ov H2=>aU C d i ρ H2 (fun iv H3=>k6 C d ov iv v H3 (fun H4=>K .next ρ H4) (fun c H1=>X c ρ H1)) (fun c H1=>X c ρ H1)) (fun c H1=>X c ρ H1)) (fun c H1=>X c ρ H1)
 | d,.seta o a e,ρ,H,K,X=>aU C d e ρ H (fun v H1=>aU C d o ρ H1 (fun ov H2=>s9 C d ov a v H2 (fun H4=>K .next ρ H4) (fun c H1=>X c ρ H1)) (fun c H1=>X c ρ H1)) (fun c H1=>X c ρ H1)
 | d,.exp e,ρ,H,K,X=>aU C d e ρ H (fun zz H1=>K .next ρ H1) (fun c H1=>X c ρ H1)
 | d,.ret e,ρ,H,K,X=>aU C d e ρ H (fun v H1=>K (.ret v) ρ H1) (fun c H1=>X c ρ H1)
 | d,.ife c a b,ρ,H,K,X=>dH C d c ρ H (fun t H1=>if t=true then aM d a ρ H1 K X else aM d b ρ H1 K X) (fun c H1=>X c ρ H1)
 | d,.for k src body,ρ,H,K,X=>rd C d src ρ H (fun sv H1=>∃ all,Cg d sv/\cz H1 sv=some all/\iY k sv all (fun ρ' H' K'=>aM d body ρ' H' K' X) all ρ H1 K) (fun c H1=>X c ρ H1)
 | d,.whl c body,ρ,H,K,X=>∃ n,oR (fun ρ' H' Q=>dH C d c ρ' H' Q (fun c H1=>X c ρ' H1)) (fun ρ' H' K'=>aM d body ρ' H' K' X) n ρ H K
 | d,.rais c _,ρ,H,_,X=>nM C d c H (fun c H1=>X c ρ H1)
 | d,.tre body c as hb el,ρ,H,K,X=>aM d body ρ H (fun f ρ' H'=>match f with | .next=>aM d el ρ' H' K X | .ret v=>K (.ret v) ρ' H')
   (fun c' ρ' H'=>∃ b,pg C c' c b/\if b=true then aM d.in hb (zI as ρ' c') H' (fun f ρ2 H2=>K f (xJ as ρ2) H2) (fun zz zz zz=>False) else X c' ρ' H')
 | d,.pas,ρ,H,K,_=>K .next ρ H
 | _,.fz _ _ _ _ _,_,_,_,_=>False
 | _,.trr _ _ _ _,_,_,_,_=>False
noncomputable def aM:Md->List St->Lo->MH->KP->XS->Prop
 | _,[],ρ,H,K,_=>K .next ρ H
 | d,t::ts,ρ,H,K,X=>dG d t ρ H (fun f ρ' H'=>match f with
   | .next=>aM d ts ρ' H' K X
   | .ret v=>K (.ret v) ρ' H') X
end
end
inductive Vk where
 | loc | cel | hid
 deriving DecidableEq
noncomputable def aq (x:String):Str × Vk:=(Dn x,Vk.loc)
noncomputable def fj (x:String):Str × Vk:=(Dn x,Vk.cel)
noncomputable abbrev Vs:=List (Str × Vk)
noncomputable abbrev Ns:=List (Str × E1)
noncomputable def iF (vs:Vs) (i:Nat) (id:Str):Bool:=vs[i]? == some (id,Vk.loc)||vs[i]? == some (id,Vk.cel)
noncomputable def fT (ns:Ns) (x:String) (id:Str):Bool:=id==Dn x&&ns.lookup id==some .globalImplicit && !(id==("__debug__" : Str))
noncomputable def bK:Ns->Ns->Ns
 | [],_=>[]
 | (n,k)::r,outer=>(n,if k == .free&&outer.lookup n==some .cell then .cell else k)::bK r outer
noncomputable def bO (vs:Vs) (inner:Ns) (tg:List Str):Vs:=(vs.map fun (n,k)=>if k == .cel&&inner.lookup n==some .cell then (n,.cel) else (n,.hid))++tg.map fun n=>(n,.loc)
theorem bS {c:Prop}[Decidable c]{t:c->Bool}{G:Prop}(h:(if q:c then t q else false)=true)(k:∀ q,t q=true->G):G:=by
 by_cases q:c
 ·rw[dif_pos q] at h;exact k q h
 ·rw[dif_neg q] at h;cases h
noncomputable def lI (e:Expr) (f:Str->Pos->Bool):Bool:=if h:e.ctorIdx=23 then FN (motive_1:=fun zz=>Bool) e h f else false
theorem jJ {P:Expr->Prop}{e:Expr}{f:Str->Pos->Bool}(h:lI e f=true)(k:∀ a_ p_,f a_ p_=true->P (.Name a_ p_)):P e :=
 bS h fun q h=>FN (motive_1:=fun e=>∀ q,FN (motive_1:=fun zz=>Bool) e q f=true->P e) e q (fun a_ p_ zz h=>k a_ p_ h) q h
noncomputable def jI (e:Expr) (f:Const->Nat->Pos->Bool):Bool:=if h:e.ctorIdx=19 then Expr.Constant.elim (motive_1:=fun zz=>Bool) e h f else false
theorem qz {P:Expr->Prop}{e:Expr}{f:Const->Nat->Pos->Bool}(h:jI e f=true)(k:∀ c_ k_ p_,f c_ k_ p_=true->P (.Constant c_ k_ p_)):P e :=
 bS h fun q h=>Expr.Constant.elim (motive_1:=fun e=>∀ q,Expr.Constant.elim (motive_1:=fun zz=>Bool) e q f=true->P e) e q (fun c_ k_ p_ zz h=>k c_ k_ p_ h) q h
noncomputable def Aw (e:Expr) (f:Expr->Gg->Expr->Pos->Bool):Bool:=if h:e.ctorIdx=2 then Expr.BinOp.elim (motive_1:=fun zz=>Bool) e h f else false
theorem Ax {P:Expr->Prop}{e:Expr}{f:Expr->Gg->Expr->Pos->Bool}(h:Aw e f=true)(k:∀ l_ o_ r_ p_,f l_ o_ r_ p_=true->P (.BinOp l_ o_ r_ p_)):P e :=
 bS h fun q h=>Expr.BinOp.elim (motive_1:=fun e=>∀ q,Expr.BinOp.elim (motive_1:=fun zz=>Bool) e q f=true->P e) e q (fun l_ o_ r_ p_ zz h=>k l_ o_ r_ p_ h) q h
noncomputable def AX (e:Expr) (f:Hq->Expr->Pos->Bool):Bool:=if h:e.ctorIdx=3 then Expr.UnaryOp.elim (motive_1:=fun zz=>Bool) e h f else false
theorem AY {P:Expr->Prop}{e:Expr}{f:Hq->Expr->Pos->Bool}(h:AX e f=true)(k:∀ o_ a_ p_,f o_ a_ p_=true->P (.UnaryOp o_ a_ p_)):P e :=
 bS h fun q h=>Expr.UnaryOp.elim (motive_1:=fun e=>∀ q,Expr.UnaryOp.elim (motive_1:=fun zz=>Bool) e q f=true->P e) e q (fun o_ a_ p_ zz h=>k o_ a_ p_ h) q h
noncomputable def wG (e:Expr) (f:Expr->List FO->List Expr->Pos->Bool):Bool:=if h:e.ctorIdx=15 then Expr.Compare.elim (motive_1:=fun zz=>Bool) e h f else false
theorem vh {P:Expr->Prop}{e:Expr}{f:Expr->List FO->List Expr->Pos->Bool}(h:wG e f=true)(k:∀ l_ os_ rs_ p_,f l_ os_ rs_ p_=true->P (.Compare l_ os_ rs_ p_)):P e :=
 bS h fun q h=>Expr.Compare.elim (motive_1:=fun e=>∀ q,Expr.Compare.elim (motive_1:=fun zz=>Bool) e q f=true->P e) e q (fun l_ os_ rs_ p_ zz h=>k l_ os_ rs_ p_ h) q h
noncomputable def Ay (e:Expr) (f:EY->List Expr->Pos->Bool):Bool:=if h:e.ctorIdx=0 then Expr.BoolOp.elim (motive_1:=fun zz=>Bool) e h f else false
theorem Az {P:Expr->Prop}{e:Expr}{f:EY->List Expr->Pos->Bool}(h:Ay e f=true)(k:∀ o_ es_ p_,f o_ es_ p_=true->P (.BoolOp o_ es_ p_)):P e :=
 bS h fun q h=>Expr.BoolOp.elim (motive_1:=fun e=>∀ q,Expr.BoolOp.elim (motive_1:=fun zz=>Bool) e q f=true->P e) e q (fun o_ es_ p_ zz h=>k o_ es_ p_ h) q h
noncomputable def AB (e:Expr) (f:Expr->Expr->Expr->Pos->Bool):Bool:=if h:e.ctorIdx=5 then Expr.IfExp.elim (motive_1:=fun zz=>Bool) e h f else false
theorem AC {P:Expr->Prop}{e:Expr}{f:Expr->Expr->Expr->Pos->Bool}(h:AB e f=true)(k:∀ c_ a_ b_ p_,f c_ a_ b_ p_=true->P (.IfExp c_ a_ b_ p_)):P e :=
 bS h fun q h=>Expr.IfExp.elim (motive_1:=fun e=>∀ q,Expr.IfExp.elim (motive_1:=fun zz=>Bool) e q f=true->P e) e q (fun c_ a_ b_ p_ zz h=>k c_ a_ b_ p_ h) q h
noncomputable def AD (e:Expr) (f:List Expr->Pos->Bool):Bool:=if h:e.ctorIdx=24 then Expr.List.elim (motive_1:=fun zz=>Bool) e h f else false
theorem vj {P:Expr->Prop}{e:Expr}{f:List Expr->Pos->Bool}(h:AD e f=true)(k:∀ es_ p_,f es_ p_=true->P (.List es_ p_)):P e :=
 bS h fun q h=>Expr.List.elim (motive_1:=fun e=>∀ q,Expr.List.elim (motive_1:=fun zz=>Bool) e q f=true->P e) e q (fun es_ p_ zz h=>k es_ p_ h) q h
noncomputable def qB (e:Expr) (f:List Expr->Nat->Pos->Bool):Bool:=if h:e.ctorIdx=25 then F6 (motive_1:=fun zz=>Bool) e h f else false
theorem qC {P:Expr->Prop}{e:Expr}{f:List Expr->Nat->Pos->Bool}(h:qB e f=true)(k:∀ es_ k_ p_,f es_ k_ p_=true->P (.Tuple es_ k_ p_)):P e :=
 bS h fun q h=>F6 (motive_1:=fun e=>∀ q,F6 (motive_1:=fun zz=>Bool) e q f=true->P e) e q (fun es_ k_ p_ zz h=>k es_ k_ p_ h) q h
noncomputable def wH (e:Expr) (f:List (Option Expr)->List Expr->Pos->Bool):Bool:=if h:e.ctorIdx=6 then Expr.Dict.elim (motive_1:=fun zz=>Bool) e h f else false
theorem vi {P:Expr->Prop}{e:Expr}{f:List (Option Expr)->List Expr->Pos->Bool}(h:wH e f=true)(k:∀ ks_ es_ p_,f ks_ es_ p_=true->P (.Dict ks_ es_ p_)):P e :=
 bS h fun q h=>Expr.Dict.elim (motive_1:=fun e=>∀ q,Expr.Dict.elim (motive_1:=fun zz=>Bool) e q f=true->P e) e q (fun ks_ es_ p_ zz h=>k ks_ es_ p_ h) q h
noncomputable def tP (e:Expr) (f:Expr->Expr->Pos->Bool):Bool:=if h:e.ctorIdx=21 then Expr.Subscript.elim (motive_1:=fun zz=>Bool) e h f else false
theorem qA {P:Expr->Prop}{e:Expr}{f:Expr->Expr->Pos->Bool}(h:tP e f=true)(k:∀ o_ i_ p_,f o_ i_ p_=true->P (.Subscript o_ i_ p_)):P e :=
 bS h fun q h=>Expr.Subscript.elim (motive_1:=fun e=>∀ q,Expr.Subscript.elim (motive_1:=fun zz=>Bool) e q f=true->P e) e q (fun o_ i_ p_ zz h=>k o_ i_ p_ h) q h
noncomputable def AT (e:Expr) (f:Option Expr->Option Expr->Option Expr->Pos->Bool):Bool:=if h:e.ctorIdx=26 then Expr.Slice.elim (motive_1:=fun zz=>Bool) e h f else false
theorem AU {P:Expr->Prop}{e:Expr}{f:Option Expr->Option Expr->Option Expr->Pos->Bool}(h:AT e f=true)(k:∀ l_ u_ t_ p_,f l_ u_ t_ p_=true->P (.Slice l_ u_ t_ p_)):P e :=
 bS h fun q h=>Expr.Slice.elim (motive_1:=fun e=>∀ q,Expr.Slice.elim (motive_1:=fun zz=>Bool) e q f=true->P e) e q (fun l_ u_ t_ p_ zz h=>k l_ u_ t_ p_ h) q h
noncomputable def l9 (e:Expr) (f:Expr->List Expr->List Keyword->Pos->Bool):Bool:=if h:e.ctorIdx=16 then Expr.Call.elim (motive_1:=fun zz=>Bool) e h f else false
theorem nk {P:Expr->Prop}{e:Expr}{f:Expr->List Expr->List Keyword->Pos->Bool}(h:l9 e f=true)(k:∀ g_ es_ ks_ p_,f g_ es_ ks_ p_=true->P (.Call g_ es_ ks_ p_)):P e :=
 bS h fun q h=>Expr.Call.elim (motive_1:=fun e=>∀ q,Expr.Call.elim (motive_1:=fun zz=>Bool) e q f=true->P e) e q (fun g_ es_ ks_ p_ zz h=>k g_ es_ ks_ p_ h) q h
noncomputable def tO (e:Expr) (f:Expr->Str->Pos->Bool):Bool:=if h:e.ctorIdx=20 then Expr.Attribute.elim (motive_1:=fun zz=>Bool) e h f else false
theorem qy {P:Expr->Prop}{e:Expr}{f:Expr->Str->Pos->Bool}(h:tO e f=true)(k:∀ o_ a_ p_,f o_ a_ p_=true->P (.Attribute o_ a_ p_)):P e :=
 bS h fun q h=>Expr.Attribute.elim (motive_1:=fun e=>∀ q,Expr.Attribute.elim (motive_1:=fun zz=>Bool) e q f=true->P e) e q (fun o_ a_ p_ zz h=>k o_ a_ p_ h) q h
noncomputable def BU (e:Expr) (f:Expr->List Comprehension->Scope->Pos->Bool):Bool:=if h:e.ctorIdx=8 then Expr.ListComp.elim (motive_1:=fun zz=>Bool) e h f else false
theorem BE {P:Expr->Prop}{e:Expr}{f:Expr->List Comprehension->Scope->Pos->Bool}(h:BU e f=true)(k:∀ a_ gs_ sc_ p_,f a_ gs_ sc_ p_=true->P (.ListComp a_ gs_ sc_ p_)):P e :=
 bS h fun q h=>Expr.ListComp.elim (motive_1:=fun e=>∀ q,Expr.ListComp.elim (motive_1:=fun zz=>Bool) e q f=true->P e) e q (fun a_ gs_ sc_ p_ zz h=>k a_ gs_ sc_ p_ h) q h
noncomputable def n_ (e:Ed) (f:List Expr->Expr->Pos->Bool):Bool:=if h:e.ctorIdx=5 then Hb (motive_2:=fun zz=>Bool) e h f else false
theorem AE {P:Ed->Prop}{e:Ed}{f:List Expr->Expr->Pos->Bool}(h:n_ e f=true)(k:∀ ts_ a_ p_,f ts_ a_ p_=true->P (.Assign ts_ a_ p_)):P e :=
 bS h fun q h=>Hb (motive_2:=fun e=>∀ q,Hb (motive_2:=fun zz=>Bool) e q f=true->P e) e q (fun ts_ a_ p_ zz h=>k ts_ a_ p_ h) q h
noncomputable def AF (e:Ed) (f:PySem.Expr->Pos->Bool):Bool:=if h:e.ctorIdx=24 then Ed.Expr.elim (motive_2:=fun zz=>Bool) e h f else false
theorem AG {P:Ed->Prop}{e:Ed}{f:PySem.Expr->Pos->Bool}(h:AF e f=true)(k:∀ a_ p_,f a_ p_=true->P (.Expr a_ p_)):P e :=
 bS h fun q h=>Ed.Expr.elim (motive_2:=fun e=>∀ q,Ed.Expr.elim (motive_2:=fun zz=>Bool) e q f=true->P e) e q (fun a_ p_ zz h=>k a_ p_ h) q h
noncomputable def AO (e:Ed) (f:Option PySem.Expr->Pos->Bool):Bool:=if h:e.ctorIdx=3 then Ed.Return.elim (motive_2:=fun zz=>Bool) e h f else false
theorem AP {P:Ed->Prop}{e:Ed}{f:Option PySem.Expr->Pos->Bool}(h:AO e f=true)(k:∀ a_ p_,f a_ p_=true->P (.Return a_ p_)):P e :=
 bS h fun q h=>Ed.Return.elim (motive_2:=fun e=>∀ q,Ed.Return.elim (motive_2:=fun zz=>Bool) e q f=true->P e) e q (fun a_ p_ zz h=>k a_ p_ h) q h
noncomputable def AI (e:Ed) (f:PySem.Expr->List Ed->List Ed->Pos->Bool):Bool:=if h:e.ctorIdx=12 then Ed.If.elim (motive_2:=fun zz=>Bool) e h f else false
theorem AJ {P:Ed->Prop}{e:Ed}{f:PySem.Expr->List Ed->List Ed->Pos->Bool}(h:AI e f=true)(k:∀ c_ a_ b_ p_,f c_ a_ b_ p_=true->P (.If c_ a_ b_ p_)):P e :=
 bS h fun q h=>Ed.If.elim (motive_2:=fun e=>∀ q,Ed.If.elim (motive_2:=fun zz=>Bool) e q f=true->P e) e q (fun c_ a_ b_ p_ zz h=>k c_ a_ b_ p_ h) q h
noncomputable def wI (e:Ed) (f:PySem.Expr->PySem.Expr->List Ed->List Ed->Pos->Bool):Bool:=if h:e.ctorIdx=9 then Ed.For.elim (motive_2:=fun zz=>Bool) e h f else false
theorem AH {P:Ed->Prop}{e:Ed}{f:PySem.Expr->PySem.Expr->List Ed->List Ed->Pos->Bool}(h:wI e f=true)(k:∀ t_ a_ b_ l_ p_,f t_ a_ b_ l_ p_=true->P (.For t_ a_ b_ l_ p_)):P e :=
 bS h fun q h=>Ed.For.elim (motive_2:=fun e=>∀ q,Ed.For.elim (motive_2:=fun zz=>Bool) e q f=true->P e) e q (fun t_ a_ b_ l_ p_ zz h=>k t_ a_ b_ l_ p_ h) q h
noncomputable def AR (e:Ed) (f:PySem.Expr->List Ed->List Ed->Pos->Bool):Bool:=if h:e.ctorIdx=11 then Ed.While.elim (motive_2:=fun zz=>Bool) e h f else false
theorem AS {P:Ed->Prop}{e:Ed}{f:PySem.Expr->List Ed->List Ed->Pos->Bool}(h:AR e f=true)(k:∀ c_ b_ l_ p_,f c_ b_ l_ p_=true->P (.While c_ b_ l_ p_)):P e :=
 bS h fun q h=>Ed.While.elim (motive_2:=fun e=>∀ q,Ed.While.elim (motive_2:=fun zz=>Bool) e q f=true->P e) e q (fun c_ b_ l_ p_ zz h=>k c_ b_ l_ p_ h) q h
noncomputable def AM (e:Ed) (f:Option PySem.Expr->Option PySem.Expr->Pos->Bool):Bool:=if h:e.ctorIdx=16 then Ed.Raise.elim (motive_2:=fun zz=>Bool) e h f else false
theorem AN {P:Ed->Prop}{e:Ed}{f:Option PySem.Expr->Option PySem.Expr->Pos->Bool}(h:AM e f=true)(k:∀ x_ y_ p_,f x_ y_ p_=true->P (.Raise x_ y_ p_)):P e :=
 bS h fun q h=>Ed.Raise.elim (motive_2:=fun e=>∀ q,Ed.Raise.elim (motive_2:=fun zz=>Bool) e q f=true->P e) e q (fun x_ y_ p_ zz h=>k x_ y_ p_ h) q h
noncomputable def wJ (e:Ed) (f:List Ed->List ExceptHandler->List Ed->List Ed->Pos->Bool):Bool:=if h:e.ctorIdx=17 then Ed.Try.elim (motive_2:=fun zz=>Bool) e h f else false
theorem AQ {P:Ed->Prop}{e:Ed}{f:List Ed->List ExceptHandler->List Ed->List Ed->Pos->Bool}(h:wJ e f=true)(k:∀ b_ hs_ l_ z_ p_,f b_ hs_ l_ z_ p_=true->P (.Try b_ hs_ l_ z_ p_)):P e :=
 bS h fun q h=>Ed.Try.elim (motive_2:=fun e=>∀ q,Ed.Try.elim (motive_2:=fun zz=>Bool) e q f=true->P e) e q (fun b_ hs_ l_ z_ p_ zz h=>k b_ hs_ l_ z_ p_ h) q h
noncomputable def AK (e:Ed) (f:Pos->Bool):Bool:=if h:e.ctorIdx=25 then Ed.Pass.elim (motive_2:=fun zz=>Bool) e h f else false
theorem AL {P:Ed->Prop}{e:Ed}{f:Pos->Bool}(h:AK e f=true)(k:∀ p_,f p_=true->P (.Pass p_)):P e :=
 bS h fun q h=>Ed.Pass.elim (motive_2:=fun e=>∀ q,Ed.Pass.elim (motive_2:=fun zz=>Bool) e q f=true->P e) e q (fun p_ zz h=>k p_ h) q h
noncomputable def p1 {α:Type} (l:List α) (f:α->Bool):Bool:=match l with | [x]=>f x | _=>false
theorem kH {α:Type}{P:List α->Prop}{l:List α}{f:α->Bool}(h:p1 l f=true)(k:∀ x,f x=true->P [x]):P l:=match l,h with
 | [x],h=>k x h
noncomputable def pC {α:Type} (l:List α) (f:α->List α->Bool):Bool:=match l with | x::r=>f x r | []=>false
theorem n9 {α:Type}{P:List α->Prop}{l:List α}{f:α->List α->Bool}(h:pC l f=true)(k:∀ x r,f x r=true->P (x::r)):P l:=match l,h with
 | x::r,h=>k x r h
noncomputable def pO {α:Type} (o:Option α) (f:α->Bool):Bool:=match o with | some x=>f x | none=>false
theorem mh {α:Type}{P:Option α->Prop}{o:Option α}{f:α->Bool}(h:pO o f=true)(k:∀ x,f x=true->P (some x)):P o:=match o,h with
 | some x,h=>k x h
theorem aD {a b:Bool}(h:(a&&b)=true):a=true:=(DH.mp h).1
theorem ax {a b:Bool}(h:(a&&b)=true):b=true:=(DH.mp h).2
theorem fk {α:Type}{P:List α->Prop}{l:List α}(h:l.isEmpty=true)(k:P []):P l:=match l,h with
 | [],_=>k
theorem tA {α:Type}{P:α->Prop}{a b:α}[Decidable (a=b)](h:decide (a=b)=true)(k:P a):P b:=of_decide_eq_true h ▸ k
theorem lf {α:Type}{P:α->Prop}{a b:α}[Decidable (a=b)](h:decide (a=b)=true)(k:P b):P a:=of_decide_eq_true h ▸ k
noncomputable def AV (c:Const) (f:Str->Bool):Bool:=if h:c.ctorIdx=5 then Const.str.elim (motive:=fun zz=>Bool) c h f else false
theorem AW {P:Const->Prop}{c:Const}{f:Str->Bool}(h:AV c f=true)(k:∀ x,f x=true->P (.str x)):P c :=
 bS h fun q h=>Const.str.elim (motive:=fun c=>∀ q,Const.str.elim (motive:=fun zz=>Bool) c q f=true->P c) c q (fun x zz h=>k x h) q h
noncomputable def ve (e:Expr):Option (Str × Pos):=if h:e.ctorIdx=23 then FN (motive_1:=fun zz=>Option (Str × Pos)) e h (fun a p=>some (a,p)) else none
noncomputable def Bl (e:Expr):Option (List Expr × Nat × Pos):=if h:e.ctorIdx=25 then F6 (motive_1:=fun zz=>Option (List Expr × Nat × Pos)) e h (fun a k p=>some (a,k,p)) else none
theorem pM {α:Type}{c:Prop}[Decidable c]{t:c->Option α}{x:α}{G:Prop}(h:(if q:c then t q else none)=some x)(k:∀ q,t q=some x->G):G:=by
 by_cases q:c
 ·rw[dif_pos q] at h;exact k q h
 ·rw[dif_neg q] at h;cases h
theorem Ar {P:Expr->Prop}{e:Expr}{x:Str × Pos}(h:ve e=some x)(k:P (.Name x.1 x.2)):P e :=
 pM h fun q h=>FN (motive_1:=fun e=>∀ q,FN (motive_1:=fun zz=>Option (Str × Pos)) e q (fun a p=>some (a,p))=some x->P e) e q (fun a p zz h=>(congrArg (fun x:Str × Pos=>P (.Name x.1 x.2)) (Eh h)).mpr k) q h
theorem BI {P:Expr->Prop}{e:Expr}{x:List Expr × Nat × Pos}(h:Bl e=some x)(k:P (.Tuple x.1 x.2.1 x.2.2)):P e :=
 pM h fun q h=>F6 (motive_1:=fun e=>∀ q,F6 (motive_1:=fun zz=>Option (List Expr × Nat × Pos)) e q (fun a k p=>some (a,k,p))=some x->P e) e q (fun a k' p zz h=>(congrArg (fun x:List Expr × Nat × Pos=>P (.Tuple x.1 x.2.1 x.2.2)) (Eh h)).mpr k) q h
noncomputable def dp:List Expr->Option (List Str)
 | []=>some []
 | e::es=>(ve e).bind fun x=>(dp es).map (x.1 :: ·)
theorem n6 {P:Expr->List Str->Prop}{e:Expr}{es:List Expr}{tg:List Str}(h:dp (e::es)=some tg)(k:∀ id p tg',dp es=some tg'->P (.Name id p) (id::tg')):P e tg:=by
 refine ad (Option.bind_eq_some_iff.mp (show (ve e).bind (fun x=>(dp es).map (x.1 :: ·))=some tg from h)) fun x h1 h2=>?_
 refine ad (DE.mp h2) fun r e1 e2=>?_
 exact Ar (P:=fun e=>P e tg) h1 (e2 ▸ k x.1 x.2 r e1)
noncomputable def ei (e:Expr):Option (List Str):=match ve e with
 | some x=>some [x.1]
 | none=>(Bl e).bind fun x=>if 2<=x.1.length then dp x.1 else none
theorem BH {P:Expr->List Str->Prop}{e:Expr}{tg:List Str}(h:ei e=some tg)(k1:∀ id p,P (.Name id p) [id])(k2:∀ es k p,2<=es.length->dp es=some tg->P (.Tuple es k p) tg):P e tg:=by
 unfold ei at h
 cases h1:ve e with
 | some x=>rw[h1] at h;exact Ar (P:=fun e=>P e tg) h1 (Eh h ▸ k1 x.1 x.2)
 | none=>
  rw[h1] at h
  refine ad (Option.bind_eq_some_iff.mp h) fun x h2 h3=>?_
  by_cases q:2<=x.1.length
  ·rw[if_pos q] at h3;exact BI (P:=fun e=>P e tg) h2 (k2 _ _ _ q h3)
  ·rw[if_neg q] at h3;cases h3
noncomputable def io (e:Expr):Bool:=!(e.ctorIdx==26)
noncomputable def cP (e:Expr):Bool:=!(e.ctorIdx==7)
noncomputable def dM (e:Expr):Bool:=!(e.ctorIdx==8) && !(e.ctorIdx==9) && !(e.ctorIdx==10)
noncomputable def l4 (e:Expr):Bool:=!(e.ctorIdx==25)
noncomputable def fJ (e:Expr):Bool:=!(e.ctorIdx==16) || !l9 e (fun f as ks zz=>f.ctorIdx==23&&as.isEmpty&&ks.isEmpty)
noncomputable def jR:Ex->Bool
 | .nm _ | .ci _ | .cs _ | .cb _ | .cn | .lst []=>true
 | _=>false
noncomputable def B1 (e:Ex):Bool:=decide (e.ctorIdx=5)
noncomputable def pQ (e:Ex) (o:Option Expr) (f:Expr->Bool):Bool:=match o with | some e'=>f e' | none=>B1 e
noncomputable def kf:List String->List (Option Expr)->Bool
 | [],l=>l.isEmpty
 | k::ks,l=>pC l fun o r=>pO o fun e=>jI e fun c zz zz=>decide (c = .str (Dn k))&&kf ks r
mutual
noncomputable def aT (vs:Vs) (ns:Ns):Ex->Expr->Bool
 | .nm i,e'=>lI e' fun id zz=>iF vs i id && !(id==("__debug__" : Str))
 | .gl x,e'=>lI e' fun id zz=>fT ns x id
 | .ci i,e'=>jI e' fun c zz zz=>decide (c = .int i)
 | .cs x,e'=>jI e' fun c zz zz=>decide (c = .str (Dn x))
 | .cb b,e'=>jI e' fun c zz zz=>decide (c = .bool b)
 | .cn,e'=>jI e' fun c zz zz=>decide (c = .none)
 | .bin op l r,e'=>Aw e' fun l' op' r' zz=>decide (op=op')&&(aT vs ns l l'&&aT vs ns r r')
 | .una op e,e'=>AX e' fun op' x zz=>decide (op=op')&&aT vs ns e x
 | .cmp op l r,e'=>wG e' fun l' os rs zz=>p1 os fun op'=>p1 rs fun r'=>decide (op=op')&&(cP r'&&(aT vs ns l l'&&aT vs ns r r'))
 | .cmp2 o1 o2 l m r,e'=>wG e' fun l' os rs zz=>decide (os = [o1,o2])&&pC rs fun m' rs=>p1 rs fun r'=>cP m'&&(cP r'&&(aT vs ns l l'&&(aT vs ns m m'&&aT vs ns r r')))
 | .bop op es,e'=>Ay e' fun op' es' zz=>decide (op=op')&&b9 vs ns es es'
 | .ife c a b,e'=>AB e' fun c' a' b' zz=>aT vs ns c c'&&(aT vs ns a a'&&aT vs ns b b')
 | .lst es,e'=>AD e' fun es' zz=>b9 vs ns es es'
 | .tup es,e'=>qB e' fun es' zz zz=>b9 vs ns es es'
 | .emp _,e'=>wH e' fun ks es zz=>ks.isEmpty&&es.isEmpty
 | .dct ks es,e'=>wH e' fun ks' es' zz=>(!ks.isEmpty)&&(decide (ks.length<=15)&&(decide (ks.length=es.length)&&(es.all jR&&(kf ks ks'&&b9 vs ns es es'))))
 | .sub o i,e'=>tP e' fun o' i' zz=>io i'&&(aT vs ns o o'&&aT vs ns i i')
 | .sli o l u t,e'=>tP e' fun o' i' zz=>AT i' fun l' u' t' zz=>aT vs ns o o'&&(pQ l l' (aT vs ns l)&&(pQ u u' (aT vs ns u)&&pQ t t' (aT vs ns t)))
 | .call f es,e'=>l9 e' fun fn es' ks zz=>lI fn fun id zz=>ks.isEmpty&&(fT ns f id&&b9 vs ns es es')
 | .meth o m es,e'=>l9 e' fun fn es' ks p=>tO fn fun o' m' ap=>ks.isEmpty&&(decide (m'=Dn m)&&(ap.endLine==p.line&&(decide (es.length<29)&&(fJ o'&&(aT vs ns o o'&&b9 vs ns es es')))))
 | .att o a,e'=>tO e' fun o' a' zz=>decide (a'=Dn a)&&(fJ o'&&aT vs ns o o')
 | .comp k elt it ifs,e'=>BU e' fun elt' gs sc zz=>p1 gs fun g=>decide (g.is_async=0)&&pO (ei g.target) fun tg=>
   decide (tg.length=k)&&(tg.all (fun x=>sc.names.lookup x==some .local)&&(decide (tg.Nodup)&&(decide (sc.kind = .function)&&(sc.names.all (fun x=>!(x.2 == .cell)) &&
    (sc.names.all (fun x=>!(x.2 == .local)||sc.names.lookup x.1==some .local)&&(sc.names.all (fun x=>!(x.2 == .free)||vs.contains (x.1,Vk.cel)) &&
    (cP g.iter&&(aT vs ns it g.iter&&(aT (bO vs (bK sc.names ns) tg) (bK sc.names ns) elt elt'&&b9 (bO vs (bK sc.names ns) tg) (bK sc.names ns) ifs g.ifs)))))))))
noncomputable def b9 (vs:Vs) (ns:Ns):List Ex->List Expr->Bool
 | [],l=>l.isEmpty
 | e::es,l=>pC l fun e' es'=>aT vs ns e e'&&b9 vs ns es es'
end
noncomputable def tn (vs:Vs) (ns:Ns) (e:Ex) (o:Option Expr):Bool:=pQ e o (aT vs ns e)
noncomputable def c7 (vs:Vs):List Nat->List Str->Bool
 | [],l=>l.isEmpty
 | i::is,l=>pC l fun x xs=>iF vs i x&&c7 vs is xs
noncomputable def um (vs:Vs) (ns:Ns):Src->Expr->Bool
 | .pl e,e'=>cP e'&&aT vs ns e e'
 | .en e,x=>l9 x fun f as ks zz=>lI f fun id zz=>p1 as fun e'=>ks.isEmpty&&(fT ns "enumerate" id&&aT vs ns e e')
 | .zp _ _,_=>false
noncomputable def un:Src->Expr->Bool
 | .pl _,_=>true
 | _,e=>qB e fun zz zz zz=>true
noncomputable def tm (vs:Vs):Option Nat->Option Str->Bool
 | none,none=>true
 | some i,some x=>vs[i]? == some (x,Vk.loc)
 | _,_=>false
noncomputable def xX (e:Ex):Bool:=!(e.ctorIdx==21)
noncomputable def AA (h:ExceptHandler) (f:Option Expr->Option Str->List Ed->Pos->Bool):Bool:=match h with | .ExceptHandler x n b p=>f x n b p
theorem BD {P:ExceptHandler->Prop}{h:ExceptHandler}{f:Option Expr->Option Str->List Ed->Pos->Bool}(hh:AA h f=true)(k:∀ x n b p,f x n b p=true->P (.ExceptHandler x n b p)):P h:=match h,hh with
 | .ExceptHandler x n b p,hh=>k x n b p hh
noncomputable def v_ (ns:Ns) (c:String) (t':Ed):Bool:=AM t' fun x y zz=>y.isNone&&pO x fun x=>l9 x fun f as ks zz=>ks.isEmpty&&lI f fun id zz=>p1 as fun a=>jI a fun v zz zz=>AV v fun zz=>fT ns c id
mutual
noncomputable def wa (vs:Vs) (ns:Ns):St->Ed->Bool
 | .asg i e,t'=>n_ t' fun ts e' zz=>p1 ts fun t=>lI t fun x zz=>iF vs i x&&((!xX e||dM e')&&aT vs ns e e')
 | .unp is e,t'=>n_ t' fun ts e' zz=>p1 ts fun t=>qB t fun us zz zz=>pO (dp us) fun xs=>c7 vs is xs&&decide (2<=us.length)&&l4 e'&&dM e'&&aT vs ns e e'
 | .seti o i e,t'=>n_ t' fun ts e' zz=>p1 ts fun t=>tP t fun o' i' zz=>io i'&&dM e'&&aT vs ns e e'&&aT vs ns o o'&&aT vs ns i i'
 | .seta o a e,t'=>n_ t' fun ts e' zz=>p1 ts fun t=>tO t fun o' a' zz=>a'==Dn a&&dM e'&&aT vs ns e e'&&aT vs ns o o'
 | .exp e,t'=>AF t' fun e' zz=>dM e'&&aT vs ns e e'
 | .ret e,t'=>AO t' fun o zz=>pO o fun e'=>aT vs ns e e'
 | .ife c a b,t'=>AI t' fun c' a' b' zz=>aT vs ns c c'&&dY vs ns a a'&&dY vs ns b b'
 | .for k src body,t'=>wI t' fun t e' body' l zz=>l.isEmpty&&pO (ei t) fun xs=>c7 vs k xs&&un src t&&um vs ns src e'&&dY vs ns body body'
 | .whl c body,t'=>AR t' fun c' body' l zz=>l.isEmpty&&(aT vs ns c c'&&dY vs ns body body')
 | .rais c _,t'=>v_ ns c t'
 | .tre body c as hb el,t'=>wJ t' fun body' hs el' z zz=>z.isEmpty&&p1 hs fun h=>AA h fun x nm hb' zz=>pO x fun x=>lI x fun id zz=>pC hb' fun t0 hb''=>fT ns c id&&dY vs ns body body'&&tm vs as nm&&dY vs ns hb (t0::hb'')&&dY vs ns el el'
 | .pas,t'=>AK t' fun zz=>true
 | .fz i j a b body,t'=>wI t' fun t e' body' l zz=>l.isEmpty&&(qB t fun us zz zz=>pO (dp us) fun xs=>c7 vs [i,j] xs&&decide (2<=us.length))&&(l9 e' fun f as ks zz=>lI f fun id zz=>ks.isEmpty&&(fT ns "zip" id&&b9 vs ns [a,b] as))&&dY vs ns body body'
 | .trr body c c2 _,t'=>wJ t' fun body' hs el' z zz=>(z.isEmpty&&el'.isEmpty)&&p1 hs fun h=>AA h fun x nm hb' zz=>nm.isNone&&pO x fun x=>lI x fun id zz=>p1 hb' fun t0=>(fT ns c id&&v_ ns c2 t0)&&dY vs ns body body'
noncomputable def dY (vs:Vs) (ns:Ns):List St->List Ed->Bool
 | [],l=>l.isEmpty
 | t::ts,l=>pC l fun t' ts'=>wa vs ns t t'&&dY vs ns ts ts'
end
end
section
open PySem
structure EnvS (env:Env)(vs:Vs)(ns:Ns):Prop where
 kind:env.scope.kind = .function
 names:env.scope.names=ns
 glb:env.globals=E4
 blt:env.builtins=Hp
 loc:∀ (i:Nat) (x:Str),vs[i]? = some (x,Vk.loc)->ns.lookup x=some .local
 cel:∀ (i:Nat) (x:Str),vs[i]? = some (x,Vk.cel)->ns.lookup x=some .cell
 uni:∀ (i j:Nat) (x:Str) (k k':Vk),vs[i]? = some (x,k)->vs[j]? = some (x,k')->k≠Vk.hid->k'≠Vk.hid->i=j
 apt:∀ x y c,env.cells.lookup x=some c->env.cells.lookup y=some c->x=y
noncomputable def EA (A:D4) (env:Env):Prop:=∃ fenv outer,A.frames=some (fenv::outer)/\fenv.frame=env.frame
structure FI (C:Cx)(env:Env)(vs:Vs)(ρ:Lo)(H:MH)(h:Heap):Prop where
 len:ρ.length=vs.length
 locH:H env.locals=none
 loc0:C.h0.get? env.locals=none
 ns:∃ m,h.Ns env.locals m /\ ∀ (i:Nat) (x:Str) (v:V),vs[i]? = some (x,Vk.loc)->lk ρ i=some v -> ∃ cv,m x=some cv/\VR C h v cv
 cel:∀ (i:Nat) (x:Str),vs[i]? = some (x,Vk.cel) -> ∃ c oc,env.cells.lookup x=some c/\H c=none/\C.h0.get? c=none/\h.IsCell c oc /\ ∀ v,lk ρ i=some v -> ∃ cv,oc=some cv/\VR C h v cv
 cex:∀ (x:Str) (c:Addr),env.cells.lookup x=some c->H c=none/\C.h0.get? c=none /\ ∃ oc,h.IsCell c oc
section
variable {C:Cx}{d:Md}{env:Env}{vs:Vs}{ns:Ns}{ρ:Lo}{H H' H'':MH}{s s' s'':Shared}{A:D4}{D D':Addr->Prop}
theorem Ns.slots {h h':Heap}{a:Addr}{m:Str->Option Value}(x:h.Ns a m)(k:∀ o,h.get? a=some o -> ∃ sl,h'.get? a=some { o with slots:=sl }):h'.Ns a m:=by
 refine eU x fun o es ep ho hd r=>?_
 try clear x
 refine aF (k o ho) fun sl e=>?_
 exact ⟨_,es,ep,e,hd,r⟩
theorem FI.step (x:FI C env vs ρ H s.heap)(y:Step C D H s H' s')(hD:¬ D env.locals)(hc:∀ (z:Str) (c:Addr),env.cells.lookup z=some c -> ¬ D c):FI C env vs ρ H' s'.heap where
 len:=x.len
 locH:=by
  refine ad x.ns fun m ho40_1 zz=>?_
  obtain ⟨o,_,_,ho,_⟩:=ho40_1
  exact y.gone ho x.locH
 loc0:=x.loc0
 ns:=by
  refine ad x.ns fun m hm r=>?_
  refine ⟨m,Ns.slots hm fun o ho=>?_,fun i z v e l=>?_⟩
  ·refine ad (y.chg _ o ho x.locH hD) fun sl w zz=>?_
   exact ⟨sl,w⟩
  ·refine ad (r i z v e l) fun cv e1 e2=>?_
   exact ⟨cv,e1,e2.keep y.vk⟩
 cel:=fun i z e=>by
  refine dD (x.cel i z e) fun c oc h1 h2 h3 ho51_5 h5=>?_
  obtain ⟨o,ho,hd⟩:=ho51_5
  refine ad (y.chg _ o ho h2 (hc z c h1)) fun sl w zz=>?_
  refine ⟨c,oc,h1,y.gone ho h2,h3,⟨_,w,hd⟩,fun v l=>?_⟩
  refine ad (h5 v l) fun cv e1 e2=>?_
  exact ⟨cv,e1,e2.keep y.vk⟩
 cex:=fun z c e=>by
  obtain ⟨h1,h2,oc,o,ho,hd⟩:=x.cex z c e
  refine ad (y.chg _ o ho h1 (hc z c e)) fun sl w zz=>?_
  exact ⟨y.gone ho h1,h2,oc,_,w,hd⟩
theorem FI.stepN (x:FI C env vs ρ H s.heap)(y:Step C No H s H' s'):FI C env vs ρ H' s'.heap:=x.step y (fun f=>f) fun zz zz zz f=>f
theorem nj (x:Step C No H s H' s'){b:Addr}(e:s'.heap.get? b=none):s.heap.get? b=none:=by
 cases q:s.heap.get? b with
 | none=>rfl
 | some o=>
  by_cases u:(H b).isSome=true
  ·refine aF (x.rel.there (x.dom b u)) fun ob w=>?_
   rw[e] at w
   cases w
  ·refine ad (x.chg b o q (by simpa using u) (fun f=>f)) fun sl w zz=>?_
   rw[e] at w
   cases w
theorem Fly.back {tr:Bool}{a:Addr}{c:String}{h:Heap}(st:Step C No H s H' s')(x:Fly C tr s' a c h):Fly C tr s a c h:=by
 obtain ⟨new,o,ws,r,h1,h2,h3,h4,h5,h6,h7⟩:=x
 exact ⟨nj st new,o,ws,r,h1,h2,h3,h4,h5,h6,h7.imp id fun hq1=>eU hq1 fun T oT ts g1 g2 g3=>⟨T,oT,ts,g1,nj st g2,g3⟩⟩
theorem XG.back {tr:Bool}{X:XH}{e:Value}(st:Step C No H s H' s')(x:XG tr C No H' s' X e s''):XG tr C No H s X e s'':=by
 refine cR x fun a c H2 h1 h2 h3 h4 h5=>?_
 try clear x
 exact ⟨a,c,H2,h1,st.trans h2,h3,h4.back st,h5⟩
theorem QP.back {Q:V->MH->Prop}{v:Value}(st:Step C No H s H' s')(x:QP C H' s' Q v s''):QP C H s Q v s'':=by
 refine aG x fun r H2 h1 h2 h3=>?_
 try clear x
 exact ⟨r,H2,st.trans h1,h2,h3⟩
theorem hB {t:Sem Value}{Q:V->MH->Prop}{X:XP}(st:Step C No H s H' s')(h:wpAny C.M A t (QP C H' s' Q) (XQ false C No H' s' X) s'):wpAny C.M A t (QP C H s Q) (XQ false C No H s X) s' :=
 Dy h (fun zz zz q=>q.back st) fun zz zz q=>q.back st
theorem yE {i:Nat}{x:Str}{v:V}{Q:Value->Shared->Prop}{E:Value->Shared->Prop}(ES:EnvS env vs ns)(fi:FI C env vs ρ H s.heap)(ho:iF vs i x=true)(hl:lk ρ i=some v)
  (hQ:∀ cv,VR C s.heap v cv->Q cv s):wpAny C.M A (loadName env x) Q E s:=by
 unfold iF at ho
 rcases Bool.or_eq_true_iff.mp ho with q | q
 ·have q':vs[i]? = some (x,Vk.loc):=by simpa using q
  refine ad fi.ns fun m hm r=>?_
  refine ad (r i x v q' hl) fun cv e1 e2=>?_
  exact wpAny_loadName_local ES.kind (by unfold Gr;rw[ES.names];exact ES.loc i x q') hm e1 (hQ cv e2)
 ·have q':vs[i]? = some (x,Vk.cel):=by simpa using q
  refine dD (fi.cel i x q') fun c oc h1 zz zz h4 h5=>?_
  refine ad (h5 v hl) fun cv hr104_1 e2=>?_
  subst hr104_1
  exact wpAny_loadName_cell ES.kind (by unfold Gr;rw[ES.names];exact ES.cel i x q') h1 h4 (hQ cv e2)
theorem lm {x:String}{id:Str}{cv:Value}{pos:Pos}{Q:Value->Shared->Prop}{E:Value->Shared->Prop}(G:C.Good)(ES:EnvS env vs ns)(ho:fT ns x id=true)(t:C.h0.StaysIn s.heap)(hg:C.G x cv)
  (hQ:Q cv s):wpAny C.M A (FX (.Name id pos) env) Q E s:=by
 unfold fT at ho
 simp only[Ev,beq_iff_eq,Gk] at ho
 refine az ho fun ho111_0 hd=>?_
 try clear ho
 obtain ⟨rfl,hk⟩:=ho111_0
 refine Calls.Name_function_global ES.kind (by unfold Gr;rw[ES.names];exact hk) ?_ hd
 rcases hg with h | ⟨h1,h2⟩
 ·exact Calls.loadGlobal_global (by rw[ES.glb];exact G.g.keeps t) h hQ
 ·exact Calls.loadGlobal_builtin (by rw[ES.glb];exact G.g.keeps t) h1 (by rw[ES.blt];exact G.b.keeps t) h2 hQ
theorem Bk {v:V}{cv:Value}(t:C.h0.StaysIn s.heap)(h:VR C C.h0 v cv):VR C s.heap v cv:=h.keep (.of_keeps t)
end
end
section
open PySem
section
variable {C:Cx}{d:Md}{env:Env}{vs:Vs}{ns:Ns}{ρ:Lo}{H H' H'':MH}{s s' s'':Shared}{A:D4}{E:Value->Shared->Prop}
theorem evalArgs_plain {f:Value}{args:List (Bool × Sem Value)}{Q:Args->Shared->Prop}(hall:∀ x∈args,x.1=false)
  (h:wpAny C.M A (spliced args) (fun cvs s1=>Q ⟨cvs,[]⟩ s1) E s):wpAny C.M A (evalArgs f true args []) Q E s:=by
 cases args with
 | nil=>
  unfold evalArgs
  show wpAny C.M A (spliced [] >>= _) Q E s
  refine Dq (Dy h (fun vs s₁ h₁=>?_) fun zz zz x=>x)
  refine Dq (wpAny_pure (DT ?_))
  exact Dq (wpAny_evalAll_nil (Dq (wpAny_pure (wpAny_pure h₁))))
 | cons x rest=>
  obtain ⟨b,t⟩:=x
  obtain rfl:b=false:=hall _ (.head _)
  exact evalArgs_kw rfl (Dy h (fun vs s1 h1=>wpAny_evalAll_nil h1) fun zz zz x=>x)
theorem h_ {pos:Pos}{f:Value}{first:List Value}{args:List (Bool × Sem Value)}{Q:Value->Shared->Prop}(hall:∀ x∈args,x.1=false)(hc:fm C f)
  (h:wpAny C.M A (spliced args) (fun cvs s1=>C.h0.StaysIn s1.heap/\wpAny C.M A (call f (first++cvs)) Q E s1) E s):wpAny C.M A (callWith pos f first args []) Q E s:=by
 unfold callWith
 refine Dq (DT (evalArgs_plain hall (Dy h (fun cvs s1 h1=>Dq (Ej ?_)) fun zz zz x=>x)))
 refine az h1 fun ht h1=>?_
 have tail:∀ {t:Sem Value},wpAny C.M A t Q E s1->wpAny C.M A (t >>= fun r=>FH [r] point >>= fun zz=>pure r) Q E s1 :=
  fun ht=>Dq (Dy ht (fun r s2 hr=>Dq (DT (wpAny_point (wpAny_pure hr)))) fun zz zz x=>x)
 have hany:(args.any (·.1)||([]:List (Option Str × Sem Value)).any (·.1.isNone))=false:=by
  simp -iota only[List.any_nil,Bool.or_false]
  rw[List.any_eq_false];intro x hx;simp -iota [hall x hx]
 simp -iota only[hany]
 refine Dq (hc A s1 _ _ ht fun k=>?_)
 cases k
 ·dsimp only
  split
  ·exact tail h1
  ·exact tail (by unfold callMarked;exact Calls.wpAny_keep h1)
 ·dsimp only
  split
  ·exact tail h1
  ·exact tail (by unfold callMarked;exact Calls.wpAny_keep h1)
 ·exact tail h1
 ·exact tail (GO h1)
end
end
section
open PySem
section
variable {vs:Vs}{ns:Ns}{e':Expr}{P:Expr->Prop}
theorem xU {i:Nat}(h:aT vs ns (.nm i) e'=true)(k:∀ id p,iF vs i id=true->(id==("__debug__" : Str))=false->P (.Name id p)):P e' :=
 jJ h fun id p h=>k id p (aD h) ((Gk _).mp (ax h))
theorem BA {x:String}(h:aT vs ns (.gl x) e'=true)(k:∀ id p,fT ns x id=true->P (.Name id p)):P e':=jJ h k
theorem mO {c:Const}(h:jI e' (fun d zz zz=>decide (d=c))=true)(k:∀ j p,P (.Constant c j p)):P e' :=
 qz h fun d j p h=>lf (P:=fun d=>P (.Constant d j p)) h (k j p)
theorem Ac {op:Gg}{l r:Ex}(h:aT vs ns (.bin op l r) e'=true)(k:∀ l' r' p,aT vs ns l l'=true->aT vs ns r r'=true->P (.BinOp l' op r' p)):P e' :=
 Ax h fun l' o r' p h=>tA (P:=fun o=>P (.BinOp l' o r' p)) (aD h) (k l' r' p (aD (ax h)) (ax (ax h)))
theorem Al {op:Hq}{e:Ex}(h:aT vs ns (.una op e) e'=true)(k:∀ x p,aT vs ns e x=true->P (.UnaryOp op x p)):P e' :=
 AY h fun o x p h=>tA (P:=fun o=>P (.UnaryOp o x p)) (aD h) (k x p (ax h))
theorem Ae {op:FO}{l r:Ex}(h:aT vs ns (.cmp op l r) e'=true)(k:∀ l' r' p,cP r'=true->aT vs ns l l'=true->aT vs ns r r'=true->P (.Compare l' [op] [r'] p)):P e' :=
 vh h fun l' os rs p h=>kH (P:=fun os=>P (.Compare l' os rs p)) h fun o h=>kH (P:=fun rs=>P (.Compare l' [o] rs p)) h fun r' h=>tA (P:=fun o=>P (.Compare l' [o] [r'] p)) (aD h) (k l' r' p (aD (ax h)) (aD (ax (ax h))) (ax (ax (ax h))))
theorem yy {o1 o2:FO}{l m r:Ex}(h:aT vs ns (.cmp2 o1 o2 l m r) e'=true)(k:∀ l' m' r' p,cP r'=true->aT vs ns l l'=true->aT vs ns m m'=true->aT vs ns r r'=true->P (.Compare l' [o1,o2] [m',r'] p)):P e' :=
 vh h fun l' os rs p h=>lf (P:=fun os=>P (.Compare l' os rs p)) (aD h) (n9 (P:=fun rs=>P (.Compare l' [o1,o2] rs p)) (ax h) fun m' ms h=>kH (P:=fun ms=>P (.Compare l' [o1,o2] (m'::ms) p)) h fun r' h=>
  k l' m' r' p (aD (ax h)) (aD (ax (ax h))) (aD (ax (ax (ax h)))) (ax (ax (ax (ax h)))))
theorem Ad {op:EY}{es:List Ex}(h:aT vs ns (.bop op es) e'=true)(k:∀ es' p,b9 vs ns es es'=true->P (.BoolOp op es' p)):P e' :=
 Az h fun o es' p h=>tA (P:=fun o=>P (.BoolOp o es' p)) (aD h) (k es' p (ax h))
theorem Ah {c a b:Ex}(h:aT vs ns (.ife c a b) e'=true)(k:∀ c' a' b' p,aT vs ns c c'=true->aT vs ns a a'=true->aT vs ns b b'=true->P (.IfExp c' a' b' p)):P e' :=
 AC h fun c' a' b' p h=>k c' a' b' p (aD h) (aD (ax h)) (ax (ax h))
theorem Ag {j:Nat}(h:aT vs ns (.emp j) e'=true)(k:∀ p,P (.Dict [] [] p)):P e' :=
 vi h fun ks es p h=>fk (P:=fun ks=>P (.Dict ks es p)) (aD h) (fk (P:=fun es=>P (.Dict [] es p)) (ax h) (k p))
theorem Af {ks:List String}{es:List Ex}(h:aT vs ns (.dct ks es) e'=true)(k:∀ ks' es' p,ks ≠ []->ks.length<=15->ks.length=es.length->(∀ e∈es,jR e=true)->kf ks ks'=true->b9 vs ns es es'=true->P (.Dict ks' es' p)):P e' :=
 vi h fun ks' es' p h=>k ks' es' p (fun q=>by rw[q] at h;exact DP (aD h)) (of_decide_eq_true (aD (ax h))) (of_decide_eq_true (aD (ax (ax h)))) (Et.mp (aD (ax (ax (ax h))))) (aD (ax (ax (ax (ax h))))) (ax (ax (ax (ax (ax h)))))
theorem Aj {o i:Ex}(h:aT vs ns (.sub o i) e'=true)(k:∀ o' i' p,io i'=true->aT vs ns o o'=true->aT vs ns i i'=true->P (.Subscript o' i' p)):P e' :=
 qA h fun o' i' p h=>k o' i' p (aD h) (aD (ax h)) (ax (ax h))
theorem Ai {o l u t:Ex}(h:aT vs ns (.sli o l u t) e'=true)(k:∀ o' l' u' t' q p,aT vs ns o o'=true->tn vs ns l l'=true->tn vs ns u u'=true->tn vs ns t t'=true->P (.Subscript o' (.Slice l' u' t' q) p)):P e' :=
 qA h fun o' i' p h=>AU (P:=fun i'=>P (.Subscript o' i' p)) h fun l' u' t' q h=>k o' l' u' t' q p (aD h) (aD (ax h)) (aD (ax (ax h))) (ax (ax (ax h)))
theorem yx {f:String}{es:List Ex}(h:aT vs ns (.call f es) e'=true)(k:∀ id q es' p,fT ns f id=true->b9 vs ns es es'=true->P (.Call (.Name id q) es' [] p)):P e' :=
 nk h fun g es' ks p h=>jJ (P:=fun g=>P (.Call g es' ks p)) h fun id q h=>fk (P:=fun ks=>P (.Call (.Name id q) es' ks p)) (aD h) (k id q es' p (aD (ax h)) (ax (ax h)))
theorem yz {o:Ex}{m:String}{es:List Ex}(h:aT vs ns (.meth o m es) e'=true)(k:∀ o' ap es' p,(ap.endLine==p.line)=true->es.length<29->fJ o'=true->aT vs ns o o'=true->b9 vs ns es es'=true->P (.Call (.Attribute o' (Dn m) ap) es' [] p)):P e' :=
 nk h fun g es' ks p h=>qy (P:=fun g=>P (.Call g es' ks p)) h fun o' m' ap h=>fk (P:=fun ks=>P (.Call (.Attribute o' m' ap) es' ks p)) (aD h)
  (lf (P:=fun m'=>P (.Call (.Attribute o' m' ap) es' [] p)) (aD (ax h)) (k o' ap es' p (aD (ax (ax h))) (of_decide_eq_true (aD (ax (ax (ax h))))) (aD (ax (ax (ax (ax h))))) (aD (ax (ax (ax (ax (ax h)))))) (ax (ax (ax (ax (ax (ax h))))))))
theorem Ab {o:Ex}{a:String}(h:aT vs ns (.att o a) e'=true)(k:∀ o' p,fJ o'=true->aT vs ns o o'=true->P (.Attribute o' (Dn a) p)):P e' :=
 qy h fun o' a' p h=>lf (P:=fun a'=>P (.Attribute o' a' p)) (aD h) (k o' p (aD (ax h)) (ax (ax h)))
theorem pf {α:Type}{l:List α}{p:α->Bool}(h:l.all p=true){x:α}(hx:x∈l):p x=true:=Et.mp h x hx
theorem yI {k j:E1}(h:(!(k==j))=true):k≠j:=fun q=>by rw[q] at h;cases j <;> cases h
theorem sI {k j:E1}{b:Bool}(h:(!(k==j)||b)=true)(q:k=j):b=true:=by rw[q] at h;cases j <;> exact h
structure TgOk (vs:Vs)(sc:Scope)(tg:List Str):Prop where
 loc:∀ x∈tg,sc.names.lookup x=some .local
 nd:tg.Nodup
 kind:sc.kind = .function
 nc:∀ x∈sc.names,x.2 ≠ .cell
 nl:∀ x∈sc.names,x.2 = .local->sc.names.lookup x.1=some .local
 fr:∀ x∈sc.names,x.2 = .free->(x.1,Vk.cel)∈vs
theorem sm {n:Nat}{elt it:Ex}{ifs:List Ex}(h:aT vs ns (.comp n elt it ifs) e'=true)(k:∀ elt' t' it' ifs' sc p tg,ei t'=some tg->tg.length=n->TgOk vs sc tg->cP it'=true->aT vs ns it it'=true ->
  aT (bO vs (bK sc.names ns) tg) (bK sc.names ns) elt elt'=true->b9 (bO vs (bK sc.names ns) tg) (bK sc.names ns) ifs ifs'=true->P (.ListComp elt' [⟨t',it',ifs',0⟩] sc p)):P e' :=
 BE h fun elt' gs sc p h=>kH (P:=fun gs=>P (.ListComp elt' gs sc p)) h fun ⟨t',it',ifs',a⟩ h=>lf (P:=fun a=>P (.ListComp elt' [⟨t',it',ifs',a⟩] sc p)) (aD h)
  (mh (P:=fun o=>ei t'=o->P (.ListComp elt' [⟨t',it',ifs',0⟩] sc p)) (ax h) (fun tg h ht=>
   have h3:=ax (ax (ax (ax h)))
   have h4:=ax (ax (ax h3))
   k elt' t' it' ifs' sc p tg ht (of_decide_eq_true (aD h)) ⟨fun x hx=>Gm (pf (aD (ax h)) hx),of_decide_eq_true (aD (ax (ax h))),of_decide_eq_true (aD (ax (ax (ax h)))),
    fun x hx=>yI (pf (aD h3) hx),fun x hx q=>Gm (sI (pf (aD (ax h3)) hx) q),fun x hx q=>List.contains_iff_mem.mp (sI (pf (aD (ax (ax h3))) hx) q)⟩
    (aD h4) (aD (ax h4)) (aD (ax (ax h4))) (ax (ax (ax h4)))) rfl)
theorem lh {P:List Expr->Prop}{e:Ex}{es:List Ex}{l:List Expr}(h:b9 vs ns (e::es) l=true)(k:∀ e' es',aT vs ns e e'=true->b9 vs ns es es'=true->P (e'::es')):P l :=
 n9 h fun x r h=>k x r (aD h) (ax h)
theorem pX {P:List Expr->Prop}{l:List Expr}(h:b9 vs ns [] l=true)(k:P []):P l:=fk h k
theorem nP:∀ {es:List Ex} {es':List Expr},b9 vs ns es es'=true->es.length=es'.length
 | [],_,h=>pX (P:=fun l=>0=l.length) h rfl
 | _::_,_,h=>lh (P:=fun l=>_+1=l.length) h fun zz zz zz h=>congrArg (· + 1) (nP h)
theorem i9 {e:Ex}(h:aT vs ns e e'=true):∀ x p,e' ≠ .Starred x p:=by
 rintro x p rfl
 cases e <;> exact DP h
end
end
section
open PySem
noncomputable def cN (C:Cx) (h:Heap) (iv:V) (I:Addr) (i:Nat):Prop:=match iv with
 | .ref a=>h.IsListIter I a i
 | .tup l=>∃ t items,h.IsTuple t items/\aJ C h l items.toList/\h.IsTupleIter I t i
 | .rng a b c=>IsRangeIter h I (a+(i:Int)*c) (DV a b c-i) c
 | .str x=>∃ t,h.IsStrIter I (F8 x) x t i
 | _=>False
theorem cN.there {C:Cx}{h:Heap}{iv:V}{I:Addr}{i:Nat}(x:cN C h iv I i):∃ o T vs,h.get? I=some o/\o.cls = .type T/\T ≠ "tuple" /\ T ≠ "range" /\ o.data = .fields vs:=by
 cases iv with
 | ref a=>obtain ⟨o,h1,h2,h3⟩:=x;exact ⟨o,_,_,h1,h2,by decide,by decide,h3⟩
 | tup l=>obtain ⟨t,items,_,_,o,h1,h2,h3⟩:=x;exact ⟨o,_,_,h1,h2,by decide,by decide,h3⟩
 | rng a b c=>exact ⟨_, "range_iterator",_,x,rfl,by decide,by decide,rfl⟩
 | str y=>
  refine aG x fun t o h1 h2 h3=>?_
  try clear x
  refine ⟨o,_,_,h1,h2,?_,?_,h3⟩ <;> (unfold F8;split <;> decide)
 | _=>exact x.elim
theorem cN.keep {C:Cx}{h h':Heap}{iv:V}{I:Addr}{i:Nat}(x:cN C h iv I i)(k:VK h h')(e:∀ o,h.get? I=some o->h'.get? I=some o):cN C h' iv I i:=by
 cases iv with
 | ref a=>obtain ⟨o,h1,h2⟩:=x;exact ⟨o,e o h1,h2⟩
 | tup l=>
  obtain ⟨t,items,⟨o',g1,g2,n,g3⟩,r,o,h1,h2⟩:=x
  exact ⟨t,items,⟨o',k.solid t o' g1 (.inl ⟨g2,items,n,g3⟩),g2,n,g3⟩,r.keep k,o,e o h1,h2⟩
 | rng a b c=>exact e _ x
 | str y=>obtain ⟨t,o,h1,h2⟩:=x;exact ⟨t,o,e o h1,h2⟩
 | _=>exact x.elim
section
variable {C:Cx}{d:Md}{H:MH}{s:Shared}{A:D4}{E:Value->Shared->Prop}{iv:V}{I:Addr}{i:Nat}{all:List V}
theorem cN.step {D:Addr->Prop}{H':MH}{s':Shared}(x:cN C s.heap iv I i)(y:Step C D H s H' s')(hI:H I=none)(hD:¬ D I):cN C s'.heap iv I i:=by
 refine cR x.there fun o T vs h1 h2 zz zz h3=>?_
 refine x.keep y.vk fun o' e=>?_
 refine ad (y.chg I o' e hI hD) fun sl w q=>?_
 rw[h1] at e;cases e
 rw[q fun es ep z=>by rw[h3] at z;cases z] at w
 exact w
theorem gg {a:Addr}(r:HR C H s.heap)(h:aS H (.ref a)=some all):∃ items,s.heap.IsList a items/\aJ C s.heap all items.toList:=by
 simp only[aS] at h
 split at h
 ·rename_i l e;cases h;obtain ⟨_,items,p,q⟩:=r a _ e;exact ⟨items,p.isList,q⟩
 ·rename_i l e;cases h;obtain ⟨items,p,q⟩:=r a _ e;exact ⟨items,p,q⟩
 ·cases h
theorem iu (a b c:Int):0<=DV a b c:=by
 unfold DV
 split <;> split <;> first | decide | (have:=HB (a:=b-a-1) (b:=c) (by lia) (by lia);exact aY (am [(b-a-1) / c] [(110,0),(.a 11 111,110)] rfl this)) | (have:=HB (a:=a-b-1) (b:=-c) (by lia) (by lia);exact aY (am [(a-b-1) / -c] [(110,0),(.a 11 111,110)] rfl this))
theorem ez {s':Shared}(ok:Ok C d H A s)(x:cN C s.heap iv I i)(hI:H I=none)(h0:C.h0.get? I=none)(k:∀ b o,s.heap.get? b=some o->b≠I->s'.heap.get? b=some o)(g:s'.gens=s.gens)(os:s'.os=s.os) :
  Step C (· = I) H s H s':=by
 refine cR x.there fun o T vs h1 h2 n1 n2 h3=>?_
 refine Step.but ok.rel ok.top (fun b o e n=>k b o e n) (fun b e=>e ▸ hI) (fun b e=>e ▸ h0) (fun b o' e q=>?_) (fun b o' es ep e q z=>?_) g os
 ·subst q;rw[h1] at e;cases e;exact .inr (.inr ⟨T,h2,n1,n2⟩)
 ·subst q;rw[h1] at e;cases e;rw[h3] at z;cases z
theorem oJ {x:V}{Q:Option Value->Shared->Prop}(ok:Ok C d H A s)(it:cN C s.heap iv I i)(hI:H I=none)(h0:C.h0.get? I=none)(hi:aS H iv=some all)(hx:all[i]? = some x)
  (hQ:∀ s' cv,Step C (· = I) H s H s'->cN C s'.heap iv I (i+1)->VR C s'.heap x cv->Q (some cv) s'):wpAny C.M A (FW (.ref I)) Q E s:=by
 cases iv with
 | ref a=>
  refine ad (gg ok.rel hi) fun items hl rs=>?_
  refine ad (rs.get hx) fun cv e1 e2=>?_
  refine wpAny_pyNext_list_item it hl (x:=cv) (by simpa using e1) fun h' it' sb=>?_
  have st:Step C (· = I) H s H { s with heap:=h' }:=ez ok it hI h0 (fun b o e n=>(sb.2 b n).trans e) rfl rfl
  exact hQ _ cv st it' (e2.keep st.vk)
 | tup l=>
  refine aG it fun t items ht rs hit=>?_
  try clear it
  have it':cN C s.heap (.tup l) I i:=⟨t,items,ht,rs,hit⟩
  cases hi
  refine ad (rs.get hx) fun cv e1 e2=>?_
  refine wpAny_pyNext_tuple_item hit ht (x:=cv) (by simpa using e1) fun h' it'' sb=>?_
  have st:Step C (· = I) H s H { s with heap:=h' }:=ez ok it' hI h0 (fun b o e n=>(sb.2 b n).trans e) rfl rfl
  obtain ⟨o',g1,g2,n,g3⟩:=ht
  exact hQ _ cv st ⟨t,items,⟨o',st.vk.solid t o' g1 (.inl ⟨g2,items,n,g3⟩),g2,n,g3⟩,rs.keep st.vk,it''⟩ (e2.keep st.vk)
 | rng a b c=>
  cases hi
  have hlt:i<(DV a b c).toNat:=by
   have:=(DD.mp hx).1;simpa [dB] using this
  unfold dB at hx
  rw[DC] at hx
  refine ad (DE.mp hx) fun k e1 e2=>?_
  rw[List.getElem?_range (by
   have:=(DD.mp e1).1;simpa using this)] at e1
  cases e1
  refine wpAny_pyNext_range_item (x:=a+(i:Int)*c) it (by have:=iu a b c;(clear this;lia)) fun h' it' sb=>?_
  have st:Step C (· = I) H s H { s with heap:=h',toks:=s.toks+1 }:=ez ok it hI h0 (fun b o e n=>(sb.2 b n).trans e) rfl rfl
  refine hQ _ _ st ?_ (by subst e2;dsimp only[VR];exact ⟨_,rfl⟩)
  show IsRangeIter h' I (a+((i+1:Nat):Int)*c) (DV a b c-((i+1:Nat):Int)) c
  have e3:a+(i:Int)*c+c=a+((i+1:Nat):Int)*c:=by rw[Int.natCast_add];rw[Int.add_mul];simp;exact eV (am [a,(↑i:Int)*c,c] [(.a (.a (.a 0 1) 2) 111,.a 0 (.a 1 2))] rfl) (am [a,(↑i:Int)*c,c] [(.a (.a 0 (.a 1 2)) 111,.a (.a 0 1) 2)] rfl)
  have e4:DV a b c-(i:Int)-1=DV a b c-((i+1:Nat):Int):=by exact eV (am [DV a b c,i] [(.a (.s (.s 0 1) 111) 111,.s 0 21)] rfl) (am [DV a b c,i] [(.a (.s 0 21) 111,.s (.s 0 1) 111)] rfl)
  rw[<- e3,<- e4];exact it'
 | str y=>
  cases hi
  rw[DC] at hx
  refine ad (DE.mp hx) fun k e1 e2=>?_
  refine aF it fun t hit=>?_
  try clear it
  have it':cN C s.heap (.str y) I i:=⟨t,hit⟩
  have e1':y.cps[i]? = some k:=by simpa using e1
  unfold F8 at hit
  by_cases q:(y.cps.all (· < 128))=true
  ·rw[if_pos q] at hit
   refine wpAny_pyNext_ascii_item hit e1' fun h' it'' sb=>?_
   have st:Step C (· = I) H s H { s with heap:=h',toks:=s.toks+1 }:=ez ok it' hI h0 (fun b o e n=>(sb.2 b n).trans e) rfl rfl
   exact hQ _ _ st ⟨t,by unfold F8;rw[if_pos q];exact it''⟩ (by subst e2;dsimp only[VR];exact ⟨_,rfl⟩)
  ·rw[if_neg q] at hit
   refine wpAny_pyNext_wide_item hit e1' fun h' it'' sb=>?_
   have st:Step C (· = I) H s H { s with heap:=h',toks:=s.toks+1 }:=ez ok it' hI h0 (fun b o e n=>(sb.2 b n).trans e) rfl rfl
   exact hQ _ _ st ⟨t,by unfold F8;rw[if_neg q];exact it''⟩ (by subst e2;dsimp only[VR];exact ⟨_,rfl⟩)
 | _=>exact it.elim
theorem qw {Q:Option Value->Shared->Prop}(ok:Ok C d H A s)(hq:gM d iv)(it:cN C s.heap iv I i)(hI:H I=none)(h0:C.h0.get? I=none)(hi:aS H iv=some all)(hx:all.length<=i)
  (hQ:∀ s',Step C (· = I) H s H s'->Q none s'):wpAny C.M A (FW (.ref I)) Q E s:=by
 have hq1:(∀ a,iv ≠ .ref a)->(∀ l,iv ≠ .tup l)->A.handled=none:=fun n1 n2=>ok.hnd.1 (hq.1.elim id fun x=>x.elim (fun hq1=>aF hq1 fun a e=>(n1 a e).elim) fun hq2=>aF hq2 fun l e=>(n2 l e).elim)
 cases iv with
 | ref a=>
  refine ad (gg ok.rel hi) fun items hl rs=>?_
  have hl':=rs.length
  refine n8 ok.hnd.2 it hl (by rw[GW];simp at hl';exact au (ae [all.length,i,items.size] [(0,1),(2,0),(21,2)] rfl hx (mf hl'))) fun h' eb=>?_
  exact hQ _ (ez ok it hI h0 (fun b o e n=>eb b o n e) rfl rfl)
 | tup l=>
  refine aG it fun t items ht rs hit=>?_
  try clear it
  have it':cN C s.heap (.tup l) I i:=⟨t,items,ht,rs,hit⟩
  cases hi
  have hl':=rs.length
  refine iU ok.hnd.2 hit ht (by rw[GW];simp at hl';exact au (ae [all.length,i,items.size] [(0,1),(2,0),(21,2)] rfl hx (mf hl'))) fun h' eb=>?_
  exact hQ _ (ez ok it' hI h0 (fun b o e n=>eb b o n e) rfl rfl)
 | rng a b c=>
  cases hi
  have hl:(DV a b c).toNat<=i:=by simpa [dB] using hx
  refine wpAny_pyNext_range_end (hq1 (fun zz e=>by cases e) (fun zz e=>by cases e)) it (by have:=iu a b c;exact aY (am [(DV a b c).toNat,i,DV a b c] [(0,1),(2,0),(.a 110 111,.s 2 1)] rfl (ql hl) (qt (DV a b c)))) fun h' eb=>?_
  exact hQ _ (ez ok it hI h0 (fun b o e n=>eb b o n e) rfl rfl)
 | str y=>
  cases hi
  have hl:y.cps.size<=i:=by simpa using hx
  refine aF it fun t hit=>?_
  try clear it
  have it':cN C s.heap (.str y) I i:=⟨t,hit⟩
  have e1':y.cps[i]? = none:=by simpa using hl
  unfold F8 at hit
  by_cases q:(y.cps.all (· < 128))=true
  ·rw[if_pos q] at hit
   exact wpAny_pyNext_ascii_end (hq1 (fun zz e=>by cases e) (fun zz e=>by cases e)) hit e1' fun h' eb=>hQ _ (ez ok it' hI h0 (fun b o e n=>eb b o n e) rfl rfl)
  ·rw[if_neg q] at hit
   exact wpAny_pyNext_wide_end (hq1 (fun zz e=>by cases e) (fun zz e=>by cases e)) hit e1' fun h' eb=>hQ _ (ez ok it' hI h0 (fun b o e n=>eb b o n e) rfl rfl)
 | _=>exact it.elim
theorem nW {cv:Value}{Q:Value->Shared->Prop}(ok:Ok C d H A s)(hq:gM d iv)(r:VR C s.heap iv cv)(hi:aS H iv=some all)
  (hQ:∀ I s',Step C No H s H s'->s.heap.get? I=none->cN C s'.heap iv I 0->Q (.ref I) s'):wpAny C.M A (pyIter cv) Q E s:=by
 have push:∀ ob:Obj,Step C No H s H { s with heap:=s.heap.push ob }:=fun ob=>Step.keeps ok.rel ok.top (fun b o e=>Dv _ e) rfl rfl
 cases iv with
 | ref a=>
  dsimp only[VR] at r;subst r
  refine ad (gg ok.rel hi) fun items hl rs=>?_
  exact GZ hl (hQ _ _ (push _) (ba _) ⟨_,DG _ rfl,rfl,rfl⟩)
 | tup l=>
  dsimp only[VR] at r
  refine aG r fun t items ho168_2 ht rs=>?_
  try clear r
  obtain ⟨rfl,nd⟩:=ho168_2
  refine wpAny_pyIter_tuple ht (hQ _ _ (push _) (ba _) ⟨t,items,ht.push _,rs.keep (push _).vk,_,DG _ rfl,rfl,rfl⟩)
 | rng a b c=>
  dsimp only[VR] at r
  refine rk r fun q t u w hr172_4 hr=>?_
  try clear r
  subst hr172_4
  refine wpAny_pyIter_range hr (hq.2 a b c rfl) (hQ _ _ (push _) (ba _) ?_)
  show IsRangeIter _ _ _ _ _
  have e1:a+((0:Nat):Int)*c=a:=by simp
  have e2:DV a b c-((0:Nat):Int)=DV a b c:=by simp
  rw[e1,e2];exact DG _ rfl
 | str y=>
  dsimp only[VR] at r
  refine aF r fun t hr180_1=>?_
  try clear r
  subst hr180_1
  exact wpAny_pyIter_strU (hQ _ _ (push _) (ba _) ⟨t,_,DG _ rfl,rfl,rfl⟩)
 | _=>cases hi
theorem uO {Q:Value->Shared->Prop}(it:cN C s.heap iv I i)(hQ:Q (.ref I) s):wpAny C.M A (pyIter (.ref I)) Q E s:=by
 cases iv with
 | ref a=>exact wpAny_pyIter_listiter it hQ
 | tup l=>obtain ⟨t,items,ht,rs,hit⟩:=it;exact wpAny_pyIter_tupleiter hit hQ
 | rng a b c=>exact wpAny_pyIter_rangeiter it hQ
 | str y=>
  refine aF it fun t hit=>?_
  try clear it
  unfold F8 at hit
  by_cases q:(y.cps.all (· < 128))=true
  ·rw[if_pos q] at hit;exact wpAny_pyIter_striter_ascii hit hQ
  ·rw[if_neg q] at hit;exact wpAny_pyIter_striter_wide hit hQ
 | _=>exact it.elim
theorem xS {t:Expr}{v:Value}{Q:Unit->Shared->Prop}(it:cN C s.heap iv I i)(hQ:Q () s):wpAny C.M A (Hv t (.ref I) v) Q E s:=by
 refine cR it.there fun o T vs h1 h2 n1 n2 h3=>?_
 have hT:(["enumerate", "zip", "dict_itemiterator", "dict_reverseitemiterator", "odict_iterator", "itertools.zip_longest", "itertools.pairwise"].contains T)=false:=by
  cases iv with
  | ref a=>obtain ⟨o',g1,g2,_⟩:=it;rw[h1] at g1;cases g1;rw[h2] at g2;cases g2;decide
  | tup l=>obtain ⟨_,_,_,_,o',g1,g2,_⟩:=it;rw[h1] at g1;cases g1;rw[h2] at g2;cases g2;decide
  | rng a b c=>have g:s.heap.get? I=_:=it;rw[h1] at g;cases g;cases h2;decide
  | str y=>obtain ⟨_,o',g1,g2,_⟩:=it;rw[h1] at g1;cases g1;rw[h2] at g2;cases g2;unfold F8;split <;> decide
  | _=>exact it.elim
 have main:∀ a:Addr,wpAny C.M A (do
   let o <- load I
   match o.cls,o.data with
   | .type n,.fields vs=>
    if ["enumerate", "zip", "dict_itemiterator", "dict_reverseitemiterator", "odict_iterator", "itertools.zip_longest", "itertools.pairwise"].contains n&&vs[0]? == some (rawInt a) then
     rule "for.unpacks-the-owned-tuple"
     updateField I 0 .none
   | _,_=>pure ()) Q E s:=fun a=>by
  refine Dq (wpAny_load h1 ?_)
  rw[h2,h3]
  dsimp only
  rw[hT,Bool.false_and,if_neg (by decide)]
  exact wpAny_pure hQ
 cases t <;> first
  | exact wpAny_pure hQ
  | (cases v <;> first | exact wpAny_pure hQ | exact main _)
end
end
section
open PySem
noncomputable def Dm (env:Env):Addr->Prop:=fun b=>b=env.locals ∨ ∃ x,env.cells.lookup x=some b
noncomputable def Dx (env:Env) (vs:Vs) (i:Nat):Addr->Prop:=fun b=>((∃ x,vs[i]? = some (x,Vk.loc))/\b=env.locals) ∨ ∃ x,vs[i]? = some (x,Vk.cel)/\env.cells.lookup x=some b
noncomputable def xD (env:Env) (vs:Vs) (idx:List Nat):Addr->Prop:=fun b=>∃ i∈idx,Dx env vs i b
theorem lg {env:Env}{vs:Vs}{i:Nat}{b:Addr}(h:Dx env vs i b):Dm env b:=by
 rcases h with ⟨_,e⟩ | ⟨x,_,e⟩
 ·exact .inl e
 ·exact .inr ⟨x,e⟩
theorem pP {env:Env}{vs:Vs}{idx:List Nat}{b:Addr}(h:xD env vs idx b):Dm env b:=let ⟨_,_,h⟩:=h;lg h
section
variable {C:Cx}{d:Md}{env:Env}{vs:Vs}{ns:Ns}{ρ:Lo}{H H':MH}{s s':Shared}{A:D4}{E:Value->Shared->Prop}{D D':Addr->Prop}
theorem Step.widen (x:Step C D H s H s')(hD:∀ b,D b->D' b):Step C D' H s H s' :=
 { x with chg:=fun b o e n nd=>x.chg b o e n fun q=>nd (hD b q),dn:=fun zz zz e=>e }
theorem jH {h:Heap}{a c:Addr}{m:Str->Option Value}{v:Option Value}(x:h.Ns a m)(y:h.IsCell c v):c≠a:=by
 rintro rfl
 refine eU x fun o es ep ho hd zz=>?_
 try clear x
 refine ad y fun o' ho' hd'=>?_
 try clear y
 rw[ho] at ho';cases ho';rw[hd] at hd';cases hd'
theorem fP {i:Nat}{id:Str}{v:V}{cv:Value}{Q:Unit->Shared->Prop}(ES:EnvS env vs ns)(ok:Ok C d H A s)(fi:FI C env vs ρ H s.heap)(hv:iF vs i id=true)(r:VR C s.heap v cv)
  (hQ:∀ s',Step C (Dx env vs i) H s H s'->FI C env vs (ls ρ i v) H s'.heap->Q () s'):wpAny C.M A (storeName env id cv) Q E s:=by
 unfold iF at hv
 rcases Bool.or_eq_true_iff.mp hv with q | q
 ·have q':vs[i]? = some (id,Vk.loc):=by simpa using q
  refine ad fi.ns fun m hm rm=>?_
  refine wpAny_storeName_local (by unfold Gr;rw[ES.names];exact ES.loc i id q') hm (fun h' hn hs=>?_) (by rw[ES.kind];rfl)
  have st:Step C (· = env.locals) H s H { s with heap:=h',toks:=s.toks+1 }:=by
   refine Step.but ok.rel ok.top (fun b o e n=>(hs.2 b n).trans e) (fun b e=>e ▸ fi.locH) (fun b e=>e ▸ fi.loc0) (fun b o e w=>?_) (fun b o es ep e w z=>?_) rfl rfl
   ·subst w;obtain ⟨o',es,ep,ho,hd,_⟩:=hm;rw[ho] at e;cases e;exact .inl ⟨es,ep,hd⟩
   ·subst w;obtain ⟨o',es',ep',ho,hd,_⟩:=hn;exact ⟨o',es',ep',ho,hd⟩
  refine hQ _ (st.widen fun b e=>.inl ⟨⟨id,q'⟩,e⟩) ⟨by rw[kB];exact fi.len,fi.locH,fi.loc0,⟨_,hn,fun j x w e l=>?_⟩,fun j x e=>?_,fun x c e=>?_⟩
  ·by_cases hji:j=i
   ·subst hji
    rw[q'] at e;cases e
    obtain rfl:=jE l
    exact ⟨cv,if_pos rfl,r.keep st.vk⟩
   ·rw[ik (E9 hji)] at l
    refine ad (rm j x w e l) fun cw e1 e2=>?_
    refine ⟨cw,?_,e2.keep st.vk⟩
    rw[if_neg];exact e1
    rintro rfl
    exact hji (ES.uni j i _ _ _ e q' (by decide) (by decide))
  ·refine dD (fi.cel j x e) fun c oc h1 h2 h3 h4 h5=>?_
   refine ⟨c,oc,h1,h2,h3,h4.sameBut hs (jH hm h4),fun w l=>?_⟩
   by_cases hji:j=i
   ·subst hji;rw[q'] at e;cases e
   ·rw[ik (E9 hji)] at l
    refine ad (h5 w l) fun cw e1 e2=>?_
    exact ⟨cw,e1,e2.keep st.vk⟩
  ·obtain ⟨g1,g2,oc,g3⟩:=fi.cex x c e
   exact ⟨g1,g2,oc,g3.sameBut hs (jH hm g3)⟩
 ·have q':vs[i]? = some (id,Vk.cel):=by simpa using q
  refine dD (fi.cel i id q') fun c oc h1 h2 h3 h4 h5=>?_
  refine ad fi.ns fun m hm rm=>?_
  refine wpAny_storeName_cell ES.kind (by unfold Gr;rw[ES.names];exact ES.cel i id q') h1 h4 (fun h' hn hs=>?_)
  have st:Step C (· = c) H s H { s with heap:=h' }:=by
   refine Step.but ok.rel ok.top (fun b o e n=>(hs.2 b n).trans e) (fun b e=>e ▸ h2) (fun b e=>e ▸ h3) (fun b o e w=>?_) (fun b o es ep e w z=>?_) rfl rfl
   ·subst w;obtain ⟨o',ho,hd⟩:=h4;rw[ho] at e;cases e;exact .inr (.inl ⟨_,hd⟩)
   ·subst w;obtain ⟨o',ho,hd⟩:=h4;rw[ho] at e;cases e;rw[hd] at z;cases z
  refine hQ _ (st.widen fun b e=>.inr ⟨id,q',e ▸ h1⟩) ⟨by rw[kB];exact fi.len,fi.locH,fi.loc0,⟨m,hm.sameBut hs (E9 (jH hm h4)),fun j x w e l=>?_⟩,fun j x e=>?_,fun x c' e=>?_⟩
  ·have hji:j≠i:=by rintro rfl;rw[q'] at e;cases e
   rw[ik (E9 hji)] at l
   refine ad (rm j x w e l) fun cw e1 e2=>?_
   exact ⟨cw,e1,e2.keep st.vk⟩
  ·by_cases hji:j=i
   ·subst hji
    rw[q'] at e;cases e
    refine ⟨c,some cv,h1,h2,h3,hn,fun w l=>?_⟩
    obtain rfl:=jE l
    exact ⟨cv,rfl,r.keep st.vk⟩
   ·refine dD (fi.cel j x e) fun c' oc' g1 g2 g3 g4 g5=>?_
    have hcc:c'≠c:=by
     rintro rfl
     have hx:=ES.apt x id c' g1 h1
     subst hx
     exact hji (ES.uni j i _ _ _ e q' (by decide) (by decide))
    refine ⟨c',oc',g1,g2,g3,g4.sameBut hs hcc,fun w l=>?_⟩
    rw[ik (E9 hji)] at l
    refine ad (g5 w l) fun cw e1 e2=>?_
    exact ⟨cw,e1,e2.keep st.vk⟩
  ·obtain ⟨g1,g2,oc,g3⟩:=fi.cex x c' e
   by_cases hcc:c'=c
   ·subst hcc;exact ⟨g1,g2,_,hn⟩
   ·exact ⟨g1,g2,oc,g3.sameBut hs hcc⟩
theorem FI.dm (fi:FI C env vs ρ H s.heap):∀ b,Dm env b -> ∃ o,s.heap.get? b=some o:=fun b hb=>by
 rcases hb with rfl | ⟨x,e⟩
 ·refine ad fi.ns fun m ho98_1 zz=>?_
  obtain ⟨o,_,_,ho,_⟩:=ho98_1
  exact ⟨o,ho⟩
 ·obtain ⟨_,_,_,o,ho,_⟩:=fi.cex x b e
  exact ⟨o,ho⟩
theorem Cb {P:List Str->Prop}{i:Nat}{is:List Nat}{l:List Str}(h:c7 vs (i::is) l=true)(k:∀ x xs,iF vs i x=true->c7 vs is xs=true->P (x::xs)):P l:=n9 h fun x r h=>k x r (aD h) (ax h)
theorem nB:∀ {is:List Nat} {xs:List Str},c7 vs is xs=true->is.length=xs.length
 | [],_,h=>fk (P:=fun l:List Str=>0=l.length) h rfl
 | _::_,_,h=>Cb (P:=fun l=>_+1=l.length) h fun zz zz zz h=>congrArg (· + 1) (nB h)
theorem kC:∀ {ts:List Expr} {xs:List Str},dp ts=some xs->ts.length=xs.length
 | [],_,h=>by cases h;rfl
 | _::_,_,h=>n6 (P:=fun zz xs=>_+1=xs.length) h fun zz zz zz h=>congrArg (· + 1) (kC h)
theorem kD:∀ {es:List Expr} {tg:List Str},dp es=some tg->(Fv es env).findIdx? (·.1)=none/\(Fv es env).length=es.length
 | [],_,h=>⟨rfl,rfl⟩
 | e::es,tg,h=>n6 (P:=fun e zz=>(Fv (e::es) env).findIdx? (·.1)=none/\(Fv (e::es) env).length=es.length+1) h fun id p tg' h=>by
  have:=kD h
  refine ⟨?_,congrArg (· + 1) this.2⟩
  show List.findIdx? (·.1) ((false,GA (.Name id p) env)::Fv es env)=none
  rw[List.findIdx?_cons,this.1];rfl
theorem vm {k:Nat}{x:V}{xs:List V}(hk:k≠1)(hp:parts k x=some xs):x = .tup xs/\xs.length=k:=by
 unfold parts at hp
 rw[if_neg hk] at hp
 cases x with
 | tup l=>
  have hp:(if l.length=k then some l else none)=some xs:=hp
  by_cases q:l.length=k
  ·rw[if_pos q] at hp;cases hp;exact ⟨rfl,q⟩
  ·rw[if_neg q] at hp;cases hp
 | _=>cases hp
theorem rz {Q:Unit->Shared->Prop}(ES:EnvS env vs ns):∀ {es:List Expr} {tg:List Str} {idx:List Nat} {xs:List V} {cvs:List Value} {ρ:Lo} {s:Shared},dp es=some tg->c7 vs idx tg=true ->
  Ok C d H A s->FI C env vs ρ H s.heap->aJ C s.heap xs cvs->xs.length=idx.length ->
  (∀ s',Step C (xD env vs idx) H s H s'->FI C env vs (j1 ρ idx xs) H s'.heap->Q () s')->wpAny C.M A (assignInOrder ((Fv es env).map (·.2)) cvs) Q E s:=by
 intro es
 induction es with
 | nil=>
  intro tg idx xs cvs ρ s h hc ok fi r hl hQ
  cases h
  obtain rfl:idx = []:=Ey.mp (nB hc)
  obtain rfl:xs = []:=Ey.mp hl
  obtain rfl:=r.inv_nil
  exact (show wpAny C.M A (pure ()) Q E s from wpAny_pure (hQ s (.refl ok.rel ok.top) fi))
 | cons e es ih=>
  intro tg idx xs cvs ρ s h hc ok fi r hl hQ
  refine n6 (P:=fun e tg=>c7 vs idx tg=true->wpAny C.M A (assignInOrder ((Fv (e::es) env).map (·.2)) cvs) Q E s) h (fun id p tg' e1 hc=>?_) hc
  cases idx with
  | nil=>exact (DP hc).elim
  | cons i is=>
   cases xs with
   | nil=>cases hl
   | cons x xs=>
    refine aG r.inv_cons fun cv cvs' hr150_2 r1 r2=>?_
    subst hr150_2
    show wpAny C.M A (FH cvs' (GA (.Name id p) env cv) >>= fun zz=>assignInOrder ((Fv es env).map (·.2)) cvs') Q E s
    refine Dq (DT (wpAny_assign_Name (fP ES ok fi (aD hc) r1 fun s1 st fi1=>?_)))
    exact ih e1 (ax hc) (ok.step st) fi1 (r2.keep st.vk) (Nat.succ.inj hl) fun s2 st2 fi2=>hQ s2 ((st.widen fun b hb=>⟨i,.head _,hb⟩).trans (st2.widen fun b hq1=>ad hq1 fun j hj hb=>⟨j,.tail _ hj,hb⟩)) fi2
theorem mE {es:List Expr}{k:Nat}{p:Pos}{tg:List Str}{idx:List Nat}{x:V}{xs:List V}{cv:Value}{Q:Unit->Shared->Prop}(ES:EnvS env vs ns)(h2:2<=es.length)(ht:dp es=some tg)(hc:c7 vs idx tg=true)
  (ok:Ok C d H A s) (fi:FI C env vs ρ H s.heap) (r:VR C s.heap x cv) (hp:parts idx.length x=some xs)
  (hQ:∀ s',Step C (xD env vs idx) H s H s'->FI C env vs (j1 ρ idx xs) H s'.heap->Q () s'):wpAny C.M A (GA (.Tuple es k p) env cv) Q E s:=by
 have hi:idx.length=es.length:=(nB hc).trans (kC ht).symm
 obtain ⟨rfl,hl⟩:=vm (by rw[hi];exact fun q=>absurd (q ▸ h2) (by decide)) hp
 dsimp only[VR] at r
 refine aG r fun a items ho162_2 htu rs=>?_
 try clear r
 obtain ⟨rfl,nd⟩:=ho162_2
 have hs:=kD (env:=env) ht
 refine oS ok.hnd.2 htu (by rw[hs.2,<- hi,<- hl,rs.length,DS]) hs.1 fun h' eb=>?_
 have st:Step C No H s H { s with heap:=h' }:=Step.keeps ok.rel ok.top (fun b o e=>eb b o (GK (D_ e)) e) rfl rfl
 exact rz ES ht hc (ok.step st) (fi.stepN st) (rs.keep st.vk) hl fun s2 st2 fi2=>hQ s2 ((st.weaken fun b hb=>fi.dm b (pP hb)).trans st2) fi2
theorem mD {t':Expr}{tg:List Str}{idx:List Nat}{x:V}{xs:List V}{cv:Value}{Q:Unit->Shared->Prop}(ES:EnvS env vs ns)(ht:ei t'=some tg)(hc:c7 vs idx tg=true)
  (ok:Ok C d H A s) (fi:FI C env vs ρ H s.heap) (r:VR C s.heap x cv) (hp:parts idx.length x=some xs)
  (hQ:∀ s',Step C (xD env vs idx) H s H s'->FI C env vs (j1 ρ idx xs) H s'.heap->Q () s'):wpAny C.M A (GA t' env cv) Q E s:=by
 refine BH (P:=fun t' tg=>c7 vs idx tg=true->wpAny C.M A (GA t' env cv) Q E s) ht (fun id p hc=>?_) (fun es k p h2 hx hc=>mE ES h2 hx hc ok fi r hp hQ) hc
 match idx with
 | []=>exact (DP hc).elim
 | _::_::_=>exact (DP (ax hc)).elim
 | [i]=>
  obtain rfl : [x]=xs:=Eh hp
  exact wpAny_assign_Name (fP ES ok fi (aD hc) r fun s' st fi'=>hQ s' (st.widen fun b hb=>⟨i,.head _,hb⟩) fi')
end
end
section
open PySem
noncomputable def dZ (env:Env):Ns->List (Str × Addr)->List (Str × Addr)
 | [],acc=>acc
 | (n,k)::r,acc=>if k == .free then dZ env r ((n,(env.cells.lookup n).getD 0)::acc) else dZ env r acc
theorem fN {env:Env}:∀ {l:Ns} {acc:List (Str × Addr)},(∀ x∈l,x.2 = .free->(env.cells.lookup x.1).isSome=true)->(∀ x c,acc.lookup x=some c->env.cells.lookup x=some c) ->
  ∀ x c,(dZ env l acc).lookup x=some c->env.cells.lookup x=some c
 | [],_,_,h=>h
 | (n,k)::r,acc,hf,h=>by
  unfold dZ
  have hf':∀ x∈r,x.2 = .free->(env.cells.lookup x.1).isSome=true:=fun x hx=>hf x (.tail _ hx)
  split
  ·rename_i hk
   refine fN hf' fun x c e=>?_
   rw[EL] at e
   split at e
   ·rename_i hx
    cases e
    have hx':x=n:=beq_iff_eq.mp hx
    subst hx'
    refine aF (Fj.mp (hf (x,k) (.head _) (beq_iff_eq.mp hk))) fun c hc=>?_
    rw[hc];rfl
   ·exact h x c e
  ·exact fN hf' h
theorem kg {env:Env}:∀ {l:Ns} {acc:List (Str × Addr)} {x:Str},((x,Fz)∈l ∨ (acc.lookup x).isSome=true)->((dZ env l acc).lookup x).isSome=true
 | [],_,_,h=>h.elim (fun e=>nomatch e) id
 | (n,k)::r,acc,x,h=>by
  unfold dZ
  split
  ·refine kg ?_
   by_cases hx:x=n
   ·subst hx;exact .inr (by simp)
   ·refine h.imp (fun e=>?_) fun e=>?_
    ·cases e with
     | head=>exact (hx rfl).elim
     | tail _ e=>exact e
    ·rw[EL]
     have:(x==n)=false:=by simpa using hx
     rw[this];exact e
  ·rename_i hk
   refine kg (h.imp (fun e=>?_) id)
   cases e with
   | head=>exact absurd (beq_self_eq_true Fz) hk
   | tail _ e=>exact e
theorem mJ {scope:Scope}{env:Env}(hf:∀ x∈scope.names,x.2 = .free->(env.cells.lookup x.1).isSome=true):closureFor scope env=pure (dZ env scope.names []):=by
 simp -iota only[closureFor]
 have key:∀ (l:Ns) (acc:List (Str × Addr)),(∀ x∈l,x.2 = .free->(env.cells.lookup x.1).isSome=true) ->
   (forIn l acc fun x r=>(if (x.2==Fz)=true then (do let a <- cellOf env x.1;pure (Fb ((x.1,a)::r))) else pure (Fb r):Sem _))=pure (dZ env l acc):=by
  intro l
  induction l with
  | nil=>intro acc _;rfl
  | cons x l ih=>
   intro acc h
   obtain ⟨n,k⟩:=x
   rw[F4]
   have ih':=fun acc=>ih acc fun x hx=>h x (.tail _ hx)
   by_cases hk:(k==Fz)=true
   ·refine aF (Fj.mp (h (n,k) (.head _) (beq_iff_eq.mp hk))) fun c hc=>?_
    have hc':env.cells.lookup n=some c:=hc
    simp -iota only[hk,if_true,dZ]
    rw[show cellOf env n=pure c from by unfold cellOf;rw[hc']]
    show (forIn l ((n,c)::acc) _:Sem _)=_
    rw[ih',hc'];rfl
   ·simp -iota only[hk,dZ,D2,if_false]
    show (forIn l acc _:Sem _)=_
    rw[ih']
 have:=key scope.names [] hf
 rw[this];rfl
theorem oN:∀ (inner outer:Ns),inner.map (fun (n,k)=>if (k==Fz&&true&&outer.lookup n==some G8)=true then (n,G8) else (n,k))=bK inner outer
 | [],_=>rfl
 | (n,k)::r,outer=>by
  rw[D3,oN r outer,bK]
  dsimp only
  rw[Bool.and_true]
  by_cases hc:(k==Fz&&outer.lookup n==some G8)=true
  ·rw[hc];rfl
  ·rw[if_neg hc,if_neg hc]
theorem wO {sc:Scope}{env:Env}{ns:Ns}(hk:env.scope.kind = .function)(hn:env.scope.names=ns):(relabel sc env).names=bK sc.names ns:=by
 rw[<- oN]
 unfold relabel
 simp -iota only[hk,Gr,hn]
 rfl
theorem gw {outer:Ns}{x:Str}:∀ {inner:Ns},inner.lookup x=some .local->(bK inner outer).lookup x=some .local
 | [],h=>by simp at h
 | (n,k)::l,h=>by
  rw[bK,EL]
  rw[EL] at h
  cases hx:x==n with
  | true=>rw[hx] at h;cases h;rfl
  | false=>rw[hx] at h;exact gw h
theorem nv {outer:Ns}{x:Str}:∀ {inner:Ns},(∀ y∈inner,y.2 ≠ .cell)->(bK inner outer).lookup x=some .cell->(x,Fz)∈inner
 | [],_,h=>by simp[bK] at h
 | (n,k)::l,hn,h=>by
  rw[bK,EL] at h
  cases hx:x==n with
  | true=>
   rw[hx] at h
   by_cases hc:(k==Fz&&outer.lookup n==some G8)=true
   ·have hk:k = .free:=by simp at hc;exact hc.1
    rw[beq_iff_eq.mp hx,hk];exact .head _
   ·simp only[hc] at h
    exact absurd (by simpa using h) (hn (n,k) (.head _))
  | false=>rw[hx] at h;exact .tail _ (nv (fun y hy=>hn y (.tail _ hy)) h)
section
variable {vs:Vs}{inner:Ns}{tg:List Str}
theorem eM {i:Nat}{x:Str}{k:Vk}(h:(bO vs inner tg)[i]? = some (x,k))(hi:i<vs.length):(k = .cel/\vs[i]? = some (x,.cel)/\inner.lookup x=some .cell) ∨ k = .hid:=by
 unfold bO at h
 rw[EE (by simpa using hi),DC] at h
 refine ad (DE.mp h) fun y e1 e2=>?_
 obtain ⟨n,k'⟩:=y
 dsimp only at e2
 split at e2
 ·rename_i hc
  cases e2
  simp only[Ev,beq_iff_eq] at hc
  refine az hc fun h1 h2=>?_
  try clear hc
  subst h1
  exact .inl ⟨rfl,e1,h2⟩
 ·cases e2;exact .inr rfl
theorem eL {i:Nat}{x:Str}{k:Vk}(h:(bO vs inner tg)[i]? = some (x,k))(hi:¬ i<vs.length):k = .loc/\tg[i-vs.length]? = some x:=by
 unfold bO at h
 rw[D1 (by simpa using hi),DC,Dt] at h
 refine ad (DE.mp h) fun y e1 e2=>?_
 cases e2
 exact ⟨rfl,e1⟩
theorem wp {j:Nat}{x:Str}(h:tg[j]? = some x):(bO vs inner tg)[vs.length+j]? = some (x,.loc):=by
 unfold bO
 rw[D1 (by simp),DC,Dt]
 simp[h]
theorem pW:(bO vs inner tg).length=vs.length+tg.length:=by simp[bO]
end
section
variable {C:Cx}{d:Md}{env:Env}{vs:Vs}{ns:Ns}{ρ:Lo}{H H':MH}{s s':Shared}{A:D4}{E:Value->Shared->Prop}{sc:Scope}{tg:List Str}{Cn:Addr}
theorem uq (ES:EnvS env vs ns)(hk:sc.kind = .function)(hl:∀ x∈tg,sc.names.lookup x=some .local)(nd:tg.Nodup)(hf:∀ x∈sc.names,x.2 = .free->(env.cells.lookup x.1).isSome=true) :
  EnvS (compEnvC sc (dZ env sc.names []) Cn env) (bO vs (bK sc.names ns) tg) (bK sc.names ns) where
 kind:=hk
 names:=wO ES.kind ES.names
 glb:=ES.glb
 blt:=ES.blt
 loc:=fun i x h=>by
  by_cases hi:i<vs.length
  ·rcases eM h hi with ⟨q,_⟩ | q <;> cases q
  ·exact gw (hl x (DQ (eL h hi).2))
 cel:=fun i x h=>by
  by_cases hi:i<vs.length
  ·rcases eM h hi with ⟨_,_,q⟩ | q
   ·exact q
   ·cases q
  ·have:=(eL h hi).1;cases this
 uni:=fun i j x k k' h h' n n'=>by
  by_cases hi:i<vs.length <;> by_cases hj:j<vs.length
  ·rcases eM h hi with ⟨_,q,_⟩ | q
   ·rcases eM h' hj with ⟨_,q',_⟩ | q'
    ·exact ES.uni i j x _ _ q q' (by decide) (by decide)
    ·exact (n' q').elim
   ·exact (n q).elim
  ·rcases eM h hi with ⟨_,_,q⟩ | q
   ·have:=gw (outer:=ns) (hl x (DQ (eL h' hj).2));rw[q] at this;cases this
   ·exact (n q).elim
  ·rcases eM h' hj with ⟨_,_,q⟩ | q
   ·have:=gw (outer:=ns) (hl x (DQ (eL h hi).2));rw[q] at this;cases this
   ·exact (n' q).elim
  ·have h1:=(eL h hi).2
   have h2:=(eL h' hj).2
   have:=(List.getElem?_inj (DD.mp h1).1 nd).mp (h1.trans h2.symm)
   exact cy (ae [j-D0 vs,i-D0 vs,D0 vs,i,j] [(0,1),(.a 1 2,3),(4,.a 0 2),(41,4)] rfl (mf this) (md (ae [D0 vs,i] [(0,1),(21,0)] rfl (mn hi))) (ms j (D0 vs))) (ae [i-D0 vs,j-D0 vs,i,D0 vs,j] [(0,1),(2,.a 0 3),(.a 1 3,4),(51,2)] rfl (me this) (ms i (D0 vs)) (md (ae [D0 vs,j] [(0,1),(21,0)] rfl (mn hj))))
 apt:=fun x y c h h'=>ES.apt x y c (fN hf (by simp) x c h) (fN hf (by simp) y c h')
theorem nY {k:Nat}:∀ {i:Nat},lk (DN k (none:Option V)) i=none:=by
 induction k with
 | zero=>intro i;rfl
 | succ k ih=>intro i;cases i with
  | zero=>rfl
  | succ i=>simpa [Fk,lk] using ih
theorem yk {m:Str->Option Value}(ES:EnvS env vs ns)(fi:FI C env vs ρ H s.heap)(hnc:∀ x∈sc.names,x.2 ≠ .cell)(hf:∀ x∈sc.names,x.2 = .free->(env.cells.lookup x.1).isSome=true)
  (hCH:H Cn=none) (hC0:C.h0.get? Cn=none) (hns:s.heap.Ns Cn m) :
  FI C (compEnvC sc (dZ env sc.names []) Cn env) (bO vs (bK sc.names ns) tg) (ρ++DN tg.length none) H s.heap where
 len:=by rw[pW,DZ,FE,fi.len]
 locH:=hCH
 loc0:=hC0
 ns:=⟨m,hns,fun i x v h l=>by
  by_cases hi:i<vs.length
  ·rcases eM h hi with ⟨q,_⟩ | q <;> cases q
  ·exfalso
   have e:i=ρ.length+(i-vs.length):=by have:=fi.len;exact cy (ae [D0 ρ,D0 vs,i-D0 vs,i] [(0,1),(.a 2 1,3),(41,.a 0 2)] rfl (me this) (md (ae [D0 vs,i] [(0,1),(21,0)] rfl (mn hi)))) (ae [D0 vs,D0 ρ,i,i-D0 vs] [(0,1),(2,.a 3 0),(.a (.a 1 3) 111,2)] rfl (mf this) (ms i (D0 vs)))
   rw[e,iT,nY] at l;cases l⟩
 cel:=fun i x h=>by
  by_cases hi:i<vs.length
  ·rcases eM h hi with ⟨_,q,q2⟩ | q
   ·refine dD (fi.cel i x q) fun c oc h1 h2 h3 h4 h5=>?_
    refine ⟨c,oc,?_,h2,h3,h4,fun v l=>h5 v ?_⟩
    ·refine aF (Fj.mp (kg (env:=env) (acc:=[]) (.inl (nv hnc q2)))) fun c' hc'=>?_
     have:=fN hf (by simp) x c' hc'
     rw[h1] at this;cases this
     exact hc'
    ·rwa [fX (by rw[fi.len];exact hi)] at l
   ·cases q
  ·have:=(eL h hi).1;cases this
 cex:=fun x c h=>fi.cex x c (fN hf (by simp) x c h)
end
end
section
open PySem
section
variable {C:Cx}{A:D4}{R:Result->Shared->Prop}{s:Shared}
theorem pH {elt target iter:Expr}{ifs:List Expr}{scope:Scope}{pos:Pos}{it acc:Value}{env:Env}(I:Nat->Shared->Prop)
  (turn:∀ n s,I n s->wpAny C.M A (FW it) (fun r s₁=>match r with
   | none=>R (.ok .next) s₁
   | some v=>wpAny C.M A (Hv target it v) (fun zz s₁'=>wpAny C.M A (GA target env v) (fun zz s₂=>
     wpAny C.M A (forIn ifs true fun c r=>if r=true then do let ok <- isTrue c env (FX c env);pure (Fb ok) else pure (Fb r)) (fun ok s₃=>
      if ok=true then wpAny C.M A (FX elt env) (fun x s₄=>
       wpAny C.M A (call (.builtin "list.append") [acc,x]) (fun zz s₅=>∃ m,m<n/\I m s₅) (G0 C.M A env fun e s'=>R (.error e) s') s₄) (G0 C.M A env fun e s'=>R (.error e) s') s₃
      else ∃ m,m<n/\I m s₃) (G0 C.M A env fun e s'=>R (.error e) s') s₂) (G0 C.M A env fun e s'=>R (.error e) s') s₁') (G0 C.M A env fun e s'=>R (.error e) s') s₁) (G0 C.M A env fun e s'=>R (.error e) s') s)
  (n:Nat) (h:I n s) :
  GJ C.M A (.compLoop (.ListComp elt [⟨target,iter,ifs,0⟩] scope pos) 0 it acc env) R s:=by
 refine codeAny_loop rfl I (fun n s hI=>?_) n h
 show wpAny _ A ((compTurn (.ListComp elt [⟨target,iter,ifs,0⟩] scope pos) 0 it acc env).onRaise (fun x=>do noteFrame x env;theTreesLotGoes x)) _ _ s
 refine wpAny_noted ?_
 rw[compTurn_list]
 refine Dq (Ej (Dq (Dy (turn n s hI) (fun r s₁ h₁=>?_) fun zz zz h'=>h')))
 cases r with
 | none=>exact wpAny_pure h₁
 | some v=>
  refine Dq (Dy h₁ (fun zz s₁' h₁'=>?_) fun zz zz h'=>h')
  refine Dq (Dy h₁' (fun zz s₂ h₂=>Dq (Dy h₂ (fun ok s₃ h₃=>?_) fun zz zz h'=>h')) fun zz zz h'=>h')
  cases ok with
  | false=>exact wpAny_pure ⟨rfl,h₃⟩
  | true=>
   exact Dq (Dq (Dy h₃ (fun x s₄ h₄=>Dq (Dy h₄ (fun zz s₅ h₅=>wpAny_pure (wpAny_pure ⟨rfl,h₅⟩)) fun zz zz h'=>h')) fun zz zz h'=>h'))
end
theorem uU:∀ (ρ:Lo) (y:Option V) (t:Lo) (x:V),ls (ρ++y::t) ρ.length x=ρ++some x::t
 | [],_,_,_=>rfl
 | z::ρ,y,t,x=>by simp[ls,uU ρ y t x]
theorem su:∀ (xs:List V) (ρ:Lo),j1 (ρ++DN xs.length none) (HK ρ.length xs.length) xs=ρ++xs.map some
 | [],ρ=>by simp[j1]
 | x::xs,ρ=>by
  rw[E7,Fk,List.range'_succ,j1,uU]
  have:=su xs (ρ ++ [some x])
  simp only[DZ,FD,FK,List.singleton_append] at this
  rw[this];simp
theorem qE {k:Nat}{x:V}{xs:List V}(h:parts k x=some xs):xs.length=k:=by
 unfold parts at h
 split at h
 ·rename_i e;cases h;exact e.symm
 ·split at h
  ·split at h
   ·rename_i e;cases h;exact e
   ·cases h
  ·cases h
theorem lC {vs:Vs}{inner:Ns}{tg:List Str}:∀ {l:List Str} {n:Nat},(∀ j,l[j]? = tg[n+j]?)->c7 (bO vs inner tg) (HK (vs.length+n) l.length) l=true
 | [],_,_=>rfl
 | x::l,n,h=>by
  rw[E7,List.range'_succ]
  have h0:tg[n]? = some x:=(h 0).symm
  have h1:iF (bO vs inner tg) (vs.length+n) x=true:=by unfold iF;rw[wp (vs:=vs) (inner:=inner) h0,beq_self_eq_true];rfl
  have ih:=lC (vs:=vs) (inner:=inner) (tg:=tg) (l:=l) (n:=n+1) fun j=>(h (j+1)).trans (by congr 1;exact cy (ae [n,j] [(.a (.a 0 21) 111,.a 11 1)] rfl) (ae [n,j] [(.a (.a 11 1) 111,.a 0 21)] rfl))
  exact DH.mpr ⟨h1,ih⟩
section
variable {C:Cx}{d:Md}{env:Env}{vs:Vs}{ns:Ns}{ρ:Lo}{H H':MH}{s s' s'':Shared}{A:D4}{E:Value->Shared->Prop}{sc:Scope}{tg:List Str}{Cn:Addr}{D:Addr->Prop}
theorem FI.forget {ts:Lo}{k:Nat}{h:Heap}(fi:FI C env vs (ρ++ts) H h)(hk:ts.length=k):FI C env vs (ρ++DN k none) H h:=by
 have key:∀ (i:Nat) (v:V),lk (ρ++DN k none) i=some v->lk (ρ++ts) i=some v:=fun i v l=>by
  by_cases hi:i<ρ.length
  ·rw[fX hi] at l ⊢;exact l
  ·rw[show i=ρ.length+(i-ρ.length) by exact cy (ae [i-D0 ρ,D0 ρ,i] [(.a 0 1,2),(31,.a 1 0)] rfl (md (ae [D0 ρ,i] [(0,1),(21,0)] rfl (mn hi)))) (ae [i,i-D0 ρ,D0 ρ] [(0,.a 1 2),(.a (.a 2 1) 111,0)] rfl (ms i (D0 ρ))),iT,nY] at l;cases l
 refine ad fi.ns fun m hm r=>?_
 refine ⟨by have:=fi.len;simp only[DZ,FE,hk] at this ⊢;exact this,fi.locH,fi.loc0,⟨m,hm,fun i x v e l=>r i x v e (key i v l)⟩,fun i x e=>?_,fi.cex⟩
 refine dD (fi.cel i x e) fun c oc h1 h2 h3 h4 h5=>?_
 exact ⟨c,oc,h1,h2,h3,h4,fun v l=>h5 v (key i v l)⟩
theorem sG (x:Step C D H s H' s')(hD:∀ b,D b->s.heap.get? b=none){b:Addr}(e:s'.heap.get? b=none):s.heap.get? b=none:=by
 cases q:s.heap.get? b with
 | none=>rfl
 | some o=>
  by_cases u:(H b).isSome=true
  ·refine aF (x.rel.there (x.dom b u)) fun ob w=>?_
   rw[e] at w
   cases w
  ·by_cases dd:D b
   ·rw[hD b dd] at q;cases q
   ·refine ad (x.chg b o q (by simpa using u) dd) fun sl w zz=>?_
    rw[e] at w
    cases w
theorem Fly.back' {tr:Bool}{a:Addr}{c:String}{h:Heap}(st:Step C D H s H' s')(hD:∀ b,D b->s.heap.get? b=none)(x:Fly C tr s' a c h):Fly C tr s a c h:=by
 obtain ⟨new,o,ws,r,h1,h2,h3,h4,h5,h6,h7⟩:=x
 exact ⟨sG st hD new,o,ws,r,h1,h2,h3,h4,h5,h6,h7.imp id fun hq1=>eU hq1 fun T oT ts g1 g2 g3=>⟨T,oT,ts,g1,sG st hD g2,g3⟩⟩
theorem XG.lift {tr:Bool}{X:XP}{X':XH}{e:Value}(st:Step C D H s H' s')(hD:∀ b,D b->s.heap.get? b=none)(hx:∀ b,D b -> ∃ o,s'.heap.get? b=some o)
  (hX:∀ c H2 s2,Step C No H' s' H2 s2->X c H2->X' c H2 s2.heap) (hN:∀ b,D b->H' b=none) (x:XQ tr C No H' s' X e s''):XG tr C D H s X' e s'':=by
 refine cR x fun a c H2 h1 h2 h3 h4 h5=>?_
 try clear x
 refine ⟨a,c,H2,h1,st.trans (h2.weaken hx),fun b hb=>?_,h4.back' st hD,hX c H2 s'' h2 h5⟩
 refine aF (hx b hb) fun o w=>?_
 refine ad (h2.chg b o w (hN b hb) (fun f=>f)) fun sl w' zz=>?_
 exact ⟨_,w'⟩
end
end
section
open PySem
noncomputable def DI (I Dl Cn:Addr):Addr->Prop:=fun b=>b=I ∨ b=Dl ∨ b=Cn
noncomputable def lw (ifs:List Expr) (env:Env):Sem Bool:=forIn ifs true fun c r=>if r=true then do let ok <- isTrue c env (FX c env);pure (Fb ok) else pure (Fb r)
section
variable {C:Cx}{d:Md}{env:Env}{vs:Vs}{ns:Ns}{ρ:Lo}{H1:MH}{s1 s2:Shared}{A:D4}{E:Value->Shared->Prop}{sc:Scope}{tg:List Str}{X:XP}
 {elt it:Ex} {ifs:List Ex} {elt' it' t':Expr} {ifs':List Expr} {p:Pos} {iv:V} {all:List V} {I:Addr}
theorem cN.neD {h:Heap}{i:Nat}{b:Addr}{o:Obj}(x:cN C h iv I i)(ho:h.get? b=some o)(hd:∀ ws,o.data ≠ .fields ws):b≠I:=fun q=>
 x.there.elim fun o2 y=>y.elim fun T y=>y.elim fun ws y=>hd ws (Eh ((q ▸ ho).symm.trans y.1) ▸ y.2.2.2.2)
theorem qF {h:Heap}{i:Nat}{Dl:Addr}{items:Array Value}(x:cN C h iv I i)(y:h.PlainList Dl items):Dl≠I :=
 y.elim fun n e=>x.neD e fun ws q=>Hk q
theorem lq {Hx Hy:MH}{sa sb:Shared}{D:Addr->Prop}{Dl:Addr}{its:Array Value}(x:sa.heap.PlainList Dl its)(y:Step C D Hx sa Hy sb)(hx:Hx Dl=none)(nd:¬ D Dl):sb.heap.PlainList Dl its :=
 x.at fun o e=>by
  refine ad (y.chg Dl o e hx nd) fun sl w q=>?_
  refine aF x fun n h1=>?_
  try clear x
  rw[h1] at e
  cases e
  rw[q (by intro es ep z;cases z)] at w;exact w
section
variable {ce:Env}{vs':Vs}{ns':Ns}{Dl:Addr}
theorem FI.neL {h:Heap}{i:Nat}{ρ':Lo}{H:MH}(x:cN C h iv I i)(y:FI C ce vs' ρ' H h):ce.locals≠I :=
 y.ns.elim fun m z=>z.1.elim fun o z=>z.elim fun es z=>z.elim fun ep z=>x.neD z.1 fun ws q=>Hk (z.2.1.symm.trans q)
theorem FI.neC {h:Heap}{i:Nat}{ρ':Lo}{H:MH}{z:Str}{c:Addr}(x:cN C h iv I i)(y:FI C ce vs' ρ' H h)(e:ce.cells.lookup z=some c):c≠I :=
 (y.cex z c e).2.2.elim fun oc q=>q.elim fun o q=>x.neD q.1 fun ws r=>Hk (q.2.symm.trans r)
theorem FI.neP {h:Heap}{items:Array Value}{ρ':Lo}{H:MH}{z:Str}{c:Addr}(x:h.PlainList Dl items)(y:FI C ce vs' ρ' H h)(e:ce.cells.lookup z=some c):c≠Dl:=fun q=>by
 obtain ⟨_,_,oc,o,ho,hd⟩:=y.cex z c e
 refine aF x fun n h1=>?_
 try clear x
 rw[q,h1] at ho;cases ho;cases hd
structure CI (C:Cx)(ce:Env)(vs':Vs)(iv:V)(I Dl:Addr)(H1:MH)(s1:Shared)(ρ':Lo)(i:Nat)(av:List V)(items:Array Value)(H:MH)(s:Shared):Prop where
 st:Step C (DI I Dl ce.locals) H1 s1 H s
 it:cN C s.heap iv I i
 go:∀ b,DI I Dl ce.locals b->H b=none
 pl:s.heap.PlainList Dl items
 rs:aJ C s.heap av items.toList
 fi:FI C ce vs' ρ' H s.heap
section
variable {ρ':Lo}{i:Nat}{av:List V}{items:Array Value}{H H':MH}{s s':Shared}
theorem CI.exs (x:CI C ce vs' iv I Dl H1 s1 ρ' i av items H s):∀ b,DI I Dl ce.locals b -> ∃ o,s.heap.get? b=some o:=fun b hb=>by
 rcases hb with rfl | rfl | rfl
 ·refine f8 x.it.there fun o zz zz h1 zz=>?_
  exact ⟨o,h1⟩
 ·refine aF x.pl fun n h1=>?_
  exact ⟨_,h1⟩
 ·refine ad x.fi.ns fun m ho55_1 zz=>?_
  obtain ⟨o,_,_,ho,_⟩:=ho55_1
  exact ⟨o,ho⟩
theorem CI.no (x:CI C ce vs' iv I Dl H1 s1 ρ' i av items H s)(y:Step C No H s H' s'):CI C ce vs' iv I Dl H1 s1 ρ' i av items H' s' where
 st:=x.st.trans (y.weaken x.exs)
 it:=x.it.step y (x.go I (.inl rfl)) (fun f=>f)
 go:=fun b hb=>(x.exs b hb).elim fun o w=>y.gone w (x.go b hb)
 pl:=lq x.pl y (x.go Dl (.inr (.inl rfl))) (fun f=>f)
 rs:=x.rs.keep y.vk
 fi:=x.fi.stepN y
theorem CI.nx (x:CI C ce vs' iv I Dl H1 s1 ρ' i av items H s)(y:Step C (· = I) H s H s')(z:cN C s'.heap iv I (i+1)):CI C ce vs' iv I Dl H1 s1 ρ' (i+1) av items H s' where
 st:=x.st.trans (y.widen fun b e=>.inl e)
 it:=z
 go:=x.go
 pl:=lq x.pl y (x.go Dl (.inr (.inl rfl))) (qF x.it x.pl)
 rs:=x.rs.keep y.vk
 fi:=x.fi.step y (x.fi.neL x.it) fun zz zz e=>x.fi.neC x.it e
theorem CI.as {D:Addr->Prop}{ρ2:Lo}(x:CI C ce vs' iv I Dl H1 s1 ρ' i av items H s)(y:Step C D H s H s')(hD:∀ b,D b->b=ce.locals)(hDC:Dl≠ce.locals)(f:FI C ce vs' ρ2 H s'.heap):CI C ce vs' iv I Dl H1 s1 ρ2 i av items H s' where
 st:=x.st.trans (y.widen fun b e=>.inr (.inr (hD b e)))
 it:=x.it.step y (x.go I (.inl rfl)) fun e=>x.fi.neL x.it (hD _ e).symm
 go:=x.go
 pl:=lq x.pl y (x.go Dl (.inr (.inl rfl))) fun e=>hDC (hD _ e)
 rs:=x.rs.keep y.vk
 fi:=f
theorem CI.ap {cv:Value}{v:V}{h5:Heap}(x:CI C ce vs' iv I Dl H1 s1 ρ' i av items H s)(vr:VR C s.heap v cv)(ok:Ok C d H A s)(hz:C.h0.get? Dl=none)(hDC:Dl≠ce.locals)
  (pl5:h5.PlainList Dl (items.push cv)) (sb5:∀ b,b≠Dl->h5.get? b=s.heap.get? b):CI C ce vs' iv I Dl H1 s1 ρ' i (av ++ [v]) (items.push cv) H { s with heap:=h5 }:=by
 have st5:Step C (· = Dl) H s H { s with heap:=h5 }:=by
  refine aF x.pl fun n h1=>?_
  refine Step.but ok.rel ok.top (fun b o e nb=>(sb5 b nb).trans e) (fun b e=>e ▸ x.go Dl (.inr (.inl rfl))) (fun b e=>e ▸ hz) (fun b o e q=>?_) (fun b o es ep e q z=>?_) rfl rfl
  ·subst q;rw[h1] at e;cases e;exact .inr (.inr ⟨"list",rfl,by decide,by decide⟩)
  ·subst q;rw[h1] at e;cases e;cases z
 exact ⟨x.st.trans (st5.widen fun b e=>.inr (.inl e)),x.it.step st5 (x.go I (.inl rfl)) (qF x.it x.pl).symm,x.go,pl5,
  by rw[G6];exact (x.rs.keep st5.vk).append (aJ.cons (vr.keep st5.vk) aJ.nil),
  x.fi.step st5 (fun q=>hDC q.symm) fun zz zz e=>x.fi.neP x.pl e⟩
theorem CI.er {fenv:Env}{outer:List Env}{R:Value->Shared->Prop}{e:Value}(x:CI C ce vs' iv I Dl H1 s1 ρ' i av items H s)(hfr:A.frames=some (fenv::outer))(hff:fenv.frame=ce.frame)(ok:Ok C d H1 A s1)
  (hnew:∀ b,DI I Dl ce.locals b->s1.heap.get? b=none)
  (herr:∀ s' e,XG true C (DI I Dl ce.locals) H1 s1 (fun c H h=>X c H/\H ce.locals=none /\ ∃ m,h.Ns ce.locals m) e s'->R e s') (hx:XQ false C No H s X e s'):G0 C.M A ce R e s':=by
 have lifted:XG false C (DI I Dl ce.locals) H1 s1 (fun c H h=>X c H/\H ce.locals=none /\ ∃ m,h.Ns ce.locals m) e s' :=
  XG.lift x.st hnew x.exs (fun c H2 s2 st' hX=>⟨hX,(x.fi.stepN st').locH,(x.fi.stepN st').ns.imp fun zz q=>q.1⟩) x.go hx
 have stable:ly C (fun c H h=>X c H/\H ce.locals=none /\ ∃ m,h.Ns ce.locals m):=fun c H sa sb D stD hrec hX=>⟨hX.1,hX.2.1,by
  refine vU hX.2.2 fun m o es ep ho hd r=>?_
  have hnD:¬ D ce.locals:=fun q=>by obtain ⟨vs,w⟩:=hrec ce.locals o q ho;rw[hd] at w;cases w
  refine ad (stD.chg ce.locals o ho hX.2.1 hnD) fun sl w zz=>?_
  exact ⟨m,_,es,ep,w,hd,r⟩⟩
 refine Dy (wF (fenv:=fenv) (outer:=outer) (env:=ce) stable ok hfr hff (fun H' s' stl=>?_) lifted) (fun zz s'' h=>herr s'' e h) fun e' s'' h=>herr s'' e' h
 refine ad ok.frs fun l hl' hfl=>?_
 rw[hfr] at hl';cases hl'
 exact hfl.step stl
end
end
theorem ur {ce:Env}{vs':Vs}{ns':Ns}{fenv:Env}{outer:List Env}{Dl:Addr}{stp:List V->MH->(Option V->MH->Prop)->Prop}{K:List V->MH->Prop}{R:Value->Addr->Result->Shared->Prop}{s0:Shared}{n0:Nat}
  (hst:∀ vs H2 Q',stp vs H2 Q'->gL C d ifs (ρ++vs.map some) H2 (fun t H3=>if t=true then aU C d elt (ρ++vs.map some) H3 (fun v H4=>Q' (some v) H4) X else Q' none H3) X)
  (ES':EnvS ce vs' ns') (hfr:A.frames=some (fenv::outer)) (hff:fenv.frame=ce.frame) (ok:Ok C d H1 A s1) (ht:ei t'=some tg) (hidx:c7 vs' (HK ρ.length tg.length) tg=true)
  (hcl:∀ j x,ρ.length<=j->vs'[j]? ≠ some (x,Vk.cel))
  (hT:∀ s H ρ' (Q:Bool->MH->Prop),Ok C d H A s->FI C ce vs' ρ' H s.heap->gL C d ifs ρ' H Q X->wpAny C.M A (lw ifs' ce) (fun b s'=>∃ H',Step C No H s H' s'/\Q b H') (XQ false C No H s X) s)
  (hE:∀ s H ρ' (Q:V->MH->Prop),Ok C d H A s->FI C ce vs' ρ' H s.heap->aU C d elt ρ' H Q X->wpAny C.M A (FX elt' ce) (QP C H s Q) (XQ false C No H s X) s)
  (hq:gM d iv) (hsz:all.length<=Dz) (hDl1:s1.heap.get? Dl=none) (hCn1:s1.heap.get? ce.locals=none) (hDC:Dl≠ce.locals) (hnew:∀ b,DI I Dl ce.locals b->s1.heap.get? b=none) (hz:∀ b,DI I Dl ce.locals b->C.h0.get? b=none)
  (hok:∀ s' av Hc items,Step C (DI I Dl ce.locals) H1 s1 Hc s'->Hc Dl=none->Hc ce.locals=none->s'.heap.PlainList Dl items->aJ C s'.heap av items.toList ->
   (∃ m,s'.heap.Ns ce.locals m)->K av Hc->R (.ref Dl) ce.locals (.ok .next) s')
  (herr:∀ s' e,XG true C (DI I Dl ce.locals) H1 s1 (fun c H h=>X c H/\H ce.locals=none /\ ∃ m,h.Ns ce.locals m) e s'->R (.ref Dl) ce.locals (.error e) s')
  (h0':∃ i Hc av items,(n0=all.length-i/\i<=all.length/\av.length<=i)/\CI C ce vs' iv I Dl H1 s1 (ρ++DN tg.length none) i av items Hc s0 /\
   jr tg.length iv all stp (all.drop i) av Hc K) :
  GJ C.M A (.compLoop (.ListComp elt' [⟨t',it',ifs',0⟩] sc p) 0 (.ref I) (.ref Dl) ce) (R (.ref Dl) ce.locals) s0:=by
 refine pH (fun n s=>∃ i Hc av items,(n=all.length-i/\i<=all.length/\av.length<=i)/\CI C ce vs' iv I Dl H1 s1 (ρ++DN tg.length none) i av items Hc s /\
   jr tg.length iv all stp (all.drop i) av Hc K)
  (fun n s hI=>?_) n0 h0'
 refine vU hI fun i Hc av items ho122_4 ci Wc=>?_
 try clear hI
 obtain ⟨hn,hi,hsza⟩:=ho122_4
 have err:∀ {Hx:MH} {sx:Shared} {i:Nat} {ρ':Lo},CI C ce vs' iv I Dl H1 s1 ρ' i av items Hx sx -> ∀ e s',XQ false C No Hx sx X e s'->G0 C.M A ce (fun e s'=>R (.ref Dl) ce.locals (.error e) s') e s' :=
  fun c e s' hx=>c.er hfr hff ok hnew herr hx
 have okc:=ok.step ci.st
 have hI0:C.h0.get? I=none:=hz I (.inl rfl)
 rcases Fd i all.length with hlt | hge
 ·-- one more item
  (rw[EF hlt] at Wc;dsimp only[jr] at Wc)
  obtain ⟨hitems,xs,hparts,Wx⟩:=Wc
  have hxl:=qE hparts
  refine oJ okc ci.it (ci.go I (.inl rfl)) hI0 hitems (x:=all[i]) (DA hlt) fun sb cv stb itb vrb=>?_
  have cb:=ci.nx stb itb
  refine xS itb (mD (idx:=HK ρ.length tg.length) ES' ht hidx (okc.step stb) cb.fi vrb (by rw[List.length_range'];exact hparts) fun sc' stc fic'=>?_)
  rw[<- hxl,su] at fic'
  have cc:=cb.as stc (fun b hb=>by
   refine ad hb fun j hj hb=>?_
   rcases hb with ⟨_,e⟩ | ⟨x,e,_⟩
   ·exact e
   ·exfalso
    refine ad (List.mem_range'.mp hj) fun q hq1 hq2=>?_
    exact hcl j x (hq2 ▸ Nat.le_add_right _ _) e) hDC fic'
  have okcc:=ok.step cc.st
  refine Dy (hT sc' Hc _ _ okcc fic' (hst _ _ _ Wx)) (fun b s3 hb=>?_) (err cc)
  refine ad hb fun H3 st3 Q3=>?_
  try clear hb
  have c3:=cc.no st3
  cases b with
  | false=>exact ⟨all.length-(i+1),hn ▸ Nat.sub_lt_sub_left hlt (Nat.lt_succ_self i),i+1,H3,av,items,⟨rfl,hlt,Nat.le_succ_of_le hsza⟩,{ c3 with fi:=c3.fi.forget (by simpa using hxl) },Q3⟩
  | true=>
   refine Dy (hE s3 H3 _ _ (okcc.step st3) c3.fi Q3) (fun cv s4 hb=>?_) (err c3)
   refine aG hb fun v H4 st4 vr4 Q4=>?_
   try clear hb
   have c4:=c3.no st4
   refine wpAny_list_append_plain c4.pl (fun h5 pl5 sb5=>?_) (show items.toList.length<=Dz from c4.rs.length ▸ EI hsza (EI hi hsz))
   have c5:=c4.ap vr4 (ok.step c4.st) (hz Dl (.inr (.inl rfl))) hDC pl5 sb5.2
   exact ⟨all.length-(i+1),hn ▸ Nat.sub_lt_sub_left hlt (Nat.lt_succ_self i),i+1,H4,av ++ [v],items.push cv,⟨rfl,hlt,by rw[DZ];exact Nat.succ_le_succ hsza⟩,{ c5 with fi:=c5.fi.forget (by simpa using hxl) },Q4⟩
 ·-- the end
  (rw[E3 hge] at Wc;dsimp only[jr] at Wc)
  refine qw okc hq ci.it (ci.go I (.inl rfl)) hI0 Wc.1 hge fun sb stb=>?_
  refine hok sb av Hc items (ci.st.trans (stb.widen fun b e=>.inl e)) (ci.go _ (.inr (.inl rfl))) (ci.go _ (.inr (.inr rfl))) (lq ci.pl stb (ci.go Dl (.inr (.inl rfl))) (qF ci.it ci.pl)) (ci.rs.keep stb.vk) ?_ Wc.2
  exact (ci.fi.step stb (ci.fi.neL ci.it) fun zz zz e=>ci.fi.neC ci.it e).ns.imp fun zz q=>q.1
theorem ou (ES:EnvS env vs ns)(ea:EA A env)(ok:Ok C d H1 A s1)(fi:FI C env vs ρ H1 s1.heap)
  (ht:ei t'=some tg) (hl:∀ x∈tg,sc.names.lookup x=some .local) (nd:tg.Nodup) (hk:sc.kind = .function) (hnc:∀ x∈sc.names,x.2 ≠ .cell)
  (hf:∀ x∈sc.names,x.2 = .free->(env.cells.lookup x.1).isSome=true)
  (hT:∀ env' s H ρ' (Q:Bool->MH->Prop),EnvS env' (bO vs (bK sc.names ns) tg) (bK sc.names ns)->EA A env'->Ok C d H A s->FI C env' (bO vs (bK sc.names ns) tg) ρ' H s.heap->gL C d ifs ρ' H Q X ->
   wpAny C.M A (lw ifs' env') (fun b s'=>∃ H',Step C No H s H' s'/\Q b H') (XQ false C No H s X) s)
  (hE:∀ env' s H ρ' (Q:V->MH->Prop),EnvS env' (bO vs (bK sc.names ns) tg) (bK sc.names ns)->EA A env'->Ok C d H A s->FI C env' (bO vs (bK sc.names ns) tg) ρ' H s.heap->aU C d elt ρ' H Q X ->
   wpAny C.M A (FX elt' env') (QP C H s Q) (XQ false C No H s X) s)
  {K:List V->MH->Prop} (hq:gM d iv) (hsz:all.length<=Dz)
  (W:jr tg.length iv all (fun vs H2 Q'=>gL C d ifs (ρ++vs.map some) H2 (fun t H3=>if t=true then aU C d elt (ρ++vs.map some) H3 (fun v H4=>Q' (some v) H4) X else Q' none H3) X) all [] H1 K)
  (st2:Step C No H1 s1 H1 s2) (hI1:s1.heap.get? I=none) (hit:cN C s2.heap iv I 0)
  {R:Value->Addr->Result->Shared->Prop}
  (hok:∀ Dl Cn s' av Hc items,Step C (DI I Dl Cn) H1 s1 Hc s'->s1.heap.get? Dl=none->s1.heap.get? Cn=none->Dl≠Cn->Hc Dl=none->Hc Cn=none->s'.heap.PlainList Dl items->aJ C s'.heap av items.toList ->
   (∃ m,s'.heap.Ns Cn m)->K av Hc->R (.ref Dl) Cn (.ok .next) s')
  (herr:∀ Dl Cn s' e,s1.heap.get? Dl=none->s1.heap.get? Cn=none->XG true C (DI I Dl Cn) H1 s1 (fun c H h=>X c H/\H Cn=none /\ ∃ m,h.Ns Cn m) e s'->R (.ref Dl) Cn (.error e) s') :
  wpAny C.M A (newList []) (fun acc s3=>wpAny C.M A (newFunctionEnv sc env.globals (dZ env sc.names []) [] env.qual none .none (some env)) (fun cenv s4=>
   GJ C.M A (.compStart (.ListComp elt' [⟨t',it',ifs',0⟩] sc p) 0 (.ref I) acc { cenv with scope:=relabel sc env }) (R acc cenv.locals) s4) E s3) E s2:=by
 have ok2:=ok.step st2
 refine D6 (wpAny_newFunctionEnv hnc (by intro y hy;simp at hy) (fun h₁ hns₁ hsb₁=>?_) hk)
 dsimp only at hns₁ hsb₁ ⊢
 generalize hDl:s2.heap.objs.size=Dl at *
 generalize hP:s2.heap.push { cls:=.type "list",dict:=none,data:=.seq ([]:List Value).toArray }=P at *
 generalize hCn:P.objs.size=Cn at *
 have hCn':Cn=Dl+1:=by rw[<- hCn,<- hP,Heap.size_push,hDl]
 have hDC:Dl≠Cn:=by exact BT (ae [Dl,Cn] [(11,1),(.w 0 0,1),(1,0)] rfl (mf hCn'))
 have k2:∀ b o,s2.heap.get? b=some o->h₁.get? b=some o:=fun b o e=>by
  have hb:b<Dl:=hDl ▸ D_ e
  rw[hsb₁.2 b (hCn' ▸ GK (Nat.lt_succ_of_lt hb))]
  exact Dv _ (hP ▸ Dv _ e)
 have hDl2:s2.heap.get? Dl=none:=hDl ▸ ba _
 have hCn2:s2.heap.get? Cn=none:=by
  cases q:s2.heap.get? Cn with
  | none=>rfl
  | some o=>have:=D_ q;rw[hDl,hCn'] at this;exact absurd this (GT.mpr (HJ _))
 have hDl1:=nj st2 hDl2
 have hCn1:=nj st2 hCn2
 have hpl:h₁.PlainList Dl #[]:=⟨0,by
  rw[hsb₁.2 Dl hDC]
  exact Dv _ (hP ▸ hDl ▸ DG _ rfl)⟩
 refine eT ea fun fenv outer hfr hff=>?_
 try clear ea
 have stA:Step C No H1 s2 H1 { s2 with heap:=h₁,toks:=s2.toks+([]:List (Str × Value)).length }:=Step.keeps ok2.rel ok2.top k2 rfl rfl
 have st0:=st2.trans stA
 generalize hs0:({ s2 with heap:=h₁,toks:=s2.toks+([]:List (Str × Value)).length }:Shared)=s0 at *
 have hh0:s0.heap=h₁:=by rw[<- hs0]
 have hnew:∀ b,DI I Dl Cn b->s1.heap.get? b=none:=fun b hb=>by
  rcases hb with rfl | rfl | rfl
  ·exact hI1
  ·exact hDl1
  ·exact hCn1
 have hH:∀ b,DI I Dl Cn b->H1 b=none:=fun b hb=>ok.rel.fresh (hnew b hb)
 have hz:∀ b,DI I Dl Cn b->C.h0.get? b=none:=fun b hb=>bY ok.top (hnew b hb)
 have hit0:cN C s0.heap iv I 0:=hit.step stA (ok.rel.fresh hI1) (fun f=>f)
 have ES':EnvS (compEnvC sc (dZ env sc.names []) Cn env) (bO vs (bK sc.names ns) tg) (bK sc.names ns):=uq ES hk hl nd hf
 have fi0:FI C (compEnvC sc (dZ env sc.names []) Cn env) (bO vs (bK sc.names ns) tg) (ρ++DN tg.length none) H1 s0.heap :=
  yk ES (fi.stepN st0) hnc hf (hH _ (.inr (.inr rfl))) (hz _ (.inr (.inr rfl))) (by rw[hh0];exact hns₁)
 have e0:Step C (DI I Dl Cn) H1 s1 H1 s0:={ st0 with chg:=fun b o e n zz=>st0.chg b o e n (fun f=>f),dn:=fun b hb zz=>hH b hb }
 have loop:=ur (ce:=compEnvC sc (dZ env sc.names []) Cn env) (vs':=bO vs (bK sc.names ns) tg) (ns':=bK sc.names ns) (fenv:=fenv) (outer:=outer) (Dl:=Dl) (R:=R) (s0:=s0) (n0:=all.length) (sc:=sc) (p:=p) (it':=it') (elt':=elt') (ifs':=ifs') (t':=t') (I:=I)
  (fun zz zz zz h=>h) ES' hfr hff ok ht (by
   rw[fi.len]
   have:=lC (vs:=vs) (inner:=bK sc.names ns) (tg:=tg) (l:=tg) (n:=0) (fun j=>by simp)
   simpa using this) (fun j x hj e=>by
   have:=(eL e (by rw[<- fi.len];exact GT.mpr (au (ae [D0 ρ,j] [(0,1),(21,0)] rfl hj)))).1;cases this) (fun s H ρ' Q o f w=>hT _ s H ρ' Q ES' ⟨fenv,outer,hfr,hff⟩ o f w) (fun s H ρ' Q o f w=>hE _ s H ρ' Q ES' ⟨fenv,outer,hfr,hff⟩ o f w) hq hsz hDl1 hCn1 hDC hnew hz
   (fun s' av Hc items a1 a2 a3 a4 a5 a6 a7=>hok Dl Cn s' av Hc items a1 hDl1 hCn1 hDC a2 a3 a4 a5 a6 a7) (fun s' e x=>herr Dl Cn s' e hDl1 hCn1 x)
   ⟨0,H1,[],#[],⟨rfl,EP _,Ea _⟩,⟨e0,hit0,hH,by rw[hh0];exact hpl,aJ.nil,fi0⟩,W⟩
 exact codeAny_compStart_list loop (uO hit0 loop)
end
end
section
open PySem
theorem gK {e:Expr}{es:List Expr}{env:Env}(h:∀ x p,e ≠ .Starred x p):GQ (e::es) env=(false,FX e env)::GQ es env:=by
 cases e <;> first | rfl | exact absurd rfl (h _ _)
theorem i8 {pos:Pos}{t:Sem Value}{l:List (Bool × Sem Value)}:backTo pos ((false,t)::l)=(false,t)::backTo pos l:=rfl
section
variable {C:Cx}{d:Md}{env:Env}{vs:Vs}{ns:Ns}{ρ:Lo}{H H1 H':MH}{s s1 s':Shared}{A:D4}{X:XP}{Q:V->MH->Prop}
noncomputable def bt (C:Cx) (d:Md) (e:Ex) (e':Expr) (vs:Vs) (ns:Ns):Prop :=
 ∀ env A s ρ H Q X,EnvS env vs ns->EA A env->Ok C d H A s->FI C env vs ρ H s.heap->aU C d e ρ H Q X->wpAny C.M A (FX e' env) (QP C H s Q) (XQ false C No H s X) s
noncomputable def eC (C:Cx) (d:Md) (e:Ex) (e':Expr) (vs:Vs) (ns:Ns):Prop :=
 ∀ env A s ρ H (Q:Bool->MH->Prop) X,EnvS env vs ns->EA A env->Ok C d H A s->FI C env vs ρ H s.heap->dH C d e ρ H Q X->wpAny C.M A (isTrue e' env (FX e' env)) (fun b s'=>∃ H',Step C No H s H' s'/\Q b H') (XQ false C No H s X) s
noncomputable def iL (C:Cx) (d:Md) (es:List Ex) (es':List Expr) (vs:Vs) (ns:Ns):Prop :=
 ∀ env A s ρ H (Q:List V->MH->Prop) X pos,EnvS env vs ns->EA A env->Ok C d H A s->FI C env vs ρ H s.heap->dq C d es ρ H Q X ->
  wpAny C.M A (spliced (backTo pos (GQ es' env))) (fun cvs s'=>∃ xs H',Step C No H s H' s'/\aJ C s'.heap xs cvs/\Q xs H') (XQ false C No H s X) s
theorem yV {op:Gg}{l r:Ex}{l' r':Expr}{p:Pos}(hl:bt C d l l' vs ns)(hr:bt C d r r' vs ns):bt C d (.bin op l r) (.BinOp l' op r' p) vs ns:=by
 intro env A s ρ H Q X ES ea ok fi W
 dsimp only[aU] at W
 refine wpAny_BinOp (Dy (hl env A s ρ H _ X ES ea ok fi W) (fun a s1 hq1=>aG hq1 fun va H1 st1 r1 W1=>?_) fun zz zz h=>h)
 refine Dy (hr env A s1 ρ H1 _ X ES ea (ok.step st1) (fi.stepN st1) W1) (fun b s2 hq2=>aG hq2 fun vb H2 st2 r2 W2=>?_) fun zz zz h=>h.back st1
 have st:=st1.trans st2
 exact Dy (W2 A s2 a b (ok.step st) (r1.keep st2.vk) r2) (fun zz zz h=>h.back st) fun zz zz h=>h.back st
theorem sQ {op:Hq}{e:Ex}{e':Expr}{p:Pos}(he:bt C d e e' vs ns):bt C d (.una op e) (.UnaryOp op e' p) vs ns:=by
 intro env A s ρ H Q X ES ea ok fi W
 dsimp only[aU] at W
 rw[arm_eval_UnaryOp]
 refine Dq (Dy (he env A s ρ H _ X ES ea ok fi W) (fun a s1 hq3=>aG hq3 fun va H1 st1 r1 W1=>?_) fun zz zz h=>h)
 exact Dq (Ej (DT (Dy (W1 A s1 a (ok.step st1) r1) (fun zz zz h=>h.back st1) fun zz zz h=>h.back st1)))
theorem gu {op:FO}{e:Expr}(h:cP e=true):behindInMarks op e=false:=by
 cases e <;> first | rfl | (exact (DP h).elim)
theorem yX {op:FO}{l r:Ex}{l' r':Expr}{p:Pos}(hs:cP r'=true)(hl:bt C d l l' vs ns)(hr:bt C d r r' vs ns):bt C d (.cmp op l r) (.Compare l' [op] [r'] p) vs ns:=by
 intro env A s ρ H Q X ES ea ok fi W
 dsimp only[aU] at W
 refine wpAny_Compare1 (Dy (hl env A s ρ H _ X ES ea ok fi W) (fun a s1 hq4=>aG hq4 fun va H1 st1 r1 W1=>?_) fun zz zz h=>h) (gu hs)
 refine Dy (hr env A s1 ρ H1 _ X ES ea (ok.step st1) (fi.stepN st1) W1) (fun b s2 hq5=>aG hq5 fun vb H2 st2 r2 W2=>?_) fun zz zz h=>h.back st1
 have st:=st1.trans st2
 exact Dy (W2 A s2 a b (ok.step st) (r1.keep st2.vk) r2) (fun zz zz h=>h.back st) fun zz zz h=>h.back st
theorem xc {op:FO}{l r:Ex}{l' r':Expr}{p:Pos}(hs:cP r'=true)(hl:bt C d l l' vs ns)(hr:bt C d r r' vs ns):eC C d (.cmp op l r) (.Compare l' [op] [r'] p) vs ns:=by
 intro env A s ρ H Q X ES ea ok fi W
 dsimp only[dH] at W
 ·refine wpAny_isTrue_Compare1 (Dy (hl env A s ρ H _ X ES ea ok fi W) (fun a s1 hq6=>aG hq6 fun va H1 st1 r1 W1=>?_) fun zz zz h=>h) (gu hs)
  refine Dy (hr env A s1 ρ H1 _ X ES ea (ok.step st1) (fi.stepN st1) W1) (fun b s2 hq7=>aG hq7 fun vb H2 st2 r2 W2=>?_) fun zz zz h=>h.back st1
  have st:=st1.trans st2
  refine Dy (W2 A s2 a b (ok.step st) (r1.keep st2.vk) r2) (fun c s3 hq8=>aG hq8 fun vc H3 st3 r3 W3=>?_) fun zz zz h=>h.back st
  have st':=st.trans st3
  exact Dy (W3 A s3 c (ok.step st') r3) (fun b s4 hq9=>ad hq9 fun H4 st4 W4=>⟨H4,st'.trans st4,W4⟩) fun zz zz h=>h.back st'
 all_goals (intros;rename_i h;cases h)
theorem zN {env:Env}{l m r:Expr}{o1 o2:FO}{p:Pos}(hs:cP r=true):FX (.Compare l [o1,o2] [m,r] p) env=(do
  let a <- FX l env
  let b <- FH [a] (FX m env)
  standAt p
  let c <- FH [a,b] (compareOp o1 a b)
  release [a,b] [c]
  if <- FH [c,b] (truthy c) then do
   let b' <- FH [b] (FX r env)
   standAt p
   operate [b,b'] (compareOp o2 b b')
  else pure c):=by
 rw[arm_eval_Compare]
 have:markedEach [o1,o2] [m,r] (evalEach [m,r] env) = [FX m env,FX r env]:=by
  show [FX m env,markedBehindIn o2 r (FX r env)]=_
  rw[markedBehindIn_of_false (gu hs)]
 rw[this]
 rfl
theorem t8 {env:Env}{l m r:Expr}{o1 o2:FO}{p:Pos}{t:Sem Value}(hs:cP r=true):isTrue (.Compare l [o1,o2] [m,r] p) env t=(do
  let a <- FX l env
  let b <- FH [a] (FX m env)
  standAt p
  let c <- FH [a,b] (compareOp o1 a b)
  release [a,b] [c]
  if <- FH [c,b] (truthy c) then do
   let b' <- FH [b] (FX r env)
   standAt p
   let c' <- operate [b,b'] (compareOp o2 b b')
   FH [c'] (truthy c')
  else pure false):=by
 show (do testChain p (<- FX l env) [o1,o2] (markedEach [o1,o2] [m,r] (evalEach [m,r] env)))=_
 have:markedEach [o1,o2] [m,r] (evalEach [m,r] env) = [FX m env,FX r env]:=by
  show [FX m env,markedBehindIn o2 r (FX r env)]=_
  rw[markedBehindIn_of_false (gu hs)]
 rw[this]
 rfl
theorem xg {o1 o2:FO}{l m r:Ex}{l' m' r':Expr}{p:Pos}(hs:cP r'=true)(hl:bt C d l l' vs ns)(hm:bt C d m m' vs ns)(hr:bt C d r r' vs ns) :
  bt C d (.cmp2 o1 o2 l m r) (.Compare l' [o1,o2] [m',r'] p) vs ns:=by
 intro env A s ρ H Q X ES ea ok fi W
 dsimp only[aU] at W
 rw[zN hs]
 refine Dq (Dy (hl env A s ρ H _ X ES ea ok fi W) (fun a s1 hq10=>aG hq10 fun va H1 st1 r1 W1=>?_) fun zz zz h=>h)
 refine Dq (DT (Dy (hm env A s1 ρ H1 _ X ES ea (ok.step st1) (fi.stepN st1) W1) (fun b s2 hq11=>aG hq11 fun vb H2 st2 r2 W2=>?_) fun zz zz h=>h.back st1))
 have st:=st1.trans st2
 refine Dq (Ej (Dq (DT (Dy (W2 A s2 a b (ok.step st) (r1.keep st2.vk) r2) (fun c s3 hq12=>aG hq12 fun vc H3 st3 r3 W3=>?_) fun zz zz h=>h.back st))))
 have st':=st.trans st3
 refine Dq (wpAny_release (Dq (DT (Dy (W3 A s3 c (ok.step st') r3) (fun t s4 hq13=>ad hq13 fun H4 st4 W4=>?_) fun zz zz h=>h.back st'))))
 have st'':=st'.trans st4
 cases t with
 | false=>rw[if_neg (by decide)] at W4 ⊢;exact wpAny_pure ⟨vc,H4,st'',r3.keep st4.vk,W4⟩
 | true=>
  rw[if_pos rfl] at W4 ⊢
  refine Dq (DT (Dy (hr env A s4 ρ H4 _ X ES ea (ok.step st'') (fi.stepN st'') W4) (fun b' s5 hq14=>aG hq14 fun vb' H5 st5 r5 W5=>?_) fun zz zz h=>h.back st''))
  have st5':=st''.trans st5
  exact Dq (Ej (GO (Dy (W5 A s5 b b' (ok.step st5') ((r2.keep (st3.vk.trans st4.vk)).keep st5.vk) r5) (fun zz zz h=>h.back st5') fun zz zz h=>h.back st5')))
theorem vG {o1 o2:FO}{l m r:Ex}{l' m' r':Expr}{p:Pos}(hs:cP r'=true)(hl:bt C d l l' vs ns)(hm:bt C d m m' vs ns)(hr:bt C d r r' vs ns) :
  eC C d (.cmp2 o1 o2 l m r) (.Compare l' [o1,o2] [m',r'] p) vs ns:=by
 intro env A s ρ H Q X ES ea ok fi W
 dsimp only[dH] at W
 rw[t8 hs]
 refine Dq (Dy (hl env A s ρ H _ X ES ea ok fi W) (fun a s1 hq15=>aG hq15 fun va H1 st1 r1 W1=>?_) fun zz zz h=>h)
 refine Dq (DT (Dy (hm env A s1 ρ H1 _ X ES ea (ok.step st1) (fi.stepN st1) W1) (fun b s2 hq16=>aG hq16 fun vb H2 st2 r2 W2=>?_) fun zz zz h=>h.back st1))
 have st:=st1.trans st2
 refine Dq (Ej (Dq (DT (Dy (W2 A s2 a b (ok.step st) (r1.keep st2.vk) r2) (fun c s3 hq17=>aG hq17 fun vc H3 st3 r3 W3=>?_) fun zz zz h=>h.back st))))
 have st':=st.trans st3
 refine Dq (wpAny_release (Dq (DT (Dy (W3 A s3 c (ok.step st') r3) (fun t s4 hq18=>ad hq18 fun H4 st4 W4=>?_) fun zz zz h=>h.back st'))))
 have st'':=st'.trans st4
 cases t with
 | false=>rw[if_neg (by decide)] at W4 ⊢;exact wpAny_pure ⟨H4,st'',W4⟩
 | true=>
  rw[if_pos rfl] at W4 ⊢
  refine Dq (DT (Dy (hr env A s4 ρ H4 _ X ES ea (ok.step st'') (fi.stepN st'') W4) (fun b' s5 hq19=>aG hq19 fun vb' H5 st5 r5 W5=>?_) fun zz zz h=>h.back st''))
  have st5':=st''.trans st5
  refine Dq (Ej (Dq (GO (Dy (W5 A s5 b b' (ok.step st5') ((r2.keep (st3.vk.trans st4.vk)).keep st5.vk) r5) (fun c' s6 hq20=>aG hq20 fun vc' H6 st6 r6 W6=>?_) fun zz zz h=>h.back st5'))))
  have st6':=st5'.trans st6
  exact DT (Dy (W6 A s6 c' (ok.step st6') r6) (fun b s7 hq21=>ad hq21 fun H7 st7 W7=>⟨H7,st6'.trans st7,W7⟩) fun zz zz h=>h.back st6')
theorem y0 {c a b:Ex}{c' a' b':Expr}{p:Pos}(hc:eC C d c c' vs ns)(ha:bt C d a a' vs ns)(hb:bt C d b b' vs ns):bt C d (.ife c a b) (.IfExp c' a' b' p) vs ns:=by
 intro env A s ρ H Q X ES ea ok fi W
 dsimp only[aU] at W
 refine wpAny_IfExp (Dy (hc env A s ρ H _ X ES ea ok fi W) (fun t s1 hq22=>ad hq22 fun H1 st1 W1=>?_) fun zz zz h=>h)
 cases t with
 | true=>rw[if_pos rfl] at W1 ⊢;exact hB st1 (ha env A s1 ρ H1 _ X ES ea (ok.step st1) (fi.stepN st1) W1)
 | false=>rw[if_neg (by decide)] at W1 ⊢;exact hB st1 (hb env A s1 ρ H1 _ X ES ea (ok.step st1) (fi.stepN st1) W1)
theorem wE {vs':List V}{cvs:List Value}{Q:V->MH->Prop}{E:Value->Shared->Prop}(ok:Ok C d H A s)(r:aJ C s.heap vs' cvs)(W:sZ vs' H Q):wpAny C.M A (newList cvs) (QP C H s Q) E s:=by
 have hl:=r.length
 refine D6 ?_ (by show cvs.toArray.size<=Dz;simp;have:=W.1;exact aB (au (ae [cvs.length,vs'.length] [(0,1),(1,16777326),(.a 16777326 111,0)] rfl (mf hl) (gO this))))
 have hf:H s.heap.objs.size=none:=ok.rel.fresh (ba _)
 have k:VK s.heap (s.heap.push { cls:=.type "list",data:=.seq cvs.toArray }):=.of_keeps fun b o e=>Dv _ e
 have st:Step C No H s (an H s.heap.objs.size (.lst vs')) { s with heap:=s.heap.push { cls:=.type "list",dict:=none,data:=.seq cvs.toArray } } :=
  Step.alloc ok.rel ok.top ⟨bY ok.top (ba _),cvs.toArray,⟨0,DG _ rfl⟩,by simpa using r.keep k⟩ rfl rfl rfl
 exact ⟨.ref s.heap.objs.size,_,st,rfl,W.2 _ hf⟩
theorem uY {vs':List V}{cvs:List Value}{Q:V->MH->Prop}{E:Value->Shared->Prop}(ok:Ok C d H A s)(r:aJ C s.heap vs' cvs)(W:zC vs' H Q):wpAny C.M A (newTuple cvs) (QP C H s Q) E s:=by
 have hl:=r.length
 refine D6 ?_ (by show cvs.toArray.size<=Dz;simp;have:=W.1;exact aB (au (ae [cvs.length,vs'.length] [(0,1),(1,16777326),(.a 16777326 111,0)] rfl (mf hl) (gO this))))
 have st:Step C No H s H { s with heap:=s.heap.push { cls:=.type "tuple",dict:=none,data:=.seq cvs.toArray } }:=Step.keeps ok.rel ok.top (fun b o e=>Dv _ e) rfl rfl
 refine ⟨.tup vs',H,st,?_,W.2⟩
 dsimp only[VR]
 exact ⟨_,cvs.toArray,⟨rfl,.of (DG _ rfl) rfl⟩,⟨_,DG _ rfl,rfl,0,rfl⟩,by simpa using r.keep st.vk⟩
theorem y9 {es:List Ex}{es':List Expr}{p:Pos}(he:iL C d es es' vs ns):bt C d (.lst es) (.List es' p) vs ns:=by
 intro env A s ρ H Q X ES ea ok fi W
 dsimp only[aU] at W
 rw[arm_eval_List]
 refine Dq (Ej (Dq (Dy (he env A s ρ H _ X p ES ea ok fi W) (fun cvs s1 hq23=>aG hq23 fun xs H1 st1 r1 W1=>?_) fun zz zz h=>h)))
 exact Dy (wE (E:=fun zz zz=>False) (ok.step st1) r1 W1) (fun zz zz h=>h.back st1) fun zz zz h=>h.elim
theorem zc {es:List Ex}{es':List Expr}{k:Nat}{p:Pos}(he:iL C d es es' vs ns):bt C d (.tup es) (.Tuple es' k p) vs ns:=by
 intro env A s ρ H Q X ES ea ok fi W
 dsimp only[aU] at W
 rw[arm_eval_Tuple]
 refine Dq (Ej (Dq (Dy (he env A s ρ H _ X p ES ea ok fi W) (fun cvs s1 hq24=>aG hq24 fun xs H1 st1 r1 W1=>?_) fun zz zz h=>h)))
 exact Dy (uY (E:=fun zz zz=>False) (ok.step st1) r1 W1) (fun zz zz h=>h.back st1) fun zz zz h=>h.elim
theorem jl (G:C.Good)(ok:Ok C d H A s):s.heap.objs.size≠GP:=by
 refine ad G.nolimit fun mc ho180_1 zz=>?_
 obtain ⟨o,_,_,ho,_⟩:=ho180_1
 have:=D_ (ok.top _ _ ho)
 intro e
 rw[e] at this
 exact absurd this (by decide)
theorem yZ {k:Nat}{p:Pos}(G:C.Good):bt C d (.emp k) (.Dict [] [] p) vs ns:=by
 intro env A s ρ H Q X ES ea ok fi W
 dsimp only[aU] at W
 refine wpAny_Dict_empty ?_
 have hf:H s.heap.objs.size=none:=ok.rel.fresh (ba _)
 have h0:=bY ok.top (ba s.heap)
 have W':=W _ hf
 match k with
 | 0=>
  refine ⟨.ref s.heap.objs.size,_,Step.alloc (o:=.dci []) ok.rel ok.top ⟨h0,jl G ok,[],⟨_,#[],0,DG _ rfl,⟨rfl,rfl,rfl⟩,rfl,fun zz he=>by simp at he,.nil,by simp⟩,rfl,aJ.nil⟩ rfl rfl rfl,rfl,W'⟩
 | 1=>
  refine ⟨.ref s.heap.objs.size,_,Step.alloc (o:=.dcs []) ok.rel ok.top ⟨h0,jl G ok,[],⟨_,#[],0,DG _ rfl,⟨rfl,rfl,rfl⟩,rfl,fun zz he=>by simp at he,.nil,by simp⟩,rfl,aJ.nil⟩ rfl rfl rfl,rfl,W'⟩
 | k+2=>
  refine ⟨.ref s.heap.objs.size,_,Step.alloc (o:=.prd (eK [])) ok.rel ok.top ⟨h0,jl G ok,[],Heap.DictOfH.new _,rfl⟩ rfl rfl rfl,rfl,W'⟩
end
end
section
open PySem
section
variable {C:Cx}{d:Md}{env:Env}{vs:Vs}{ns:Ns}{ρ:Lo}{H H1 H':MH}{s s1 s':Shared}{A:D4}{X:XP}{Q:V->MH->Prop}
theorem gj {P:Prop}{v:Value}(h:QP C H s Q v s')(k:∀ r H',Step C No H s H' s'->VR C s'.heap r v->Q r H'->P):P:=h.elim fun r h=>h.elim fun H' h=>k r H' h.1 h.2.1 h.2.2
theorem vz:iL C d [] [] vs ns:=by
 intro env A s ρ H Q X pos ES ea ok fi W
 dsimp only[dq] at W
 exact wpAny_pure ⟨[],H,ok.refl,aJ.nil,W⟩
theorem tW {e:Ex}{es:List Ex}{e':Expr}{es':List Expr}(hs:∀ x p,e' ≠ .Starred x p)(he:bt C d e e' vs ns)(hes:iL C d es es' vs ns):iL C d (e::es) (e'::es') vs ns:=by
 intro env A s ρ H Q X pos ES ea ok fi W
 dsimp only[dq] at W
 rw[gK hs,i8]
 refine Calls.spliced_cons (Dy (he env A s ρ H _ X ES ea ok fi W) (fun cv s1 hq1=>aG hq1 fun v H1 st1 r1 W1=>?_) fun zz zz h=>h)
 refine Dy (hes env A s1 ρ H1 _ X pos ES ea (ok.step st1) (fi.stepN st1) W1) (fun cvs s2 hq2=>aG hq2 fun xs H2 st2 r2 W2=>?_) fun zz zz h=>h.back st1
 exact ⟨v::xs,H2,st1.trans st2,aJ.cons (r1.keep st2.vk) r2,W2⟩
theorem fh {es:List Ex}:∀ {es':List Expr},b9 vs ns es es'=true -> ∀ pos,∀ x∈backTo pos (GQ es' env),x.1=false:=by
 induction es with
 | nil=>intro es' h pos x;exact pX (P:=fun l=>x∈backTo pos (GQ l env)->x.1=false) h fun hx=>absurd (show x∈([]:List _) from hx) FQ
 | cons e es ih=>
  intro es' h pos x
  refine lh (P:=fun l=>x∈backTo pos (GQ l env)->x.1=false) h fun e1 es1 h1 h2 hx=>?_
  rw[gK (i9 h1),i8] at hx
  rcases EW.mp hx with rfl | hx
  ·rfl
  ·exact ih h2 pos x hx
theorem xf {f:String}{es:List Ex}{es':List Expr}{id:Str}{q p:Pos}(G:C.Good)(hg:fT ns f id=true)(hc:b9 vs ns es es'=true)(he:iL C d es es' vs ns):bt C d (.call f es) (.Call (.Name id q) es' [] p) vs ns:=by
 intro env A s ρ H Q X ES ea ok fi W
 dsimp only[aU] at W
 refine az W fun ho36_0 W=>?_
 obtain ⟨fv,gf,cf⟩:=ho36_0
 refine wpAny_Call_Name_kw (lm G ES hg ok.top gf ?_)
 refine h_ (fh hc p) cf ?_
 refine Dy (he env A s ρ H _ X p ES ea ok fi W) (fun cvs s1 hq3=>aG hq3 fun xs H1 st1 r1 W1=>⟨st1.top,?_⟩) fun zz zz h=>h
 rw[GC]
 exact hB st1 (W1 fv gf A s1 cvs (ok.step st1) r1)
theorem mF {o:Expr}{a:Str}{env:Env}{t:Sem Value}(h:fJ o=true):attributeBase o a env t=t:=by
 cases o with
 | Call f args kws p=>
  cases f with
  | Name id q=>
   cases args with
   | nil=>
    cases kws with
    | nil=>exact (DP h).elim
    | cons _ _=>exact @Eq.refl _ t
   | cons _ _=>exact @Eq.refl _ t
  | _=>exact @Eq.refl _ t
 | _=>exact @Eq.refl _ t
theorem uE {es:List Ex}{es':List Expr}{pos:Pos}(hc:b9 vs ns es es'=true)(hl:es.length<29):methodCallForm (es'.length+([]:List Keyword).length) (backTo pos (GQ es' env)) (backToKw pos (keywordEach [] env))=true:=by
 have h1:∀ x∈backTo pos (GQ es' env),x.1=false:=fh hc pos
 have hlen:es.length=es'.length:=nP hc
 unfold methodCallForm
 have h2:(backTo pos (GQ es' env)).all (fun x=>!x.1)=true:=Et.mpr fun x hx=>by rw[h1 x hx];rfl
 have h3:(backToKw pos (keywordEach [] env)) = []:=rfl
 rw[h2,h3]
 simp
 exact be (ae [es.length,es'.length] [(11,139),(1,0),(140,1)] rfl hl (mf hlen))
theorem xh {o:Ex}{m:String}{es:List Ex}{o':Expr}{ap p:Pos}{es':List Expr}(hap:(ap.endLine==p.line)=true)(hl:es.length<29)(hsup:fJ o'=true)(hc:b9 vs ns es es'=true)
  (ho:bt C d o o' vs ns) (he:iL C d es es' vs ns):bt C d (.meth o m es) (.Call (.Attribute o' (Dn m) ap) es' [] p) vs ns:=by
 intro env A s ρ H Q X ES ea ok fi W
 dsimp only[aU] at W
 rw[arm_eval_Call,mF hsup]
 refine Dq (Dy (ho env A s ρ H _ X ES ea ok fi W) (fun co s1 hzz=>gj hzz fun ov H1 st1 r1 hzw=>?_) fun zz zz h=>h)
 refine bN hzw fun fv mg cf W1=>?_
 try clear hzw
 refine Dq (Ej ?_)
 unfold methodCall
 rw[uE hc hl]
 refine Dq (DT ?_)
 unfold calleeOf
 rw[if_pos rfl]
 refine mg A s1 co _ _ _ (ok.step st1) r1 ?_
 refine Dq ?_
 unfold methodCallPos
 rw[hap]
 simp -iota only[Bool.or_true,if_true]
 refine wpAny_pure ?_
 refine h_ (fh hc p) cf ?_
 refine Dy (he env A s1 ρ H1 _ X p ES ea (ok.step st1) (fi.stepN st1) W1) (fun cvs s2 hq4=>aG hq4 fun xs H2 st2 r2 W2=>⟨st2.top,?_⟩) fun zz zz h=>h.back st1
 have st:=st1.trans st2
 exact hB st (W2 A s2 (co::cvs) (ok.step st) (aJ.cons (r1.keep st2.vk) r2))
theorem yU {o:Ex}{a:String}{o':Expr}{p:Pos}(hsup:fJ o'=true)(ho:bt C d o o' vs ns):bt C d (.att o a) (.Attribute o' (Dn a) p) vs ns:=by
 intro env A s ρ H Q X ES ea ok fi W
 dsimp only[aU] at W
 rw[arm_eval_Attribute,mF hsup]
 refine Dq (Dy (ho env A s ρ H _ X ES ea ok fi W) (fun co s1 hzz=>gj hzz fun ov H1 st1 r1 W1=>?_) fun zz zz h=>h)
 refine Dq (Ej (Dq (DT (Dy (W1 A s1 co (ok.step st1) r1) (fun cr s2 h2=>?_) fun zz zz h=>h.back st1))))
 exact Dq (HG (wpAny_pure (h2.back st1)))
theorem vK {i:Expr}{o iv:Value}(h:io i=true):subscripted i false o iv=operate [o,iv] (getItem o iv):=by
 cases i <;> first | rfl | (exact (DP h).elim)
theorem zb {o i:Ex}{o' i':Expr}{p:Pos}(hn:io i'=true)(ho:bt C d o o' vs ns)(hi:bt C d i i' vs ns):bt C d (.sub o i) (.Subscript o' i' p) vs ns:=by
 intro env A s ρ H Q X ES ea ok fi W
 dsimp only[aU] at W
 rw[arm_eval_Subscript]
 refine Dq (Dy (ho env A s ρ H _ X ES ea ok fi W) (fun co s1 hzz=>gj hzz fun ov H1 st1 r1 W1=>?_) fun zz zz h=>h)
 refine Dq (DT (Dy (hi env A s1 ρ H1 _ X ES ea (ok.step st1) (fi.stepN st1) W1) (fun ci s2 hzz=>gj hzz fun iv H2 st2 r2 W2=>?_) fun zz zz h=>h.back st1))
 have st:=st1.trans st2
 refine az (W2 A s2 co ci (ok.step st) (r1.keep st2.vk) r2) fun g1 g2=>?_
 refine Dq (Ej (Dq (Dy g1 (fun b s3 ⟨hb,hs⟩=>?_) fun zz zz h=>h.elim)))
 subst hb hs
 rw[vK hn]
 refine Dq (GO (Dy g2 (fun cr s4 h4=>?_) fun zz zz h=>h.back st))
 exact Dq (HG (wpAny_pure (h4.back st)))
noncomputable def nN (C:Cx) (d:Md) (e:Ex) (e':Option Expr) (vs:Vs) (ns:Ns):Prop :=
 ∀ env A s ρ H Q X,EnvS env vs ns->EA A env->Ok C d H A s->FI C env vs ρ H s.heap->aU C d e ρ H Q X->wpAny C.M A (valueOrNone (evalOpt e' env)) (QP C H s Q) (XQ false C No H s X) s
theorem vA:nN C d .cn none vs ns:=by
 intro env A s ρ H Q X ES ea ok fi W
 dsimp only[aU] at W
 exact wpAny_pure ⟨.none,H,ok.refl,rfl,W⟩
theorem za {o l u t:Ex}{o':Expr}{l' u' t':Option Expr}{q p:Pos}(ho:bt C d o o' vs ns)(hl:nN C d l l' vs ns)(hu:nN C d u u' vs ns)(ht:nN C d t t' vs ns) :
  bt C d (.sli o l u t) (.Subscript o' (.Slice l' u' t' q) p) vs ns:=by
 intro env A s ρ H Q X ES ea ok fi W
 dsimp only[aU] at W
 rw[arm_eval_Subscript,arm_eval_Slice]
 refine Dq (Dy (ho env A s ρ H _ X ES ea ok fi W) (fun co s1 hzz=>gj hzz fun ov H1 st1 r1 W1=>?_) fun zz zz h=>h)
 refine Dq (DT (Dq (Dy (hl env A s1 ρ H1 _ X ES ea (ok.step st1) (fi.stepN st1) W1) (fun cl s2 hzz=>gj hzz fun lv H2 st2 r2 W2=>?_) fun zz zz h=>h.back st1)))
 have stb:=st1.trans st2
 refine Dq (DT (Dy (hu env A s2 ρ H2 _ X ES ea (ok.step stb) (fi.stepN stb) W2) (fun cu s3 hzz=>gj hzz fun uv H3 st3 r3 W3=>?_) fun zz zz h=>h.back stb))
 have stc:=stb.trans st3
 refine Dq (DT (Dy (ht env A s3 ρ H3 _ X ES ea (ok.step stc) (fi.stepN stc) W3) (fun ct s4 hzz=>gj hzz fun tv H4 st4 r4 W4=>?_) fun zz zz h=>h.back stc))
 have std:=stc.trans st4
 have okd:=ok.step std
 unfold newFields
 refine D6 ?_ (by size_fits)
 have ste:Step C No H4 s4 H4 { s4 with heap:=s4.heap.push { cls:=.type "slice",dict:=none,data:=.fields [cl,cu,ct].toArray } }:=Step.keeps okd.rel okd.top (fun b o e=>Dv _ e) rfl rfl
 have st:=std.trans ste
 refine az (W4 A _ co cl cu ct s4.heap.objs.size (ok.step st) ((((r1.keep st2.vk).keep st3.vk).keep st4.vk).keep ste.vk) (((r2.keep st3.vk).keep st4.vk).keep ste.vk) ((r3.keep st4.vk).keep ste.vk) (r4.keep ste.vk) (DG _ rfl)) fun g1 g2=>?_
 refine Dq (Ej (Dq (Dy g1 (fun b s5 ⟨hb,hs⟩=>?_) fun zz zz h=>h.elim)))
 subst hb hs
 have key:∀ (t':Option Expr) (o iv:Value),∃ l,subscripted (.Slice l' u' t' q) false o iv=operate l (getItem o iv):=fun t' o iv=>by
  cases t' <;> exact ⟨_,rfl⟩
 refine aF (key t' co (.ref s4.heap.objs.size)) fun l0 e0=>?_
 rw[e0]
 refine Dq (GO (Dy g2 (fun cr s6 h6=>?_) fun zz zz h=>h.back st))
 exact Dq (HG (wpAny_pure (h6.back st)))
noncomputable def pn (C:Cx) (d:Md) (op:EY) (es:List Ex) (es':List Expr) (vs:Vs) (ns:Ns):Prop :=
 ∀ env A s ρ H Q X pos,EnvS env vs ns->EA A env->Ok C d H A s->FI C env vs ρ H s.heap->j8 C d op es ρ H Q X->wpAny C.M A (boolOp pos op (evalEach es' env)) (QP C H s Q) (XQ false C No H s X) s
theorem wX {op:EY}{e:Ex}{e':Expr}(h:bt C d e e' vs ns):pn C d op [e] [e'] vs ns:=by
 intro env A s ρ H Q X pos ES ea ok fi W
 dsimp only[j8] at W
 exact h env A s ρ H Q X ES ea ok fi W
theorem vy {op:EY}{e e2:Ex}{es:List Ex}{e' e2':Expr}{es':List Expr}(h:bt C d e e' vs ns)(hs:pn C d op (e2::es) (e2'::es') vs ns):pn C d op (e::e2::es) (e'::e2'::es') vs ns:=by
 intro env A s ρ H Q X pos ES ea ok fi W
 dsimp only[j8] at W
 ·show wpAny C.M A (do
   let v <- FX e' env
   standAt pos
   let t <- FH [v] (truthy v)
   match op,t with
   | .And,false | .Or,true=>pure v
   | _,_=>boolOp pos op (evalEach (e2'::es') env)) _ _ s
  refine Dq (Dy (h env A s ρ H _ X ES ea ok fi W) (fun cv s1 hq5=>aG hq5 fun v H1 st1 r1 W1=>?_) fun zz zz h=>h)
  refine Dq (Ej (Dq (DT (Dy (W1 A s1 cv (ok.step st1) r1) (fun t s2 hq6=>ad hq6 fun H2 st2 W2=>?_) fun zz zz h=>h.back st1))))
  have st:=st1.trans st2
  cases op <;> cases t <;> simp at W2
  ·exact wpAny_pure ⟨v,H2,st,r1.keep st2.vk,W2⟩
  ·exact hB st (hs env A s2 ρ H2 Q X pos ES ea (ok.step st) (fi.stepN st) W2)
  ·exact hB st (hs env A s2 ρ H2 Q X pos ES ea (ok.step st) (fi.stepN st) W2)
  ·exact wpAny_pure ⟨v,H2,st,r1.keep st2.vk,W2⟩
noncomputable def pk (C:Cx) (d:Md) (op:EY) (es:List Ex) (es':List Expr) (vs:Vs) (ns:Ns):Prop :=
 ∀ env A s ρ H (Q:Bool->MH->Prop) X,EnvS env vs ns->EA A env->Ok C d H A s->FI C env vs ρ H s.heap->iH C d op es ρ H Q X->wpAny C.M A (allTrue op es' env) (fun b s'=>∃ H',Step C No H s H' s'/\Q b H') (XQ false C No H s X) s
theorem wW {op:EY}:pk C d op [] [] vs ns:=by
 intro env A s ρ H Q X ES ea ok fi W
 dsimp only[iH] at W
 show wpAny C.M A (pure (op == .And)) _ _ s
 refine wpAny_pure ⟨H,ok.refl,?_⟩
 cases op <;> exact W
theorem vx {op:EY}{e:Ex}{es:List Ex}{e':Expr}{es':List Expr}(h:eC C d e e' vs ns)(hs:pk C d op es es' vs ns):pk C d op (e::es) (e'::es') vs ns:=by
 intro env A s ρ H Q X ES ea ok fi W
 dsimp only[iH] at W
 show wpAny C.M A (do
  match op,<- isTrue e' env (FX e' env) with
  | .And,false=>pure false
  | .Or,true=>pure true
  | _,_=>allTrue op es' env) _ _ s
 refine Dq (Dy (h env A s ρ H _ X ES ea ok fi W) (fun t s1 hq7=>ad hq7 fun H1 st1 W1=>?_) fun zz zz h=>h)
 have nx:iH C d op es ρ H1 Q X->wpAny C.M A (allTrue op es' env) (fun b s'=>∃ H',Step C No H s H' s'/\Q b H') (XQ false C No H s X) s1:=fun W1=>
  Dy (hs env A s1 ρ H1 Q X ES ea (ok.step st1) (fi.stepN st1) W1) (fun b s2 hq8=>ad hq8 fun H2 st2 W2=>⟨H2,st1.trans st2,W2⟩) fun zz zz h=>h.back st1
 cases op <;> cases t <;> simp at W1
 ·exact wpAny_pure ⟨H1,st1,W1⟩
 ·exact nx W1
 ·exact nx W1
 ·exact wpAny_pure ⟨H1,st1,W1⟩
noncomputable def k9 (C:Cx) (d:Md) (es:List Ex) (es':List Expr) (vs:Vs) (ns:Ns):Prop :=
 ∀ env A s ρ H (Q:Bool->MH->Prop) X,EnvS env vs ns->EA A env->Ok C d H A s->FI C env vs ρ H s.heap->gL C d es ρ H Q X->wpAny C.M A (lw es' env) (fun b s'=>∃ H',Step C No H s H' s'/\Q b H') (XQ false C No H s X) s
theorem vH:k9 C d [] [] vs ns:=by
 intro env A s ρ H Q X ES ea ok fi W
 dsimp only[gL] at W
 exact wpAny_pure ⟨H,ok.refl,W⟩
theorem rN {es':List Expr}{P:Bool->Shared->Prop}{E:Value->Shared->Prop}(h:P false s) :
  wpAny C.M A (forIn es' false fun c r=>if r=true then do let ok <- isTrue c env (FX c env);pure (Fb ok) else pure (Fb r)) P E s:=by
 induction es' with
 | nil=>exact wpAny_pure h
 | cons e es ih=>
  rw[F4]
  simp -iota only[D2,if_false]
  exact Dq (wpAny_pure ih)
theorem tY {e:Ex}{es:List Ex}{e':Expr}{es':List Expr}(h:eC C d e e' vs ns)(hs:k9 C d es es' vs ns):k9 C d (e::es) (e'::es') vs ns:=by
 intro env A s ρ H Q X ES ea ok fi W
 dsimp only[gL] at W
 unfold lw
 rw[F4]
 simp -iota only[if_true]
 refine Dq (Dq (Dy (h env A s ρ H _ X ES ea ok fi W) (fun t s1 hq9=>ad hq9 fun H1 st1 W1=>?_) fun zz zz h=>h))
 refine wpAny_pure ?_
 cases t with
 | true=>
  rw[if_pos rfl] at W1
  exact Dy (hs env A s1 ρ H1 Q X ES ea (ok.step st1) (fi.stepN st1) W1) (fun b s2 hq10=>ad hq10 fun H2 st2 W2=>⟨H2,st1.trans st2,W2⟩) fun zz zz h=>h.back st1
 | false=>
  rw[if_neg (by decide)] at W1
  exact rN ⟨H1,st1,W1⟩
theorem xe {e:Ex}{e':Expr}{p:Pos}(h:eC C d e e' vs ns):eC C d (.una .Not e) (.UnaryOp .Not e' p) vs ns:=by
 intro env A s ρ H Q X ES ea ok fi W
 dsimp only[dH] at W
 exact wpAny_isTrue_Not (Dy (h env A s ρ H _ X ES ea ok fi W) (fun b s1 hq11=>ad hq11 fun H1 st1 W1=>⟨H1,st1,W1⟩) fun zz zz h=>h)
theorem xa {op:EY}{es:List Ex}{es':List Expr}{p:Pos}(h:pk C d op es es' vs ns):eC C d (.bop op es) (.BoolOp op es' p) vs ns:=by
 intro env A s ρ H Q X ES ea ok fi W
 dsimp only[dH] at W
 exact wpAny_isTrue_BoolOp (h env A s ρ H _ X ES ea ok fi W)
theorem xd {c a b:Ex}{c' a' b':Expr}{p:Pos}(hc:eC C d c c' vs ns)(ha:eC C d a a' vs ns)(hb:eC C d b b' vs ns):eC C d (.ife c a b) (.IfExp c' a' b' p) vs ns:=by
 intro env A s ρ H Q X ES ea ok fi W
 dsimp only[dH] at W
 show wpAny C.M A (do if <- isTrue c' env (FX c' env) then isTrue a' env (FX a' env) else isTrue b' env (FX b' env)) _ _ s
 refine Dq (Dy (hc env A s ρ H _ X ES ea ok fi W) (fun t s1 hq12=>ad hq12 fun H1 st1 W1=>?_) fun zz zz h=>h)
 cases t with
 | true=>rw[if_pos rfl] at W1 ⊢;exact Dy (ha env A s1 ρ H1 _ X ES ea (ok.step st1) (fi.stepN st1) W1) (fun b s2 hq13=>ad hq13 fun H2 st2 W2=>⟨H2,st1.trans st2,W2⟩) fun zz zz h=>h.back st1
 | false=>rw[if_neg (by decide)] at W1 ⊢;exact Dy (hb env A s1 ρ H1 _ X ES ea (ok.step st1) (fi.stepN st1) W1) (fun b s2 hq14=>ad hq14 fun H2 st2 W2=>⟨H2,st1.trans st2,W2⟩) fun zz zz h=>h.back st1
theorem qP {e:Ex}{e':Expr}(he:isTrue e'=fun env whole=>(do let v <- whole;standAt e'.pos;FH [v] (truthy v)))(hw:∀ ρ H Q X,dH C d e ρ H Q X=aU C d e ρ H (fun v H1=>eI C d v H1 Q X) X)(h:bt C d e e' vs ns):eC C d e e' vs ns:=by
 intro env A s ρ H Q X ES ea ok fi W
 rw[hw] at W
 refine wpAny_isTrue_value ?_ (by rw[he])
 refine Dy (h env A s ρ H _ X ES ea ok fi W) (fun cv s1 hq15=>aG hq15 fun v H1 st1 r1 W1=>?_) fun zz zz h=>h
 exact Dy (W1 A s1 cv (ok.step st1) r1) (fun b s2 hq16=>ad hq16 fun H2 st2 W2=>⟨H2,st1.trans st2,W2⟩) fun zz zz h=>h.back st1
end
end
section
open PySem
section
variable {C:Cx}{d:Md}{env:Env}{vs:Vs}{ns:Ns}{ρ:Lo}{H H1 H':MH}{s s1 s':Shared}{A:D4}{X:XP}{Q:V->MH->Prop}
noncomputable def iZ (C:Cx) (d:Md) (vs:Vs) (ns:Ns):List Ex->List Expr->Prop
 | [],[]=>True
 | e::es,e'::es'=>bt C d e e' vs ns/\iZ C d vs ns es es'
 | _,_=>False
noncomputable def jt (C:Cx) (d:Md) (vs:Vs) (ns:Ns):List Ex->List Expr->Prop
 | [],[]=>True
 | e::es,e'::es'=>eC C d e e' vs ns/\jt C d vs ns es es'
 | _,_=>False
theorem iZ.es:∀ {es:List Ex} {es':List Expr},b9 vs ns es es'=true->iZ C d vs ns es es'->iL C d es es' vs ns
 | [],[],_,_=>vz
 | e::es,e'::es',h,a=>by
  have h:=DH.mp (show (aT vs ns e e'&&b9 vs ns es es')=true from h)
  exact tW (i9 h.1) a.1 (a.2.es h.2)
 | [],_::_,_,a=>a.elim
 | _::_,[],_,a=>a.elim
theorem iZ.b {op:EY}:∀ {es:List Ex} {es':List Expr},iZ C d vs ns es es'->pn C d op es es' vs ns
 | [],[],_=>by intro env A s ρ H Q X pos ES ea ok fi W;dsimp only[j8] at W;exact W.elim
 | [_],[_],a=>wX a.1
 | _::e2::es,_::e2'::es',a=>vy a.1 (iZ.b (es:=e2::es) (es':=e2'::es') a.2)
 | [],_::_,a=>a.elim
 | _::_,[],a=>a.elim
 | [_],_::_::_,a=>a.2.elim
 | _::_::_,[_],a=>a.2.elim
theorem jt.a {op:EY}:∀ {es:List Ex} {es':List Expr},jt C d vs ns es es'->pk C d op es es' vs ns
 | [],[],_=>wW
 | _::_,_::_,a=>vx a.1 a.2.a
 | [],_::_,a=>a.elim
 | _::_,[],a=>a.elim
theorem jt.ts:∀ {es:List Ex} {es':List Expr},jt C d vs ns es es'->k9 C d es es' vs ns
 | [],[],_=>vH
 | _::_,_::_,a=>tY a.1 a.2.ts
 | [],_::_,a=>a.elim
 | _::_,[],a=>a.elim
theorem Step.adopt {a:Addr}{o:O}(x:Step C No H s H' s')(hn:s.heap.get? a=none)(ho:OR C s'.heap a o):Step C No H s (an H' a o) s' where
 rel:=fun b ob e=>by
  by_cases q:b=a
  ·subst q;rw[aj] at e;cases e;exact ho
  ·rw[aP q] at e;exact x.rel b ob e
 chg:=x.chg
 top:=x.top
 dom:=fun b e=>by
  by_cases q:b=a
  ·subst q;rw[aj];rfl
  ·rw[aP q];exact x.dom b e
 new:=fun b e=>by
  by_cases q:b=a
  ·subst q;exact .inr hn
  ·rw[aP q] at e;exact x.new b e
 dn:=fun zz f=>f.elim
 vk:=x.vk
 gens:=x.gens
 os:=x.os
theorem pT {it':Expr}{x:Value}(h:cP it'=true):foldedSetIterable it' env x=pure x:=by
 cases it' <;> first | rfl | (exact (DP h).elim)
theorem Step.after {Cn:Addr}{Hc:MH}{D:Addr->Prop}{h':Heap}(st:Step C D H1 s1 Hc s')(hC:s1.heap.get? Cn=none)(hHC:Hc Cn=none)(top1:C.h0.StaysIn s1.heap)
  (hl:∀ o,s'.heap.get? Cn=some o->eW o) (sb:Eg Cn s'.heap h'):Step C D H1 s1 Hc { s' with heap:=h' }:=by
 have vs:VS s'.heap h':=⟨fun b o e so=>(sb.2 b fun q=>(hl o (q ▸ e)).not_solid so).trans e,fun b o ws r e c dd=>⟨o,ws,(sb.2 b fun q=>(hl o (q ▸ e)).not_exc c dd).trans e,⟨rfl,rfl⟩,dd,rfl⟩⟩
 have old:∀ b o,s1.heap.get? b=some o->b≠Cn:=fun b o e q=>by rw[q,hC] at e;cases e
 refine ⟨fun b o e=>?_,fun b o e n nd=>?_,fun b o e=>?_,st.dom,st.new,st.dn,⟨fun b o e so=>?_,fun b o ws r e c dd=>?_,fun b o es ep e dd=>?_⟩,st.gens,st.os⟩
 ·exact (st.rel b o e).keepS vs fun ob w=>(sb.2 b fun q=>by rw[q,hHC] at e;cases e).trans w
 ·refine ad (st.chg b o e n nd) fun sl w q=>?_
  exact ⟨sl,(sb.2 b (old b o e)).trans w,q⟩
 ·exact (sb.2 b (old b o (top1 b o e))).trans (st.top b o e)
 ·exact (sb.2 b (old b o e)).trans (st.vk.solid b o e so)
 ·refine eT (st.vk.exc b o ws r e c dd) fun o' ws' w r'=>?_
  exact ⟨o',ws',(sb.2 b (old b o e)).trans w,r'⟩
 ·refine f8 (st.vk.dct b o es ep e dd) fun o' es' ep' w r'=>?_
  exact ⟨o',es',ep',(sb.2 b (old b o e)).trans w,r'⟩
theorem pK {I Dl Cn:Addr}(h1:s1.heap.get? I=none)(h2:s1.heap.get? Dl=none)(h3:s1.heap.get? Cn=none):∀ b,DI I Dl Cn b->s1.heap.get? b=none:=fun b hb=>by
 rcases hb with rfl | rfl | rfl
 ·exact h1
 ·exact h2
 ·exact h3
theorem Step.shed {D:Addr->Prop}(st:Step C D H s H' s')(hD:∀ b,D b->s.heap.get? b=none):Step C No H s H' s':=st.narrow (fun zz f=>f.elim) fun b hb=>.inr (hD b hb)
theorem iq {h:Heap}{Cn:Addr}{m:Str->Option Value}(hm:h.Ns Cn m):∀ o,h.get? Cn=some o->eW o:=fun o e=>by
 refine eU hm fun o' es ep ho hd zz=>?_
 try clear hm
 rw[ho] at e
 cases e
 exact .inl ⟨es,ep,hd⟩
theorem qX {h h':Heap}{Cn:Addr}(hlo:∀ o,h.get? Cn=some o->eW o)(sb:Eg Cn h h'):VS h h' :=
 ⟨fun b o e so=>(sb.2 b fun q=>(hlo o (q ▸ e)).not_solid so).trans e,fun b o ws r e c dd=>⟨o,ws,(sb.2 b fun q=>(hlo o (q ▸ e)).not_exc c dd).trans e,⟨rfl,rfl⟩,dd,rfl⟩⟩
theorem pI {I Dl Cn:Addr}{e:Value}(ok1:Ok C d H1 A s1)(hI:s1.heap.get? I=none)(hDl:s1.heap.get? Dl=none)(hCn:s1.heap.get? Cn=none)
  (x:XG true C (DI I Dl Cn) H1 s1 (fun c H h=>X c H/\H Cn=none /\ ∃ m,h.Ns Cn m) e s'):∃ m,s'.heap.Ns Cn m /\ ∀ h',Eg Cn s'.heap h'->XQ true C No H1 s1 X e { s' with heap:=h' }:=by
 obtain ⟨a,c,Hc,rfl,st,hD,fl,hX,hcC,m,hm⟩:=x
 refine ⟨m,hm,fun h' sb=>?_⟩
 have st':=(st.after hCn hcC ok1.top (iq hm) sb).shed (pK hI hDl hCn)
 have hne:∀ b o,s'.heap.get? b=some o->(∃ vs,o.data = .fields vs)->b≠Cn:=fun b o e ⟨vs,hv⟩ q=>by
  refine eU hm fun o' es ep ho hd zz=>?_
  try clear hm
  rw[q,ho] at e
  cases e
  rw[hd] at hv
  cases hv
 have fl':Fly C true s1 a c h':=by
  obtain ⟨new,o,ws,r,h1,h2,h3,h4,h5,h6,h7⟩:=fl
  refine ⟨new,o,ws,r,(sb.2 a (hne a o h1 ⟨ws,h4⟩)).trans h1,h2,h3,h4,h5,h6.keep (qX (iq hm) sb) rfl,h7.imp id ?_⟩
  rintro ⟨T,oT,ts,g1,g2,g3,g4,g5,g6,g7⟩
  exact ⟨T,oT,ts,g1,g2,g3,(sb.2 T (hne T oT g4 ⟨ts,g6⟩)).trans g4,g5,g6,g7⟩
 exact ⟨a,c,Hc,rfl,st',fun zz f=>f.elim,fl',hX⟩
theorem FI.closed (fi:FI C env vs ρ H s.heap){l:Ns}(hfr:∀ x∈l,x.2 = .free->(x.1,Vk.cel)∈vs):∀ x∈l,x.2 = .free->(env.cells.lookup x.1).isSome=true:=fun x hx e=>by
 refine aF (HF.mp (hfr x hx e)) fun i hi=>?_
 refine eT (fi.cel i x.1 hi) fun c oc h1 zz=>?_
 rw[h1];rfl
theorem qQ {elt it:Ex}{ifs:List Ex}{elt' it' t':Expr}{ifs':List Expr}{sc:Scope}{p:Pos}{tg:List Str}(ht:ei t'=some tg)(hl:∀ x∈tg,sc.names.lookup x=some .local)(nd:tg.Nodup)(hk:sc.kind = .function)
  (hnc:∀ x∈sc.names,x.2 ≠ .cell) (hnl:∀ x∈sc.names,x.2 = .local->sc.names.lookup x.1=some .local) (hfr:∀ x∈sc.names,x.2 = .free->(x.1,Vk.cel)∈vs) (hns:cP it'=true)
  (hit:bt C d it it' vs ns) (hE:bt C d elt elt' (bO vs (bK sc.names ns) tg) (bK sc.names ns)) (hT:k9 C d ifs ifs' (bO vs (bK sc.names ns) tg) (bK sc.names ns)) :
  bt C d (.comp tg.length elt it ifs) (.ListComp elt' [⟨t',it',ifs',0⟩] sc p) vs ns:=by
 intro env A s ρ H Q X ES ea ok fi W
 dsimp only[aU] at W
 have hf:=fi.closed hfr
 rw[eval_ListComp]
 refine wpAny_comprehension_free (use:=none) rfl (fun x=>pT hns) (mJ hf) hk hnl ?_
 refine Dy (hit env A s ρ H _ X ES ea ok fi W) (fun civ s1 hzz=>gj hzz fun iv H1 st1 r1 hzw=>?_) fun zz zz h=>h
 refine cY hzw fun all hq hi hsz W1=>?_
 try clear hzw
 have ok1:=ok.step st1
 refine nW ok1 hq r1 hi fun I s2 st2 hI hit2=>?_
 refine ou (E:=XQ false C No H s X) ES ea ok1 (fi.stepN st1) ht hl nd hk hnc hf (fun env' s H ρ' Q e1 e2 e3 e4 w=>hT env' A s ρ' H Q X e1 e2 e3 e4 w) (fun env' s H ρ' Q e1 e2 e3 e4 w=>hE env' A s ρ' H Q X e1 e2 e3 e4 w) hq hsz W1 st2 hI hit2
  (fun Dl Cn s' av Hc items st hDl hCn hDC hcD hcC pl rs hm hK=>?_) (fun Dl Cn s' e hDl hCn x=>?_)
 ·refine aF hm fun m hm=>?_
  refine ⟨m,hm,fun h' sb=>?_⟩
  have hlo:=iq hm
  have st':=(st.after hCn hcC ok1.top hlo sb).shed (pK hI hDl hCn)
  have pl':h'.PlainList Dl items:=pl.at fun o e=>(sb.2 Dl hDC).trans e
  exact ⟨.ref Dl,an Hc Dl (.lst av),st1.trans (st'.adopt hDl ⟨bY ok1.top hDl,items,pl',rs.keepS (qX hlo sb)⟩),rfl,hK.2 Dl hcD⟩
 ·exact (pI ok1 hI hDl hCn x).imp fun m y=>⟨y.1,fun h' sb cenv' hcl=>od vI ok1 (y.2 h' sb) fun s'' x''=>(XG.mono x'').back st1⟩
end
end
section
open PySem
section
variable {C:Cx}{d:Md}{env:Env}{vs:Vs}{ns:Ns}{ρ:Lo}{H H1 H':MH}{s s1 s':Shared}{A:D4}{X:XP}{Q:V->MH->Prop}
theorem ul {P:List (Option Expr)->Prop}{k:String}{ks:List String}{ks0:List (Option Expr)}(h:kf (k::ks) ks0=true)(q:∀ c p r,kf ks r=true->P (some (.Constant (.str (Dn k)) c p)::r)):P ks0 :=
 n9 h fun o r h=>mh (P:=fun o=>P (o::r)) h fun e h=>qz (P:=fun e=>P (some e::r)) h fun v c p h=>lf (P:=fun v=>P (some (.Constant v c p)::r)) (aD h) (q c p r (ax h))
theorem lQ:∀ {ks:List String} {ks':List (Option Expr)},kf ks ks'=true->ks.length=ks'.length/\ks'.all (·.isSome)=true
 | [],_,h=>fk (P:=fun l:List (Option Expr)=>0=l.length/\l.all (·.isSome)=true) h ⟨rfl,rfl⟩
 | _::_,_,h=>ul (P:=fun l:List (Option Expr)=>_+1=l.length/\l.all (·.isSome)=true) h fun zz zz zz h=>⟨congrArg (· + 1) (lQ h).1,(lQ h).2⟩
noncomputable def pi:List String->List Value->Prop
 | [],[]=>True
 | k::ks,v::vs=>(∃ t,v = .str (Dn k) t)/\pi ks vs
 | _,_=>False
noncomputable def SW (C:Cx) (A:D4) (env:Env) (H:MH) (s:Shared) (Q:V->MH->Prop) (E:Value->Shared->Prop) (e':Expr):Prop :=
 wpAny C.M A (FX e' env) (fun v s'=>∃ r H',Step C No H s H' s'/\VR C s'.heap r v/\Q r H' /\ ∀ b o,s.heap.get? b=some o->s'.heap.get? b=some o) E s
theorem Bh {p:Pos}{E:Value->Shared->Prop}(ok:Ok C d H A s)(W:sZ [] H Q):SW C A env H s Q E (.List [] p):=by
 unfold SW
 rw[arm_eval_List]
 refine Dq (Ej (Dq (Calls.spliced_nil ?_)))
 refine D6 ?_ (by size_fits)
 have hf:H s.heap.objs.size=none:=ok.rel.fresh (ba _)
 exact ⟨.ref s.heap.objs.size,_,Step.alloc (o:=.lst []) ok.rel ok.top ⟨bY ok.top (ba _),#[],⟨0,DG _ rfl⟩,aJ.nil⟩ rfl rfl rfl,by dsimp only[VR],W.2 _ hf,fun b o e=>Dv _ e⟩
theorem Bi {i:Int}{k:Nat}{p:Pos}{E:Value->Shared->Prop}(ok:Ok C d H A s)(W:Q (.int i) H):SW C A env H s Q E (.Constant (.int i) k p):=by
 unfold SW
 rw[arm_eval_Constant]
 exact wpAny_mkInt ⟨.int i,H,ok.toks _,by dsimp only[VR];exact ⟨_,rfl⟩,W,fun zz zz e=>e⟩
theorem lK {e:Ex}{e':Expr}{Q:V->MH->Prop}{E:Value->Shared->Prop}(hs:jR e=true)(hc:aT vs ns e e'=true)(ES:EnvS env vs ns)(ok:Ok C d H A s)(fi:FI C env vs ρ H s.heap)(W:aU C d e ρ H Q X) :
  SW C A env H s Q E e':=by
 cases e with
 | nm i=>
  refine ad W fun v l w=>?_
  try clear W
  exact xU (P:=SW C A env H s Q E) hc fun id p h1 h2=>wpAny_Name (yE ES fi h1 l fun cv r=>⟨v,H,ok.refl,r,w,fun zz zz e=>e⟩) h2
 | ci i=>exact mO (P:=SW C A env H s Q E) hc fun k p=>Bi ok W
 | cs x=>exact mO (P:=SW C A env H s Q E) hc fun k p=>Calls.Constant_str ⟨.str (Dn x),H,ok.toks _,by dsimp only[VR];exact ⟨_,rfl⟩,W,fun zz zz e=>e⟩
 | cb b=>exact mO (P:=SW C A env H s Q E) hc fun k p=>wpAny_pure ⟨.bool b,H,ok.refl,by dsimp only[VR],W,fun zz zz e=>e⟩
 | cn=>exact mO (P:=SW C A env H s Q E) hc fun k p=>wpAny_pure ⟨.none,H,ok.refl,by dsimp only[VR],W,fun zz zz e=>e⟩
 | lst es=>
  cases es with
  | cons _ _=>exact (DP hs).elim
  | nil=>exact vj (P:=SW C A env H s Q E) hc fun es' p h=>fk (P:=fun es'=>SW C A env H s Q E (.List es' p)) h (Bh ok W)
 | _=>exact (DP hs).elim
noncomputable def PW (C:Cx) (A:D4) (env:Env) (pos:Pos) (H:MH) (s:Shared) (Q:List V->MH->Prop) (E:Value->Shared->Prop) (ks:List String) (ks':List (Option Expr)) (es':List Expr):Prop :=
 wpAny C.M A (evalPairs (pairTrees ks' es' env pos)) (fun prs s'=>∃ xs H',Step C No H s H' s'/\aJ C s'.heap xs (prs.map (·.2))/\pi ks (prs.map (·.1))/\Q xs H' /\ ∀ b o,s.heap.get? b=some o->s'.heap.get? b=some o) E s
theorem nq (pos:Pos){E:Value->Shared->Prop}(ES:EnvS env vs ns):∀ {ks:List String} {es:List Ex} {ks':List (Option Expr)} {es':List Expr} {s:Shared} {H:MH} {Q:List V->MH->Prop},kf ks ks'=true->b9 vs ns es es'=true->(∀ e∈es,jR e=true)->ks.length=es.length->Ok C d H A s->FI C env vs ρ H s.heap->dq C d es ρ H Q X ->
  PW C A env pos H s Q E ks ks' es'
 | [],[],ks',es',s,H,Q=>fun hk hc zz zz ok fi W=>fk (P:=fun es'=>PW C A env pos H s Q E [] ks' es') hc (fk (P:=fun ks'=>PW C A env pos H s Q E [] ks' []) hk
   (pairTrees_nil_walk ⟨[],H,ok.refl,aJ.nil,trivial,W,fun zz zz e=>e⟩))
 | k::ks,e::es,ks0,es0,s,H,Q=>fun hk hc hs hl ok fi W=>by
  refine lh (P:=fun es0=>PW C A env pos H s Q E (k::ks) ks0 es0) hc fun e' es' hc1 hc2=>ul (P:=fun ks0=>PW C A env pos H s Q E (k::ks) ks0 (e'::es')) hk fun c p ks' hk3=>?_
  refine pairTrees_cons_walk (Calls.Constant_str ?_)
  have st0:Step C No H s H { s with toks:=s.toks+1 }:=ok.toks _
  refine Dy (lK (E:=E) (hs e (.head _)) hc1 ES (ok.step st0) (fi.stepN st0) W) (fun cv s1 hq1=>dC hq1 fun v H1 st1 r1 W1 k1=>?_) fun zz zz h=>h
  have st:=st0.trans st1
  refine Dy (nq pos (E:=E) ES hk3 hc2 (fun e he=>hs e (.tail _ he)) (Nat.succ.inj hl) (ok.step st) (fi.stepN st) W1) (fun prs s2 hzz=>?_) fun zz zz h=>h
  refine dD hzz fun xs H2 st2 r2 kr W2 k2=>?_
  try clear hzz
  exact ⟨v::xs,H2,st.trans st2,aJ.cons (r1.keep st2.vk) r2,⟨⟨_,rfl⟩,kr⟩,W2,fun b o e=>k2 b o (k1 b o e)⟩
 | _::_,[],_,_,_,_,_=>fun zz zz zz hl zz zz zz=>by cases hl
 | [],_::_,_,_,_,_,_=>fun zz zz zz hl zz zz zz=>by cases hl
theorem lB:∀ {ks:List String} {prs:List (Value × Value)},pi ks (prs.map (·.1))->Carries (strKind C.prog C.w) prs ((ks.map Dn).zip (prs.map (·.2)))
 | [],[],_=>trivial
 | k::ks,(key,v)::prs,h=>by
  refine az h fun ho73_0 h2=>?_
  try clear h
  obtain ⟨t,e⟩:=ho73_0
  refine ⟨?_,rfl,lB h2⟩
  have e':key = .str (Dn k) t:=e
  rw[e'];exact strKind_is C.prog C.w _ t
 | [],_::_,h=>h.elim
 | _::_,[],h=>h.elim
theorem m_ {K:Type}[DecidableEq K]:∀ {kvs acc:List (K × Value)},((acc++kvs).map (·.1)).Nodup->merged acc kvs=acc++kvs
 | [],acc,_=>by simp[merged]
 | (k,v)::r,acc,h=>by
  have h1:FC acc k v=acc ++ [(k,v)]:=by
   unfold FC
   rw[if_neg]
   intro hc
   refine ad (Hh.mp hc) fun x hx he=>?_
   have he':x.1=k:=by simpa using he
   simp only[DO,D3] at h
   have:=List.nodup_append.mp h
   exact this.2.2 x.1 (List.mem_map_of_mem hx) k (.head _) he'
  show merged (FC acc k v) r=_
  rw[h1]
  have:acc++(k,v)::r=(acc ++ [(k,v)])++r:=by simp
  rw[this] at h ⊢
  exact m_ h
theorem pY:∀ {ks:List Str} {prs:List Value},ks.length=prs.length->(ks.zip prs).map (·.1)=ks/\(ks.zip prs).map (·.2)=prs
 | [],[],_=>⟨rfl,rfl⟩
 | k::ks,p::prs,h=>by have:=pY (ks:=ks) (prs:=prs) (by simpa using h);simp[this.1,this.2]
 | [],_::_,h=>by simp at h
 | _::_,[],h=>by simp at h
theorem oE:∀ {ks:List Str} {xs:List V},ks.length=xs.length->(ks.zip xs).map (·.1)=ks/\(ks.zip xs).map (·.2)=xs
 | [],[],_=>⟨rfl,rfl⟩
 | k::ks,p::prs,h=>by have:=oE (ks:=ks) (xs:=prs) (by simpa using h);simp[this.1,this.2]
 | [],_::_,h=>by simp at h
 | _::_,[],h=>by simp at h
theorem yY {ks:List String}{es:List Ex}{ks':List (Option Expr)}{es':List Expr}{p:Pos}(G:C.Good)(h0:ks ≠ [])(h15:ks.length<=15)(hl:ks.length=es.length)(hk:kf ks ks'=true)(hc:b9 vs ns es es'=true)(hs:∀ e∈es,jR e=true) :
  bt C d (.dct ks es) (.Dict ks' es' p) vs ns:=by
 intro env A s ρ H Q X ES ea ok fi W
 dsimp only[aU] at W
 have hkl:=lQ hk
 have hne:ks' ≠ []:=fun q=>h0 (by have:=hkl.1;rw[q] at this;exact Ey.mp this)
 refine wpAny_Dict_walk (knd:=strKind C.prog C.w) hkl.2 (by rw[<- hkl.1,hl,nP hc]) hne (by exact au (ae [ks.length,ks'.length] [(0,125),(1,0),(.a 125 111,1)] rfl h15 (mf hkl.1))) ?_
 have st0:Step C No H s H { s with heap:=s.heap.push { cls:=.type "dict",data:=.dict #[] } }:=Step.keeps ok.rel ok.top (fun b o e=>Dv _ e) rfl rfl
 have hm0:(s.heap.push { cls:=.type "dict",data:=.dict #[] }).DictOf (strKind C.prog C.w) s.heap.objs.size []:=⟨_,#[],0,DG _ rfl,⟨rfl,rfl,rfl⟩,rfl,fun zz he=>by simp at he,.nil,by simp⟩
 refine Dy (nq (E:=XQ false C No H s X) p ES hk hc hs hl (ok.step st0) (fi.stepN st0) W) (fun prs s1 hzz=>?_) fun zz zz h=>h
 refine dD hzz fun xs H1 st1 r1 kr W1 k1=>?_
 try clear hzz
 refine kU W1 fun w1 w2 w3 w4=>?_
 try clear W1
 have hfr:s.heap.get? s.heap.objs.size=none:=ba _
 have hH:H s.heap.objs.size=none:=ok.rel.fresh hfr
 have hH1:H1 s.heap.objs.size=none:=st1.gone (DG _ rfl) hH
 have ok1:=ok.step (st0.trans st1)
 refine cZ hm0 fun o es0 ep ho hx hd r0=>?_
 try clear hm0
 have hw:=k1 _ o ho
 refine ⟨_,lB kr,⟨o,es0,ep,hw,hx,hd,r0⟩,fun h' hm' sb=>?_⟩
 have hlp:ks.length=prs.length:=by have:=r1.length;rw[Dt] at this;(clear h15 hl hkl w2 r0;lia)
 have hz:=pY (ks:=ks.map Dn) (prs:=prs.map (·.2)) (by simp[hlp])
 have hzv:=oE (ks:=ks.map Dn) (xs:=xs) (by simp[w1])
 have hnd:(ks.map Dn).Nodup:=w3
 have hmg:merged [] ((ks.map Dn).zip (prs.map (·.2)))=(ks.map Dn).zip (prs.map (·.2)):=by
  have:=m_ (kvs:=(ks.map Dn).zip (prs.map (·.2))) (acc:=[]) (by rw[GC,hz.1];exact hnd)
  simpa using this
 rw[hmg] at hm'
 have ste:Step C (· = s.heap.objs.size) H1 s1 H1 { s1 with heap:=h',toks:=s1.toks+prs.length }:=by
  refine Step.but ok1.rel ok1.top (fun b ob e n=>(sb.2 b n).trans e) (fun b e=>e ▸ hH1) (fun b e=>e ▸ bY ok.top hfr) (fun b ob e q=>?_) (fun b ob es ep e q z=>?_) rfl rfl
  ·subst q;rw[hw] at e;cases e;exact .inl ⟨_,_,hd⟩
  ·subst q;obtain ⟨o',es',ep',ho',_,hd',_⟩:=hm';exact ⟨o',es',ep',ho',hd'⟩
 have st:Step C No H s H1 { s1 with heap:=h',toks:=s1.toks+prs.length }:=(st0.trans st1).trans_new ste (fun b q=>by subst q;exact hfr) (fun zz f=>f.elim)
 refine ⟨.ref s.heap.objs.size,_,st.adopt (o:=.dcs ((ks.map Dn).zip xs)) hfr ⟨bY ok.top hfr,jl G ok,_,hm',?_,?_⟩,rfl,w4 _ hH1⟩
 ·rw[hz.1,hzv.1]
 ·rw[hz.2,hzv.2];exact r1.keep ste.vk
end
end
section
open PySem
section
variable {C:Cx}{d:Md}
noncomputable def SX (C:Cx) (d:Md) (e:Ex) (vs:Vs) (ns:Ns) (e':Expr):Prop:=bt C d e e' vs ns/\eC C d e e' vs ns
theorem dW {e:Ex}{e':Expr}{vs:Vs}{ns:Ns}(h:bt C d e e' vs ns)(hw:∀ ρ H Q X,dH C d e ρ H Q X=aU C d e ρ H (fun v H1=>eI C d v H1 Q X) X)(he:isTrue e'=fun env whole=>(do let v <- whole;standAt e'.pos;FH [v] (truthy v))):SX C d e vs ns e':=⟨h,qP he hw h⟩
theorem qR {e:Ex}{e':Expr}{vs:Vs}{ns:Ns}(hs:jR e=true)(hc:aT vs ns e e'=true):bt C d e e' vs ns:=fun env A s ρ H Q X ES ea ok fi W=>
 Dy (lK (E:=XQ false C No H s X) hs hc ES ok fi W) (fun v s' hq1=>dC hq1 fun r H' a b c zz=>⟨r,H',a,b,c⟩) fun zz zz h=>h
theorem nA {e:Ex}{e':Expr}{vs:Vs}{ns:Ns}{c:Const}(hs:jR e=true)(hw:∀ ρ H Q X,dH C d e ρ H Q X=aU C d e ρ H (fun v H1=>eI C d v H1 Q X) X)(hc:aT vs ns e e'=true)(h:jI e' (fun d zz zz=>decide (d=c))=true):SX C d e vs ns e' :=
 mO (P:=fun e'=>aT vs ns e e'=true->SX C d e vs ns e') h (fun k p hc=>dW (qR hs hc) hw rfl) hc
theorem Be (G:C.Good){x:String}{id:Str}{p:Pos}{vs:Vs}{ns:Ns}(h1:fT ns x id=true):bt C d (.gl x) (.Name id p) vs ns:=fun env A s ρ H Q X ES ea ok fi hq2=>aG hq2 fun v cv g r w=>
 lm G ES h1 ok.top g ⟨v,H,ok.refl,Bk ok.top r,w⟩
theorem Bj {op:Hq}{e:Ex}{x:Expr}{p:Pos}{vs:Vs}{ns:Ns}(h:SX C d e vs ns x):SX C d (.una op e) vs ns (.UnaryOp op x p):=by
 refine ⟨sQ h.1,?_⟩
 cases op with
 | Not=>exact xe h.2
 | _=>exact qP rfl (fun ρ H Q X=>rfl) (sQ h.1)
theorem yW {op:EY}{es:List Ex}{es':List Expr}{p:Pos}{vs:Vs}{ns:Ns}(h:pn C d op es es' vs ns):bt C d (.bop op es) (.BoolOp op es' p) vs ns:=fun env A s ρ H Q X ES ea ok fi W=>by
 rw[arm_eval_BoolOp]
 exact h env A s ρ H Q X p ES ea ok fi W
theorem og {e:Ex}{o:Option Expr}{vs:Vs}{ns:Ns}(h:tn vs ns e o=true)(k:∀ e',aT vs ns e e'=true->bt C d e e' vs ns):nN C d e o vs ns:=by
 cases o with
 | some e'=>exact k e' h
 | none=>exact Ex.cn.elim (motive_1:=fun e=>nN C d e none vs ns) e (of_decide_eq_true h) vA
mutual
theorem sX (G:C.Good):∀ (e:Ex) (e':Expr) (vs:Vs) (ns:Ns),aT vs ns e e'=true->SX C d e vs ns e'
 | .nm i,e',vs,ns,hc=>xU (P:=fun e'=>aT vs ns (.nm i) e'=true->SX C d (.nm i) vs ns e') hc (fun id p h1 h2 hc=>dW (qR rfl hc) (fun zz zz zz zz=>rfl) rfl) hc
 | .gl x,e',vs,ns,hc=>BA (P:=SX C d (.gl x) vs ns) hc fun id p h1=>dW (Be G h1) (fun zz zz zz zz=>rfl) rfl
 | .ci i,e',vs,ns,hc=>nA rfl (fun zz zz zz zz=>rfl) hc hc
 | .cs i,e',vs,ns,hc=>nA rfl (fun zz zz zz zz=>rfl) hc hc
 | .cb i,e',vs,ns,hc=>nA rfl (fun zz zz zz zz=>rfl) hc hc
 | .cn,e',vs,ns,hc=>nA rfl (fun zz zz zz zz=>rfl) hc hc
 | .bin op l r,e',vs,ns,hc=>Ac (P:=SX C d (.bin op l r) vs ns) hc fun l' r' p h1 h2=>dW (yV (sX G l l' vs ns h1).1 (sX G r r' vs ns h2).1) (fun zz zz zz zz=>rfl) rfl
 | .una op e,e',vs,ns,hc=>Al (P:=SX C d (.una op e) vs ns) hc fun x p h1=>Bj (sX G e x vs ns h1)
 | .cmp op l r,e',vs,ns,hc=>Ae (P:=SX C d (.cmp op l r) vs ns) hc fun l' r' p h0 h1 h2=>⟨yX h0 (sX G l l' vs ns h1).1 (sX G r r' vs ns h2).1,xc h0 (sX G l l' vs ns h1).1 (sX G r r' vs ns h2).1⟩
 | .cmp2 o1 o2 l m r,e',vs,ns,hc=>yy (P:=SX C d (.cmp2 o1 o2 l m r) vs ns) hc fun l' m' r' p h0 h1 h2 h3=>⟨xg h0 (sX G l l' vs ns h1).1 (sX G m m' vs ns h2).1 (sX G r r' vs ns h3).1,vG h0 (sX G l l' vs ns h1).1 (sX G m m' vs ns h2).1 (sX G r r' vs ns h3).1⟩
 | .bop op es,e',vs,ns,hc=>Ad (P:=SX C d (.bop op es) vs ns) hc fun es' p h1=>⟨yW (kL G es es' vs ns h1).1.b,xa (kL G es es' vs ns h1).2.a⟩
 | .ife c a b,e',vs,ns,hc=>Ah (P:=SX C d (.ife c a b) vs ns) hc fun c' a' b' p h1 h2 h3=>⟨y0 (sX G c c' vs ns h1).2 (sX G a a' vs ns h2).1 (sX G b b' vs ns h3).1,xd (sX G c c' vs ns h1).2 (sX G a a' vs ns h2).2 (sX G b b' vs ns h3).2⟩
 | .lst es,e',vs,ns,hc=>vj (P:=SX C d (.lst es) vs ns) hc fun es' p h1=>dW (y9 ((kL G es es' vs ns h1).1.es h1)) (fun zz zz zz zz=>rfl) rfl
 | .tup es,e',vs,ns,hc=>qC (P:=SX C d (.tup es) vs ns) hc fun es' k p h1=>dW (zc ((kL G es es' vs ns h1).1.es h1)) (fun zz zz zz zz=>rfl) rfl
 | .emp k,e',vs,ns,hc=>Ag (P:=SX C d (.emp k) vs ns) hc fun p=>dW (yZ G) (fun zz zz zz zz=>rfl) rfl
 | .dct ks es,e',vs,ns,hc=>Af (P:=SX C d (.dct ks es) vs ns) hc fun ks' es' p h0 h1 h2 h3 h4 h5=>dW (yY G h0 h1 h2 h4 h5 h3) (fun zz zz zz zz=>rfl) rfl
 | .sub o i,e',vs,ns,hc=>Aj (P:=SX C d (.sub o i) vs ns) hc fun o' i' p h0 h1 h2=>dW (zb h0 (sX G o o' vs ns h1).1 (sX G i i' vs ns h2).1) (fun zz zz zz zz=>rfl) rfl
 | .sli o l u t,e',vs,ns,hc=>Ai (P:=SX C d (.sli o l u t) vs ns) hc fun o' l' u' t' q p h1 h2 h3 h4=>dW (za (sX G o o' vs ns h1).1 (og h2 fun x h=>(sX G l x vs ns h).1) (og h3 fun x h=>(sX G u x vs ns h).1) (og h4 fun x h=>(sX G t x vs ns h).1)) (fun zz zz zz zz=>rfl) rfl
 | .call f es,e',vs,ns,hc=>yx (P:=SX C d (.call f es) vs ns) hc fun id q es' p h1 h2=>dW (xf G h1 h2 ((kL G es es' vs ns h2).1.es h2)) (fun zz zz zz zz=>rfl) rfl
 | .meth o m es,e',vs,ns,hc=>yz (P:=SX C d (.meth o m es) vs ns) hc fun o' ap es' p h0 h1 h2 h3 h4=>dW (xh h0 h1 h2 h4 (sX G o o' vs ns h3).1 ((kL G es es' vs ns h4).1.es h4)) (fun zz zz zz zz=>rfl) rfl
 | .att o a,e',vs,ns,hc=>Ab (P:=SX C d (.att o a) vs ns) hc fun o' p h0 h1=>dW (yU h0 (sX G o o' vs ns h1).1) (fun zz zz zz zz=>rfl) rfl
 | .comp k elt it ifs,e',vs,ns,hc=>sm (P:=SX C d (.comp k elt it ifs) vs ns) hc fun elt' t' it' ifs' sc p tg h0 h1 t h8 h9 h10 h11=>
   h1 ▸ dW (qQ h0 t.loc t.nd t.kind t.nc t.nl t.fr h8 (sX G it it' vs ns h9).1 (sX G elt elt' _ _ h10).1 (kL G ifs ifs' _ _ h11).2.ts) (fun zz zz zz zz=>rfl) rfl
theorem kL (G:C.Good):∀ (es:List Ex) (es':List Expr) (vs:Vs) (ns:Ns),b9 vs ns es es'=true->iZ C d vs ns es es'/\jt C d vs ns es es'
 | [],es',vs,ns,hc=>pX (P:=fun l=>iZ C d vs ns [] l/\jt C d vs ns [] l) hc ⟨trivial,trivial⟩
 | e::es,es',vs,ns,hc=>by
  refine lh (P:=fun l=>iZ C d vs ns (e::es) l/\jt C d vs ns (e::es) l) hc fun e1 es1 h1 h2=>?_
  exact ⟨⟨(sX G e e1 vs ns h1).1,(kL G es es1 vs ns h2).1⟩,⟨(sX G e e1 vs ns h1).2,(kL G es es1 vs ns h2).2⟩⟩
end
theorem sE (G:C.Good)(e:Ex)(e':Expr)(vs:Vs)(ns:Ns)(h:aT vs ns e e'=true):bt C d e e' vs ns:=(sX G e e' vs ns h).1
theorem sT (G:C.Good)(e:Ex)(e':Expr)(vs:Vs)(ns:Ns)(h:aT vs ns e e'=true):eC C d e e' vs ns:=(sX G e e' vs ns h).2
theorem Df (G:C.Good)(es:List Ex)(es':List Expr)(vs:Vs)(ns:Ns)(h:b9 vs ns es es'=true):iZ C d vs ns es es':=(kL G es es' vs ns h).1
theorem BF (G:C.Good)(es:List Ex)(es':List Expr)(vs:Vs)(ns:Ns)(h:b9 vs ns es es'=true):jt C d vs ns es es':=(kL G es es' vs ns h).2
end
end
section
open PySem
structure Itr (C:Cx)(d:Md)(sv:Sv)(t':Expr)(I:Addr)(Is:Addr->Prop)(At:Heap->Nat->Prop):Prop where
 keep:∀ {D:Addr->Prop} {H H':MH} {s s':Shared} {i:Nat},At s.heap i->Step C D H s H' s'->(∀ b,Is b->H b=none)->(∀ b,Is b -> ¬ D b)->At s'.heap i
 ex:∀ {h:Heap} {i:Nat},At h i -> ∀ b,Is b -> ∃ o vs,h.get? b=some o/\o.data = .fields vs
 item:∀ {H:MH} {s:Shared} {A:D4} {i:Nat} {all:List V} {x:V} {P:Value->Shared->Prop} {E:Value->Shared->Prop},Ok C d H A s->At s.heap i->(∀ b,Is b->H b=none)->(∀ b,Is b->C.h0.get? b=none) ->
  cz H sv=some all->all[i]? = some x->(∀ cv s',Step C Is H s H s'->VR C s'.heap x cv->At s'.heap (i+1)->P cv s') ->
  wpAny C.M A (FW (.ref I)) (fun r s1=>∃ cv,r=some cv/\wpAny C.M A (Hv t' (.ref I) cv) (fun zz s2=>P cv s2) E s1) E s
 done:∀ {H:MH} {s:Shared} {A:D4} {i:Nat} {all:List V} {P:Shared->Prop} {E:Value->Shared->Prop},Ok C d H A s->At s.heap i->(∀ b,Is b->H b=none)->(∀ b,Is b->C.h0.get? b=none) ->
  cz H sv=some all->all.length<=i->(∀ s',Step C Is H s H s'->P s')->wpAny C.M A (FW (.ref I)) (fun r s1=>r=none/\P s1) E s
section
variable {C:Cx}{d:Md}{t':Expr}{I:Addr}
theorem Aa {iv:V}(hq:gM d iv):Itr C d (.pl iv) t' I (· = I) (fun h i=>cN C h iv I i) where
 keep:=fun x y hI hD=>x.step y (hI I rfl) (hD I rfl)
 ex:=fun x b hb=>by subst hb;obtain ⟨o,T,vs,h1,_,_,_,h3⟩:=x.there;exact ⟨o,vs,h1,h3⟩
 item:=fun ok it hI h0 hi hx hP=>oJ ok it (hI I rfl) (h0 I rfl) hi hx fun s' cv st it' vr=>⟨cv,rfl,xS it' (hP cv s' st vr it')⟩
 done:=fun ok it hI h0 hi hx hP=>qw ok hq it (hI I rfl) (h0 I rfl) hi hx fun s' st=>⟨rfl,hP s' st⟩
theorem oA:∀ {l:List V} {n i:Nat} {x:V},(e8 n l)[i]? = some x -> ∃ y,l[i]? = some y/\x = .tup [.int ((n+i:Nat):Int),y]
 | [],_,_,_,h=>by simp[e8] at h
 | y::l,n,0,x,h=>by simp[e8] at h;exact ⟨y,rfl,by rw[<- h];simp⟩
 | y::l,n,i+1,x,h=>by
  simp only[e8,List.getElem?_cons_succ] at h
  refine ad (oA h) fun z h1 h2=>?_
  exact ⟨z,by simpa using h1,by rw[h2];congr 3;exact eV (am [n,i] [(.a (.a 11 1) 111,.a 0 21)] rfl) (am [n,i] [(.a (.a 0 21) 111,.a 11 1)] rfl)⟩
theorem kh:∀ (l:List V) (n:Nat),(e8 n l).length=l.length
 | [],_=>rfl
 | _::l,n=>by simp[e8,kh l]
noncomputable def BW (a e it:Addr) (h:Heap) (i:Nat):Prop:=(∃ old,IsEnum h e it i old)/\h.IsListIter it a i
theorem z9 {a e it:Addr}{es:List Expr}{k:Nat}{p:Pos}(hq:d.q=true)(hne:e≠it):Itr C d (.en (.ref a)) (.Tuple es k p) e (fun b=>b=e ∨ b=it) (BW a e it) where
 keep:=fun {D H H' s s' i} x y hI hD=>by
  obtain ⟨⟨old,h1⟩,o,h2,h3,h4⟩:=x
  refine ⟨⟨old,?_⟩,o,?_,h3,h4⟩
  ·refine ad (y.chg e _ h1 (hI e (.inl rfl)) (hD e (.inl rfl))) fun sl w q=>?_
   rw[q (by intro es ep z;cases z)] at w;exact w
  ·refine ad (y.chg it _ h2 (hI it (.inr rfl)) (hD it (.inr rfl))) fun sl w q=>?_
   rw[q (by intro es ep z;rw[h4] at z;cases z)] at w;exact w
 ex:=fun x b hb=>by
  obtain ⟨⟨old,h1⟩,o,h2,h3,h4⟩:=x
  rcases hb with rfl | rfl
  ·exact ⟨_,_,h1,rfl⟩
  ·exact ⟨o,_,h2,h4⟩
 item:=fun {H s A i all x P E} ok at_ hI h0 hi hx hP=>by
  refine az at_ fun ho54_0 h2=>?_
  try clear at_
  obtain ⟨old,h1⟩:=ho54_0
  simp only[cz] at hi
  refine ad (DE.mp hi) fun l hl hr56_2=>?_
  subst hr56_2
  refine ad (oA hx) fun y hy hr57_2=>?_
  subst hr57_2
  refine ad (gg ok.rel hl) fun items hL rs=>?_
  refine ad (rs.get hy) fun cv e1 e2=>?_
  refine wpAny_pyNext_enum_item h1 h2 hL (x:=cv) (by simpa using e1) hne fun h' ho hit' htp hsz kp=>?_
  refine ⟨_,rfl,?_⟩
  refine wpAny_letOwnedTupleGo_enum ho fun h'' he'' sb=>?_
  refine bN (id h2) fun o2 g2 g3 g4=>?_
  have loose:∀ b o,s.heap.get? b=some o->(b=e ∨ b=it)->eW o /\ ∀ es ep,o.data ≠ .dict es ep:=fun b o w hb=>by
   rcases hb with rfl | rfl
   ·rw[h1] at w;cases w;exact ⟨.inr (.inr ⟨"enumerate",rfl,by decide,by decide⟩),by intro es ep z;cases z⟩
   ·rw[g2] at w;cases w;exact ⟨.inr (.inr ⟨_,g3,by decide,by decide⟩),by intro es ep z;rw[g4] at z;cases z⟩
  have st:Step C (fun b=>b=e ∨ b=it) H s H { s with heap:=h'',toks:=s.toks+1 }:=by
   refine Step.but ok.rel ok.top (fun b o w nb=>?_) hI h0 (fun b o w hb=>(loose b o w hb).1) (fun b o es ep w hb z=>((loose b o w hb).2 es ep z).elim) rfl rfl
   have n1:b≠e:=fun q=>nb (.inl q)
   have n2:b≠it:=fun q=>nb (.inr q)
   exact (sb.2 b n1).trans (kp b o n1 n2 w)
  refine hP _ _ st ?_ ⟨⟨cv, by have : ((i : Int) + 1) = ((i + 1 : Nat) : Int) := by exact eV (am [i] [(.a 11 111,11)] rfl) (am [i] [(.a 11 111,11)] rfl)
                               rw[<- this];exact he''⟩,?_⟩
  ·dsimp only[VR]
   have htp':h''.get? s.heap.objs.size=some { cls:=.type "tuple",data:=.seq #[.int (i:Int) s.toks,cv] }:=by
    rw[sb.2 _ (fun q=>?_)]
    ·exact htp
    ·have:=D_ h1;rw[<- q] at this;exact absurd this (FY _)
   refine ⟨_,#[.int (i:Int) s.toks,cv],⟨rfl,.of htp' rfl⟩,⟨_,htp',rfl,0,rfl⟩,?_⟩
   ·show aJ C h'' [V.int ((0+i:Nat):Int),y] [.int (i:Int) s.toks,cv]
    exact aJ.cons (by dsimp only[VR];exact ⟨s.toks,by simp⟩) (aJ.cons (e2.keep st.vk) aJ.nil)
  ·refine ad hit' fun o3 g5 g6=>?_
   try clear hit'
   exact ⟨o3,(sb.2 it (E9 hne)).trans g5,g6⟩
 done:=fun {H s A i all P E} ok at_ hI h0 hi hx hP=>by
  refine az at_ fun ho86_0 h2=>?_
  try clear at_
  obtain ⟨old,h1⟩:=ho86_0
  simp only[cz] at hi
  refine ad (DE.mp hi) fun l hl hr88_2=>?_
  subst hr88_2
  rw[kh] at hx
  refine ad (gg ok.rel hl) fun items hL rs=>?_
  have hlen:=rs.length
  refine wpAny_pyNext_enum_end (ok.hnd.1 hq) h1 h2 hL (by rw[GW];simp at hlen;exact au (ae [l.length,i,items.size] [(0,1),(2,0),(21,2)] rfl hx (mf hlen))) fun h' eb=>⟨rfl,hP _ ?_⟩
  refine bN (id h2) fun o2 g2 g3 g4=>?_
  have loose:∀ b o,s.heap.get? b=some o->(b=e ∨ b=it)->eW o /\ ∀ es ep,o.data ≠ .dict es ep:=fun b o w hb=>by
   rcases hb with rfl | rfl
   ·rw[h1] at w;cases w;exact ⟨.inr (.inr ⟨"enumerate",rfl,by decide,by decide⟩),by intro es ep z;cases z⟩
   ·rw[g2] at w;cases w;exact ⟨.inr (.inr ⟨_,g3,by decide,by decide⟩),by intro es ep z;rw[g4] at z;cases z⟩
  refine Step.but ok.rel ok.top (fun b o w nb=>eb b o (fun q=>nb (.inr q)) w) hI h0 (fun b o w hb=>(loose b o w hb).1) (fun b o es ep w hb z=>((loose b o w hb).2 es ep z).elim) rfl rfl
end
end
section
open PySem
noncomputable def ub (C:Cx) (h:Heap):Fl->Flow->Prop
 | .next,f=>f = .next
 | .ret v,f=>∃ cv,f = .ret cv/\VR C h v cv
noncomputable def SP (C:Cx) (env:Env) (vs:Vs) (D:Addr->Prop) (H:MH) (s:Shared) (K:KP) (fl:Flow) (s':Shared):Prop :=
 ∃ f ρ' H',Step C D H s H' s'/\FI C env vs ρ' H' s'.heap/\ub C s'.heap f fl/\K f ρ' H'
noncomputable def hY (C:Cx) (env:Env) (vs:Vs) (X:XS):XH:=fun c H h=>∃ ρ',FI C env vs ρ' H h/\X c ρ' H
theorem Bf {P:Prop}{C:Cx}{env:Env}{vs:Vs}{D:Addr->Prop}{H:MH}{s:Shared}{K:KP}{fl:Flow}{s':Shared}(h:SP C env vs D H s K fl s')(k:∀ f ρ' H',Step C D H s H' s'->FI C env vs ρ' H' s'.heap->ub C s'.heap f fl->K f ρ' H'->P):P:=h.elim fun f h=>h.elim fun ρ h=>h.elim fun H' h=>k f ρ H' h.1 h.2.1 h.2.2.1 h.2.2.2
section
variable {C:Cx}{d:Md}{env:Env}{vs:Vs}{ns:Ns}{ρ:Lo}{H H1 H':MH}{s s1 s' s'':Shared}{A:D4}{K:KP}{X:XS}{D:Addr->Prop}
theorem fy:ly C (hY C env vs X):=fun c H s s' D st hrec hX=>by
 refine ad hX fun ρ' fi x=>?_
 try clear hX
 refine ⟨ρ',fi.step st (fun q=>?_) fun z c e q=>?_,x⟩
 ·refine ad fi.ns fun m ho22_1 zz=>?_
  obtain ⟨o,es,ep,ho,hd,_⟩:=ho22_1
  refine aF (hrec _ o q ho) fun ws w=>?_
  rw[hd] at w
  cases w
 ·obtain ⟨_,_,oc,o,ho,hd⟩:=fi.cex z c e
  refine aF (hrec _ o q ho) fun ws w=>?_
  rw[hd] at w
  cases w
theorem sH (x:Step C D H s H' s')(hx:∀ b,D b -> ∃ o,s'.heap.get? b=some o){b:Addr}(e:s'.heap.get? b=none):s.heap.get? b=none:=by
 cases q:s.heap.get? b with
 | none=>rfl
 | some o=>
  by_cases u:(H b).isSome=true
  ·refine aF (x.rel.there (x.dom b u)) fun ob w=>?_
   rw[e] at w
   cases w
  ·by_cases dd:D b
   ·refine aF (hx b dd) fun ob w=>?_
    rw[e] at w
    cases w
   ·refine ad (x.chg b o q (by simpa using u) dd) fun sl w zz=>?_
    rw[e] at w
    cases w
theorem Fly.backD {tr:Bool}{a:Addr}{c:String}{h:Heap}(st:Step C D H s H' s')(hx:∀ b,D b -> ∃ o,s'.heap.get? b=some o)(x:Fly C tr s' a c h):Fly C tr s a c h:=by
 obtain ⟨new,o,ws,r,h1,h2,h3,h4,h5,h6,h7⟩:=x
 exact ⟨sH st hx new,o,ws,r,h1,h2,h3,h4,h5,h6,h7.imp id fun hq1=>eU hq1 fun T oT ts g1 g2 g3=>⟨T,oT,ts,g1,sH st hx g2,g3⟩⟩
theorem XG.backD {tr:Bool}{X:XH}{e:Value}(st:Step C D H s H' s')(hx:∀ b,D b -> ∃ o,s'.heap.get? b=some o)(x:XG tr C D H' s' X e s''):XG tr C D H s X e s'':=by
 refine cR x fun a c H2 h1 h2 h3 h4 h5=>?_
 try clear x
 exact ⟨a,c,H2,h1,st.trans h2,h3,h4.backD st hx,h5⟩
theorem SP.back {fl:Flow}(st:Step C D H s H' s')(x:SP C env vs D H' s' K fl s''):SP C env vs D H s K fl s'':=by
 refine cZ x fun f ρ' H2 h1 h2 h3 h4=>?_
 try clear x
 exact ⟨f,ρ',H2,st.trans h1,h2,h3,h4⟩
theorem XG.toS {e:Value}(fi:FI C env vs ρ H s.heap)(x:XQ false C No H s (fun c H1=>X c ρ H1) e s'):XG false C (Dm env) H s (hY C env vs X) e s':=by
 refine cR x fun a c H2 h1 h2 h3 h4 h5=>?_
 try clear x
 exact ⟨a,c,H2,h1,h2.weaken fi.dm,(fi.stepN h2).dm,h4,ρ,fi.stepN h2,h5⟩
noncomputable def bQ (C:Cx) (d:Md) (t:St) (t':Ed) (vs:Vs) (ns:Ns):Prop :=
 ∀ env A s ρ H K X,EnvS env vs ns->EA A env->Ok C d H A s->FI C env vs ρ H s.heap->dG C d t ρ H K X->wpAny C.M A (exec t' env) (SP C env vs (Dm env) H s K) (XG false C (Dm env) H s (hY C env vs X)) s
noncomputable def dQ (C:Cx) (d:Md) (t:List St) (t':List Ed) (vs:Vs) (ns:Ns):Prop :=
 ∀ env A s ρ H K X,EnvS env vs ns->EA A env->Ok C d H A s->FI C env vs ρ H s.heap->aM C d t ρ H K X->wpAny C.M A (execs t' env) (SP C env vs (Dm env) H s K) (XG false C (Dm env) H s (hY C env vs X)) s
theorem w7 {e:Ex}{e':Expr}{p:Pos}(h:bt C d e e' vs ns):bQ C d (.ret e) (.Return (some e') p) vs ns:=by
 intro env A s ρ H K X ES ea ok fi W
 dsimp only[dG] at W
 exact wpAny_Return_some (Dy (h env A s ρ H _ _ ES ea ok fi W) (fun cv s1 hq2=>aG hq2 fun v H1 st1 r1 W1=>⟨.ret v,ρ,H1,st1.weaken fi.dm,fi.stepN st1,⟨cv,rfl,r1⟩,W1⟩) fun zz zz x=>x.toS fi)
theorem iD {e':Expr}{t:Option Expr}{n:Nat}(h:dM e'=true):swapsWith e' t n env=pure false:=by
 cases e' <;> first | exact @Eq.refl _ (pure false:Sem Bool) | (exact (DP h).elim)
theorem vJ {e':Expr}{ts:List Expr}{k:Nat}{q:Pos}(h:l4 e'=true):swappedStores [.Tuple ts k q] e' env=pure none:=by
 cases e' <;> first | exact @Eq.refl _ (pure none:Sem (Option (List Str))) | (exact (DP h).elim)
theorem vf (ES:EnvS env vs ns):interactive env=false:=by unfold interactive;rw[ES.kind];rfl
theorem wZ {e:Ex}{e':Expr}{p:Pos}(hn:dM e'=true)(h:bt C d e e' vs ns):bQ C d (.exp e) (.Expr e' p) vs ns:=by
 intro env A s ρ H K X ES ea ok fi W
 dsimp only[dG] at W
 exact wpAny_Expr_any (Dy (h env A s ρ H _ _ ES ea ok fi W) (fun cv s1 hq3=>aG hq3 fun v H1 st1 r1 W1=>⟨.next,ρ,H1,st1.weaken fi.dm,fi.stepN st1,rfl,W1⟩) fun zz zz x=>x.toS fi) (vf ES) (iD hn)
theorem w5 {c:Ex}{a b:List St}{c':Expr}{a' b':List Ed}{p:Pos}(hc:eC C d c c' vs ns)(ha:dQ C d a a' vs ns)(hb:dQ C d b b' vs ns):bQ C d (.ife c a b) (.If c' a' b' p) vs ns:=by
 intro env A s ρ H K X ES ea ok fi W
 dsimp only[dG] at W
 refine wpAny_If (Dy (hc env A s ρ H _ _ ES ea ok fi W) (fun t s1 hq4=>ad hq4 fun H1 st1 W1=>?_) fun zz zz x=>x.toS fi)
 have st:=st1.weaken fi.dm
 cases t with
 | true=>rw[if_pos rfl] at W1 ⊢;exact Dy (ha env A s1 ρ H1 K X ES ea (ok.step st1) (fi.stepN st1) W1) (fun zz zz h=>h.back st) fun zz zz h=>h.backD st (fi.stepN st1).dm
 | false=>rw[if_neg (by decide)] at W1 ⊢;exact Dy (hb env A s1 ρ H1 K X ES ea (ok.step st1) (fi.stepN st1) W1) (fun zz zz h=>h.back st) fun zz zz h=>h.backD st (fi.stepN st1).dm
theorem w6 {p:Pos}:bQ C d .pas (.Pass p) vs ns:=by
 intro env A s ρ H K X ES ea ok fi W
 dsimp only[dG] at W
 exact wpAny_Pass ⟨.next,ρ,H,ok.refl,fi,rfl,W⟩
theorem vF:dQ C d [] [] vs ns:=by
 intro env A s ρ H K X ES ea ok fi W
 dsimp only[aM] at W
 exact wpAny_execs_nil ⟨.next,ρ,H,ok.refl,fi,rfl,W⟩
theorem tX {t:St}{ts:List St}{t':Ed}{ts':List Ed}(h:bQ C d t t' vs ns)(hs:dQ C d ts ts' vs ns):dQ C d (t::ts) (t'::ts') vs ns:=by
 intro env A s ρ H K X ES ea ok fi W
 dsimp only[aM] at W
 refine wpAny_execs_cons (Dy (h env A s ρ H _ X ES ea ok fi W) (fun fl s1 hzz=>Bf hzz fun f ρ1 H1 st1 fi1 fr W1=>?_) fun zz zz x=>x)
 cases f with
 | next=>
  cases fr
  exact Dy (hs env A s1 ρ1 H1 K X ES ea (ok.step st1) fi1 W1) (fun zz zz h=>h.back st1) fun zz zz h=>h.backD st1 fi1.dm
 | ret v=>
  refine ad fr fun cv hr107_1 r=>?_
  try clear fr
  subst hr107_1
  exact ⟨.ret v,ρ1,H1,st1,fi1,⟨cv,rfl,r⟩,W1⟩
theorem wY {i:Nat}{e:Ex}{id:Str}{q p:Pos}{e':Expr}(hv:iF vs i id=true)(h:bt C d e e' vs ns)(hn:dM e'=true):bQ C d (.asg i e) (.Assign [.Name id q] e' p) vs ns:=by
 intro env A s ρ H K X ES ea ok fi W
 dsimp only[dG] at W
 refine wpAny_Assign_Name (Dy (h env A s ρ H _ _ ES ea ok fi W) (fun cv s1 hq5=>aG hq5 fun v H1 st1 r1 W1=>?_) fun zz zz x=>x.toS fi) (iD hn)
 refine fP ES (ok.step st1) (fi.stepN st1) hv r1 fun s2 st2 fi2=>?_
 exact ⟨.next,_,H1,(st1.weaken fi.dm).trans (st2.widen fun b hb=>lg hb),fi2,rfl,W1⟩
end
end
section
open PySem
section
variable {C:Cx}{d:Md}{env:Env}{vs:Vs}{ns:Ns}{ρ:Lo}{H H1 H':MH}{s s1 s' s'':Shared}{A:D4}{K:KP}{X:XS}{D:Addr->Prop}
theorem FI.letgo {Cn:Addr}{h h':Heap}(fi:FI C env vs ρ H h)(hL:env.locals≠Cn)(hc:∀ x c,env.cells.lookup x=some c->c≠Cn)(hlo:∀ o,h.get? Cn=some o->eW o)(sb:Eg Cn h h'):FI C env vs ρ H h':=by
 have vsx:=qX hlo sb
 refine ad fi.ns fun m3 hn3 hr3=>?_
 refine ⟨fi.len,fi.locH,fi.loc0,⟨m3,hn3.sameBut sb hL,fun j x v e l=>?_⟩,fun j x e=>?_,fun x c e=>?_⟩
 ·refine ad (hr3 j x v e l) fun cv e1 e2=>?_
  exact ⟨cv,e1,e2.keepS vsx⟩
 ·refine dD (fi.cel j x e) fun c oc g1 g2 g3 g4 g5=>?_
  exact ⟨c,oc,g1,g2,g3,g4.sameBut sb (hc x c g1),fun v l=>(g5 v l).imp fun zz q=>⟨q.1,q.2.keepS vsx⟩⟩
 ·obtain ⟨g1,g2,oc,g3⟩:=fi.cex x c e
  exact ⟨g1,g2,oc,g3.sameBut sb (hc x c e)⟩
theorem FI.new {Cn:Addr}{h:Heap}(fi:FI C env vs ρ H h)(hC:h.get? Cn=none):¬ Dm env Cn:=fun hb=>by
 rcases hb with e | ⟨x,e⟩
 ·refine ad fi.ns fun m ho21_1 zz=>?_
  obtain ⟨o,_,_,ho,_⟩:=ho21_1
  rw[<- e,hC] at ho
  cases ho
 ·obtain ⟨_,_,oc,o,ho,_⟩:=fi.cex x Cn e
  rw[hC] at ho
  cases ho
theorem vB {i:Nat}{id:Str}{q p0:Pos}(hv:iF vs i id=true)
  {elt it:Ex} {ifs:List Ex} {elt' it' t':Expr} {ifs':List Expr} {sc:Scope} {p:Pos} {tg:List Str} (ht:ei t'=some tg) (hl:∀ x∈tg,sc.names.lookup x=some .local) (nd:tg.Nodup) (hk:sc.kind = .function)
  (hnc:∀ x∈sc.names,x.2 ≠ .cell) (hnl:∀ x∈sc.names,x.2 = .local->sc.names.lookup x.1=some .local) (hfr:∀ x∈sc.names,x.2 = .free->(x.1,Vk.cel)∈vs) (hns:cP it'=true)
  (hit:bt C d it it' vs ns) (hE:bt C d elt elt' (bO vs (bK sc.names ns) tg) (bK sc.names ns)) (hT:k9 C d ifs ifs' (bO vs (bK sc.names ns) tg) (bK sc.names ns)) :
  bQ C d (.asg i (.comp tg.length elt it ifs)) (.Assign [.Name id q] (.ListComp elt' [⟨t',it',ifs',0⟩] sc p) p0) vs ns:=by
 intro env A s ρ H K X ES ea ok fi W
 have hsnd:=qQ (p:=p) ht hl nd hk hnc hnl hfr hns hit hE hT
 dsimp only[dG] at W
 have hsw:∃ b,swapsWith (.ListComp elt' [⟨t',it',ifs',0⟩] sc p) (some (.Name id q)) p0.line env=pure b:=⟨_,rfl⟩
 refine aF hsw fun b hsw=>?_
 cases b with
 | false=>
  refine wpAny_Assign_Name (Dy (hsnd env A s ρ H _ _ ES ea ok fi W) (fun cv s1 hq1=>aG hq1 fun v H1 st1 r1 W1=>?_) fun zz zz x=>x.toS fi) hsw
  refine fP ES (ok.step st1) (fi.stepN st1) hv r1 fun s2 st2 fi2=>?_
  exact ⟨.next,_,H1,(st1.weaken fi.dm).trans (st2.widen fun b hb=>lg hb),fi2,rfl,W1⟩
 | true=>
  rw[exec_Assign_Name_used _ _ _ _ hsw]
  refine Dq (Ej (Dq ?_))
  show wpAny _ A (do let _ <- comprehension (.ListComp elt' [⟨t',it',ifs',0⟩] sc p) sc env _ (newList []) false (FX it' env) (some (GA (.Name id q) env))) _ _ s
  dsimp only[aU] at W
  have hf:=fi.closed hfr
  refine Dq (Dy (wpAny_comprehension_free (use:=some (GA (.Name id q) env)) (Q:=fun zz s'=>SP C env vs (Dm env) H s K .next s') rfl (fun x=>pT hns) (mJ hf) hk hnl ?_) (fun zz s' hq=>wpAny_pure (wpAny_pure hq)) fun zz zz e=>e)
  refine Dy (hit env A s ρ H _ _ ES ea ok fi W) (fun civ s1 hzz=>gj hzz fun iv H1 st1 r1 hzw=>?_) fun zz zz x=>x.toS fi
  refine cY hzw fun all hq hi hsz W1=>?_
  try clear hzw
  have ok1:=ok.step st1
  have fi1:=fi.stepN st1
  refine nW ok1 hq r1 hi fun I s2 st2 hI hit2=>?_
  refine ou (E:=XG false C (Dm env) H s (hY C env vs X)) ES ea ok1 fi1 ht hl nd hk hnc hf (fun env' s H ρ' Q e1 e2 e3 e4 w=>hT env' A s ρ' H Q _ e1 e2 e3 e4 w) (fun env' s H ρ' Q e1 e2 e3 e4 w=>hE env' A s ρ' H Q _ e1 e2 e3 e4 w) hq hsz W1 st2 hI hit2
   (fun Dl Cn s' av Hc items st hDl hCn hDC hcD hcC pl rs hm hK=>?_) (fun Dl Cn s' e hDl hCn x=>?_)
  ·-- the list is FC,then the table let go
   have stN:=st.shed (pK hI hDl hCn)
   have stL:=stN.adopt (o:=.lst av) hDl ⟨bY ok1.top hDl,items,pl,rs⟩
   have fiL:=fi1.stepN stL
   show wpAny C.M A (GA (.Name id q) env (.ref Dl)) _ _ s'
   refine wpAny_assign_Name (fP (v:=.ref Dl) ES (ok1.step stL) fiL hv (by dsimp only[VR]) fun s3 st3 fi3=>?_)
   refine aF hm fun m hm=>?_
   have hH2:(an Hc Dl (.lst av)) Cn=none:=by rw[aP (E9 hDC)];exact hcC
   have hnC:=fi1.new hCn
   have hm3:s3.heap.Ns Cn m:=Ns.slots hm fun o ho=>(st3.chg Cn o ho hH2 fun hb=>hnC (lg hb)).imp fun sl w=>w.1
   refine ⟨m,hm3,fun h' sb=>?_⟩
   have stA:Step C (Dm env) H1 s1 (an Hc Dl (.lst av)) s3:=(stL.weaken fi1.dm).trans (st3.widen fun b hb=>lg hb)
   exact ⟨.next,_,_,(st1.weaken fi.dm).trans (stA.after hCn hH2 ok1.top (iq hm3) sb),fi3.letgo (fun q=>hnC (.inl q.symm)) (fun x c e q=>hnC (.inr ⟨x,q ▸ e⟩)) (iq hm3) sb,rfl,hK.2 Dl hcD⟩
  ·exact (pI ok1 hI hDl hCn x).imp fun m y=>⟨y.1,fun h' sb cenv' hcl=>od vI ok1 (y.2 h' sb) fun s'' x''=>((XG.mono x'').back st1).toS fi⟩
theorem w9 {is:List Nat}{e:Ex}{ts:List Expr}{k:Nat}{q p:Pos}{e':Expr}{xs:List Str}(hx:dp ts=some xs)(hc:c7 vs is xs=true)(h2:2<=ts.length)(h:bt C d e e' vs ns)(hn:dM e'=true)(htp:l4 e'=true) :
  bQ C d (.unp is e) (.Assign [.Tuple ts k q] e' p) vs ns:=by
 intro env A s ρ H K X ES ea ok fi W
 dsimp only[dG] at W
 refine wpAny_Assign_stores (Dy (h env A s ρ H _ _ ES ea ok fi W) (fun cv s1 hzz=>gj hzz fun v H1 st1 r1 hzw=>?_) fun zz zz x=>x.toS fi) (show swapsWith e' (some (.Tuple ts k q)) p.line env=pure false from iD hn) (vJ htp)
 refine cY hzw fun l hv hq hl W1=>?_
 try clear hzw
 subst hv
 show wpAny C.M A (assignAll cv [GA (.Tuple ts k q) env]) _ _ s1
 show wpAny C.M A (GA (.Tuple ts k q) env cv) _ _ s1
 have hil:is.length=ts.length:=(nB hc).trans (kC hx).symm
 refine mE ES h2 hx hc (ok.step st1) (fi.stepN st1) r1 (show parts is.length (.tup l)=some l by unfold parts;rw[if_neg (by exact BT (ae [ts.length,is.length] [(112,0),(0,1),(1,111),(.w 0 111,1)] rfl h2 (mf hil)))];dsimp only;rw[if_pos hl]) fun s2 st2 fi2=>?_
 exact ⟨.next,_,H1,(st1.weaken fi.dm).trans (st2.widen fun b hb=>pP hb),fi2,rfl,W1⟩
theorem vE {o i e:Ex}{o' i' e':Expr}{q p:Pos}(hn:dM e'=true)(he:bt C d e e' vs ns)(ho:bt C d o o' vs ns)(hi:bt C d i i' vs ns):bQ C d (.seti o i e) (.Assign [.Subscript o' i' q] e' p) vs ns:=by
 intro env A s ρ H K X ES ea ok fi W
 dsimp only[dG] at W
 refine wpAny_Assign_Subscript (Dy (he env A s ρ H _ _ ES ea ok fi W) (fun cv s1 hq2=>aG hq2 fun v H1 st1 r1 W1=>?_) fun zz zz x=>x.toS fi) (iD hn)
 refine Dy (ho env A s1 ρ H1 _ _ ES ea (ok.step st1) (fi.stepN st1) W1) (fun co s2 hq3=>aG hq3 fun ov H2 st2 r2 W2=>?_) fun zz zz x=>(x.back st1).toS fi
 have st12:=st1.trans st2
 refine Dy (hi env A s2 ρ H2 _ _ ES ea (ok.step st12) (fi.stepN st12) W2) (fun ci s3 hq4=>aG hq4 fun iv H3 st3 r3 W3=>?_) fun zz zz x=>(x.back st12).toS fi
 have st123:=st12.trans st3
 refine Dy (W3 A s3 co ci cv (ok.step st123) (r2.keep st3.vk) r3 ((r1.keep st2.vk).keep st3.vk)) (fun zz s4 hq5=>ad hq5 fun H4 st4 W4=>?_) fun zz zz x=>(x.back st123).toS fi
 have st:=st123.trans st4
 exact ⟨.next,ρ,H4,st.weaken fi.dm,fi.stepN st,rfl,W4⟩
end
end
section
open PySem
section
variable {C:Cx}{d:Md}{env:Env}{vs:Vs}{ns:Ns}{ρ:Lo}{H H1 H':MH}{s s1 s2 s' s'':Shared}{A:D4}{K:KP}{X:XS}{D:Addr->Prop}
theorem mU (ok:Ok C d H1 A s1){fenv:Env}{outer:List Env}(hfr:A.frames=some (fenv::outer)){H':MH}{s':Shared}(st:Step C D H1 s1 H' s'):iK C H' s'.heap (fenv::outer):=by
 refine ad ok.frs fun l e f=>?_
 rw[hfr] at e;cases e
 exact f.step st
theorem qG {b:Addr}{o:Obj}{ws:Array Value}(fi:FI C env vs ρ H s.heap)(e:s.heap.get? b=some o)(hd:o.data = .fields ws):¬ Dm env b:=fun hb=>by
 rcases hb with rfl | ⟨x,h⟩
 ·refine ad fi.ns fun m ho16_1 zz=>?_
  obtain ⟨o',es,ep,ho,hd',_⟩:=ho16_1
  rw[e] at ho
  cases ho
  rw[hd] at hd'
  cases hd'
 ·obtain ⟨_,_,oc,o',ho,hd'⟩:=fi.cex x b h
  rw[e] at ho
  cases ho
  rw[hd] at hd'
  cases hd'
structure FoI (C:Cx)(env:Env)(vs:Vs)(H1:MH)(s1:Shared)(Is:Addr->Prop)(At:Heap->Nat->Prop)(i:Nat)(ρ:Lo)(H:MH)(s:Shared):Prop where
 st:Step C (Dm env) H1 s1 H s
 pos:At s.heap i
 go:∀ b,Is b->H b=none
 fi:FI C env vs ρ H s.heap
section
variable {k:List Nat}{sv:Sv}{t':Expr}{xs:List Str}{body:List St}{body':List Ed}{I:Addr}{Is:Addr->Prop}{At:Heap->Nat->Prop}{all:List V}{i:Nat}
theorem FoI.nx (x:FoI C env vs H1 s1 Is At i ρ H s)(it:Itr C d sv t' I Is At)(hnew:∀ b,Is b->s1.heap.get? b=none)(y:Step C Is H s H s'):Step C (Dm env) H1 s1 H s'/\FI C env vs ρ H s'.heap :=
 ⟨x.st.trans_new y hnew x.fi.dm,x.fi.step y (fun q=>(it.ex x.pos _ q).elim fun o w=>w.elim fun ws w=>qG x.fi w.1 w.2 (.inl rfl)) fun z c e q=>(it.ex x.pos _ q).elim fun o w=>w.elim fun ws w=>qG x.fi w.1 w.2 (.inr ⟨z,e⟩)⟩
theorem FoI.mv {ρ':Lo}(x:FoI C env vs H1 s1 Is At i ρ H s)(it:Itr C d sv t' I Is At)(y:Step C (Dm env) H s H' s')(f:FI C env vs ρ' H' s'.heap):FoI C env vs H1 s1 Is At i ρ' H' s' :=
 ⟨x.st.trans y,it.keep x.pos y x.go fun b hb=>(it.ex x.pos b hb).elim fun o w=>w.elim fun ws w=>qG x.fi w.1 w.2,fun b hb=>(it.ex x.pos b hb).elim fun o w=>w.elim fun ws w=>y.gone w.1 (x.go b hb),f⟩
theorem wj {J:Nat->Shared->Prop}{R:Result->Shared->Prop}{nb:Value->Shared->Prop}{n:Nat}
  (it:Itr C d sv t' I Is At) (ES:EnvS env vs ns) (ea:EA A env) (ok:Ok C d H1 A s1) (ht:ei t'=some xs) (hc:c7 vs k xs=true) (hb:dQ C d body body' vs ns) (hnew:∀ b,Is b->s1.heap.get? b=none)
  (fo:FoI C env vs H1 s1 Is At i ρ H s) (hn:n=all.length-i) (W:iY k sv all (fun ρ' H' K'=>aM C d body ρ' H' K' X) (all.drop i) ρ H K)
  (hJ:∀ ρ H s,i<all.length->FoI C env vs H1 s1 Is At (i+1) ρ H s->iY k sv all (fun ρ' H' K'=>aM C d body ρ' H' K' X) (all.drop (i+1)) ρ H K->J (all.length-(i+1)) s)
  (hR:∀ f s,SP C env vs (Dm env) H1 s1 K f s->R (.ok f) s)
  (err:∀ {Hx:MH} {sx:Shared} {ρx:Lo},Step C (Dm env) H1 s1 Hx sx->FI C env vs ρx Hx sx.heap -> ∀ e s',XG false C (Dm env) Hx sx (hY C env vs X) e s'->nb e s') :
  wpAny C.M A (FW (.ref I)) (fun r s₁=>match r with
   | none=>wpAny C.M A (execs [] env) (fun f s₃=>R (.ok f) s₃) nb s₁
   | some v=>wpAny C.M A (Hv t' (.ref I) v) (fun zz s₁'=>
     wpAny C.M A (GA t' env v) (fun zz s₂=>wpAny C.M A (execs body' env) (fun f s₃=>match f with
      | .next | .cont=>∃ m,m<n/\J m s₃
      | .brk=>R (.ok .next) s₃
      | .ret v=>R (.ok (.ret v)) s₃) nb s₂) nb s₁') nb s₁) nb s:=by
 have okc:=ok.step fo.st
 have hz:∀ b,Is b->C.h0.get? b=none:=fun b hb=>bY ok.top (hnew b hb)
 rcases Fd i all.length with hlt | hge
 ·rw[EF hlt] at W
  obtain ⟨hitems,xv,hparts,Wx⟩:=W
  refine Dy (it.item okc fo.pos fo.go hz hitems (x:=all[i]) (DA hlt) (P:=fun cv sb=>wpAny C.M A (GA t' env cv) (fun zz s₂=>wpAny C.M A (execs body' env) (fun f s₃=>match f with
      | .next | .cont=>∃ m,m<n/\J m s₃
      | .brk=>R (.ok .next) s₃
      | .ret v=>R (.ok (.ret v)) s₃) nb s₂) nb sb) (E:=nb) fun cv sb stb vrb atb=>?_) (fun r s3 hr=>?_) fun zz zz h=>h
  ·have y:=fo.nx it hnew stb
   have f1:FoI C env vs H1 s1 Is At (i+1) ρ H sb:=⟨y.1,atb,fo.go,y.2⟩
   refine mD ES ht hc (okc.step stb) y.2 vrb hparts fun sc stc fic'=>?_
   have f2:=f1.mv it (stc.widen fun b hb=>pP hb) fic'
   refine Dy (hb env A sc _ H _ X ES ea (ok.step f2.st) fic' Wx) (fun fl sd hsd=>?_) (err f2.st fic')
   obtain ⟨f,ρd,Hd,std,fid,frd,Wd⟩:=hsd
   have f3:=f2.mv it std fid
   cases f with
   | next=>
    cases frd
    exact ⟨all.length-(i+1),hn ▸ Nat.sub_lt_sub_left hlt (Nat.lt_succ_self i),hJ ρd Hd sd hlt f3 Wd⟩
   | ret v=>
    obtain ⟨cv',rfl,r⟩:=frd
    exact hR _ _ ⟨.ret v,ρd,Hd,f3.st,fid,⟨cv',rfl,r⟩,Wd⟩
  ·obtain ⟨cv,rfl,hr⟩:=hr
   exact hr
 ·rw[E3 hge] at W
  refine Dy (it.done okc fo.pos fo.go hz W.1 hge (P:=fun sb=>SP C env vs (Dm env) H1 s1 K .next sb) (E:=nb) fun sb stb=>?_) (fun r s3 hr=>?_) fun zz zz h=>h
  ·have y:=fo.nx it hnew stb
   exact ⟨.next,ρ,H,y.1,y.2,rfl,W.2⟩
  ·obtain ⟨rfl,hr⟩:=hr
   exact wpAny_execs_nil (hR _ _ hr)
theorem pU (it:Itr C d sv t' I Is At)(ES:EnvS env vs ns)(ea:EA A env)(ok:Ok C d H1 A s1)(fi:FI C env vs ρ H1 s1.heap)
  (ht:ei t'=some xs) (hc:c7 vs k xs=true) (hb:dQ C d body body' vs ns) (st2:Step C No H1 s1 H1 s2) (hnew:∀ b,Is b->s1.heap.get? b=none) (hat:At s2.heap 0)
  (W:iY k sv all (fun ρ' H' K'=>aM C d body ρ' H' K' X) all ρ H1 K) :
  GJ C.M A (.forLoop t' (.ref I) body' [] env) (fun r s'=>match r with | .ok f=>SP C env vs (Dm env) H1 s1 K f s' | .error e=>Ho C.M A env (XG false C (Dm env) H1 s1 (hY C env vs X)) e s') s2:=by
 refine eT (id ea) fun fenv outer hfr hff=>?_
 obtain ⟨J,hJ⟩:∃ J:Nat->Shared->Prop,J=fun n s=>∃ i ρc Hc,(n=all.length-i/\i<=all.length)/\FoI C env vs H1 s1 Is At i ρc Hc s/\iY k sv all (fun ρ' H' K'=>aM C d body ρ' H' K' X) (all.drop i) ρc Hc K:=⟨_,rfl⟩
 suffices h:∀ R:Result->Shared->Prop,(∀ f s,SP C env vs (Dm env) H1 s1 K f s->R (.ok f) s)->(∀ e s,Ho C.M A env (XG false C (Dm env) H1 s1 (hY C env vs X)) e s->R (.error e) s)->GJ C.M A (.forLoop t' (.ref I) body' [] env) R s2 from h _ (fun zz zz h=>h) fun zz zz h=>h
 intro R hR hE
 refine codeAny_forLoop_any J (fun n s hI=>?_) all.length (hJ ▸ ⟨0,ρ,H1,⟨rfl,EP _⟩,⟨st2.weaken fi.dm,hat,fun b hb=>ok.rel.fresh (hnew b hb),fi.stepN st2⟩,W⟩)
 rw[hJ] at hI
 refine eU hI fun i ρc Hc hn fo Wc=>?_
 try clear hI
 refine wj (J:=J) (R:=R) it ES ea ok ht hc hb hnew fo hn.1 Wc (fun ρ H s a b c=>hJ ▸ ⟨i+1,ρ,H,⟨rfl,a⟩,b,c⟩) hR fun {Hx sx ρx} stx fix e s' hx=>?_
 have cb:∀ e s',XG true C (Dm env) H1 s1 (hY C env vs X) e s'->R (.error e) s':=fun e s' h=>hE e s' (Dy (pG (env:=env) fy ok h) (fun zz zz h=>h.mono) fun zz zz h=>h.mono)
 exact Dy (wF fy ok hfr hff (fun H' s' st=>mU ok hfr st) (hx.backD stx fix.dm)) (fun zz s'' h=>cb e s'' h) fun e' s'' h=>cb e' s'' h
end
end
end
section
open PySem
theorem aH {C:Cx}{T:String}:fm C (.type T):=fun A s Q E zz h=>by
 unfold keeperOf;exact wpAny_pure (h _)
theorem ak {C:Cx}{T:String}:fm C (.builtin T):=fun A s Q E zz h=>by
 unfold keeperOf;exact wpAny_pure (h _)
section
variable {C:Cx}{d:Md}{env:Env}{vs:Vs}{ns:Ns}{ρ:Lo}{H H1 H':MH}{s s1 s2 s' s'':Shared}{A:D4}{K:KP}{X:XS}{D:Addr->Prop}
theorem rL {k:List Nat}{e:Ex}{t' e':Expr}{xs:List Str}{body:List St}{body':List Ed}{p:Pos}(ht:ei t'=some xs)(hc:c7 vs k xs=true)(hns:cP e'=true)(he:bt C d e e' vs ns)(hb:dQ C d body body' vs ns) :
  bQ C d (.for k (.pl e) body) (.For t' e' body' [] p) vs ns:=by
 intro env A s ρ H K X ES ea ok fi W
 dsimp only[dG,rd] at W
 refine wpAny_For (Dy (he env A s ρ H _ _ ES ea ok fi W) (fun civ s1 hzz=>gj hzz fun iv H1 st1 r1 hzw=>?_) fun zz zz x=>x.toS fi) (fun x=>pT hns)
 refine bN hzw fun all hq hi W1=>?_
 try clear hzw
 have ok1:=ok.step st1
 have fi1:=fi.stepN st1
 have stw:=st1.weaken fi.dm
 refine nW ok1 hq r1 hi fun I s2 st2 hI hit2=>?_
 refine Hn (pU (Aa hq) ES ea ok1 fi1 ht hc hb st2 (fun b hb=>by subst hb;exact hI) hit2 W1) fun r s' hr=>?_
 cases r with
 | ok f=>exact hr.back stw
 | error e=>exact Dy hr (fun zz zz h=>h.backD stw fi1.dm) fun zz zz h=>h.backD stw fi1.dm
theorem rK {k:List Nat}{e:Ex}{ts:List Expr}{kk:Nat}{tp:Pos}{x':Expr}{id:Str}{q q2 p:Pos}{xs:List Str}{body:List St}{body':List Ed}(G:C.Good)(ht:ei (.Tuple ts kk tp)=some xs)(hc:c7 vs k xs=true)
  (hg:fT ns "enumerate" id=true) (hx:aT vs ns e x'=true) (he:bt C d e x' vs ns) (hb:dQ C d body body' vs ns):bQ C d (.for k (.en e) body) (.For (.Tuple ts kk tp) (.Call (.Name id q) [x'] [] q2) body' [] p) vs ns:=by
 intro env A s ρ H K X ES ea ok fi W
 dsimp only[dG,rd] at W
 refine az W fun hG W=>?_
 have hcs:b9 vs ns [e] [x']=true:=DH.mpr ⟨hx,rfl⟩
 refine wpAny_For (wpAny_Call_Name_kw (lm G ES hg ok.top hG ?_)) (fun x=>rfl)
 refine h_ (fh hcs q2) aH ?_
 rw[gK (i9 hx),i8]
 refine Calls.spliced_cons (Dy (he env A s ρ H _ _ ES ea ok fi W) (fun civ s1 hzz=>gj hzz fun iv H1 st1 r1 hzw=>Calls.spliced_nil ⟨st1.top,?_⟩) fun zz zz x=>x.toS fi)
 refine bN hzw fun all hq hi W1=>?_
 try clear hzw
 have ok1:=ok.step st1
 have fi1:=fi.stepN st1
 have stw:=st1.weaken fi.dm
 have hiv:∃ a,iv = .ref a:=by
  cases iv with
  | ref a=>exact ⟨a,rfl⟩
  | _=>simp[cz] at hi
 refine aF hiv fun a hr47_1=>?_
 try clear hiv
 subst hr47_1
 dsimp only[VR] at r1
 subst r1
 have hi':=hi
 simp only[cz] at hi
 refine ad (DE.mp hi) fun l hl zz=>?_
 refine ad (gg ok1.rel hl) fun items hL rs=>?_
 show wpAny C.M A (call (.type "enumerate") [.ref a]) _ _ s1
 refine call_enumerate_list hL fun h' hen hit hsz kp=>?_
 have st2:Step C No H1 s1 H1 { s1 with heap:=h' }:=Step.keeps ok1.rel ok1.top kp rfl rfl
 refine wpAny_pyIter_enum hen ?_
 have hn1:s1.heap.get? (s1.heap.objs.size+1)=none:=by
  cases q:s1.heap.get? (s1.heap.objs.size+1) with
  | none=>rfl
  | some o=>exact absurd (D_ q) (GT.mpr (HJ _))
 refine Hn (pU (z9 (a:=a) (e:=s1.heap.objs.size+1) (it:=s1.heap.objs.size) hq.1 (Nat.succ_ne_self _)) ES ea ok1 fi1 ht hc hb st2 (fun b hb=>by
  rcases hb with rfl | rfl
  ·exact hn1
  ·exact ba _) ⟨⟨_,hen⟩,hit⟩ W1) fun r s' hr=>?_
 cases r with
 | ok f=>exact hr.back stw
 | error e=>exact Dy hr (fun zz zz h=>h.backD stw fi1.dm) fun zz zz h=>h.backD stw fi1.dm
theorem w_ {c:Ex}{c':Expr}{body:List St}{body':List Ed}{p:Pos}(hc:eC C d c c' vs ns)(hb:dQ C d body body' vs ns):bQ C d (.whl c body) (.While c' body' [] p) vs ns:=by
 intro env A s ρ H K X ES ea ok fi W
 dsimp only[dG] at W
 refine aF W fun n W=>?_
 refine eT (id ea) fun fenv outer hfr hff=>?_
 have err:∀ (Hx:MH) (sx:Shared) (ρx:Lo),Step C (Dm env) H s Hx sx->FI C env vs ρx Hx sx.heap -> ∀ e s',XG false C (Dm env) Hx sx (hY C env vs X) e s' ->
   G0 C.M A env (fun e s'=>Ho C.M A env (XG false C (Dm env) H s (hY C env vs X)) e s') e s':=by
  intro Hx sx ρx stx fix e s' hx
  have h1:=hx.backD stx fix.dm
  have cb:∀ e s',XG true C (Dm env) H s (hY C env vs X) e s'->Ho C.M A env (XG false C (Dm env) H s (hY C env vs X)) e s':=fun e s' h=>
   Dy (pG (env:=env) fy ok h) (fun zz zz h=>h.mono) fun zz zz h=>h.mono
  exact Dy (wF fy ok hfr hff (fun H' s' st=>mU ok hfr st) h1) (fun zz s'' h=>cb e s'' h) fun e' s'' h=>cb e' s'' h
 refine wpAny_While (codeAny_whileLoop (fun m s2=>∃ ρc Hc,Step C (Dm env) H s Hc s2/\FI C env vs ρc Hc s2.heap/\oR (fun ρ' H' Q=>dH C d c ρ' H' Q (fun c H1=>X c ρ' H1)) (fun ρ' H' K'=>aM C d body ρ' H' K' X) m ρc Hc K) (fun m s2 hI=>?_) n ⟨ρ,H,ok.refl,fi,W⟩)
 refine aG hI fun ρc Hc st fic Wc=>?_
 try clear hI
 cases m with
 | zero=>exact (show False from Wc).elim
 | succ m=>
  dsimp only[oR] at Wc
  refine Dy (hc env A s2 ρc Hc _ _ ES ea (ok.step st) fic Wc) (fun t s3 hq1=>ad hq1 fun H3 st3 W3=>?_) fun e s' x=>err Hc s2 ρc st fic e s' (x.toS fic)
  have stw:=st.trans (st3.weaken fic.dm)
  cases t with
  | true=>
   rw[if_pos rfl] at W3 ⊢
   refine Dy (hb env A s3 ρc H3 _ X ES ea (ok.step stw) (fic.stepN st3) W3) (fun fl s4 hzz=>Bf hzz fun f ρ4 H4 st4 fi4 fr4 W4=>?_) fun e s' x=>err H3 s3 ρc stw (fic.stepN st3) e s' x
   have st':=stw.trans st4
   cases f with
   | next=>cases fr4;exact ⟨m,by exact be (ae [m] [(11,0)] rfl),ρ4,H4,st',fi4,W4⟩
   | ret v=>obtain ⟨cv,rfl,r⟩:=fr4;exact ⟨.ret v,ρ4,H4,st',fi4,⟨cv,rfl,r⟩,W4⟩
  | false=>
   rw[if_neg (by decide)] at W3 ⊢
   exact wpAny_execs_nil ⟨.next,ρc,H3,stw,fic.stepN st3,rfl,W3⟩
end
end
section
open PySem
section
variable {C:Cx}{h h':Heap}{Z:Addr->Prop}
end
structure Zs where
 z:Addr
 ti:Addr
 to:Addr
 i1:Addr
 i2:Addr
section
variable {C:Cx}{d:Md}{env:Env}{vs:Vs}{ns:Ns}{ρ:Lo}{H H1 H':MH}{s s1 s2 s' s'':Shared}{A:D4}{K:KP}{X:XS}{f la lb:Addr}{q:Zs}{k:Nat}{acc:List V}
theorem Cf {us:List Expr}{k:Nat}{p:Pos}{xs:List Str}(h:dp us=some xs)(h2:2<=us.length):ei (.Tuple us k p)=some xs:=by
 show (if 2<=us.length then dp us else none)=some xs
 rw[if_pos h2];exact h
end
end
section
open PySem
theorem kz:∀ {r:Lo} {i j:Nat},i≠j->lk (r.set i none) j=lk r j
 | [],_,_,_=>rfl
 | _::_,0,0,h=>(h rfl).elim
 | _::_,0,_+1,_=>rfl
 | _::_,_+1,0,_=>rfl
 | _::r,i+1,j+1,h=>kz (r:=r) (i:=i) (j:=j) fun e=>h (by rw[e])
theorem jd:∀ {r:Lo} {i:Nat} {v:V},lk (r.set i none) i≠some v
 | [],_,_,h=>by cases h
 | _::_,0,_,h=>by cases h
 | _::r,i+1,v,h=>jd (r:=r) (i:=i) (v:=v) h
section
variable {C:Cx}{d:Md}{env:Env}{vs:Vs}{ns:Ns}{ρ:Lo}{H H1 H':MH}{s s1 s2 s' s'':Shared}{A:D4}{K:KP}{X:XS}{E:Value->Shared->Prop}
theorem uW {i:Nat}{n:Str}{pos:Pos}{Q:Unit->Shared->Prop}(ES:EnvS env vs ns)(ok:Ok C d H A s)(fi:FI C env vs ρ H s.heap)(hv:vs[i]? = some (n,Vk.loc))
  (hQ:∀ s',Step C (Dm env) H s H s'->FI C env vs (ρ.set i none) H s'.heap->Q () s'):wpAny C.M A (do bindName env n .none;unbindBehindTheSuite env n pos) Q E s:=by
 refine ad fi.ns fun m hm rm=>?_
 refine eU (id hm) fun o es ep ho hd zz=>?_
 refine wpAny_nameGoes_keeps (by unfold Gr;rw[ES.names];exact ES.loc i n hv) hm (by rw[ES.kind];rfl) fun h' u hn hs=>?_
 have hd':∃ o' es' ep',h'.get? env.locals=some o'/\o'.data = .dict es' ep':=let ⟨o',es',ep',h1,h2,_⟩:=hn;⟨o',es',ep',h1,h2⟩
 have st:Step C (· = env.locals) H s H { s with heap:=h',toks:=s.toks+1 }:=by
  refine Step.but ok.rel ok.top (fun b o e nb=>(hs.2 b nb).trans e) (fun b q=>by subst q;exact fi.locH) (fun b q=>by subst q;exact fi.loc0) (fun b ob e q=>?_) (fun b ob es1 ep1 e q dd=>?_) rfl rfl
  ·subst q;rw[ho] at e;cases e;exact .inl ⟨es,ep,hd⟩
  ·subst q;exact hd'
 refine hQ _ (st.widen fun b hb=>.inl hb) ⟨by rw[List.length_set,fi.len],fi.locH,fi.loc0,⟨_,hn,fun j x w e l=>?_⟩,fun j x e=>?_,fun x c e=>?_⟩
 ·by_cases hji:j=i
  ·subst hji;exact (jd l).elim
  ·rw[kz (E9 hji)] at l
   refine ad (rm j x w e l) fun cw e1 e2=>?_
   refine ⟨cw,?_,e2.keep st.vk⟩
   rw[if_neg];exact e1
   rintro rfl
   exact hji (ES.uni j i _ _ _ e hv (by decide) (by decide))
 ·refine dD (fi.cel j x e) fun c oc h1 h2 h3 ho42_5 h5=>?_
  obtain ⟨o',ho',hd'⟩:=ho42_5
  refine ⟨c,oc,h1,h2,h3,⟨o',(hs.2 c fun q=>?_).trans ho',hd'⟩,fun v l=>?_⟩
  ·subst q;rw[ho] at ho';cases ho';rw[hd] at hd';cases hd'
  ·by_cases hji:j=i
   ·subst hji;exact (jd l).elim
   ·rw[kz (E9 hji)] at l
    refine ad (h5 v l) fun cw e1 e2=>?_
    exact ⟨cw,e1,e2.keep st.vk⟩
 ·obtain ⟨h1,h2,oc,o',ho',hd'⟩:=fi.cex x c e
  refine ⟨h1,h2,oc,o',(hs.2 c fun q=>?_).trans ho',hd'⟩
  subst q;rw[ho] at ho';cases ho';rw[hd] at hd';cases hd'
theorem ub.keep {f:Fl}{fl:Flow}{h h':Heap}(k:VK h h')(x:ub C h f fl):ub C h' f fl:=by
 cases f with
 | next=>exact x
 | ret v=>obtain ⟨cv,e,r⟩:=x;exact ⟨cv,e,r.keep k⟩
theorem w8 {body hb el:List St}{c:String}{as:Option Nat}{body' hb' el':List Ed}{t0:Ed}{nm:Option Str}{i0:Str}{p q p2:Pos}(G:C.Good)(hg:fT ns c i0=true)(ha:tm vs as nm=true)
  (sb:dQ C d body body' vs ns) (sh:dQ C d.in hb (t0::hb') vs ns) (se:dQ C d el el' vs ns):bQ C d (.tre body c as hb el) (.Try body' [.ExceptHandler (some (.Name i0 q)) nm (t0::hb') p] el' [] p2) vs ns:=by
 intro env A s ρ H K X ES ea ok fi W
 dsimp only[dG] at W
 refine eT (id ea) fun fenv outer hfr hff=>?_
 refine wpAny_Try_except (Dy (sb env A s ρ H _ _ ES ea ok fi W) (fun f s1 hf=>?_) fun e s1 hx=>?_)
 ·refine cZ hf fun fl ρ1 H1 st1 fi1 hr hk=>?_
  try clear hf
  cases fl with
  | next=>rw[show f = .next from hr];exact Dy (se env A s1 ρ1 H1 K X ES ea (ok.step st1) fi1 hk) (fun zz zz h=>h.back st1) fun zz zz h=>h.backD st1 fi1.dm
  | ret v=>obtain ⟨cv,rfl,r⟩:=hr;exact ⟨.ret v,ρ1,H1,st1,fi1,⟨cv,rfl,r⟩,hk⟩
 ·refine tM fy ok.top hfr hff (fun H' s' st=>mU ok hfr st) hx fun s2 x2=>ji fy ok.top x2 fun s3 x3=>?_
  obtain ⟨a,c',H3,rfl,st3,hD,fl,ρ3,fi3,b,⟨⟨rh,hG⟩,hE⟩,hk⟩:=x3
  refine wpAny_handleBy_cons (codeAny_handlers_test (lm G ES hg st3.top hG ?_)) (by intro q;cases q)
  refine cZ fl.obj fun o ws r ho hc hgc zz=>?_
  refine hE _ _ a o r rh st3.top ho hc hgc.1 hG _ _ ?_
  cases b with
  | false=>
   have x3:XG true C (Dm env) H s (hY C env vs X) (.ref a) s3:=⟨a,c',H3,rfl,st3,hD,fl,ρ3,fi3,hk⟩
   exact wpAny_handleBy_nil (od fy ok x3 fun s'' x=>x.mono)
  | true=>
   rw[if_pos rfl] at hk
   have x3:XG true C (Dm env) H s (hY C env vs fun c1 ρ' H'=>c1=c'/\aM C d.in hb (zI as ρ' c') H' (fun f ρ2 H2=>K f (xJ as ρ2) H2) (fun zz zz zz=>False)) (.ref a) s3:=⟨a,c',H3,rfl,st3,hD,fl,ρ3,fi3,rfl,hk⟩
   have eam:EA (A.mark (some (.ref a))) env:=ea
   have mid:∀ (s4:Shared) (H4:MH),Step C (Dm env) H s H4 s4->Fly C true s a c' s4.heap->Ok C d.in H4 (A.mark (some (.ref a))) s4:=fun s4 H4 st4 fl4=>by
    refine Bp fl4.obj fun o ws r ho hc hgc hd zz h2 zz=>?_
    exact ⟨st4.rel,st4.top,ok.room,⟨(fun q=>(DP q).elim),Or.inr ⟨a,o,ws,r,rfl,ho,hc,hd,h2.ctx⟩⟩,(ok.step st4).frs⟩
   show GJ C.M (A.mark (some (.ref a))) (.handlers (.ref a) [.ExceptHandler none nm (t0::hb') p] env) _ s3
   cases as with
   | none=>
    cases nm with
    | some _=>exact (DP ha).elim
    | none=>
     refine codeAny_handlers_suite (ji fy ok.top x3 fun s4 x4=>?_)
     obtain ⟨a4,c4,H4,e4,st4,hD4,fl4,ρ4,fi4,rfl,hk4⟩:=x4
     cases e4
     refine Dy (sh env _ s4 _ H4 _ _ ES eam (mid s4 H4 st4 fl4) fi4 hk4) (fun f s5 h5=>h5.back st4) fun e s5 h5=>?_
     obtain ⟨_,_,_,_,_,_,_,_,_,ff⟩:=h5
     exact ff.elim
   | some i=>
    cases nm with
    | none=>exact (DP ha).elim
    | some n=>
     have hv:vs[i]? = some (n,Vk.loc):=Gm ha
     refine codeAny_handlers_suite_as (ji fy ok.top x3 fun s4 x4=>?_)
     obtain ⟨a4,c4,H4,e4,st4,hD4,fl4,ρ4,fi4,rfl,hk4⟩:=x4
     cases e4
     refine cR fl4.obj fun o4 ws4 r4 ho4 hc4 hgc4 hd4 zz=>?_
     have okm:=mid s4 H4 st4 fl4
     refine fP ES okm fi4 (v:=.exc c4) (by unfold iF;rw[hv];simp) (by dsimp only[VR];exact ⟨_,o4,ws4,r4,rfl,ho4,hc4,hgc4,hd4⟩) fun s5 st5 fi5=>?_
     have st5':Step C (Dm env) H4 s4 H4 s5:=st5.widen fun b hb=>lg hb
     have st45:=st4.trans st5'
     refine Dy (sh env _ s5 _ H4 _ _ ES eam (okm.step st5) fi5 hk4) (fun f s6 h6=>?_) fun e s6 h6=>?_
     ·refine cZ h6 fun fl6 ρ6 H6 st6 fi6 hr6 hk6=>?_
      try clear h6
      have st46:=st45.trans st6
      refine uW ES (ok.step st46) fi6 hv fun s7 st7 fi7=>⟨fl6,ρ6.set i none,H6,st46.trans st7,fi7,hr6.keep st7.vk,hk6⟩
     ·obtain ⟨_,_,_,_,_,_,_,_,_,ff⟩:=h6
      exact ff.elim
end
end
section
open PySem
section
variable {C:Cx}{d:Md}{env:Env}{vs:Vs}{ns:Ns}{ρ:Lo}{H H1 H':MH}{s s1 s2 s' s'':Shared}{A:D4}{K:KP}{X:XS}{E:Value->Shared->Prop}
end
end
section
open PySem
section
variable {C:Cx}{d:Md}{env:Env}{vs:Vs}{ns:Ns}{ρ:Lo}{H H1 H':MH}{s s1 s2 s' s'':Shared}{A:D4}{K:KP}{X:XS}{D:Addr->Prop}
theorem vD {o e:Ex}{a:String}{o' e':Expr}{q p:Pos}(hn:dM e'=true)(he:bt C d e e' vs ns)(ho:bt C d o o' vs ns):bQ C d (.seta o a e) (.Assign [.Attribute o' (Dn a) q] e' p) vs ns:=by
 intro env A s ρ H K X ES ea ok fi W
 dsimp only[dG] at W
 refine wpAny_Assign_stores (Dy (he env A s ρ H _ _ ES ea ok fi W) (fun cv s1 hq1=>aG hq1 fun v H1 st1 r1 W1=>?_) fun zz zz x=>x.toS fi) (show swapsWith e' (some (.Attribute o' (Dn a) q)) p.line env=pure false from iD hn) rfl
 show wpAny C.M A (do
  let ov <- FH [cv] (FX o' env)
  standAt q.atName
  FH [cv,ov] (setAttr ov (Dn a) cv)
  release [cv,ov] []) _ _ s1
 refine Dq (DT (Dy (ho env A s1 ρ H1 _ _ ES ea (ok.step st1) (fi.stepN st1) W1) (fun co s2 hq2=>aG hq2 fun ov H2 st2 r2 W2=>?_) fun zz zz x=>(x.back st1).toS fi))
 have st12:=st1.trans st2
 refine Dq (Ej (Dq (DT (Dy (W2 A s2 co cv (ok.step st12) r2 (r1.keep st2.vk)) (fun zz s4 hq3=>ad hq3 fun H4 st4 W4=>?_) fun zz zz x=>(x.back st12).toS fi))))
 have st:=st12.trans st4
 exact wpAny_release ⟨.next,ρ,H4,st.weaken fi.dm,fi.stepN st,rfl,W4⟩
theorem vC {c m:String}{id:Str}{q cp p1 p2:Pos}{k:Nat}{y:Str}(hg:fT ns c id=true):bQ C d (.rais c m) (.Raise (some (.Call (.Name id q) [.Constant (.str y) k cp] [] p1)) none p2) vs ns:=by
 intro env A s ρ H K X ES ea ok fi W
 dsimp only[dG] at W
 unfold fT at hg
 simp only[Ev,beq_iff_eq,Gk] at hg
 refine az hg fun ho32_0 hd=>?_
 try clear hg
 obtain ⟨rfl,hk⟩:=ho32_0
 exact Dy (W A s y ok env p2 p1 q cp k (by unfold Gr;rw[ES.names];exact hk) ES.kind ES.glb ES.blt) (fun zz zz f=>f.elim) fun zz zz x=>x.toS fi
theorem A8 (G:C.Good){i:Nat}{e:Ex}{id:Str}{q p:Pos}{e':Expr}(h1:iF vs i id=true)(hn:(!xX e||dM e')=true)(h2:aT vs ns e e'=true):bQ C d (.asg i e) (.Assign [.Name id q] e' p) vs ns:=by
 by_cases hx:e.ctorIdx=21
 ·refine Ex.comp.elim (motive_1:=fun e=>aT vs ns e e'=true->bQ C d (.asg i e) (.Assign [.Name id q] e' p) vs ns) e hx (fun k elt it ifs h2=>?_) h2
  refine sm (P:=fun e'=>bQ C d (.asg i (.comp k elt it ifs)) (.Assign [.Name id q] e' p) vs ns) h2 fun elt' t' it' ifs' sc p' tg h0 hk t h8 h9 h10 h11=>?_
  subst hk
  exact vB h1 h0 t.loc t.nd t.kind t.nc t.nl t.fr h8 (sE G it it' vs ns h9) (sE G elt elt' _ _ h10) (BF G ifs ifs' _ _ h11).ts
 ·have hb:xX e=true:=by unfold xX;rw[beq_eq_false_iff_ne.mpr hx];rfl
  rw[hb] at hn
  exact wY h1 (sE G e e' vs ns h2) hn
theorem A9 (G:C.Good){k:List Nat}{src:Src}{body:List St}{t e':Expr}{body':List Ed}{p:Pos}{xs:List Str}(hx:ei t=some xs)(h:(c7 vs k xs&&un src t&&um vs ns src e'&&dY vs ns body body')=true)(sb:dQ C d body body' vs ns) :
  bQ C d (.for k src body) (.For t e' body' [] p) vs ns:=by
 have h3:=ax (aD h)
 have h1:=aD (aD (aD h))
 cases src with
 | pl e=>exact rL hx h1 (aD h3) (sE G e _ vs ns (ax h3)) sb
 | en e=>
  refine qC (P:=fun t=>ei t=some xs->bQ C d (.for k (.en e) body) (.For t e' body' [] p) vs ns) (ax (aD (aD h))) (fun us k' p' zz hx=>?_) hx
  exact nk (P:=fun e'=>bQ C d (.for k (.en e) body) (.For (.Tuple us k' p') e' body' [] p) vs ns) h3 fun g es ks p1 h=>jJ (P:=fun g=>bQ C d (.for k (.en e) body) (.For (.Tuple us k' p') (.Call g es ks p1) body' [] p) vs ns) h fun id q h=>
   kH (P:=fun es=>bQ C d (.for k (.en e) body) (.For (.Tuple us k' p') (.Call (.Name id q) es ks p1) body' [] p) vs ns) h fun e1 h=>fk (P:=fun ks=>bQ C d (.for k (.en e) body) (.For (.Tuple us k' p') (.Call (.Name id q) [e1] ks p1) body' [] p) vs ns) (aD h)
    (rK G hx h1 (aD (ax h)) (ax (ax h)) (sE G e _ vs ns (ax (ax h))) sb)
 | zp a b=>exact (DP h3).elim
theorem tf {P:Ed->Prop}{t':Ed}{f:Expr->Expr->Bool}(h:n_ t' (fun ts e' zz=>p1 ts fun t=>f t e')=true)(k:∀ t e' p,f t e'=true->P (.Assign [t] e' p)):P t' :=
 AE h fun ts e' p h=>kH (P:=fun ts=>P (.Assign ts e' p)) h fun t h=>k t e' p h
theorem yA {P:Ed->Prop}{c:String}{t':Ed}(hc:v_ ns c t'=true)(k:∀ id q y j cp p1 p2,fT ns c id=true->P (.Raise (some (.Call (.Name id q) [.Constant (.str y) j cp] [] p1)) none p2)):P t' :=
 AN hc fun x y p2 h=>mh (P:=fun x=>P (.Raise x y p2)) (ax h) fun x hx=>(show y=none from Option.isNone_iff_eq_none.mp (aD h)) ▸
  nk (P:=fun x=>P (.Raise (some x) none p2)) hx fun g as ks p1 h=>fk (P:=fun ks=>P (.Raise (some (.Call g as ks p1)) none p2)) (aD h) (jJ (P:=fun g=>P (.Raise (some (.Call g as [] p1)) none p2)) (ax h) fun id q h=>
   kH (P:=fun as=>P (.Raise (some (.Call (.Name id q) as [] p1)) none p2)) h fun a h=>qz (P:=fun a=>P (.Raise (some (.Call (.Name id q) [a] [] p1)) none p2)) h fun v j cp h=>
    AW (P:=fun v=>P (.Raise (some (.Call (.Name id q) [.Constant v j cp] [] p1)) none p2)) h fun y h=>k id q y j cp p1 p2 h)
theorem Ak {P:Ed->Prop}{b hb el:List St}{c:String}{a:Option Nat}{t':Ed}(hc:wa vs ns (.tre b c a hb el) t'=true)(k:∀ b' i0 q nm t0 hb' p el' p2,
  (fT ns c i0&&dY vs ns b b'&&tm vs a nm&&dY vs ns hb (t0::hb')&&dY vs ns el el')=true->P (.Try b' [.ExceptHandler (some (.Name i0 q)) nm (t0::hb') p] el' [] p2)):P t' :=
 AQ hc fun b' hs el' z p2 h=>fk (P:=fun z=>P (.Try b' hs el' z p2)) (aD h) (kH (P:=fun hs=>P (.Try b' hs el' [] p2)) (ax h) fun h0 h=>BD (P:=fun h0=>P (.Try b' [h0] el' [] p2)) h fun x nm hb' p h=>
  mh (P:=fun x=>P (.Try b' [.ExceptHandler x nm hb' p] el' [] p2)) h fun x h=>jJ (P:=fun x=>P (.Try b' [.ExceptHandler (some x) nm hb' p] el' [] p2)) h fun i0 q h=>
   n9 (P:=fun hb'=>P (.Try b' [.ExceptHandler (some (.Name i0 q)) nm hb' p] el' [] p2)) h fun t0 hb' h=>k b' i0 q nm t0 hb' p el' p2 h)
end
section
variable {C:Cx}
mutual
theorem sS (G:C.Good){d:Md}:∀ (t:St) (t':Ed) (vs:Vs) (ns:Ns),wa vs ns t t'=true->bQ C d t t' vs ns
 | .asg i e,t',vs,ns,hc=>tf (P:=fun t'=>bQ C d (.asg i e) t' vs ns) hc fun t e' p h=>jJ (P:=fun t=>bQ C d (.asg i e) (.Assign [t] e' p) vs ns) h fun id q h=>A8 G (aD h) (aD (ax h)) (ax (ax h))
 | .unp is e,t',vs,ns,hc=>tf (P:=fun t'=>bQ C d (.unp is e) t' vs ns) hc fun t e' p h=>qC (P:=fun t=>bQ C d (.unp is e) (.Assign [t] e' p) vs ns) h fun us k q h=>
   mh (P:=fun o=>dp us=o->bQ C d (.unp is e) (.Assign [.Tuple us k q] e' p) vs ns) h (fun xs h hx=>w9 hx (aD (aD (aD (aD h)))) (of_decide_eq_true (ax (aD (aD (aD h))))) (sE G e _ vs ns (ax h)) (ax (aD h)) (ax (aD (aD h)))) rfl
 | .seti o i e,t',vs,ns,hc=>tf (P:=fun t'=>bQ C d (.seti o i e) t' vs ns) hc fun t e' p h=>qA (P:=fun t=>bQ C d (.seti o i e) (.Assign [t] e' p) vs ns) h fun o' i' q h=>
   vE (ax (aD (aD (aD h)))) (sE G e _ vs ns (ax (aD (aD h)))) (sE G o _ vs ns (ax (aD h))) (sE G i _ vs ns (ax h))
 | .seta o a e,t',vs,ns,hc=>tf (P:=fun t'=>bQ C d (.seta o a e) t' vs ns) hc fun t e' p h=>qy (P:=fun t=>bQ C d (.seta o a e) (.Assign [t] e' p) vs ns) h fun o' a' q h=>
   Gm (aD (aD (aD h))) ▸ vD (ax (aD (aD h))) (sE G e _ vs ns (ax (aD h))) (sE G o _ vs ns (ax h))
 | .exp e,t',vs,ns,hc=>AG (P:=fun t'=>bQ C d (.exp e) t' vs ns) hc fun e' p h=>wZ (aD h) (sE G e _ vs ns (ax h))
 | .ret e,t',vs,ns,hc=>AP (P:=fun t'=>bQ C d (.ret e) t' vs ns) hc fun o p h=>mh (P:=fun o=>bQ C d (.ret e) (.Return o p) vs ns) h fun e' h=>w7 (sE G e _ vs ns h)
 | .ife c a b,t',vs,ns,hc=>AJ (P:=fun t'=>bQ C d (.ife c a b) t' vs ns) hc fun c' a' b' p h=>w5 (sT G c _ vs ns (aD (aD h))) (nz G a _ vs ns (ax (aD h))) (nz G b _ vs ns (ax h))
 | .for k src body,t',vs,ns,hc=>AH (P:=fun t'=>bQ C d (.for k src body) t' vs ns) hc fun t e' body' l p h=>fk (P:=fun l=>bQ C d (.for k src body) (.For t e' body' l p) vs ns) (aD h)
   (mh (P:=fun o=>ei t=o->bQ C d (.for k src body) (.For t e' body' [] p) vs ns) (ax h) (fun xs h hx=>A9 G hx h (nz G body _ vs ns (ax h))) rfl)
 | .whl c body,t',vs,ns,hc=>AS (P:=fun t'=>bQ C d (.whl c body) t' vs ns) hc fun c' body' l p h=>fk (P:=fun l=>bQ C d (.whl c body) (.While c' body' l p) vs ns) (aD h) (w_ (sT G c _ vs ns (aD (ax h))) (nz G body _ vs ns (ax (ax h))))
 | .rais c m,t',vs,ns,hc=>yA (P:=fun t'=>bQ C d (.rais c m) t' vs ns) hc fun id q y j cp p1 p2 h=>vC h
 | .tre b c a hb el,t',vs,ns,hc=>Ak (P:=fun t'=>bQ C d (.tre b c a hb el) t' vs ns) hc fun b' i0 q nm t0 hb' p el' p2 h=>
   w8 G (aD (aD (aD (aD h)))) (ax (aD (aD h))) (nz G b _ vs ns (ax (aD (aD (aD h))))) (nz G hb _ vs ns (ax (aD h))) (nz G el _ vs ns (ax h))
 | .pas,t',vs,ns,hc=>AL (P:=fun t'=>bQ C d .pas t' vs ns) hc fun p h=>w6
 | .fz i j a b body,t',vs,ns,hc=>by intro env A s ρ H K X ES ea ok fi W;exact (show False from W).elim
 | .trr b c c2 m,t',vs,ns,hc=>by intro env A s ρ H K X ES ea ok fi W;exact (show False from W).elim
theorem nz (G:C.Good){d:Md}:∀ (t:List St) (t':List Ed) (vs:Vs) (ns:Ns),dY vs ns t t'=true->dQ C d t t' vs ns
 | [],t',vs,ns,hc=>fk (P:=fun t'=>dQ C d [] t' vs ns) hc vF
 | t::ts,t',vs,ns,hc=>n9 (P:=fun t'=>dQ C d (t::ts) t' vs ns) hc fun t1 ts1 h=>tX (sS G t t1 vs ns (aD h)) (nz G ts ts1 vs ns (ax h))
end
end
end
section
open PySem
theorem m8 {names:List Str}:∀ {vals:List Value} {i:Nat} {x:Str},vals.length=names.length->names.Nodup->names[i]? = some x->(names.zip vals).lookup x=vals[i]?:=by
 induction names with
 | nil=>intro vals i x _ _ h;simp at h
 | cons n ns ih=>
  intro vals i x hl nd h
  cases vals with
  | nil=>simp at hl
  | cons v vs=>
   rw[Fw,EL]
   cases i with
   | zero=>simp at h;subst h;simp
   | succ i=>
    simp at h
    have hne:(x==n)=false:=by
     simp only[beq_eq_false_iff_ne,ne_eq]
     rintro rfl
     exact (F1.mp nd).1 (DQ h)
    rw[hne]
    simpa using ih (by simpa using hl) (F1.mp nd).2 h
theorem m9 {names:List Str}{vals:List Value}(hl:vals.length=names.length)(nd:names.Nodup){x:Str}(hx:x∈names):∃ v,(names.zip vals).lookup x=some v:=by
 refine aF (HF.mp hx) fun i hi=>?_
 rw[m8 hl nd hi]
 have:i<vals.length:=by rw[hl];exact (DD.mp hi).1
 exact ⟨vals[i],by simp[this]⟩
theorem oU {names:List Str}{vals:List Value}(hl:vals.length=names.length)(nd:names.Nodup):names.filterMap (fun n=>((names.zip vals).lookup n).map (n,·))=names.zip vals:=by
 have key:∀ (l:List Str) (k:Nat),(∀ j,l[j]? = names[k+j]?)->l.filterMap (fun n=>((names.zip vals).lookup n).map (n,·))=(names.zip vals).drop k:=by
  intro l
  induction l with
  | nil=>
   intro k h
   have:names.length<=k:=by
    rcases Fd k names.length with h1 | h1
    ·have:=h 0;simp[h1] at this
    ·exact h1
   rw[E3 (by simp;lia)];rfl
  | cons x l ih=>
   intro k h
   have hx:names[k]? = some x:=by have:=h 0;simpa using this.symm
   have hk:k<names.length:=(DD.mp hx).1
   have hkv:k<vals.length:=by exact be (ae [names.length,vals.length,k] [(0,1),(31,0),(1,2)] rfl (mf hl) hk)
   rw[List.filterMap_cons,m8 hl nd hx]
   simp only[DA hkv,Option.map_some]
   rw[ih (k+1) (fun j=>by have:=h (j+1);simp at this;rw[this];congr 1;exact cy (ae [k,j] [(.a (.a 0 21) 111,.a 11 1)] rfl) (ae [k,j] [(.a (.a 11 1) 111,.a 0 21)] rfl))]
   have hkz:k<(names.zip vals).length:=by rw[List.length_zip];lia
   rw[EF hkz,List.getElem_zip]
   have:=DD.mp hx
   rw[this.2]
 simpa using key names 0 (by simp)
theorem xT {α:Type}{c:Prop}[Decidable c]{a b x:α}(hc:¬ c)(h:b=x):(if c then a else b)=x:=by rw[if_neg hc];exact h
theorem th {fd:FuncData}{names:List Str}{vals:List Value}(h1:fd.params.posonlyargs = [])(h2:fd.params.args.map (·.arg)=names)(h3:fd.params.vararg=none)(h4:fd.params.kwonlyargs = [])(h5:fd.params.kwarg=none)
  (h6:fd.defaults = .none) (hl:vals.length=names.length) (nd:names.Nodup):bindArgs fd ⟨vals,[]⟩=pure (names.zip vals):=by
 have hmiss:(names.filter fun n=>((names.zip vals).lookup n).isNone) = []:=by
  rw[Hr]
  intro x hx
  refine aF (m9 hl nd hx) fun v e=>?_
  simp[e]
 have hni:¬ vals.length>names.length:=by exact GT.mpr (au (ae [vals.length,names.length] [(0,1),(21,0)] rfl (me hl)))
 obtain ⟨nm,qn,⟨po,ar,va,ko,kd,kw,df⟩,bd,sc,gl,cl,dfl⟩:=fd
 dsimp only at h1 h2 h3 h4 h5 h6
 subst h1 h2 h3 h4 h5 h6
 refine xT (c:=(decide (vals.length>(ar.map (·.arg)).length)&&true)=true) (by rw[decide_eq_false hni];decide) ?_
 refine xT (c:=(!(HN (fun n=>(List.lookup n ((ar.map (·.arg)).zip vals)).isNone) (List.take ((ar.map (·.arg)).length-(List.drop (0-(ar.map (·.arg)).length) ([]:List Value)).length) (ar.map (·.arg)))).isEmpty)=true) (by rw[List.drop_nil,F3,Nat.sub_zero,Ec,hmiss];decide) ?_
 refine (congrArg (fun l=>l >>= _) (?_:_=(pure ((ar.map (·.arg)).zip vals):Sem (List (Str × Value))))).trans ?_
 ·show forIn (List.zip _ (List.drop _ ([]:List Value))) _ _=_
  rw[List.drop_nil,List.zip_nil_right,HM]
  rfl
 ·refine (pure_bind _ _).trans ?_
  refine (pure_bind (m:=Sem) _ _).trans ?_
  show (pure (List.filterMap (fun n=>Option.map (fun x=>(n,x)) (List.lookup n ((ar.map Arg.arg).zip vals))) (ar.map Arg.arg ++ [])):Sem (List (Str × Value)))=_
  rw[GE,oU hl nd]
end
section
open PySem
noncomputable def l7 (fd:FuncData) (vs:Vs) (np:Nat) (body:List St):Bool :=
 (match fd.body with | .stmts b=>dY vs fd.scope.names body b | _=>false) &&
 fd.params.posonlyargs.isEmpty&&fd.params.vararg.isNone&&fd.params.kwonlyargs.isEmpty&&fd.params.kwarg.isNone&&(fd.params.args.map (·.arg)==(vs.take np).map (·.1))&&decide (np<=vs.length) &&
 fd.scope.kind == .function && !fd.scope.isGenerator && !fd.scope.isCoroutine &&
 vs.all (fun x=>match x.2 with | .loc=>fd.scope.names.lookup x.1==some .local | .cel=>fd.scope.names.lookup x.1==some .cell | .hid=>false) &&
 decide ((vs.map (·.1)).Nodup)&&fd.closure.isEmpty&&fd.globals==E4&&fd.builtins==Hp&&fd.defaults == .none
theorem iR {x:Str}:∀ (names:Ns) (n:Nat) (acc:List (Str × Addr)),names.lookup x=some .cell ∨ (acc.lookup x).isSome=true->((cellsFrom n names acc).lookup x).isSome=true
 | [],_,_,h=>h.elim (fun e=>by cases e) id
 | (y,k)::r,n,acc,h=>by
  unfold cellsFrom
  by_cases hk:(k==G8)=true
  ·rw[if_pos hk]
   refine iR r (n+1) ((y,n)::acc) ?_
   by_cases hy:(x==y)=true
   ·exact .inr (by rw[EL,hy];rfl)
   ·have hy':(x==y)=false:=by simpa using hy
    refine h.imp (fun e=>?_) fun e=>?_
    ·rw[EL,hy'] at e;exact e
    ·rw[EL,hy'];exact e
  ·rw[if_neg hk]
   refine iR r n acc (h.imp (fun e=>?_) id)
   rw[EL] at e
   cases hy:x==y with
   | true=>rw[hy] at e;cases e;exact absurd rfl hk
   | false=>rw[hy] at e;exact e
section
variable {C:Cx}{H:MH}{s:Shared}{A:D4}{Q:V->MH->Prop}{X:XP}
theorem ui {kind:Str->Option E1}:∀ {names:List Str} {vals:List Value} {m:Str->Option Value} {i:Nat} {x:Str} {v:Value},vals.length=names.length->names.Nodup->names[i]? = some x->vals[i]? = some v->kind x=some .local ->
  bindL kind (names.zip vals) m x=some v:=by
 intro names
 induction names with
 | nil=>intro vals m i x v _ _ h;simp at h
 | cons n ns ih=>
  intro vals m i x v hl nd hx hv hk
  cases vals with
  | nil=>simp at hl
  | cons w ws=>
   rw[Fw,bindL]
   cases i with
   | succ i=>exact ih (by simpa using hl) (F1.mp nd).2 (by simpa using hx) (by simpa using hv) hk
   | zero=>
    simp at hx hv
    subst hx hv
    rw[if_pos hk]
    have:∀ {names:List Str} {vals:List Value} {m:Str->Option Value},n ∉ names->bindL kind (names.zip vals) m n=m n:=by
     intro names
     induction names with
     | nil=>intro vals m _;rfl
     | cons a as ih2=>
      intro vals m hn
      cases vals with
      | nil=>rfl
      | cons b bs=>
       rw[Fw,bindL,ih2 (fun h=>hn (.tail _ h))]
       split
       ·dsimp only;rw[if_neg];rintro rfl;exact hn (.head _)
       ·rfl
    rw[this (F1.mp nd).1];exact if_pos rfl
theorem uh {kind:Str->Option E1}:∀ {names:List Str} {vals:List Value} {m:Str->Option Value} {i:Nat} {x:Str} {v:Value},vals.length=names.length->names.Nodup->names[i]? = some x->vals[i]? = some v->kind x≠some .local ->
  bindC kind (names.zip vals) m x=some v:=by
 intro names
 induction names with
 | nil=>intro vals m i x v _ _ h;simp at h
 | cons n ns ih=>
  intro vals m i x v hl nd hx hv hk
  cases vals with
  | nil=>simp at hl
  | cons w ws=>
   rw[Fw,bindC]
   cases i with
   | succ i=>exact ih (by simpa using hl) (F1.mp nd).2 (by simpa using hx) (by simpa using hv) hk
   | zero=>
    simp at hx hv
    subst hx hv
    rw[if_neg hk]
    have:∀ {names:List Str} {vals:List Value} {m:Str->Option Value},n ∉ names->bindC kind (names.zip vals) m n=m n:=by
     intro names
     induction names with
     | nil=>intro vals m _;rfl
     | cons a as ih2=>
      intro vals m hn
      cases vals with
      | nil=>rfl
      | cons b bs=>
       rw[Fw,bindC,ih2 (fun h=>hn (.tail _ h))]
       split
       ·rfl
       ·dsimp only;rw[if_neg];rintro rfl;exact hn (.head _)
    rw[this (F1.mp nd).1];exact if_pos rfl
theorem oq {fa:Addr}{o:Obj}{fd:FuncData}(ho:C.h0.get? fa=some o)(hd:o.data = .func fd):fm C (.ref fa):=fun A s Q E ht h=>by
 unfold keeperOf
 refine Dq (wpAny_load (ht _ _ ho) ?_)
 rw[hd]
 exact wpAny_pure (h _)
theorem Ao {xs:List V}{k i:Nat}{v:V}(h:lk (xs.map some++DN k none) i=some v):xs[i]? = some v:=by
 by_cases hi:i<xs.length
 ·rw[fX (by simpa using hi)] at h
  clear hi
  induction xs generalizing i with
  | nil=>simp[lk] at h
  | cons x xs ih=>cases i with
   | zero=>simpa [lk] using h
   | succ i=>simp[lk] at h;simpa using ih h
 ·rw[show i=(xs.map some).length+(i-xs.length) by simp;exact cy (ae [i-xs.length,xs.length,i] [(.a 0 1,2),(31,.a 1 0)] rfl (md (ae [xs.length,i] [(0,1),(21,0)] rfl (mn hi)))) (ae [i,i-xs.length,xs.length] [(0,.a 1 2),(.a (.a 2 1) 111,0)] rfl (ms i xs.length)),iT,nY] at h;cases h
theorem BJ {p0 p1 p2 p3 p4 p5 p6 p7 p8 p9 p10 p11 p12 p13 p14 p15 G:Prop}(h:((((((((((((((p0/\p1)/\p2)/\p3)/\p4)/\p5)/\p6)/\p7)/\p8)/\p9)/\p10)/\p11)/\p12)/\p13)/\p14)/\p15)(f:p0->p1->p2->p3->p4->p5->p6->p7->p8->p9->p10->p11->p12->p13->p14->p15->G):G:=by obtain ⟨⟨⟨⟨⟨⟨⟨⟨⟨⟨⟨⟨⟨⟨⟨h0,h1⟩,h2⟩,h3⟩,h4⟩,h5⟩,h6⟩,h7⟩,h8⟩,h9⟩,h10⟩,h11⟩,h12⟩,h13⟩,h14⟩,h15⟩:=h;exact f h0 h1 h2 h3 h4 h5 h6 h7 h8 h9 h10 h11 h12 h13 h14 h15
set_option maxHeartbeats 1000000 in
theorem r9 (G:C.Good){fa:Addr}{o:Obj}{fd:FuncData}{vs:Vs}{np n:Nat}{q:Bool}{body:List St}{args:List V}(ho:C.h0.get? fa=some o)(hd:o.data = .func fd)(hcd:C.h0.CodeRec fd.code fd.qualname)
  (hok:l7 fd vs np body=true) (hl:args.length=np)
  (W:aM C ⟨n,q⟩ body (args.map some++DN (vs.length-np) none) H (fun f zz H'=>match f with | .ret v=>Q v H' | .next=>Q .none H') (fun c zz H'=>X c H')) (A:D4) (s:Shared) (cargs:List Value) (ok:Ok C ⟨n+1,q⟩ H A s) (rs:aJ C s.heap args cargs) :
  GJ C.M A (.call (.ref fa) ⟨cargs,[]⟩) (fun r s'=>match r with | .ok (.ret v)=>QP C H s Q v s' | .ok _=>False | .error e=>XQ false C No H s X e s') s:=by
 unfold l7 at hok
 simp -iota only[Ev,List.isEmpty_iff,Option.isNone_iff_eq_none,beq_iff_eq,decide_eq_true_eq,Gk,Et] at hok
 refine BJ hok fun hb p1 p2 p3 p4 p5 p6 p7 p8 p9 p10 p11 p12 p13 p14 p15=>?_
 clear hok
 cases hbd:fd.body with
 | expr e=>rw[hbd] at hb;cases hb
 | stmts body'=>
  rw[hbd] at hb
  have hlc:=rs.length
  have hnames:((vs.take np).map (·.1)).length=np:=by simp -iota;(clear hl p13 p14 hlc;lia)
  have ndn:((vs.take np).map (·.1)).Nodup:=by rw[List.map_take];exact p11.sublist (List.take_sublist ..)
  have hbind:bindArgs fd ⟨cargs,[]⟩=pure (((vs.take np).map (·.1)).zip cargs):=th p1 p5 p2 p3 p4 p15 (by (clear p6 p13 p14;lia)) ndn
  have hmem:∀ (i:Nat) (x:Str) (k:Vk),vs[i]? = some (x,k)->(k = .loc/\fd.scope.names.lookup x=some .local) ∨ (k = .cel/\fd.scope.names.lookup x=some .cell):=fun i x k e=>by
   have:=p10 (x,k) (DQ e)
   cases k with
   | loc=>exact .inl ⟨rfl,by simpa using this⟩
   | cel=>exact .inr ⟨rfl,by simpa using this⟩
   | hid=>cases this
  refine (codeAny_call_cells (by have:=ok.room.1;show A.depth<Gc;(clear hl p6 p13 p14 hlc hnames;lia)) (ok.top _ _ ho) hd (G.nolimit.keeps ok.top) (hcd.keeps ok.top) hbd hbind p12 (fun x hx=>?_) (fun s₁ ic=>?_) p9 p8 p7)
  ·obtain ⟨nm,vl⟩:=x
   have hm:=List.of_mem_zip hx
   refine ad (Ef.mp hm.1) fun ho144_0 hy hr144_2=>?_
   obtain ⟨y,k⟩:=ho144_0
   subst hr144_2
   refine aF (HF.mp (Gz hy)) fun i hi=>?_
   rcases hmem i y k hi with ⟨_,e⟩ | ⟨_,e⟩
   ·exact .inl e
   ·exact .inr ⟨e,iR _ _ _ (.inl e)⟩
  ·generalize henv:callEnvC fd s.heap.objs.size fa=env at *
   have hloc:env.locals=s.heap.objs.size:=by rw[<- henv];rfl
   have hcel:env.cells=cellsFrom (s.heap.objs.size+1) fd.scope.names []:=by rw[<- henv];rfl
   have hkind:env.kindOf=fun x=>fd.scope.names.lookup x:=by rw[<- henv];rfl
   refine eT ic.done fun h1 tk hs1 hk1=>?_
   have st1:Step C No H s H s₁:=Step.keeps ok.rel ok.top (fun b o e=>by rw[hs1];exact hk1 b o e) (by rw[hs1]) (by rw[hs1])
   have newL:s.heap.get? env.locals=none:=by rw[hloc];exact ba _
   have newC:∀ x c,env.cells.lookup x=some c->s.heap.get? c=none:=fun x c e=>by
    have hlt:=ic.above x c (mem_of_lookup e)
    rw[hloc] at hlt
    cases w:s.heap.get? c with
    | none=>rfl
    | some ob=>exact absurd (GL hlt (D_ w)) (FY _)
   have newD:∀ b,Dm env b->s.heap.get? b=none:=fun b hb=>by
    rcases hb with rfl | ⟨x,e⟩
    ·exact newL
    ·exact newC x b e
   have ES:EnvS env vs fd.scope.names:=by
    refine ⟨by rw[<- henv];exact p7,by rw[<- henv];rfl,by rw[<- henv];exact p13,by rw[<- henv];exact p14,fun i x e=>?_,fun i x e=>?_,fun i j x k k' e e' zz zz=>?_,fun x y c e e'=>?_⟩
    ·rcases hmem i x _ e with ⟨_,w⟩ | ⟨w,_⟩
     ·exact w
     ·cases w
    ·rcases hmem i x _ e with ⟨w,_⟩ | ⟨_,w⟩
     ·cases w
     ·exact w
    ·have e1:(vs.map (·.1))[i]? = some x:=by rw[DC,e];rfl
     have e2:(vs.map (·.1))[j]? = some x:=by rw[DC,e'];rfl
     exact (List.getElem?_inj (DD.mp e1).1 p11).mp (e1.trans e2.symm)
    ·exact name_of_addr ic.apart (mem_of_lookup e) (mem_of_lookup e')
   have hidx:∀ (i:Nat) (x:Str) (k:Vk) (v:V),vs[i]? = some (x,k)->lk (args.map some++DN (vs.length-np) none) i=some v -> ∃ cv,((vs.take np).map (·.1))[i]? = some x/\cargs[i]? = some cv/\VR C s.heap v cv:=fun i x k v e l=>by
    have ha:=Ao l
    have hi:i<np:=by rw[<- hl];exact (DD.mp ha).1
    refine ad (rs.get ha) fun cv e1 e2=>?_
    refine ⟨cv,?_,e1,e2⟩
    rw[DC,List.getElem?_take_of_lt hi,e];rfl
   have fi:FI C env vs (args.map some++DN (vs.length-np) none) H s₁.heap:=by
    refine ⟨by simp -iota;exact cy (ae [np,args.length,D0 vs,D0 vs-np] [(0,1),(2,.a 3 0),(.a (.a 1 3) 111,2)] rfl (mf hl) (ms (D0 vs) np)) (ae [args.length,np,D0 vs-np,D0 vs] [(0,1),(.a 2 1,3),(41,.a 0 2)] rfl (me hl) (md (ae [np,D0 vs] [(0,1),(21,0)] rfl p6))),ok.rel.fresh newL,bY ok.top newL,⟨_,ic.toInCall.ns,fun i x v e l=>?_⟩,fun i x e=>?_,fun x c e=>?_⟩
    ·refine bN (hidx i x _ v e l) fun cv a1 a2 a3=>?_
     exact ⟨cv,ui (by (clear p6 p13 p14 hloc;lia)) ndn a1 a2 (by rw[hkind];exact ES.loc i x e),a3.keep st1.vk⟩
    ·have hx:=ES.cel i x e
     refine aF (Fj.mp (iR (x:=x) fd.scope.names (s.heap.objs.size+1) [] (.inl hx))) fun c hc=>?_
     rw[<- hcel] at hc
     refine ⟨c,_,hc,ok.rel.fresh (newC x c hc),bY ok.top (newC x c hc),ic.cell x c hc,fun v l=>?_⟩
     refine bN (hidx i x _ v e l) fun cv a1 a2 a3=>?_
     exact ⟨cv,uh (by (clear p6 p13 p14 hloc;lia)) ndn a1 a2 (by rw[hkind];show fd.scope.names.lookup x≠some .local;rw[hx];decide),a3.keep st1.vk⟩
    ·exact ⟨ok.rel.fresh (newC x c e),bY ok.top (newC x c e),_,ic.cell x c e⟩
   have hfrm:env.frame=some env.locals:=by rw[<- henv];rfl
   refine ad ok.frs fun l hfr hfl=>?_
   have ok1:Ok C ⟨n,q⟩ H (A.deeper env) s₁:=by
    refine ⟨st1.rel,st1.top,⟨?_,?_⟩,⟨ok.hnd.1,(ok.step st1).hnd.2⟩,env::l,by show A.frames.map _=_;rw[hfr];rfl,fun e he=>?_⟩
    ·have:=ok.room.1;show A.depth+1+2*n+2<Gc;dsimp only at this;exact be (ae [A.depth,n,Gc] [(.a (.a (.a 0 (.m 2 21)) 112) 111,2),(2,.a (.a 11 (.m 2 1)) 112)] rfl this)
    ·have:=ok.room.2;show A.units+3+8*n+40<F9;dsimp only at this;exact be (ae [A.units,n,F9] [(.a (.a (.a 0 (.m 8 21)) 150) 111,2),(2,.a (.a 13 (.m 8 1)) 150)] rfl this)
    ·cases he with
     | head=>
      refine ad fi.ns fun m ho203_1 zz=>?_
      obtain ⟨o',es,ep,ho',hd',_⟩:=ho203_1
      exact ⟨by rw[ES.kind];decide,env.locals,o',es,ep,hfrm,ho',hd',fi.locH,fi.loc0⟩
     | tail _ he=>exact hfl.step st1 e he
   have ea:EA (A.deeper env) env:=⟨env,l,by show A.frames.map _=_;rw[hfr];rfl,rfl⟩
   have run:=nz G body body' vs fd.scope.names hb env (A.deeper env) s₁ _ H _ _ ES ea ok1 fi W
   refine Dy run (fun fl s' hsp=>?_) fun e s' hx=>?_
   ·refine cZ hsp fun f ρ' H' st' fi' fr K'=>?_
    try clear hsp
    have st:=st1.trans_new st' newD (fun zz f=>f.elim)
    cases f with
    | next=>cases fr;exact ⟨.none,H',st,rfl,K'⟩
    | ret v=>obtain ⟨cv,rfl,r⟩:=fr;exact ⟨v,H',st,r,K'⟩
   ·refine BC (fenv:=env) (outer:=l) fy ok1 (by show A.frames.map _=_;rw[hfr];rfl) rfl (fun H' s' st'=>?_) hx fun s'' hx'=>?_
    ·exact mU (fenv:=env) (outer:=l) ok1 (by show A.frames.map _=_;rw[hfr];rfl) st'
    ·obtain ⟨a,c,H',rfl,st',hD',fl,ρ',fi',hX⟩:=hx'
     have st:=st1.trans_new st' newD (fun zz f=>f.elim)
     exact XG.mono ⟨a,c,H',rfl,st,fun zz f=>f.elim,fl.back st1,hX⟩
theorem rZ (G:C.Good){fa:Addr}{o:Obj}{fd:FuncData}{vs:Vs}{np n:Nat}{q:Bool}{body:List St}{args:List V}(ho:C.h0.get? fa=some o)(hd:o.data = .func fd)(hcd:C.h0.CodeRec fd.code fd.qualname)
  (hok:l7 fd vs np body=true) (hl:args.length=np)
  (W:aM C ⟨n,q⟩ body (args.map some++DN (vs.length-np) none) H (fun f zz H'=>match f with | .ret v=>Q v H' | .next=>Q .none H') (fun c zz H'=>X c H')):bn C ⟨n+1,q⟩ (.ref fa) args H Q X :=
 fun A s cargs ok rs=>Hl (r9 G ho hd hcd hok hl W A s cargs ok rs)
end
end
section
open PySem PyProof.Rows
mutual
inductive VD (H:MH):V->DK->Prop
 | none:VD H .none .none
 | bool (b:Bool):VD H (.bool b) (.bool b)
 | int (i:Int):VD H (.int i) (.int i)
 | str (s:Str):VD H (.str s) (.str s)
 | tup {l:List V} {ds:List DK}:VDs H l ds->VD H (.tup l) (.tuple ds)
 | lst {a:Addr} {l:List V} {ds:List DK}:H a=some (.lst l)->VDs H l ds->VD H (.ref a) (.list ds)
 | fro {a:Addr} {l:List V} {ds:List DK}:H a=some (.fro l)->VDs H l ds->VD H (.ref a) (.list ds)
inductive VDs (H:MH):List V->List DK->Prop
 | nil:VDs H [] []
 | cons {x:V} {d:DK} {xs:List V} {ds:List DK}:VD H x d->VDs H xs ds->VDs H (x::xs) (d::ds)
end
theorem VD.reads {C:Cx}{H:MH}{h:Heap}(r:HR C H h){v:V}{d:DK}{cv:Value}(z:VD H v d)(x:VR C h v cv):∃ as,Reads h cv d as:=by
 refine VD.rec (motive_1:=fun v d zz=>∀ cv,VR C h v cv -> ∃ as,Reads h cv d as) (motive_2:=fun l ds zz=>∀ cvs,aJ C h l cvs -> ∃ as,ReadsAll h cvs ds as) ?_ ?_ ?_ ?_ ?_ ?_ ?_ ?_ ?_ z cv x
 ·intro cv x;cases (show cv = .none from x);exact ⟨_,.none⟩
 ·intro b cv x;cases (show cv = .bool b from x);exact ⟨_,.bool _⟩
 ·intro i cv x;obtain ⟨t,rfl⟩:=(show ∃ t,cv = .int i t from x);exact ⟨_,.int _ _⟩
 ·intro i cv x;obtain ⟨t,rfl⟩:=(show ∃ t,cv = .str i t from x);exact ⟨_,.str _ _⟩
 ·intro l ds y ih cv x
  refine aG ((show ∃ a items,(cv = .ref a/\ka h a)/\h.IsTuple a items/\aJ C h l items.toList from x)) fun a items ho28_2 ho28_3 rs=>?_
  obtain ⟨rfl,nd⟩:=ho28_2
  obtain ⟨o,ho,hc,n,hd⟩:=ho28_3
  exact (ih _ rs).elim fun as q=>⟨_,.tuple ho hc hd q⟩
 ·intro a l ds e y ih cv x;cases (show cv = .ref a from x)
  obtain ⟨_,items,⟨n,ho⟩,rs⟩:=r _ _ e
  exact (ih _ rs).elim fun as q=>⟨_,.list ho rfl rfl q⟩
 ·intro a l ds e y ih cv x;cases (show cv = .ref a from x)
  refine ad (r _ _ e) fun items ho34_1 rs=>?_
  obtain ⟨o,ho,hc,n,hd⟩:=ho34_1
  exact (ih _ rs).elim fun as q=>⟨_,.list ho hc hd q⟩
 ·intro cvs x;cases x.inv_nil;exact ⟨_,.nil⟩
 ·intro x d xs ds y ys ih1 ih2 cvs x
  refine aG x.inv_cons fun v vs hr38_2 h1 h2=>?_
  subst hr38_2
  exact (ih1 _ h1).elim fun as q=>(ih2 _ h2).elim fun bs q'=>⟨_,.cons q q'⟩
section
variable {C:Cx}{d:Md}{H:MH}{A:D4}{s:Shared}{Q:V->MH->Prop}{X:XP}
theorem Ok.units (ok:Ok C d H A s):A.units+40<F9:=by have:=ok.room.2;exact be (ae [A.units,d.n,F9] [(.a (.a (.a 0 (.m 8 1)) 150) 111,2),(2,.p 0 40)] rfl this)
theorem qp {r:V}{cv:Value}{s':Shared}(st:Step C No H s H s')(vr:VR C s'.heap r cv)(q:Q r H):QP C H s Q cv s':=⟨r,H,st,vr,q⟩
theorem jn {r:V}{cv:Value}{H':MH}{s':Shared}(st:Step C No H s H' s')(vr:VR C s'.heap r cv)(q:Q r H'):QP C H s Q cv s':=⟨r,H',st,vr,q⟩
theorem VR.int_ {h:Heap}{i:Int}{t:Tok}:VR C h (.int i) (.int i t):=by dsimp only[VR];exact ⟨t,rfl⟩
theorem VR.bool_ {h:Heap}{b:Bool}:VR C h (.bool b) (.bool b):=by dsimp only[VR]
theorem VR.none_ {h:Heap}:VR C h .none .none:=by dsimp only[VR]
theorem VR.ref_ {h:Heap}{a:Addr}:VR C h (.ref a) (.ref a):=by dsimp only[VR]
theorem bA {a b:Int}(q:Q (.int (a+b)) H):fQ C d .Add (.int a) (.int b) H Q X:=fun A s ca cb ok ra rb=>by
 dsimp only[VR] at ra rb;obtain ⟨t,rfl⟩:=ra;obtain ⟨u,rfl⟩:=rb
 exact add_int (qp (ok.toks _) .int_ q)
theorem bZ {a b:Int}(q:Q (.int (a-b)) H):fQ C d .Sub (.int a) (.int b) H Q X:=fun A s ca cb ok ra rb=>by
 dsimp only[VR] at ra rb;obtain ⟨t,rfl⟩:=ra;obtain ⟨u,rfl⟩:=rb
 exact sub_int (qp (ok.toks _) .int_ q)
theorem ga {a b:Int}(q:Q (.int (a*b)) H)(hm:IntMulOk a b):fQ C d .Mult (.int a) (.int b) H Q X:=fun A s ca cb ok ra rb=>by
 dsimp only[VR] at ra rb;obtain ⟨t,rfl⟩:=ra;obtain ⟨u,rfl⟩:=rb
 exact mul_int (qp (ok.toks _) .int_ q) hm
theorem yd {a b:Int}(hb:b≠0)(q:Q (.int (a.fmod b)) H):fQ C d .Mod (.int a) (.int b) H Q X:=fun A s ca cb ok ra rb=>by
 dsimp only[VR] at ra rb;obtain ⟨t,rfl⟩:=ra;obtain ⟨u,rfl⟩:=rb
 exact mod_int hb (qp (ok.toks _) .int_ q)
theorem v7 {a b:Int}(hb:b≠0)(hp:DX.divisionGoesByPylong a b=false)(q:Q (.int (a.fdiv b)) H):fQ C d .FloorDiv (.int a) (.int b) H Q X:=fun A s ca cb ok ra rb=>by
 dsimp only[VR] at ra rb;obtain ⟨t,rfl⟩:=ra;obtain ⟨u,rfl⟩:=rb
 exact floordiv_int hb (qp (ok.toks _) .int_ q) (.inl hp)
theorem eo {a b:V}{da db:DK}(va:VD H a da)(vb:VD H b db)(ha:da.canLay0=true)(hb:db.canLay0=true)(hd:min da.depth db.depth<=8)(q:Q (.bool (Em da db)) H):bX C d .Eq a b H Q X:=fun A s ca cb ok ra rb=>by
 refine aF (va.reads ok.rel ra) fun as r1=>?_
 refine aF (vb.reads ok.rel rb) fun bs r2=>?_
 exact SeqAt.compareEq_reads r1 r2 ha hb (by have:=ok.units;exact be (ae [min da.depth db.depth,A.units,F9] [(0,118),(.a (.p 1 40) 111,2),(2,.a 1 0)] rfl hd this)) (qp ok.refl .bool_ q)
theorem gB {a b:V}{da db:DK}(va:VD H a da)(vb:VD H b db)(ha:da.canLay0=true)(hb:db.canLay0=true)(hd:min da.depth db.depth<=8)(q:Q (.bool (!Em da db)) H):bX C d .NotEq a b H Q X:=fun A s ca cb ok ra rb=>by
 refine aF (va.reads ok.rel ra) fun as r1=>?_
 refine aF (vb.reads ok.rel rb) fun bs r2=>?_
 exact SeqAt.compareNe_reads r1 r2 ha hb (by have:=ok.units;exact be (ae [min da.depth db.depth,A.units,F9] [(0,118),(.a (.p 1 40) 111,2),(2,.a 1 0)] rfl hd this)) (qp ok.refl .bool_ q)
theorem mL {a b:V}{da db:DK}{xs:List DK}(va:VD H a da)(vb:VD H b db)(hx:db = .list xs ∨ db = .tuple xs)(ha:da.canLay0=true)(hb:Eb xs=true)(hd:min (DW xs) da.depth<=8)(q:Q (.bool (xs.any fun y=>Em y da)) H):bX C d .In a b H Q X:=fun A s ca cb ok ra rb=>by
 refine aF (va.reads ok.rel ra) fun as r1=>?_
 refine aF (vb.reads ok.rel rb) fun bs r2=>?_
 rcases hx with rfl | rfl
 ·exact SeqAt.in_list_reads r2 r1 hb ha (by have:=ok.units;exact be (ae [min (DW xs) da.depth,A.units,F9] [(0,118),(.a (.p 1 40) 111,2),(2,.a 21 0)] rfl hd this)) (qp ok.refl .bool_ q)
 ·exact SeqAt.in_tuple_reads r2 r1 hb ha (by have:=ok.units;exact be (ae [min (DW xs) da.depth,A.units,F9] [(0,118),(.a (.p 1 40) 111,2),(2,.a 21 0)] rfl hd this)) (qp ok.refl .bool_ q)
theorem yj {a b:V}{da db:DK}{xs:List DK}(va:VD H a da)(vb:VD H b db)(hx:db = .list xs ∨ db = .tuple xs)(ha:da.canLay0=true)(hb:Eb xs=true)(hd:min (DW xs) da.depth<=8)(q:Q (.bool (!xs.any fun y=>Em y da)) H):bX C d .NotIn a b H Q X:=fun A s ca cb ok ra rb=>by
 refine aF (va.reads ok.rel ra) fun as r1=>?_
 refine aF (vb.reads ok.rel rb) fun bs r2=>?_
 rcases hx with rfl | rfl
 ·exact SeqAt.notIn_list_reads r2 r1 hb ha (by have:=ok.units;exact be (ae [min (DW xs) da.depth,A.units,F9] [(0,118),(.a (.p 1 40) 111,2),(2,.a 21 0)] rfl hd this)) (qp ok.refl .bool_ q)
 ·exact SeqAt.notIn_tuple_reads r2 r1 hb ha (by have:=ok.units;exact be (ae [min (DW xs) da.depth,A.units,F9] [(0,118),(.a (.p 1 40) 111,2),(2,.a 21 0)] rfl hd this)) (qp ok.refl .bool_ q)
theorem jh {a b:Int}(q:Q (.bool (decide (a<b))) H):bX C d .Lt (.int a) (.int b) H Q X:=fun A s ca cb ok ra rb=>by
 dsimp only[VR] at ra rb;obtain ⟨t,rfl⟩:=ra;obtain ⟨u,rfl⟩:=rb
 exact lt_int (qp ok.refl .bool_ q)
theorem mM {a b:Int}(q:Q (.bool (decide (a<=b))) H):bX C d .LtE (.int a) (.int b) H Q X:=fun A s ca cb ok ra rb=>by
 dsimp only[VR] at ra rb;obtain ⟨t,rfl⟩:=ra;obtain ⟨u,rfl⟩:=rb
 exact le_int (qp ok.refl .bool_ q)
theorem mK {a b:Int}(q:Q (.bool (decide (a>b))) H):bX C d .Gt (.int a) (.int b) H Q X:=fun A s ca cb ok ra rb=>by
 dsimp only[VR] at ra rb;obtain ⟨t,rfl⟩:=ra;obtain ⟨u,rfl⟩:=rb
 exact gt_int (qp ok.refl .bool_ q)
theorem bx {a b:Int}(q:Q (.bool (a==b)) H):bX C d .Eq (.int a) (.int b) H Q X:=eo (.int a) (.int b) rfl rfl (by simp[Ei]) (by simpa [Em] using q)
theorem gS {a b:Int}(q:Q (.bool (!(a==b))) H):bX C d .NotEq (.int a) (.int b) H Q X:=gB (.int a) (.int b) rfl rfl (by simp[Ei]) (by simpa [Em] using q)
theorem ai {b:Bool}{Q:Bool->MH->Prop}(q:Q b H):eI C d (.bool b) H Q X:=fun A s ca ok ra=>by
 dsimp only[VR] at ra;subst ra;exact GY ⟨H,ok.refl,q⟩
theorem zo {a:V}(q:eI C d a H (fun b H'=>Q (.bool (!b)) H') X):pp C d .Not a H Q X:=fun A s ca ok ra=>
 not_value (Dy (q A s ca ok ra) (fun b s' hq1=>ad hq1 fun H' st q=>⟨_,H',st,.bool_,q⟩) fun zz zz x=>x)
theorem jp {a:Int}(q:Q (.int (-a)) H):pp C d .USub (.int a) H Q X:=fun A s ca ok ra=>by
 dsimp only[VR] at ra;obtain ⟨t,rfl⟩:=ra;exact neg_int (qp (ok.toks _) .int_ q)
theorem dL {a:Addr}{l:List V}(r:HR C H s.heap)(h:aS H (.ref a)=some l):∃ items,s.heap.IsList a items/\aJ C s.heap l items.toList:=gg r h
theorem uG {T id:String}{co:Value}{A:D4}(hT:s.TypeIs co T)(hl:typeLookup (.type T) "__getitem__" = pure (some (.builtin id))):wpAny C.M A (getitemInPython co) (fun b s'=>b=false/\s'=s) (fun zz zz=>False) s:=by
 rw[getitemInPython_of_ne hT.not_modules]
 exact Dq (Fy hT hl (wpAny_pure ⟨rfl,rfl⟩))
theorem jU {a:Addr}{l:List V}{i:Int}{x:V}(h:aS H (.ref a)=some l)(hl:l.length<=Dz){j:Nat}(hj:Fa i l.length=some j)(hx:l[j]? = some x)(q:Q x H):fR C d (.ref a) (.int i) H Q X:=fun A s co ci ok ro ri=>by
 dsimp only[VR] at ro;dsimp only[VR] at ri;subst ro;obtain ⟨t,rfl⟩:=ri
 refine ad (dL ok.rel h) fun items hL rs=>?_
 refine ad (rs.get hx) fun cx hcx rx=>?_
 have hn:=rs.length
 simp only[DS] at hn
 have hz:Dz<2 ^ 62:=by decide
 refine ⟨uG hL.typeIs slot_list_getitem.lookup,?_⟩
 rw[FG] at hcx
 simp only[Fa] at hj
 have hjl:j<l.length:=(DD.mp hx).1
 by_cases hi:i<0
 ·rw[if_pos hi] at hj
  split at hj
  ·rename_i hb
   cases hj
   refine wpAny_getItem_list_neg hL hi (by simp at hb;lia) (by simp at hb;exact aY (am [l.length,i] [(0,16777326),(110,.a 1 0),(21,.g 9223372036854775808)] rfl (my hl) hb.1)) ?_ (qp ok.refl rx q)
   rw[<- hn];exact hcx
  ·cases hj
 ·rw[if_neg hi] at hj
  split at hj
  ·cases hj
   exact wpAny_getItem_list hL (by exact aY (am [i] [(110,0),(11,110)] rfl (zn hi))) (by exact bE (am [l.length,i.toNat,i] [(0,16777326),(21,0),(2,1),(9223372036854775918,2)] rfl (my hl) (ql hjl) (qt i))) hcx (qp ok.refl rx q)
  ·cases hj
end
end
section
open PySem PyProof.Rows
noncomputable def f_ (l:List V) (lo hi:Option Int):List V:=(l.drop (lo.elim 0 (clipAt l.length))).take (hi.elim l.length (clipAt l.length)-lo.elim 0 (clipAt l.length))
inductive Prt:V->Option Int->Prop
 | none:Prt .none none
 | int (i:Int):Prt (.int i) (some i)
section
variable {C:Cx}{d:Md}{H:MH}{A:D4}{s:Shared}{Q:V->MH->Prop}{X:XP}
theorem Prt.is {h:Heap}{v:V}{k:Option Int}{cv:Value}(p:Prt v k)(r:VR C h v cv):IsPart cv k:=by
 cases p with
 | none=>dsimp only[VR] at r;subst r;exact .none
 | int i=>dsimp only[VR] at r;obtain ⟨t,rfl⟩:=r;exact .int i t
theorem g9 {l:List V}{i:Int}{x:V}{j:Nat}(hj:Fa i l.length=some j)(hl:l.length<=Dz)(hx:l[j]? = some x)(q:Q x H):fR C d (.tup l) (.int i) H Q X:=fun A s co ci ok ro ri=>by
 dsimp only[VR] at ro;dsimp only[VR] at ri;obtain ⟨a,items,⟨rfl,nd⟩,ht,rs⟩:=ro;obtain ⟨t,rfl⟩:=ri
 refine ad (rs.get hx) fun cx hcx rx=>?_
 have hn:=rs.length
 simp only[DS] at hn
 have hz:Dz<2 ^ 62:=by decide
 rw[FG] at hcx
 obtain ⟨o,ho,hc,n,hd⟩:=id ht
 refine ⟨uG (T := "tuple") ⟨o,ho,hc⟩ GR.lookup,?_⟩
 have hb : -(2 ^ 63)<=i/\i<2 ^ 63:=by
  simp only[Fa] at hj
  by_cases hi:i<0
  ·rw[if_pos hi] at hj
   split at hj
   ·rename_i hb;simp at hb;exact ⟨aY (am [l.length,i] [(0,16777326),(110,.a 1 0),(21,.g 9223372036854775808)] rfl (my hl) hb.1),bE (am [i,l.length] [(.a (.a 0 1) 111,1),(9223372036854775918,0)] rfl hb.2)⟩
   ·cases hj
  ·rw[if_neg hi] at hj
   split at hj
   ·rename_i hb;simp at hb;exact ⟨aY (am [i] [(110,0),(11,.g 9223372036854775808)] rfl hb.1),bE (am [l.length,i] [(0,16777326),(21,0),(9223372036854775918,1)] rfl (my hl) hb.2)⟩
   ·cases hj
 exact PyProof.Rows.getItem_tuple ⟨o,ho,hc,n,hd⟩ hb.1 hb.2 (by rw[<- hn];exact hj) hcx (qp ok.refl rx q)
theorem jv {vs:List V}{items:Array Value}{s':Shared}(ok:Ok C d H A s)(r:aJ C s.heap vs items.toList)(hs:s'.heap=s.heap.push { cls:=.type "list",data:=.seq items })(g:s'.gens=s.gens)(os:s'.os=s.os) :
  Step C No H s (an H s.heap.objs.size (.lst vs)) s'/\H s.heap.objs.size=none:=by
 refine ⟨Step.alloc ok.rel ok.top (o:=.lst vs) ⟨?_,items,⟨0,DG _ rfl⟩,r.keep (.of_keeps fun b o e=>Dv _ e)⟩ hs g os,ok.rel.fresh (ba _)⟩
 cases e:C.h0.get? s.heap.objs.size with
 | none=>rfl
 | some o=>have:=ok.top _ _ e;rw[ba] at this;cases this
theorem fK {a:Addr}{l:List V}{vl vu:V}{lo hi:Option Int}(h:aS H (.ref a)=some l)(hl:l.length<=Dz)(pl:Prt vl lo)(pu:Prt vu hi)
  (q:∀ b,H b=none->Q (.ref b) (an H b (.lst (f_ l lo hi)))):s_ C d (.ref a) vl vu .none H Q X:=fun A s co cl cu ct p ok ro rl ru rt hp=>by
 dsimp only[VR] at ro;dsimp only[VR] at rt;subst ro rt
 refine ad (dL ok.rel h) fun items hL rs=>?_
 have hn:=rs.length
 simp only[DS] at hn
 refine ⟨uG hL.typeIs slot_list_getitem.lookup,wpAny_getItem_list_slice hL ⟨_,hp,rfl,rfl⟩ (pl.is rl) (pu.is ru) .none (by simp) ?_ (by exact aB (au (ae [l.length,items.size] [(0,16777326),(1,0),(.a 16777326 111,1)] rfl (gO hl) (mf hn))))⟩
 have key:aJ C s.heap (f_ l lo hi) (slicePick items lo hi none).toList:=by
  rw[slicePick_plain,f_,hn]
  exact (rs.drop _).take _
 refine az (jv (s':={ s with heap:=s.heap.push { cls:=.type "list",data:=.seq (slicePick items lo hi none) } }) ok key rfl rfl rfl) fun st hf=>?_
 exact jn st .ref_ (q _ hf)
theorem dz {a b:Addr}{l m:List V}(ha:aS H (.ref a)=some l)(hb:aS H (.ref b)=some m)(hsz:l.length+m.length<=Dz)(q:∀ c,H c=none->Q (.ref c) (an H c (.lst (l++m)))):fQ C d .Add (.ref a) (.ref b) H Q X:=fun A s ca cb ok ra rb=>by
 dsimp only[VR] at ra rb;subst ra rb
 refine ad (dL ok.rel ha) fun items hL rs=>?_
 refine ad (dL ok.rel hb) fun items2 hL2 rs2=>?_
 have hn:=rs.length
 have hn2:=rs2.length
 simp only[DS] at hn hn2
 obtain ⟨⟨cls,dd,data,sl⟩,ho,hc,n,hd⟩:=id hL
 obtain ⟨⟨cls2,dd2,data2,sl2⟩,ho2,hc2,n2,hd2⟩:=id hL2
 simp only at hc hd hc2 hd2
 subst hc hd hc2 hd2
 refine concat_meets ⟨_,ho,rfl⟩ ⟨_,ho2,rfl⟩ noFill_list_add seq_list_add PySem.F.slot_list_add PySem.F.entry_list_add (PySem.F.args_list_add_2 _ _) (list_addW a b items items2 n n2 dd dd2 sl sl2 (by exact aB (au (ae [l.length,m.length,items.size,items2.size] [(.a 0 1,16777326),(2,0),(3,1),(.a 16777326 111,.a 2 3)] rfl (gO hsz) (mf hn) (mf hn2))))) ⟨ho,ho2,?_⟩
 have key:aJ C s.heap (l++m) (items++items2).toList:=by rw[Array.toList_append];exact rs.append rs2
 refine az (jv (s':={ s with heap:=s.heap.push { cls:=.type "list",data:=.seq (items++items2) } }) ok key rfl rfl rfl) fun st hf=>?_
 exact jn st .ref_ (q _ hf)
theorem dS {h:Heap}{x:V}{cs:List Value}(r:aJ C h [x] cs):∃ c,cs = [c]/\VR C h x c:=by
 refine aG r.inv_cons fun c cs' hr81_2 h1 h2=>?_
 subst hr81_2
 have:=h2.inv_nil;subst this
 exact ⟨c,rfl,h1⟩
theorem iM {h:Heap}{x y:V}{cs:List Value}(r:aJ C h [x,y] cs):∃ c e,cs = [c,e]/\VR C h x c/\VR C h y e:=by
 refine aG r.inv_cons fun c cs' hr85_2 h1 h2=>?_
 subst hr85_2
 refine ad (dS h2) fun e hr86_1 h3=>?_
 subst hr86_1
 exact ⟨c,e,rfl,h1,h3⟩
theorem xI {h:Heap}{x y z:V}{cs:List Value}(r:aJ C h [x,y,z] cs):∃ c e f,cs = [c,e,f]/\VR C h x c/\VR C h y e/\VR C h z f:=by
 refine aG r.inv_cons fun c cs' hr89_2 h1 h2=>?_
 subst hr89_2
 refine aG (iM h2) fun e f hr90_2 h3 h4=>?_
 subst hr90_2
 exact ⟨c,e,f,rfl,h1,h3,h4⟩
theorem pF {f:String}{fv:Value}{args:List V}(hG:C.G f fv)(h:bn C d fv args H Q X):bB C d f args H Q X:=fun fv' g=>by rw[<- hG.uniq g];exact h
theorem bp {a:Addr}{l:List V}(h:aS H (.ref a)=some l)(hl:l.length<=Dz)(q:Q (.int l.length) H):bn C d (.builtin "len") [.ref a] H Q X:=fun A s cs ok rs=>by
 refine ad (dS rs) fun c hr96_1 r=>?_
 subst hr96_1
 dsimp only[VR] at r;subst r
 refine ad (dL ok.rel h) fun items hL rs=>?_
 have hn:=rs.length
 simp only[DS] at hn
 have hz:Dz<2 ^ 62:=by decide
 exact Calls.call_len_list hL (by exact bE (am [l.length,items.size] [(0,16777326),(1,0),(9223372036854775918,1)] rfl (my hl) (qf hn))) (qp (ok.toks _) (by rw[hn];exact .int_) q)
theorem eZ {l:List V}(hl:l.length<=Dz)(q:Q (.int l.length) H):bn C d (.builtin "len") [.tup l] H Q X:=fun A s cs ok rs=>by
 refine ad (dS rs) fun c hr104_1 r=>?_
 subst hr104_1
 dsimp only[VR] at r;obtain ⟨a,items,⟨rfl,nd⟩,⟨o,ho,hc,n,hd⟩,rs⟩:=r
 have hn:=rs.length
 simp only[DS] at hn
 have hz:Dz<2 ^ 62:=by decide
 exact PyProof.Rows.len_tuple ⟨o,ho,hc,n,hd⟩ (by exact bE (am [l.length,items.size] [(0,16777326),(1,0),(9223372036854775918,1)] rfl (my hl) (qf hn))) (qp (ok.toks _) (by rw[hn];exact .int_) q)
theorem jM {s':Shared}{ob:Obj}{tk:Nat}(ok:Ok C d H A s)(hs:s'={ s with heap:=s.heap.push ob,toks:=tk }):Step C No H s H s':=by
 subst hs;exact Step.keeps ok.rel ok.top (fun b o e=>Dv _ e) rfl rfl
theorem cV {n:Int}(q:Q (.rng 0 n 1) H):bn C d (.type "range") [.int n] H Q X:=fun A s cs ok rs=>by
 refine ad (dS rs) fun c hr115_1 r=>?_
 subst hr115_1
 dsimp only[VR] at r;obtain ⟨t,rfl⟩:=r
 exact call_range_1 (qp (jM ok rfl) (by dsimp only[VR];exact ⟨_,_,_,_,rfl,IsRange.new ..⟩) q)
theorem oz {a b:Int}(q:Q (.rng a b 1) H):bn C d (.type "range") [.int a,.int b] H Q X:=fun A s cs ok rs=>by
 refine aG (iM rs) fun c e hr119_2 r r'=>?_
 subst hr119_2
 dsimp only[VR] at r r';obtain ⟨t,rfl⟩:=r;obtain ⟨u,rfl⟩:=r'
 exact call_range_2 (qp (jM ok rfl) (by dsimp only[VR];exact ⟨_,_,_,_,rfl,IsRange.new ..⟩) q)
theorem uu {a b k:Int}(hk:k≠0)(hp:DX.divisionGoesByPylong (b-a) k=false)(q:Q (.rng a b k) H):bn C d (.type "range") [.int a,.int b,.int k] H Q X:=fun A s cs ok rs=>by
 refine cZ (xI rs) fun c e f hr123_3 r r' r''=>?_
 subst hr123_3
 dsimp only[VR] at r r' r'';obtain ⟨t,rfl⟩:=r;obtain ⟨u,rfl⟩:=r';obtain ⟨v,rfl⟩:=r''
 exact call_range_3 hk (qp (jM ok rfl) (by dsimp only[VR];exact ⟨_,_,_,_,rfl,IsRange.new ..⟩) q) (.inl hp)
theorem mT (ok:Ok C d H A s):C.h0.get? s.heap.objs.size=none:=by
 cases e:C.h0.get? s.heap.objs.size with
 | none=>rfl
 | some o=>have:=ok.top _ _ e;rw[ba] at this;cases this
theorem Step.grow {o:O}{s':Shared}(ok:Ok C d H A s)(k:∀ b o,s.heap.get? b=some o->s'.heap.get? b=some o)(ho:OR C s'.heap s.heap.objs.size o)(g:s'.gens=s.gens)(os:s'.os=s.os):Step C No H s (an H s.heap.objs.size o) s':=by
 refine ⟨fun b o' e=>?_,fun b o e zz zz=>⟨o.slots,k b o e,fun zz=>rfl⟩,fun b o e=>k b o (ok.top b o e),fun b e=>?_,fun b e=>?_,fun b d n=>d.elim,.of_keeps k,g,os⟩
 ·by_cases q:b=s.heap.objs.size
  ·subst q;rw[aj] at e;cases e;exact ho
  ·rw[aP q] at e;exact (ok.rel b o' e).keep (.of_keeps k) fun ob=>k b ob
 ·by_cases q:b=s.heap.objs.size
  ·subst q;rw[aj];rfl
  ·rw[aP q];exact e
 ·by_cases q:b=s.heap.objs.size
  ·subst q;exact .inr (ba _)
  ·rw[aP q] at e;exact .inl e
theorem dK {v:V}{l:List V}(hv:(∃ a,v = .ref a) ∨ (∃ m,v = .tup m))(h:aS H v=some l)(hl:l.length<=Dz)(q:∀ b,H b=none->Q (.ref b) (an H b (.lst l))):bn C d (.type "list") [v] H Q X:=fun A s cs ok rs=>by
 obtain ⟨c,rfl,r⟩:=dS rs
 have key:∃ a T o items n,c = .ref a/\(T = "list" ∨ T = "tuple")/\s.heap.get? a=some o/\o.cls = .type T/\o.data = .seq items n/\aJ C s.heap l items.toList:=by
  rcases hv with ⟨a,rfl⟩ | ⟨m,rfl⟩
  ·dsimp only[VR] at r;subst r
   obtain ⟨items,⟨o,ho,hc,n,hd⟩,rs⟩:=dL ok.rel h
   exact ⟨a,_,o,items,n,rfl,.inl rfl,ho,hc,hd,rs⟩
  ·dsimp only[VR] at r;obtain ⟨a,items,⟨rfl,nd⟩,⟨o,ho,hc,n,hd⟩,rs⟩:=r
   simp only[aS,G1] at h;subst h
   exact ⟨a,_,o,items,n,rfl,.inr rfl,ho,hc,hd,rs⟩
 obtain ⟨a,T,o,items,n,rfl,hT,ho,hc,hd,rs⟩:=key
 have hn:=rs.length
 simp only[DS] at hn
 refine call_list_seq a hT ho hc hd (fun h' c' k e=>?_) (by exact aB (au (ae [l.length,items.size] [(0,16777326),(1,0),(.a 16777326 111,1)] rfl (gO hl) (mf hn))))
 refine jn (Step.grow (o:=.lst l) (s':={ s with heap:=h' }) ok k ⟨mT ok,items,⟨c',e⟩,rs.keep (.of_keeps k)⟩ rfl rfl) .ref_ (q _ (ok.rel.fresh (ba _)))
theorem fH {a:Addr}{l:List V}(h:aS H (.ref a)=some l)(hl:l.length<=Dz)(q:Q (.tup l) H):bn C d (.type "tuple") [.ref a] H Q X:=fun A s cs ok rs=>by
 refine ad (dS rs) fun c hr161_1 r=>?_
 subst hr161_1
 dsimp only[VR] at r;subst r
 refine ad (dL ok.rel h) fun items hL rs=>?_
 have hn:=rs.length
 simp only[DS] at hn
 refine call_tuple_list hL (fun h' k=>?_) (by exact aB (au (ae [l.length,items.size] [(0,16777326),(1,0),(.a 16777326 111,1)] rfl (gO hl) (mf hn))))
 have k':∀ b o,s.heap.get? b=some o->(h'.push { cls:=.type "tuple",data:=.seq items }).get? b=some o:=fun b o e=>Dv _ (k b o e)
 exact qp (Step.keeps ok.rel ok.top k' rfl rfl) (by dsimp only[VR];exact ⟨_,items,⟨rfl,.of (DG _ rfl) rfl⟩,⟨_,DG _ rfl,rfl,_,rfl⟩,rs.keep (.of_keeps k')⟩) q
theorem ja {b:Bool}(q:Q (.int (if b=true then 1 else 0)) H):bn C d (.type "int") [.bool b] H Q X:=fun A s cs ok rs=>by
 refine ad (dS rs) fun c hr175_1 r=>?_
 subst hr175_1
 dsimp only[VR] at r;subst r
 exact call_int_bool (qp (ok.toks _) .int_ q)
theorem du {a:Addr}{l:List V}{x:V}(h:H a=some (.lst l))(hl:l.length<=Dz)(q:Q .none (an H a (.lst (l ++ [x])))):bn C d (.builtin "list.append") [.ref a,x] H Q X:=fun A s cs ok rs=>by
 refine aG (iM rs) fun c e hr180_2 r r'=>?_
 subst hr180_2
 dsimp only[VR] at r;subst r
 obtain ⟨h0,items,hL,rs⟩:=ok.rel _ _ h
 have hn:=rs.length
 simp only[DS] at hn
 refine wpAny_list_append_plain hL (fun h' hl' hs=>?_) (by exact aB (au (ae [l.length,items.size] [(0,16777326),(1,0),(.a 16777326 111,1)] rfl (gO hl) (mf hn))))
 refine jn (Step.mut (o:=.lst (l ++ [x])) (s':={ s with heap:=h' }) ok.rel ok.top (by rw[h];rfl) h0 hs (fun ob hob=>?_) (fun ob es ep hob hd=>?_) (fun vk=>⟨h0,_,hl',?_⟩) rfl rfl) .none_ q
 ·obtain ⟨n,e'⟩:=hL;rw[e'] at hob;cases hob;exact .inr (.inr ⟨"list",rfl,by decide,by decide⟩)
 ·refine aF hL fun n e'=>?_
  try clear hL
  rw[e'] at hob
  cases hob
  cases hd
 ·rw[G6];exact (rs.keep vk).append (aJ.cons (r'.keep vk) .nil)
noncomputable def jK (T:String) (b1 b2 b3 b4 b5:Bool):Option Bool :=
 if T = "int" then some b1 else if T = "bool" then some b2 else if T = "str" then some b3 else if T = "list" then some b4 else if T = "tuple" then some b5 else none
noncomputable def Ck (v:V) (T:String):Option Bool:=match v with
 | .int _=>jK T true false false false false
 | .bool _=>jK T true true false false false
 | .str _=>jK T false false true false false
 | .none=>jK T false false false false false
 | .tup _=>jK T false false false false true
 | _=>none
theorem ir {T:String}{b1 b2 b3 b4 b5 k:Bool}{P:String->Bool->Prop}(hk:jK T b1 b2 b3 b4 b5=some k)(h1:P "int" b1)(h2:P "bool" b2)(h3:P "str" b3)(h4:P "list" b4)(h5:P "tuple" b5):P T k:=by
 unfold jK at hk
 by_cases e:T = "int"
 ·rw[if_pos e] at hk;cases hk;rw[e];exact h1
 rw[if_neg e] at hk
 by_cases e:T = "bool"
 ·rw[if_pos e] at hk;cases hk;rw[e];exact h2
 rw[if_neg e] at hk
 by_cases e:T = "str"
 ·rw[if_pos e] at hk;cases hk;rw[e];exact h3
 rw[if_neg e] at hk
 by_cases e:T = "list"
 ·rw[if_pos e] at hk;cases hk;rw[e];exact h4
 rw[if_neg e] at hk
 by_cases e:T = "tuple"
 ·rw[if_pos e] at hk;cases hk;rw[e];exact h5
 rw[if_neg e] at hk;cases hk
theorem eq {v:V}{T:String}{k:Bool}(hG:C.G T (.type T))(hk:Ck v T=some k)(q:Q (.bool k) H):bn C d (.builtin "isinstance") [v,.glb T] H Q X:=fun A s cs ok rs=>by
 refine aG (iM rs) fun c e hr223_2 r r'=>?_
 subst hr223_2
 dsimp only[VR] at r';cases hG.uniq r'
 have q':∀ n,QP C H s Q (.bool k) { s with toks:=n }:=fun n=>qp (ok.toks n) .bool_ q
 have q0:QP C H s Q (.bool k) s:=qp ok.refl .bool_ q
 clear q hG
 revert q' q0
 cases v with
 | int i=>
  dsimp only[VR] at r;obtain ⟨t,rfl⟩:=r
  exact ir (P:=fun T k=>(∀ n,QP C H s Q (.bool k) { s with toks:=n })->QP C H s Q (.bool k) s->wpAny C.M A (call (.builtin "isinstance") [.int i t,.type T]) (QP C H s Q) (XQ false C No H s X) s) hk
   (fun q' q0=>IsiPair.int_int q0) (fun q' q0=>IsiPair.int_bool (q' _)) (fun q' q0=>IsiPair.int_str (q' _)) (fun q' q0=>IsiPair.int_list (q' _)) (fun q' q0=>IsiPair.int_tuple (q' _))
 | bool b=>
  dsimp only[VR] at r;subst r
  exact ir (P:=fun T k=>(∀ n,QP C H s Q (.bool k) { s with toks:=n })->QP C H s Q (.bool k) s->wpAny C.M A (call (.builtin "isinstance") [.bool b,.type T]) (QP C H s Q) (XQ false C No H s X) s) hk
   (fun q' q0=>IsiPair.bool_int q0) (fun q' q0=>IsiPair.bool_bool q0) (fun q' q0=>IsiPair.bool_str (q' _)) (fun q' q0=>IsiPair.bool_list (q' _)) (fun q' q0=>IsiPair.bool_tuple (q' _))
 | str x=>
  dsimp only[VR] at r;obtain ⟨t,rfl⟩:=r
  exact ir (P:=fun T k=>(∀ n,QP C H s Q (.bool k) { s with toks:=n })->QP C H s Q (.bool k) s->wpAny C.M A (call (.builtin "isinstance") [.str x t,.type T]) (QP C H s Q) (XQ false C No H s X) s) hk
   (fun q' q0=>IsiPair.str_int (q' _)) (fun q' q0=>IsiPair.str_bool (q' _)) (fun q' q0=>IsiPair.str_str q0) (fun q' q0=>IsiPair.str_list (q' _)) (fun q' q0=>IsiPair.str_tuple (q' _))
 | none=>
  dsimp only[VR] at r;subst r
  exact ir (P:=fun T k=>(∀ n,QP C H s Q (.bool k) { s with toks:=n })->QP C H s Q (.bool k) s->wpAny C.M A (call (.builtin "isinstance") [.none,.type T]) (QP C H s Q) (XQ false C No H s X) s) hk
   (fun q' q0=>IsiPair.NoneType_int (q' _)) (fun q' q0=>IsiPair.NoneType_bool (q' _)) (fun q' q0=>IsiPair.NoneType_str (q' _)) (fun q' q0=>IsiPair.NoneType_list (q' _)) (fun q' q0=>IsiPair.NoneType_tuple (q' _))
 | tup l=>
  dsimp only[VR] at r;obtain ⟨a,items,⟨rfl,nd⟩,⟨o,ho,hc,n,hd⟩,rs⟩:=r
  exact ir (P:=fun T k=>(∀ n,QP C H s Q (.bool k) { s with toks:=n })->QP C H s Q (.bool k) s->wpAny C.M A (call (.builtin "isinstance") [.ref a,.type T]) (QP C H s Q) (XQ false C No H s X) s) hk
   (fun q' q0=>IsiPair.tuple_int ho hc (q' _)) (fun q' q0=>IsiPair.tuple_bool ho hc (q' _)) (fun q' q0=>IsiPair.tuple_str ho hc (q' _)) (fun q' q0=>IsiPair.tuple_list ho hc (q' _)) (fun q' q0=>IsiPair.tuple_tuple ho hc q0)
 | _=>cases hk
theorem lD {a:Addr}{l:List V}{T:String}{k:Bool}(hG:C.G T (.type T))(h:aS H (.ref a)=some l)(hk:(T = "list" /\ k=true) ∨ (T = "int" /\ k=false) ∨ (T = "tuple" /\ k=false) ∨ (T = "bool" /\ k=false) ∨ (T = "str" /\ k=false))(q:Q (.bool k) H):bn C d (.builtin "isinstance") [.ref a,.glb T] H Q X:=fun A s cs ok rs=>by
 refine aG (iM rs) fun c e hr253_2 r r'=>?_
 subst hr253_2
 dsimp only[VR] at r';cases hG.uniq r'
 dsimp only[VR] at r;subst r
 refine ad (dL ok.rel h) fun items ho256_1 rs=>?_
 obtain ⟨o,ho,hc,n,hd⟩:=ho256_1
 rcases hk with ⟨rfl,rfl⟩ | ⟨rfl,rfl⟩ | ⟨rfl,rfl⟩ | ⟨rfl,rfl⟩ | ⟨rfl,rfl⟩
 ·exact IsiPair.list_list ho hc (qp ok.refl .bool_ q)
 ·exact IsiPair.list_int ho hc (qp (ok.toks _) .bool_ q)
 ·exact IsiPair.list_tuple ho hc (qp (ok.toks _) .bool_ q)
 ·exact IsiPair.list_bool ho hc (qp (ok.toks _) .bool_ q)
 ·exact IsiPair.list_str ho hc (qp (ok.toks _) .bool_ q)
noncomputable def eD {κ:Type} [DecidableEq κ] (l:List (κ × V)) (k:κ):Option V:=(l.find? (fun p=>decide (p.1=k))).map (·.2)
theorem gA {κ:Type}[DecidableEq κ]{h:Heap}{k:κ}{x:V}:∀ {l:List (κ × V)} {kvs:List (κ × Value)},kvs.map (·.1)=l.map (·.1)->aJ C h (l.map (·.2)) (kvs.map (·.2))->eD l k=some x -> ∃ v,valueAt kvs k=some v/\VR C h x v
 | [],_,_,_,e=>by simp[eD] at e
 | (a,b)::l,kvs,m,r,e=>by
  cases kvs with
  | nil=>simp at m
  | cons p kvs=>
   obtain ⟨a',b'⟩:=p
   simp only[D3,HA] at m r
   obtain ⟨rfl,m⟩:=m
   unfold eD at e
   unfold valueAt
   by_cases hk:a'=k
   ·simp only[EQ,hk,decide_true,Option.map_some,G1] at e ⊢
    subst e;exact ⟨b',rfl,r.head⟩
   ·simp only[EQ,hk,decide_false] at e ⊢
    exact gA m r.tail e
theorem bT {a:Addr}{l:List (Str × V)}{k:Str}{x:V}(h:H a=some (.dcs l))(hx:eD l k=some x)(q:Q x H):fR C d (.ref a) (.str k) H Q X:=fun A s co ci ok ro ri=>by
 dsimp only[VR] at ro;dsimp only[VR] at ri;subst ro;obtain ⟨t,rfl⟩:=ri
 obtain ⟨h0,hs,kvs,hD,hm,rs⟩:=ok.rel _ _ h
 refine ad (gA hm rs hx) fun v hv r=>?_
 exact ⟨uG hD.typeIs slot_dict_getitem.lookup,wpAny_getItem_of (knd:=PySem.strKind C.prog C.w) (k:=k) (by simp[PySem.strKind,Value.isStrOf]) hD.mapOf hv (qp (ok.toks _) r q)⟩
end
end
section
open PySem
section
variable (C:Cx)(d:Md)
noncomputable abbrev Cr (op:Gg) (a:V) (Q:V->MH->Prop) (X:XP):V->MH->Prop:=fun b H2=>fQ C d op a b H2 Q X
noncomputable abbrev Cq (op:Gg) (r:Ex) (ρ:Lo) (Q:V->MH->Prop) (X:XP):V->MH->Prop:=fun a H1=>aU C d r ρ H1 (Cr C d op a Q X) X
noncomputable abbrev CL (op:Hq) (Q:V->MH->Prop) (X:XP):V->MH->Prop:=fun a H1=>pp C d op a H1 Q X
noncomputable abbrev Cs (op:FO) (a:V) (Q:V->MH->Prop) (X:XP):V->MH->Prop:=fun b H2=>bX C d op a b H2 Q X
noncomputable abbrev BL (op:FO) (r:Ex) (ρ:Lo) (Q:V->MH->Prop) (X:XP):V->MH->Prop:=fun a H1=>aU C d r ρ H1 (Cs C d op a Q X) X
noncomputable abbrev sp (P:Bool->MH->Prop) (X:XP):V->MH->Prop:=fun v H1=>eI C d v H1 P X
noncomputable abbrev BN (Q:V->MH->Prop):List V->MH->Prop:=fun vs H1=>vs.length<=Dz /\ ∀ a,H1 a=none->Q (.ref a) (an H1 a (.lst vs))
noncomputable abbrev CK (Q:V->MH->Prop):List V->MH->Prop:=fun vs H1=>vs.length<=Dz/\Q (.tup vs) H1
noncomputable abbrev Ct (ks:List String) (Q:V->MH->Prop):List V->MH->Prop:=fun vs H1=>zx ks vs H1 Q
noncomputable abbrev CH (a:V) (Q:V->MH->Prop) (X:XP):V->MH->Prop:=fun b H2=>fR C d a b H2 Q X
noncomputable abbrev CG (i:Ex) (ρ:Lo) (Q:V->MH->Prop) (X:XP):V->MH->Prop:=fun a H1=>aU C d i ρ H1 (CH C d a Q X) X
noncomputable abbrev CA (a b c:V) (Q:V->MH->Prop) (X:XP):V->MH->Prop:=fun e H4=>s_ C d a b c e H4 Q X
noncomputable abbrev Cz (a b:V) (t:Ex) (ρ:Lo) (Q:V->MH->Prop) (X:XP):V->MH->Prop:=fun c H3=>aU C d t ρ H3 (CA C d a b c Q X) X
noncomputable abbrev Cy (a:V) (u t:Ex) (ρ:Lo) (Q:V->MH->Prop) (X:XP):V->MH->Prop:=fun b H2=>aU C d u ρ H2 (Cz C d a b t ρ Q X) X
noncomputable abbrev Cw (l u t:Ex) (ρ:Lo) (Q:V->MH->Prop) (X:XP):V->MH->Prop:=fun a H1=>aU C d l ρ H1 (Cy C d a u t ρ Q X) X
noncomputable abbrev BS (fv:Value) (Q:V->MH->Prop) (X:XP):List V->MH->Prop:=fun vs H1=>bn C d fv vs H1 Q X
noncomputable abbrev CN (f:String) (Q:V->MH->Prop) (X:XP):List V->MH->Prop:=fun vs H1=>bB C d f vs H1 Q X
noncomputable abbrev BP (fv:Value) (ov:V) (Q:V->MH->Prop) (X:XP):List V->MH->Prop:=fun vs H2=>bn C d fv (ov::vs) H2 Q X
noncomputable abbrev BO (m:String) (es:List Ex) (ρ:Lo) (Q:V->MH->Prop) (X:XP):V->MH->Prop:=fun ov H1=>∃ fv,j_ C d ov m fv H1/\fm C fv/\dq C d es ρ H1 (BP C d fv ov Q X) X
noncomputable abbrev Cm (a:String) (Q:V->MH->Prop) (X:XP):V->MH->Prop:=fun ov H1=>v3 C d ov a H1 Q X
noncomputable abbrev CD (Q':Option V->MH->Prop):V->MH->Prop:=fun v H4=>Q' (some v) H4
noncomputable abbrev CC (elt:Ex) (ifs:List Ex) (ρ:Lo) (X:XP):List V->MH->(Option V->MH->Prop)->Prop:=fun vs H2 Q'=>gL C d ifs (ρ++vs.map some) H2 (fun t H3=>if t=true then aU C d elt (ρ++vs.map some) H3 (CD Q') X else Q' none H3) X
noncomputable abbrev CB (k:Nat) (elt:Ex) (ifs:List Ex) (ρ:Lo) (Q:V->MH->Prop) (X:XP):V->MH->Prop:=fun iv H1=>∃ all,gM d iv/\aS H1 iv=some all/\all.length<=Dz/\jr k iv all (CC C d elt ifs ρ X) all [] H1 (BN Q)
noncomputable abbrev Am (v:V) (Q:List V->MH->Prop):List V->MH->Prop:=fun vs H2=>Q (v::vs) H2
noncomputable abbrev Cu (es:List Ex) (ρ:Lo) (Q:List V->MH->Prop) (X:XP):V->MH->Prop:=fun v H1=>dq C d es ρ H1 (Am v Q) X
noncomputable abbrev kX (X:XS) (ρ:Lo):XP:=fun c H1=>X c ρ H1
noncomputable abbrev Cp (ts:List St) (ρ:Lo) (i:Nat) (K:KP) (X:XS):V->MH->Prop:=fun v H1=>aM C d ts (ls ρ i v) H1 K X
noncomputable abbrev CM (ts:List St) (ρ:Lo) (is:List Nat) (K:KP) (X:XS):V->MH->Prop:=fun v H1=>∃ l,v = .tup l/\gM d v/\l.length=is.length/\aM C d ts (j1 ρ is l) H1 K X
noncomputable abbrev BQ (ts:List St) (ρ:Lo) (K:KP) (X:XS):MH->Prop:=fun H4=>aM C d ts ρ H4 K X
noncomputable abbrev CT (v ov:V) (ts:List St) (ρ:Lo) (K:KP) (X:XS):V->MH->Prop:=fun iv H3=>k6 C d ov iv v H3 (BQ C d ts ρ K X) (kX X ρ)
noncomputable abbrev CS (v:V) (i:Ex) (ts:List St) (ρ:Lo) (K:KP) (X:XS):V->MH->Prop:=fun ov H2=>aU C d i ρ H2 (CT C d v ov ts ρ K X) (kX X ρ)
noncomputable abbrev CR (o i:Ex) (ts:List St) (ρ:Lo) (K:KP) (X:XS):V->MH->Prop:=fun v H1=>aU C d o ρ H1 (CS C d v i ts ρ K X) (kX X ρ)
noncomputable abbrev CQ (v:V) (a:String) (ts:List St) (ρ:Lo) (K:KP) (X:XS):V->MH->Prop:=fun ov H2=>s9 C d ov a v H2 (BQ C d ts ρ K X) (kX X ρ)
noncomputable abbrev CP (o:Ex) (a:String) (ts:List St) (ρ:Lo) (K:KP) (X:XS):V->MH->Prop:=fun v H1=>aU C d o ρ H1 (CQ C d v a ts ρ K X) (kX X ρ)
noncomputable abbrev BM (ts:List St) (ρ:Lo) (K:KP) (X:XS):V->MH->Prop:=fun zz H1=>aM C d ts ρ H1 K X
noncomputable abbrev CE (ρ:Lo) (K:KP):V->MH->Prop:=fun v H1=>K (.ret v) ρ H1
noncomputable abbrev CJ (ts:List St) (K:KP) (X:XS):KP:=fun f ρ' H'=>match f with | .next=>aM C d ts ρ' H' K X | .ret v=>K (.ret v) ρ' H'
noncomputable abbrev BR (body:List St) (X:XS):Lo->MH->KP->Prop:=fun ρ' H' K'=>aM C d body ρ' H' K' X
noncomputable abbrev An (R:Lo->MH->Prop) (K:KP):KP:=fun f ρ' H'=>match f with | .next=>R ρ' H' | .ret v=>K (.ret v) ρ' H'
noncomputable abbrev Co (R:List V->MH->Prop) (acc:List V):Option V->MH->Prop:=fun r H'=>R (match r with | some v=>acc ++ [v] | none=>acc) H'
noncomputable abbrev Cv (k:List Nat) (body ts:List St) (ρ:Lo) (K:KP) (X:XS):V->MH->Prop:=fun v H1=>∃ all,gM d v/\aS H1 v=some all/\iY k (.pl v) all (BR C d body X) all ρ H1 (CJ C d ts K X)
noncomputable abbrev CF (Q:V->MH->Prop):KP:=fun f zz H'=>match f with | .ret v=>Q v H' | .next=>Q .none H'
noncomputable abbrev CO (X:XP):XS:=fun c zz H'=>X c H'
end
section
variable {C:Cx}{d:Md}{ρ:Lo}{H:MH}{Q:V->MH->Prop}{X:XP}
theorem ag {i:Nat}{v:V}(h:lk ρ i=some v)(q:Q v H):aU C d (.nm i) ρ H Q X:=⟨v,h,q⟩
theorem fF {x:String}{cv:Value}(hG:C.G x cv)(q:Q (.glb x) H):aU C d (.gl x) ρ H Q X:=⟨.glb x,cv,hG,by dsimp only[VR];exact hG,q⟩
theorem aO {i:Int}(q:Q (.int i) H):aU C d (.ci i) ρ H Q X:=q
theorem aZ {x:String}(q:Q (.str (Dn x)) H):aU C d (.cs x) ρ H Q X:=q
theorem zy {b:Bool}(q:Q (.bool b) H):aU C d (.cb b) ρ H Q X:=q
theorem cH (q:Q .none H):aU C d .cn ρ H Q X:=q
theorem aE {op:Gg}{l r:Ex}(q:aU C d l ρ H (Cq C d op r ρ Q X) X):aU C d (.bin op l r) ρ H Q X:=q
theorem kZ {op:Hq}{e:Ex}(q:aU C d e ρ H (CL C d op Q X) X):aU C d (.una op e) ρ H Q X:=q
theorem c6 {op:FO}{l r:Ex}(q:aU C d l ρ H (BL C d op r ρ Q X) X):aU C d (.cmp op l r) ρ H Q X:=q
theorem zA {op op':FO}{l m r:Ex}(q:aU C d l ρ H (fun a H1=>aU C d m ρ H1 (fun b H2=>bX C d op a b H2 (fun c H3=>eI C d c H3 (fun t H4=>
   if t=true then aU C d r ρ H4 (fun b' H5=>bX C d op' b b' H5 Q X) X else Q c H4) X) X) X) X):aU C d (.cmp2 op op' l m r) ρ H Q X:=q
theorem mB {op:EY}{es:List Ex}(q:j8 C d op es ρ H Q X):aU C d (.bop op es) ρ H Q X:=q
theorem xG {c a b:Ex}(q:dH C d c ρ H (fun t H1=>if t=true then aU C d a ρ H1 Q X else aU C d b ρ H1 Q X) X):aU C d (.ife c a b) ρ H Q X:=q
theorem bu {es:List Ex}(q:dq C d es ρ H (BN Q) X):aU C d (.lst es) ρ H Q X:=q
theorem bJ {es:List Ex}(q:dq C d es ρ H (CK Q) X):aU C d (.tup es) ρ H Q X:=q
theorem xF {k:Nat}(q:∀ a,H a=none->Q (.ref a) (an H a (match k with | 0=>.dci [] | 1=>.dcs [] | _=>.prd (eK [])))):aU C d (.emp k) ρ H Q X:=q
theorem xE {ks:List String}{es:List Ex}(q:dq C d es ρ H (Ct ks Q) X):aU C d (.dct ks es) ρ H Q X:=q
theorem aQ {o i:Ex}(q:aU C d o ρ H (CG C d i ρ Q X) X):aU C d (.sub o i) ρ H Q X:=q
theorem gQ {o l u t:Ex}(q:aU C d o ρ H (Cw C d l u t ρ Q X) X):aU C d (.sli o l u t) ρ H Q X:=q
theorem aA {f:String}{fv:Value}{es:List Ex}(hG:C.G f fv)(hc:fm C fv)(q:dq C d es ρ H (BS C d fv Q X) X):aU C d (.call f es) ρ H Q X:=by
 have e:∀ vs H1,bn C d fv vs H1 Q X ↔ bB C d f vs H1 Q X:=fun vs H1=>⟨fun h=>pF hG h,fun h=>h fv hG⟩
 have q':dq C d es ρ H (fun vs H1=>bB C d f vs H1 Q X) X:=by
  rw[<- show BS C d fv Q X=fun vs H1=>bB C d f vs H1 Q X from funext fun vs=>funext fun H1=>propext (e vs H1)];exact q
 exact ⟨⟨fv,hG,hc⟩,q'⟩
theorem bG {o:Ex}{m:String}{es:List Ex}(q:aU C d o ρ H (BO C d m es ρ Q X) X):aU C d (.meth o m es) ρ H Q X:=q
theorem b7 {o:Ex}{a:String}(q:aU C d o ρ H (Cm C d a Q X) X):aU C d (.att o a) ρ H Q X:=q
theorem cU {k:Nat}{elt it:Ex}{ifs:List Ex}(q:aU C d it ρ H (CB C d k elt ifs ρ Q X) X):aU C d (.comp k elt it ifs) ρ H Q X:=q
theorem ah {Q:List V->MH->Prop}(q:Q [] H):dq C d [] ρ H Q X:=q
theorem ac {Q:List V->MH->Prop}{e:Ex}{es:List Ex}(q:aU C d e ρ H (Cu C d es ρ Q X) X):dq C d (e::es) ρ H Q X:=q
theorem mA {op:EY}{e:Ex}(q:aU C d e ρ H Q X):j8 C d op [e] ρ H Q X:=q
theorem zw {op:EY}{e e':Ex}{es:List Ex}(q:aU C d e ρ H (fun v H1=>eI C d v H1 (fun t H2=>if (op = .And/\t=false) ∨ (op = .Or/\t=true) then Q v H2 else j8 C d op (e'::es) ρ H2 Q X) X) X):j8 C d op (e::e'::es) ρ H Q X:=by
 exact q
variable {P:Bool->MH->Prop}
theorem b8 {e:Ex}(q:dH C d e ρ H (fun t H1=>P (!t) H1) X):dH C d (.una .Not e) ρ H P X:=q
theorem cO {op:EY}{es:List Ex}(q:iH C d op es ρ H P X):dH C d (.bop op es) ρ H P X:=q
theorem zE {op op':FO}{l m r:Ex}(q:aU C d l ρ H (fun a H1=>aU C d m ρ H1 (fun b H2=>bX C d op a b H2 (fun c H3=>eI C d c H3 (fun t H4=>
   if t=true then aU C d r ρ H4 (fun b' H5=>bX C d op' b b' H5 (fun c' H6=>eI C d c' H6 P X) X) X else P false H4) X) X) X) X):dH C d (.cmp2 op op' l m r) ρ H P X:=q
theorem zF {i:Nat}(q:aU C d (.nm i) ρ H (sp C d P X) X):dH C d (.nm i) ρ H P X:=q
theorem tc {op:FO}{l r:Ex}(q:aU C d (.cmp op l r) ρ H (sp C d P X) X):dH C d (.cmp op l r) ρ H P X:=q
theorem bP {f:String}{es:List Ex}(q:aU C d (.call f es) ρ H (sp C d P X) X):dH C d (.call f es) ρ H P X:=q
theorem iJ (q:P true H):iH C d .And [] ρ H P X:=q
theorem cM (q:P false H):iH C d .Or [] ρ H P X:=q
theorem eE {e:Ex}{es:List Ex}(q:dH C d e ρ H (fun t H1=>if t=true then iH C d .And es ρ H1 P X else P false H1) X):iH C d .And (e::es) ρ H P X:=by
 have e:∀ (t:Bool) (H1:MH),(if t=true then iH C d .And es ρ H1 P X else P false H1) ↔ (if (EY.And = .And/\t=false) ∨ (EY.And = .Or/\t=true) then P t H1 else iH C d .And es ρ H1 P X):=fun t H1=>by cases t <;> simp
 rw[funext fun t=>funext fun H1=>propext (e t H1)] at q
 exact q
theorem cC {e:Ex}{es:List Ex}(q:dH C d e ρ H (fun t H1=>if t=true then P true H1 else iH C d .Or es ρ H1 P X) X):iH C d .Or (e::es) ρ H P X:=by
 have e:∀ (t:Bool) (H1:MH),(if t=true then P true H1 else iH C d .Or es ρ H1 P X) ↔ (if (EY.Or = .And/\t=false) ∨ (EY.Or = .Or/\t=true) then P t H1 else iH C d .Or es ρ H1 P X):=fun t H1=>by cases t <;> simp
 rw[funext fun t=>funext fun H1=>propext (e t H1)] at q
 exact q
theorem dR (q:P true H):gL C d [] ρ H P X:=q
theorem gY {e:Ex}{es:List Ex}(q:dH C d e ρ H (fun t H1=>if t=true then gL C d es ρ H1 P X else P false H1) X):gL C d (e::es) ρ H P X:=q
end
section
variable {C:Cx}{d:Md}{ρ:Lo}{H:MH}{K:KP}{X:XS}{ts:List St}
theorem aR (q:K .next ρ H):aM C d [] ρ H K X:=by dsimp only[aM];exact q
theorem uc {as bs:List St}:∀ {ρ:Lo} {H:MH} {K:KP},aM C d (as++bs) ρ H K X ↔ aM C d as ρ H (fun f ρ' H'=>match f with | .next=>aM C d bs ρ' H' K X | .ret v=>K (.ret v) ρ' H') X:=by
 induction as with
 | nil=>intro ρ H K;rw[GC];exact ⟨fun h=>by dsimp only[aM];exact h,fun h=>by dsimp only[aM] at h;exact h⟩
 | cons a as ih=>
  intro ρ H K
  (rw[List.cons_append];dsimp only[aM,aM])
  refine Iff.of_eq (congrArg (fun K=>dG C d a ρ H K X) ?_)
  funext f ρ' H'
  cases f with
  | next=>exact propext ih
  | ret v=>rfl
theorem aC {i:Nat}{e:Ex}(q:aU C d e ρ H (Cp C d ts ρ i K X) (kX X ρ)):aM C d (.asg i e::ts) ρ H K X:=by dsimp only[aM,dG];exact q
theorem hW {is:List Nat}{e:Ex}(q:aU C d e ρ H (CM C d ts ρ is K X) (kX X ρ)):aM C d (.unp is e::ts) ρ H K X:=by dsimp only[aM,dG];exact q
theorem eu {o i e:Ex}(q:aU C d e ρ H (CR C d o i ts ρ K X) (kX X ρ)):aM C d (.seti o i e::ts) ρ H K X:=by dsimp only[aM,dG];exact q
theorem dJ {o:Ex}{a:String}{e:Ex}(q:aU C d e ρ H (CP C d o a ts ρ K X) (kX X ρ)):aM C d (.seta o a e::ts) ρ H K X:=by dsimp only[aM,dG];exact q
theorem cD {e:Ex}(q:aU C d e ρ H (BM C d ts ρ K X) (kX X ρ)):aM C d (.exp e::ts) ρ H K X:=by dsimp only[aM,dG];exact q
theorem aX {e:Ex}(q:aU C d e ρ H (CE ρ K) (kX X ρ)):aM C d (.ret e::ts) ρ H K X:=by dsimp only[aM,dG];exact q
theorem aI {c:Ex}{a b:List St}(q:dH C d c ρ H (fun t H1=>if t=true then aM C d (a++ts) ρ H1 K X else aM C d (b++ts) ρ H1 K X) (kX X ρ)):aM C d (.ife c a b::ts) ρ H K X:=by
 simp only[uc] at q
 dsimp only[aM,dG];exact q
theorem ch {k:List Nat}{sv:Sv}{all:List V}{stp:Lo->MH->KP->Prop}{K:KP}(P:Nat->Lo->MH->Prop)(P0:P 0 ρ H)
  (rnd:∀ i x ρ H (R:Lo->MH->Prop),P i ρ H->all[i]? = some x->(∀ ρ' H',P (i+1) ρ' H'->R ρ' H')->cz H sv=some all /\ ∃ vs,parts k.length x=some vs/\stp (j1 ρ k vs) H (An R K))
  (fin:∀ ρ H,P all.length ρ H->cz H sv=some all/\K .next ρ H):iY k sv all stp all ρ H K:=by
 have key:∀ n i ρ H,i+n=all.length->P i ρ H->iY k sv all stp (all.drop i) ρ H K:=by
  intro n
  induction n with
  | zero=>
   intro i ρ H e p
   (rw[E3 (by exact au (ae [all.length,i] [(0,20),(21,0)] rfl (mf e)))];dsimp only[iY])
   have:i=all.length:=by exact cy (ae [all.length,i] [(0,20),(21,0)] rfl (mf e)) (ae [i,all.length] [(10,1),(21,0)] rfl (me e))
   subst this
   exact fin ρ H p
  | succ n ih=>
   intro i ρ H e p
   have hi:i<all.length:=by exact be (ae [i,n,all.length] [(.a 0 21,2),(2,0)] rfl (me e))
   (rw[EF hi];dsimp only[iY])
   exact rnd i all[i] ρ H (fun ρ' H'=>iY k sv all stp (all.drop (i+1)) ρ' H' K) p (DA hi) fun ρ' H' p'=>ih (i+1) ρ' H' (by exact cy (ae [all.length,i,n] [(0,.a 1 31),(.a (.a 21 2) 111,0)] rfl (mf e)) (ae [i,n,all.length] [(.a 0 21,2),(31,.a 11 1)] rfl (me e))) p'
 simpa using key all.length 0 ρ H (by exact cy (ae [all.length] [(.a (.a 110 0) 111,0)] rfl) (ae [all.length] [(11,.a 110 0)] rfl)) P0
theorem cq {k:Nat}{iv:V}{all:List V}{stp:List V->MH->(Option V->MH->Prop)->Prop}{K:List V->MH->Prop}(P:Nat->List V->MH->Prop)(P0:P 0 [] H)
  (rnd:∀ i x acc H (R:List V->MH->Prop),P i acc H->all[i]? = some x->(∀ acc' H',P (i+1) acc' H'->R acc' H')->aS H iv=some all /\ ∃ vs,parts k x=some vs/\stp vs H (Co R acc))
  (fin:∀ acc H,P all.length acc H->aS H iv=some all/\K acc H):jr k iv all stp all [] H K:=by
 have key:∀ n i acc H,i+n=all.length->P i acc H->jr k iv all stp (all.drop i) acc H K:=by
  intro n
  induction n with
  | zero=>
   intro i acc H e p
   (rw[E3 (by exact au (ae [all.length,i] [(0,20),(21,0)] rfl (mf e)))];dsimp only[jr])
   have:i=all.length:=by exact cy (ae [all.length,i] [(0,20),(21,0)] rfl (mf e)) (ae [i,all.length] [(10,1),(21,0)] rfl (me e))
   subst this
   exact fin acc H p
  | succ n ih=>
   intro i acc H e p
   have hi:i<all.length:=by exact be (ae [i,n,all.length] [(.a 0 21,2),(2,0)] rfl (me e))
   (rw[EF hi];dsimp only[jr])
   exact rnd i all[i] acc H (fun acc' H'=>jr k iv all stp (all.drop (i+1)) acc' H' K) p (DA hi) fun acc' H' p'=>ih (i+1) acc' H' (by exact cy (ae [all.length,i,n] [(0,.a 1 31),(.a (.a 21 2) 111,0)] rfl (mf e)) (ae [i,n,all.length] [(.a 0 21,2),(31,.a 11 1)] rfl (me e))) p'
 simpa using key all.length 0 [] H (by exact cy (ae [all.length] [(.a (.a 110 0) 111,0)] rfl) (ae [all.length] [(11,.a 110 0)] rfl)) P0
theorem cA {k:List Nat}{e:Ex}{body:List St}(q:aU C d e ρ H (Cv C d k body ts ρ K X) (kX X ρ)):aM C d (.for k (.pl e) body::ts) ρ H K X:=by dsimp only[aM,dG,rd];exact q
theorem xY {k:List Nat}{e:Ex}{body:List St}(hG:C.G "enumerate" (.type "enumerate"))(q:aU C d e ρ H (fun v H1=>∃ all,(d.q=true/\gM d v)/\cz H1 (.en v)=some all/\iY k (.en v) all (fun ρ' H' K'=>aM C d body ρ' H' K' X) all ρ H1
   (fun f ρ' H'=>match f with | .next=>aM C d ts ρ' H' K X | .ret v=>K (.ret v) ρ' H')) (kX X ρ)):aM C d (.for k (.en e) body::ts) ρ H K X:=by dsimp only[aM,dG,rd];exact ⟨hG,q⟩
theorem zt {tst:Lo->MH->(Bool->MH->Prop)->Prop}{stp:Lo->MH->KP->Prop}{K:KP}(P:Nat->Lo->MH->Prop) 
  (rnd:∀ n ρ H (R:Lo->MH->Prop),P n ρ H->(∀ m ρ' H',m<n->P m ρ' H'->R ρ' H')->tst ρ H (fun t H1=>if t=true then stp ρ H1 (fun f ρ' H'=>match f with | .next=>R ρ' H' | .ret v=>K (.ret v) ρ' H') else K .next ρ H1)):∀ n ρ H,P n ρ H -> ∀ m,n<m->oR tst stp m ρ H K:=by
 intro n
 induction n using Nat.strongRecOn with
 | ind n ih=>
  intro ρ H p m hm
  cases m with
  | zero=>lia
  | succ m=>
   dsimp only[oR]
   exact rnd n ρ H (fun ρ' H'=>oR tst stp m ρ' H' K) p fun m' ρ' H' hm' p'=>ih m' hm' ρ' H' p' m (by exact be (ae [n,m,m'] [(11,21),(31,0),(1,2)] rfl hm hm'))
theorem zD {c:Ex}{body:List St}(n:Nat)(q:oR (fun ρ' H' Q=>dH C d c ρ' H' Q (fun c H1=>X c ρ' H1)) (fun ρ' H' K'=>aM C d body ρ' H' K' X) n ρ H (fun f ρ' H'=>match f with | .next=>aM C d ts ρ' H' K X | .ret v=>K (.ret v) ρ' H')):aM C d (.whl c body::ts) ρ H K X:=by dsimp only[aM,dG];exact ⟨n,q⟩
end
noncomputable def bq (C:Cx) (f:String) (vs:Vs) (np:Nat) (body:List St):Prop :=
 ∃ fa o fd,C.mg (Dn f)=some (.ref fa)/\C.h0.get? fa=some o/\o.data = .func fd/\C.h0.CodeRec fd.code fd.qualname/\l7 fd vs np body=true
section
variable {C:Cx}{n:Nat}{q:Bool}{ρ:Lo}{H:MH}{Q:V->MH->Prop}{X:XP}
theorem bq.fn {f:String}{vs:Vs}{np:Nat}{body:List St}(D:bq C f vs np body):Fn C f:=by
 refine cR D fun fa o fd hg ho hd hc hk=>?_
 try clear D
 exact ⟨.ref fa,.inl hg,oq ho hd⟩
theorem bq.call {f:String}{vs:Vs}{np:Nat}{body:List St}{args:List V}(G:C.Good)(D:bq C f vs np body)(hl:args.length=np)
  (h:aM C ⟨n,q⟩ body (args.map some++DN (vs.length-np) none) H (CF Q) (CO X)):bB C ⟨n+1,q⟩ f args H Q X:=by
 refine cR D fun fa o fd hg ho hd hc hk=>?_
 try clear D
 exact pF (.inl hg) (rZ G ho hd hc hk hl h)
theorem bw {d:Md}{f:String}{es:List Ex}(hF:Fn C f)(h:dq C d es ρ H (CN C d f Q X) X):aU C d (.call f es) ρ H Q X:=⟨hF,h⟩
end
noncomputable def ay (H H':MH):Prop:=∀ a o,H a=some o->H' a=some o
theorem ay.refl (H:MH):ay H H:=fun zz zz e=>e
theorem ay.trans {H H' H'':MH}(x:ay H H')(y:ay H' H''):ay H H'':=fun a o e=>y a o (x a o e)
theorem ay.new {H:MH}{a:Addr}{o:O}(h:H a=none):ay H (an H a o):=fun b o' e=>by
 rw[aP]
 ·exact e
 ·rintro rfl;rw[h] at e;cases e
theorem ay.more {H H':MH}{a:Addr}{o:O}(x:ay H H')(h:H' a=none):ay H (an H' a o):=x.trans (.new h)
theorem ay.items {H H':MH}(x:ay H H'){v:V}{l:List V}(h:aS H v=some l):aS H' v=some l:=by
 cases v with
 | ref a=>
  simp only[aS] at h ⊢
  cases e:H a with
  | none=>rw[e] at h;cases h
  | some o=>rw[e] at h;rw[x a o e];exact h
 | _=>exact h
theorem aW {H:MH}{a:Addr}{l:List V}:aS (an H a (.lst l)) (.ref a)=some l:=by simp only[aS,aj]
theorem af {H:MH}{a:Addr}{l:List V}(h:H a=some (.lst l)):aS H (.ref a)=some l:=by simp only[aS,h]
theorem kt {H:MH}{a:Addr}{l:List V}(h:H a=some (.fro l)):aS H (.ref a)=some l:=by simp only[aS,h]
theorem kI {a b:Int}:dB a b 1=(DU (b-a).toNat).map fun (k:Nat)=>V.int (a+(k:Int)):=by
 unfold dB
 rw[rangeSize_one]
 by_cases h:a<b
 ·rw[if_pos h];simp
 ·rw[if_neg h];simp;exact aY (am [b,a] [(0,1),(.a 110 111,.s 0 1)] rfl (zn h))
theorem c9 {a b:Int}:(dB a b 1).length=(b-a).toNat:=by rw[kI];simp
theorem eA {a b:Int}{i:Nat}{x:V}(h:(dB a b 1)[i]? = some x):x = .int (a+i)/\(i:Int)<b-a:=by
 rw[kI,DC] at h
 cases e:(DU (b-a).toNat)[i]? with
 | none=>rw[e] at h;cases h
 | some j=>
  rw[e] at h
  have:=DD.mp e
  refine aF this fun hi ej=>?_
  try clear this
  simp at hi ej h
  subst ej
  exact ⟨h.symm,by exact bE (am [i,b,a] [(11,.s 1 2),(.s 1 2,0)] rfl hi)⟩
end
section
open PySem PyProof.Rows
section
variable {C:Cx}{d:Md}{H:MH}
theorem oI {a:Addr}{l:List V}{m id:String}(h:H a=some (.lst l))(slot:Slot "list" (Dn m) id)(ty:typeOf (.builtin id)=pure (.type "method_descriptor")):j_ C d (.ref a) m (.builtin id) H:=fun A s co pl Q E ok r q=>by
 dsimp only[VR] at r;subst r
 obtain ⟨_,items,⟨n,ho⟩,rs⟩:=ok.rel _ _ h
 exact getMethod_builtin (T := "list") ⟨_,ho,rfl⟩ PySem.F.plainAttrs_list slot ty (fun a e=>by cases e;exact ⟨_,ho,rfl⟩) q
theorem cL {a:Addr}{l:List V}(h:H a=some (.lst l)):j_ C d (.ref a) "append" (.builtin "list.append") H:=oI h PySem.F.slot_list_append PySem.F.type_list_append
end
noncomputable def fL:List (String × Value):=[("len",.builtin "len"),("range",.type "range"),("list",.type "list"),("tuple",.type "tuple"),("int",.type "int"),("bool",.type "bool"),("str",.type "str"),("dict",.type "dict"),("isinstance",.builtin "isinstance"),("enumerate",.type "enumerate"),("min",.builtin "min"),("max",.builtin "max"),("all",.builtin "all"),("any",.builtin "any"),("sorted",.builtin "sorted"),("set",.type "set"),("zip",.type "zip"),("sum",.builtin "sum")]
structure Std (C:Cx):Prop where
 n_len:C.G "len" (.builtin "len")
 n_range:C.G "range" (.type "range")
 n_list:C.G "list" (.type "list")
 n_tuple:C.G "tuple" (.type "tuple")
 n_int:C.G "int" (.type "int")
 n_bool:C.G "bool" (.type "bool")
 n_str:C.G "str" (.type "str")
 n_dict:C.G "dict" (.type "dict")
 n_isinstance:C.G "isinstance" (.builtin "isinstance")
 n_enumerate:C.G "enumerate" (.type "enumerate")
 n_min:C.G "min" (.builtin "min")
 n_max:C.G "max" (.builtin "max")
 n_all:C.G "all" (.builtin "all")
 n_any:C.G "any" (.builtin "any")
 n_sorted:C.G "sorted" (.builtin "sorted")
 n_set:C.G "set" (.type "set")
 n_zip:C.G "zip" (.type "zip")
 n_sum:C.G "sum" (.builtin "sum")
end
section
open PySem PyProof.Rows
theorem bc {C:Cx}{d:Md}{H:MH}{Q:V->MH->Prop}{X:XP}{a b:Int}(hb:0<b)(q:Q (.int (a % b)) H):fQ C d .Mod (.int a) (.int b) H Q X :=
 yd (by exact f9 (am [b] [(.a 110 111,0),(0,110),(.w 0 110,0)] rfl hb)) (by rw[Int.fmod_eq_emod_of_nonneg _ (by exact aY (am [b] [(.a 110 111,0),(11,110)] rfl hb))];exact q)
theorem bj {C:Cx}{d:Md}{H:MH}{Q:V->MH->Prop}{X:XP}{a b:Int}(hb:0<b)(hs:b<1073741824)(q:Q (.int (a / b)) H):fQ C d .FloorDiv (.int a) (.int b) H Q X :=
 v7 (by exact f9 (am [b] [(.a 110 111,0),(0,110),(.w 0 110,0)] rfl hb)) (PyProof.noPylong_small (by omega)) (by rw[Int.fdiv_eq_ediv_of_nonneg _ (by exact aY (am [b] [(.a 110 111,0),(11,110)] rfl hb))];exact q)
theorem ju {C:Cx}{d:Md}{ρ:Lo}{H:MH}{Q:V->MH->Prop}{X:XP}{e e':Ex}{es:List Ex}(q:aU C d e ρ H (fun v H1=>eI C d v H1 (fun t H2=>if t=true then j8 C d .And (e'::es) ρ H2 Q X else Q v H2) X) X):j8 C d .And (e::e'::es) ρ H Q X:=by
 have e:∀ (v:V) (t:Bool) (H1:MH),(if t=true then j8 C d .And (e'::es) ρ H1 Q X else Q v H1) ↔ (if (EY.And = .And/\t=false) ∨ (EY.And = .Or/\t=true) then Q v H1 else j8 C d .And (e'::es) ρ H1 Q X):=fun v t H1=>by cases t <;> simp
 exact zw (by simpa only[e] using q)
theorem bC {A B:Prop}(h:A):if true=true then A else B:=h
theorem bf {A B:Prop}(h:B):if false=true then A else B:=h
theorem bR {A B:Prop}(h:B):if (!true)=true then A else B:=h
theorem pc {A B:Prop}(h:A):if (!false)=true then A else B:=h
theorem eX {C:Cx}{d:Md}{ρ:Lo}{H:MH}{K:KP}{X:XS}{ts:List St}{c:Ex}{a b:List St}(J:Lo->MH->Prop)(h2:∀ ρ' H',J ρ' H'->aM C d ts ρ' H' K X)
  (h1:∀ R:Lo->MH->Prop,(∀ ρ' H',J ρ' H'->R ρ' H')->dH C d c ρ H (fun t H1=>if t=true then aM C d a ρ H1 (An R K) X
   else aM C d b ρ H1 (An R K) X) (kX X ρ)):aM C d (.ife c a b::ts) ρ H K X:=by
 dsimp only[aM,dG];exact h1 (fun ρ' H'=>aM C d ts ρ' H' K X) h2
theorem aL {C:Cx}{d:Md}{ρ:Lo}{H:MH}{K:KP}{X:XS}{ts:List St}(h:aM C d ts ρ H K X):aM C d ([]++ts) ρ H K X:=h
theorem bg {C:Cx}{d:Md}{ρ:Lo}{H:MH}{K:KP}{X:XS}{t:St}{as ts:List St}(h:aM C d (t::(as++ts)) ρ H K X):aM C d ((t::as)++ts) ρ H K X:=h
section
variable {C:Cx}{d:Md}{H:MH}{Q:V->MH->Prop}{X:XP}
theorem bi {l:List V}{x:V}(hl:Nat.ble l.length 900=true)(q:Q x H):fR C d (.tup (x::l)) (.int 0) H Q X :=
 g9 (j:=0) (by simp[Fa]) (EI (m:=901) (by have:=DY hl;simp;exact au (ae [l.length] [(0,1010),(.a 1010 111,0)] rfl this)) (by decide)) rfl q
theorem bM {l:List V}{x y:V}(hl:Nat.ble l.length 900=true)(q:Q y H):fR C d (.tup (x::y::l)) (.int 1) H Q X :=
 g9 (j:=1) (by simp[Fa];exact bE (am [l.length] [(110,0),(.a 11 111,111)] rfl (q0 l.length))) (EI (m:=902) (by have:=DY hl;simp;exact au (ae [l.length] [(0,1010),(.a 1010 111,0)] rfl this)) (by decide)) rfl q
theorem cS {l:List V}{x y z:V}(hl:Nat.ble l.length 900=true)(q:Q z H):fR C d (.tup (x::y::z::l)) (.int 2) H Q X :=
 g9 (j:=2) (by simp[Fa];exact bE (am [l.length] [(110,0),(.a (.a 11 111) 111,112)] rfl (q0 l.length))) (EI (m:=903) (by have:=DY hl;simp;exact au (ae [l.length] [(0,1010),(.a 1010 111,0)] rfl this)) (by decide)) rfl q
theorem vL {l:List V}{x y z u:V}(hl:Nat.ble l.length 900=true)(q:Q u H):fR C d (.tup (x::y::z::u::l)) (.int 3) H Q X :=
 g9 (j:=3) (by simp[Fa];exact bE (am [l.length] [(110,0),(.a (.a (.a 11 111) 111) 111,113)] rfl (q0 l.length))) (EI (m:=904) (by have:=DY hl;simp;exact au (ae [l.length] [(0,1010),(.a 1010 111,0)] rfl this)) (by decide)) rfl q
theorem aN {a:Addr}{l:List V}{i:Nat}{x:V}(h:aS H (.ref a)=some l)(hl:l.length<=Dz)(hx:l[i]? = some x)(q:Q x H):fR C d (.ref a) (.int i) H Q X:=by
 refine jU h hl (j:=i) ?_ hx q
 have:=(DD.mp hx).1
 simp only[Fa]
 rw[if_neg (show ¬ (i:Int)<0 by exact Gq.mpr (aY (am [i] [(110,0),(11,110)] rfl (q0 i)))),if_pos (by simp;exact be (ae [i,l.length] [(11,1),(1,0)] rfl this))]
 simp
end
section
variable {C:Cx}{d:Md}{ρ:Lo}{H:MH}{Q:V->MH->Prop}{X:XP}{i j:Nat}{v u:V}{k:Int}
theorem ao (h:lk ρ i=some v)(q:fR C d v (.int k) H Q X):aU C d (.sub (.nm i) (.ci k)) ρ H Q X:=aQ (ag h (aO q))
theorem hZ (h:lk ρ i=some v)(h':lk ρ j=some u)(q:fR C d v u H Q X):aU C d (.sub (.nm i) (.nm j)) ρ H Q X:=aQ (ag h (ag h' q))
theorem aV {op:Gg}(h:lk ρ i=some v)(q:fQ C d op v (.int k) H Q X):aU C d (.bin op (.nm i) (.ci k)) ρ H Q X:=aE (ag h (aO q))
theorem jw {op:Gg}(h:lk ρ i=some v)(h':lk ρ j=some u)(q:fQ C d op v u H Q X):aU C d (.bin op (.nm i) (.nm j)) ρ H Q X:=aE (ag h (ag h' q))
theorem v9 {op:FO}(h:lk ρ i=some v)(q:bX C d op v (.int k) H Q X):aU C d (.cmp op (.nm i) (.ci k)) ρ H Q X:=c6 (ag h (aO q))
theorem pE {op:FO}(h:lk ρ i=some v)(h':lk ρ j=some u)(q:bX C d op v u H Q X):aU C d (.cmp op (.nm i) (.nm j)) ρ H Q X:=c6 (ag h (ag h' q))
theorem Bw {Q:List V->MH->Prop}{i j l m:Nat}{x y z u:V}(h1:lk ρ i=some x)(h2:lk ρ j=some y)(h3:lk ρ l=some z)(h4:lk ρ m=some u)(q:Q [x,y,z,u] H):dq C d [.nm i,.nm j,.nm l,.nm m] ρ H Q X:=ac (ag h1 (ac (ag h2 (ac (ag h3 (ac (ag h4 (ah q))))))))
theorem mH {Q:List V->MH->Prop}{i j l:Nat}{x y z:V}(h1:lk ρ i=some x)(h2:lk ρ j=some y)(h3:lk ρ l=some z)(q:Q [x,y,z] H):dq C d [.nm i,.nm j,.nm l] ρ H Q X:=ac (ag h1 (ac (ag h2 (ac (ag h3 (ah q))))))
theorem dX {Q:List V->MH->Prop}{i j:Nat}{x y:V}(h1:lk ρ i=some x)(h2:lk ρ j=some y)(q:Q [x,y] H):dq C d [.nm i,.nm j] ρ H Q X:=ac (ag h1 (ac (ag h2 (ah q))))
theorem a9 {Q:List V->MH->Prop}(h1:lk ρ i=some v)(q:Q [v] H):dq C d [.nm i] ρ H Q X:=ac (ag h1 (ah q))
theorem a8 {Q:List V->MH->Prop}{es:List Ex}(h1:lk ρ i=some v)(q:dq C d es ρ H (Am v Q) X):dq C d (.nm i::es) ρ H Q X:=ac (ag h1 q)
theorem dk {Q:List V->MH->Prop}(q:Q [.int k] H):dq C d [.ci k] ρ H Q X:=ac (aO (ah q))
theorem ck {Q:List V->MH->Prop}{es:List Ex}(q:dq C d es ρ H (Am (.int k) Q) X):dq C d (.ci k::es) ρ H Q X:=ac (aO q)
theorem aK {op:FO}{l r:Ex}{P:Bool->MH->Prop}(q:aU C d l ρ H (BL C d op r ρ (sp C d P X) X) X):dH C d (.cmp op l r) ρ H P X:=tc (c6 q)
theorem uj {op:FO}{P:Bool->MH->Prop}(h:lk ρ i=some v)(h':lk ρ j=some u)(q:bX C d op v u H (sp C d P X) X):dH C d (.cmp op (.nm i) (.nm j)) ρ H P X:=tc (pE h h' q)
theorem eJ {op:FO}{P:Bool->MH->Prop}(h:lk ρ i=some v)(q:bX C d op v (.int k) H (sp C d P X) X):dH C d (.cmp op (.nm i) (.ci k)) ρ H P X:=tc (v9 h q)
end
section
variable {C:Cx}{d:Md}{ρ:Lo}{H:MH}{K:KP}{X:XS}{ts:List St}{i:Nat}{v:V}
theorem eY (h:lk ρ i=some v)(q:K (.ret v) ρ H):aM C d (.ret (.nm i)::ts) ρ H K X:=aX (ag h q)
theorem nO {b:Bool}(q:K (.ret (.bool b)) ρ H):aM C d (.ret (.cb b)::ts) ρ H K X:=aX (zy q)
end
theorem bU {C:Cx}{H:MH}{Q:V->MH->Prop}{X:XP}{d:Md}{x y:String}(k:Bool)(hx:(DK.strOk (Dn x)&&DK.strOk (Dn y)&&((Dn x==Dn y)==k))=true)(K:Q (.bool k) H):bX C d .Eq (.str (Dn x)) (.str (Dn y)) H Q X:=by
 simp only[Ev,beq_iff_eq] at hx
 refine eo (.str _) (.str _) (by simpa [Es] using hx.1.1) (by simpa [Es] using hx.1.2) (by simp[Ei]) ?_
 rw[Em,show (Dn x==Dn y)=k from hx.2]
 exact K
noncomputable def H0 (a:Addr) (ns:List Int):MH:=fun b=>if b=a then some (.fro (ns.map .int)) else none
end
section
open PySem PySem.W PyProof.Rows
theorem xj:fL.all (fun p=>bootBuiltins (Dn p.1)==some p.2 && !(Dn p.1==("__name__" : Str)) && !startupNames.contains (Dn p.1))=true:=by decide +kernel
noncomputable def xP (p:Ee):Bool:=fL.all fun q=>!(((recsOf p).map (·.name)).contains (Dn q.1)) && !(((litsOf p).map (·.1)).contains (Dn q.1)) && !(((clssOf p []).map (·.name)).contains (Dn q.1))
theorem dU {x:Str}{l:List Str}(h:(!l.contains x)=true):x ∉ l:=fun m=>by
 rw[List.contains_iff_mem.mpr m] at h;cases h
theorem zg {p:Ee}{mean:G5->Option Value}{C:Cx}(T:Top p [] mean C.mg C.mb C.h0)(e:xP p=true):∀ q∈fL,C.G q.1 q.2:=fun q hq=>by
 have h1:=DH.mp (Et.mp e q hq)
 have h2:=DH.mp h1.1
 have h3:=DH.mp (Et.mp xj q hq)
 have h4:=DH.mp h3.1
 refine .inr ⟨T.free _ (dU h3.2) (FQ) (dU h2.1) (dU h2.2) (dU h1.2),?_⟩
 rw[T.builtins _ fun e=>?_]
 ·exact Gm h4.1
 ·rw[e] at h4;exact DP h4.2
theorem zd {C:Cx}(key:∀ q∈fL,C.G q.1 q.2)(n:Nat)(h:n<fL.length):C.G fL[n].1 fL[n].2:=key _ (FS h)
theorem Bg {p:Ee}{mean:G5->Option Value}{C:Cx}(T:Top p [] mean C.mg C.mb C.h0)(e:xP p=true):Std C:=by
 have key:=zd (zg T e)
 exact ⟨key 0 (by decide),key 1 (by decide),key 2 (by decide),key 3 (by decide),key 4 (by decide),key 5 (by decide),key 6 (by decide),key 7 (by decide),key 8 (by decide),key 9 (by decide),key 10 (by decide),key 11 (by decide),key 12 (by decide),key 13 (by decide),key 14 (by decide),key 15 (by decide),key 16 (by decide),key 17 (by decide)⟩
theorem yp {p:Ee}{loose:List Str}{mean:G5->Option Value}{C:Cx}(T:Top p loose mean C.mg C.mb C.h0):C.Good:=⟨T.g,T.b,T.nolimit⟩
noncomputable def zT (p:Ee) (f:String) (vs:Vs) (np:Nat) (body:List St):Bool :=
 match (recsOf p).find? fun d=>d.name==Dn f with
 | some d=>l7 (Calls.docDef d.name d.params d.body d.scope .none .none .none) vs np body
 | none=>false
theorem bL {p:Ee}{mean:G5->Option Value}{C:Cx}(T:Top p [] mean C.mg C.mb C.h0){f:String}{vs:Vs}{np:Nat}{body:List St}(h:zT p f vs np body=true):bq C f vs np body:=by
 unfold zT at h
 cases e:(recsOf p).find? fun d=>d.name==Dn f with
 | none=>rw[e] at h;exact (DP h).elim
 | some d=>
  rw[e] at h
  refine Bq (T.fn d (List.mem_of_find?_eq_some e)) fun a o pm code doc h1 h2 h3 h4=>?_
  have hn:d.name=Dn f:=Gm (List.find?_some (p:=fun d:DefRec=>d.name==Dn f) e)
  exact ⟨a,o,_,hn ▸ h1,h2,h3,h4,h⟩
theorem uI {c:ClaimW}{cl:Str->Option Addr}{mean:G5->Option Value}{args:List WData}{s₁ s':Shared}(k:∀ b o,s₁.heap.get? b=some o->s'.heap.get? b=some o)(hg:s'.gens = #[])(hos:s'.os=s₁.os)
  (hn:∀ cls,c.raises args cls=false) (hp:c.post args (.bool true) args=true):GoodWG c cl mean args s₁ (.ok (.ret (.bool true))) s' :=
 GoodW.toG ⟨.inl ⟨.bool true,.bool true,[],rfl,hn,.bool true,hp,unshared_nil⟩,k,hos,hg⟩
theorem wq {C:Cx}{h:Heap}{vs:List Value}{ns:List Int}(x:Gw vs ns):aJ C h (ns.map .int) vs:=by
 induction x with
 | nil=>exact .nil
 | cons n t r ih=>exact aJ.cons .int_ ih
theorem BG {p:Ee}{w:Fq}{s₁:Shared}{mg mb:Str->Option Value}{fa a:Addr}{vs:List Value}{ns:List Int}(hL:s₁.heap.IsList a vs.toArray)(hI:Gw vs ns)(hg:s₁.gens = #[])
  (hmg:mg "law" = some (.ref fa)) (h:bB ⟨p,w,s₁.heap,mg,mb⟩ ⟨60,true⟩ "law" [.ref a] (H0 a ns) (fun v zz=>v = .bool true) (fun zz zz=>False)) :
  wpAny (Cx.M ⟨p,w,s₁.heap,mg,mb⟩) callerA (call (.ref fa) [.ref a]) (fun v s'=>v = .bool true/\(∀ b o,s₁.heap.get? b=some o->s'.heap.get? b=some o)/\s'.gens = #[]/\s'.os=s₁.os) (fun zz zz=>False) s₁:=by
 have ok:Ok ⟨p,w,s₁.heap,mg,mb⟩ ⟨60,true⟩ (H0 a ns) callerA s₁:=by
  refine ⟨fun b o e=>?_,fun b o e=>e,⟨by decide +kernel,by decide +kernel⟩,⟨fun zz=>rfl,.inl rfl⟩,[],rfl,fun e he=>by cases he⟩
  unfold H0 at e
  split at e
  ·rename_i hb;subst hb;cases e
   exact ⟨vs.toArray,hL,by simpa using wq hI⟩
  ·cases e
 refine Dy (h (.ref fa) (.inl hmg) callerA s₁ [.ref a] ok (aJ.cons .ref_ .nil)) (fun v s' x=>?_) fun e s' x=>?_
 ·refine aG x fun r H' st vr hr68_4=>?_
  try clear x
  subst hr68_4
  dsimp only[VR] at vr
  exact ⟨vr,fun b o e=>st.top b o e,st.gens.trans hg,st.os⟩
 ·refine cR x fun zz zz zz zz zz zz zz f=>?_
  try clear x
  exact f
end
section
open PySem PySem.W PyProof.Rows
theorem lT {p:Ee}{mean:G5->Option Value}{C:Cx}(T:Top p [] mean C.mg C.mb C.h0){x:String}{i:Int}(h:valOf p (Dn x)=some (.int i)):∃ t,C.G x (.int i t):=by
 refine ad (T.const _ _ h) fun v h1 h2=>?_
 have:=h2 C.h0
 cases this with
 | int _ t=>exact ⟨t,.inl h1⟩
noncomputable def xK (p:Ee) (x:String) (v:Value):Bool:=bootBuiltins (Dn x)==some v && !(Dn x==("__name__" : Str)) && !startupNames.contains (Dn x) && !(((recsOf p).map (·.name)).contains (Dn x)) && !(((litsOf p).map (·.1)).contains (Dn x)) && !(((clssOf p []).map (·.name)).contains (Dn x))
theorem xQ {p:Ee}{mean:G5->Option Value}{C:Cx}(T:Top p [] mean C.mg C.mb C.h0){x:String}{v:Value}(h:xK p x v=true):C.G x v:=by
 unfold xK at h
 refine az (DH.mp h) fun h h6=>?_
 refine az (DH.mp h) fun h h5=>?_
 refine az (DH.mp h) fun h h4=>?_
 refine az (DH.mp h) fun h h3=>?_
 refine az (DH.mp h) fun h1 h2=>?_
 refine .inr ⟨T.free _ (dU h3) (FQ) (dU h4) (dU h5) (dU h6),?_⟩
 rw[T.builtins _ fun e=>?_]
 ·exact Gm h1
 ·rw[e] at h2;exact DP h2
end
section
set_option maxRecDepth 100000
set_option maxHeartbeats 400000
open PySem PySem.W PyProof.Rows
section
variable {prog:Ee}{w:Fq}{A:D4}{E:Value->Shared->Prop}{K:Frag}{x D:Addr}{ox:Obj}
variable {h:Heap}{g:Array GenState}{d:Drawn}{t:Nat}{os:OsState}
theorem v6:builtinKind "BaseException.__getattribute__" = some .slot:=by decide +kernel
theorem ug:splitId "BaseException.__getattribute__" = some ("BaseException", "__getattribute__"):=by decide +kernel
theorem uf:plainId "BaseException.__getattribute__" = true:=by decide +kernel
theorem wg {tk:Tok}{Q:Fin->Shared->Prop}(X:K.In h)(I:InstAt h x ox D none)(hf:findObj K D none "__class__" = some (.bind (.builtin "getset_descriptor.__get__") (.builtin "object.__class__")))(hm:mroIn K D (.type "object")=some true)
  (hq:Q (.done (.ret (.ref D))) ⟨h,g,d,t,os⟩):wpAny (Er prog w) A (DX.«object.__getattribute__» ⟨[.ref x,.str "__class__" tk],[]⟩) Q E ⟨h,g,d,t,os⟩:=by
 have LT:=I.type (M:=Er prog w)
 have LF:=looks_find (M:=Er prog w) X I hf
 refine Dq (wpAny_pure ?_)
 refine Dq (wpAny_pure ?_)
 refine Dq (LT.at ?_)
 refine Dq (LF.at ?_)
 refine Dq (DT (Hl (class_get (s:=⟨h,g,d,t,os⟩) X I hm ?_)))
 exact wpAny_pure hq
theorem uA {tk:Tok}{R:Result->Shared->Prop}(X:K.In h)(I:InstAt h x ox D none)(hf:findObj K D none "__class__" = some (.bind (.builtin "getset_descriptor.__get__") (.builtin "object.__class__")))(hm:mroIn K D (.type "object")=some true)(hmB:mroIn K D (.type "BaseException")=some true)
  (hq:R (.ok (.ret (.ref D))) ⟨h,g,d,t,os⟩) :
  GJ (Er prog w) A (.call (.builtin "BaseException.__getattribute__") ⟨[.ref x,.str "__class__" tk],[]⟩) R ⟨h,g,d,t,os⟩:=by
 have LB:Looks (Er prog w) h (isInstance (.ref x) (.type "BaseException")) true:=(I.type (M:=Er prog w)).andThen (looks_mroIn X hmB)
 refine codeAny_call_builtin uf F.entry_bexc_ga ?_
 exact check_slot (M:=Er prog w) (s:=⟨h,g,d,t,os⟩) (i := "BaseException.__getattribute__") (owner := "BaseException") (n := "__getattribute__") (self:=.ref x) (rest:=[.str "__class__" tk]) (kw:=[]) v6 ug LB (F.args_bexc_ga _ _) (wg X I hf hm hq)
theorem v5 (self:Value):bindSpecial (.builtin "BaseException.__getattribute__") self=pure (.builtin "BaseException.__getattribute__",[self]) :=
 (Slot.of (T := "BaseException") (name := "__getattribute__") (owner := "BaseException") (n := "__getattribute__") (by rw[Hu,Gl];kernel_rfl) (by decide +kernel) (by decide +kernel) (by decide +kernel)
  (.inl (by decide +kernel)) (by rw[Gd];kernel_rfl)).bind self
theorem uz {Q:Option Value->Shared->Prop}(X:K.In h)(I:InstAt h x ox D none)(hf:findObj K D none "__class__" = some (.bind (.builtin "getset_descriptor.__get__") (.builtin "object.__class__")))(hm:mroIn K D (.type "object")=some true)(hmB:mroIn K D (.type "BaseException")=some true)
  (hga:Ge K (.ref D) "__getattribute__" = some (some (.builtin "BaseException.__getattribute__"))) (hgt:Ge K (.ref D) "__getattr__" = some none)
  (hq:Q (some (.ref D)) ⟨h,g,d,t+1,os⟩):wpAny (Er prog w) A (getAttr? (.ref x) "__class__") Q E ⟨h,g,d,t,os⟩:=by
 have LT:=I.type (M:=Er prog w)
 have L1:=looks_findIn (M:=Er prog w) X hga
 have L2:=looks_findIn (M:=Er prog w) X hgt
 unfold getAttr? getAttrBy? getAttrBy
 refine Dq (wpAny_mkText (Dq (Gu (DT (Dq (LT.at (Dq (L1.at ?_))))))))
 show wpAny _ _ (getAttrByItsOwn _ _ _ _ _ _) _ _ _
 unfold getAttrByItsOwn
 refine Dq (m:=hookBefore (.ref D)) (L2.at ?_)
 refine Dq (Gu (DT ?_))
 unfold callGetattribute
 rw[if_neg (by simp)]
 unfold boundAndCalled
 rw[v5]
 refine Dq (wpAny_pure ?_)
 first
  | exact Hl (uA X I hf hm hmB (wpAny_pure (wpAny_pure hq)))
  | exact DT (Hl (uA X I hf hm hmB (wpAny_pure (wpAny_pure hq))))
noncomputable def z8 (o:Option DX.ObjectAttr.Found):Bool:=match o with | some (.bind g a)=>g == .builtin "getset_descriptor.__get__" && a == .builtin "object.__class__" | _=>false
theorem yw {o:Option DX.ObjectAttr.Found}(h:z8 o=true):o=some (.bind (.builtin "getset_descriptor.__get__") (.builtin "object.__class__")):=by
 cases o with
 | none=>exact (DP h).elim
 | some f=>cases f with
  | bind g a=>rw[beq_iff_eq.mp (DH.mp h).1,beq_iff_eq.mp (DH.mp h).2]
  | _=>exact (DP h).elim
noncomputable def o9 (K:Frag) (D:Addr):Bool :=
 z8 (findObj K D none "__class__")&&mroIn K D (.type "object")==some true&&mroIn K D (.type "BaseException")==some true &&
 Ge K (.ref D) "__getattribute__" == some (some (.builtin "BaseException.__getattribute__"))&&Ge K (.ref D) "__getattr__" == some none&&(clsIn K D).isSome
theorem wf (e:o9 K D=true):findObj K D none "__class__" = some (.bind (.builtin "getset_descriptor.__get__") (.builtin "object.__class__"))/\mroIn K D (.type "object")=some true/\mroIn K D (.type "BaseException")=some true /\
  Ge K (.ref D) "__getattribute__" = some (some (.builtin "BaseException.__getattribute__"))/\Ge K (.ref D) "__getattr__" = some none/\(clsIn K D).isSome=true:=by
 unfold o9 at e
 simp only[Ev,beq_iff_eq] at e
 refine az e fun ho68_0 e6=>?_
 try clear e
 obtain ⟨⟨⟨⟨e1,e2⟩,e3⟩,e4⟩,e5⟩:=ho68_0
 exact ⟨yw e1,e2,e3,e4,e5,e6⟩
theorem uN (X:K.In h)(e:(clsIn K D).isSome=true){M:Model}:Looks M h (isType (.ref D)) true:=by
 unfold clsIn at e
 split at e
 ·rename_i c' d' cd' sl' ho
  intro A' Q' E' s' k q
  unfold isType loadHead
  exact Dq (wpAny_loadPart (k _ _ (X _ _ ho)) (wpAny_pure q))
 ·cases e
theorem wr (e:o9 K D=true):KitX K (.ref x) (.ref D) (fun h=>∃ ox,InstAt h x ox D none):=by
 refine rg (wf e) fun e1 e2 e3 e4 e5 e6=>?_
 refine ⟨fun zz zz zz hq1=>aF hq1 fun ox I=>I.type,fun zz zz X zz=>uN X e6,fun h tp dd its n sl X htp=>?_,fun {prog w A E Q s} X ⟨ox,I⟩ k=>?_⟩
 ·refine Bool.eq_false_iff.mpr fun q=>?_
  have e:D=tp:=Du.inj (beq_iff_eq.mp q)
  subst e
  unfold clsIn at e6
  split at e6
  ·rename_i c' d' cd' sl' ho
   have z:=(X _ _ ho).symm.trans htp
   cases z
  ·cases e6
 ·obtain ⟨hh,g,d,t,os⟩:=s
  exact uz X I e1 e2 e3 e4 e5 k
end
end
section
set_option maxRecDepth 100000
open PySem PySem.W PyProof.Rows
section
variable {C:Cx}{d:Md}{H:MH}{Q:V->MH->Prop}{X:XP}{K:Frag}
theorem fZ (G:C.Good)(KX:K.In C.h0){c:String}{D:Addr}(e:nsIn K E4 (Dn c)=some (some (.ref D))):C.G c (.ref D):=.inl (mg_of KX G.g e)
theorem wh {h:Heap}{a:Addr}{o:Obj}{vs:Array Value}{D:Addr}(ho:h.get? a=some o)(hc:o.cls = .ref D)(hn:o.dict=none)(hd:o.data = .fields vs):InstAt h a o D none :=
 ⟨ho,hc,by unfold notCls;rw[hd],by rw[hn];trivial⟩
theorem xR {c x:String}{D:Addr}{cv:Value}{b:Bool}(KX:K.In C.h0)(gc:C.G c (.ref D))(gx:C.G x cv)(e:o9 K D=true)(k:kitOne K (.ref D) cv=some b)(q:Q (.bool b) H) :
  bn C d (.builtin "isinstance") [.exc c,.glb x] H Q X:=fun A s cs ok rs=>by
 refine aG (iM rs) fun c1 c2 hr22_2 r r'=>?_
 subst hr22_2
 dsimp only[VR] at r;dsimp only[VR] at r'
 refine nH r fun a o vs r hr24_4 ho hc ho24_7 hd=>?_
 subst hr24_4
 obtain ⟨g,hn⟩:=ho24_7
 cases g.uniq gc
 cases r'.uniq gx
 exact kia_one (wr e) (KX.keeps ok.top) ⟨o,wh ho hc hn hd⟩ k (by intro z;cases z) fun tk=>qp (ok.toks tk) .bool_ q
theorem uB {c h:String}{D R:Addr}{b:Bool}(KX:K.In C.h0)(gc:C.G c (.ref D))(gh:C.G h (.ref R))(e:exmOne K (.ref D) (.ref R)=some b):pg C c h b :=
 ⟨⟨R,gh⟩,fun A s a o r rh t ho hc g1 g2 Q E q=>by
  cases g1.uniq gc
  cases g2.uniq gh
  have LT:Looks C.M s.heap (typeOf (.ref a)) (.ref D):=hc ▸ (Looks.ld ho).andThen .now
  exact exm_one (KX.keeps t) LT e A Q E s (fun zz zz e=>e) q⟩
theorem vt {p:Ee}{mean:G5->Option Value}{c:String}(G:C.Good)(T:Top p [] mean C.mg C.mb C.h0)(hs:specOf p (Dn c)=some ("ValueError.__new__",[.type "ValueError",.type "Exception",.type "BaseException",.type "object"]))
  (hdb:(Dn c==("__debug__" : Str))=false) (hq:d.q=true) (hX:X c H):nM C d c H X:=by
 intro A s msg ok env pos pos' npos cpos k hk hkind hgl hbl
 refine ad (T.ownAt hs) fun Cc O hm=>?_
 have O:=O.own
 obtain ⟨tl,N,nm,q,bs,hdct,sn,sub,ab,col,dd,k0,k1,k2,k3,k5,mN,hC,hN,hni,TL⟩:=O.obj
 have FB:=PySem.F.excBase_ValueError
 refine wpAny_Raise_call_subT (C:=Cc) (nm:=nm) (q:=q) (N:=N) (bs:=bs) (bm:=tl) (hdct:=hdct) (sn:=sn) (sub:=sub) (ab:=ab) (col:=col) (dd:=dd) (k0:=k0) (k1:=k1) (k2:=k2) (k3:=k3) (k5:=k5)
  FB (mN:=mN) (TL.hasType FB.hasBase) (ok.hnd.1 hq) rfl hni ?_
 refine Calls.Name_function_global hkind hk (Calls.loadGlobal_global (by rw[hgl];exact G.g.keeps ok.top) O.bound ⟨rfl,?_⟩) hdb
 refine Calls.evalArgs_plain (Calls.spliced_cons (Calls.Constant_str (pos:=cpos) (k:=k) (Calls.spliced_nil ⟨rfl,by simp;decide,ok.top _ _ hC,hN.keeps ok.top,TL.keeps ok.top,fun h' e hm=>?_⟩)))
 refine bN hm.there fun t he zz zz=>?_
 have st:Step C No H s H { s with heap:=h',toks:=s.toks+1 }:=Step.keeps ok.rel ok.top hm.keeps rfl rfl
 exact ⟨e,c,H,rfl,st,fun zz f=>f.elim,⟨hm.new,_,_,Cc,he,rfl,⟨.inl O.bound,rfl⟩,rfl,by simp,.inl (by simp),.inl ⟨rfl,by simp⟩⟩,hX⟩
theorem zj (a:Addr)(l:List Value):(GM "type.__call__" ⟨.ref a::l,[]⟩).weight=1:=by kernel_rfl
theorem zi (a:Addr)(l:List Value):(GM "type.__call__" ⟨.ref a::l,[]⟩).cUnits=1:=by kernel_rfl
theorem zh (a:Addr)(l:List Value):(GM "type.__call__" ⟨.ref a::l,[]⟩).envs = []:=by kernel_rfl
theorem tj (KX:K.In C.h0){D:Addr}(e:keepIn K (.ref D)=true):fm C (.ref D):=fun A s Q E t h=>by
 refine ad (looks_keep (M:=C.M) e KX) fun k zz L=>?_
 exact L A Q E s t (h k)
theorem yG {n:Nat}{q:Bool}{D fI:Addr}{cn:String}{args:List V}(KX:K.In C.h0)(gC:C.G cn (.ref D))(hm:makesIn K D=true)(hi:Ge K (.ref D) "__init__" = some (some (.ref fI)))(hf:typeIn K (.ref fI)=some (.type "function"))
  {o:Obj} {fd:FuncData} {vs:Vs} {np:Nat} {body:List St} (G:C.Good) (ho:C.h0.get? fI=some o) (hd:o.data = .func fd) (hcd:C.h0.CodeRec fd.code fd.qualname) (hok:l7 fd vs np body=true) (hl:args.length+1=np)
  (W:∀ a dx,H a=none->H dx=none->a≠dx->aM C ⟨n,q⟩ body ((.ref a::args).map some++DN (vs.length-np) none) (an (an H dx (.nsd [])) a (.ins cn dx)) (fun f zz H'=>match f with | .ret v=>v = .none/\Q (.ref a) H' | .next=>V.none = .none/\Q (.ref a) H') (fun c zz H'=>X c H')) :
  bn C ⟨n+2,q⟩ (.ref D) args H Q X:=fun A s cs ok rs=>by
 refine Hl ?_
 obtain ⟨h,g,dr,t,os⟩:=s
 have KS:=KX.keeps ok.top
 have k:∀ b ob,h.get? b=some ob->((h.push GN).push (instObj D h.objs.size)).get? b=some ob:=fun b ob e=>Dv _ (Dv _ e)
 have hx:((h.push GN).push (instObj D h.objs.size)).get? (h.objs.size+1)=some (instObj D h.objs.size):=by
  have:=DG (h.push GN) (o:=instObj D h.objs.size) rfl
  rwa [Heap.size_push] at this
 have hdx:((h.push GN).push (instObj D h.objs.size)).get? h.objs.size=some GN:=Dv _ (DG _ rfl)
 have n1:h.get? (h.objs.size+1)=none:=by
  cases e:h.get? (h.objs.size+1) with
  | none=>rfl
  | some ob=>exact absurd (D_ e) (GT.mpr (HJ _))
 have n0:=ba h
 have HN1:H (h.objs.size+1)=none:=ok.rel.fresh n1
 have HN0:H h.objs.size=none:=ok.rel.fresh n0
 have z1:C.h0.get? (h.objs.size+1)=none:=bY ok.top n1
 have z0:C.h0.get? h.objs.size=none:=bY ok.top n0
 have vk:VK h ((h.push GN).push (instObj D h.objs.size)):=.of_keeps k
 have st:Step C No H ⟨h,g,dr,t,os⟩ (an (an H h.objs.size (.nsd [])) (h.objs.size+1) (.ins cn h.objs.size)) ⟨(h.push GN).push (instObj D h.objs.size),g,dr,t,os⟩:=by
  refine ⟨fun b o' e=>?_,fun b ob e zz zz=>⟨ob.slots,k b ob e,fun zz=>rfl⟩,fun b ob e=>k b ob (ok.top b ob e),fun b e=>?_,fun b e=>?_,fun b f zz=>f.elim,vk,rfl,rfl⟩
  ·by_cases q1:b=h.objs.size+1
   ·subst q1;rw[aj] at e;cases e;exact ⟨z1,D,gC,hx⟩
   ·rw[aP q1] at e
    by_cases q0:b=h.objs.size
    ·subst q0;rw[aj] at e;cases e;exact ⟨z0,_,_,hdx,trivial⟩
    ·rw[aP q0] at e;exact (ok.rel b o' e).keep vk fun ob=>k b ob
  ·by_cases q1:b=h.objs.size+1
   ·subst q1;rw[aj];rfl
   ·rw[aP q1]
    by_cases q0:b=h.objs.size
    ·subst q0;rw[aj];rfl
    ·rw[aP q0];exact e
  ·by_cases q1:b=h.objs.size+1
   ·subst q1;exact .inr n1
   ·rw[aP q1] at e
    by_cases q0:b=h.objs.size
    ·subst q0;exact .inr n0
    ·rw[aP q0] at e;exact .inl e
 refine make_core (makes_of KS hm) (looks_findIn KS hi) (fun self=>bind_fn KS self hf) (.inl rfl) ?_
 have okU:Ok C ⟨n+1,q⟩ (an (an H h.objs.size (.nsd [])) (h.objs.size+1) (.ins cn h.objs.size)) (A.under (.builtin "type.__call__" ⟨.ref D::cs,[]⟩)) ⟨(h.push GN).push (instObj D h.objs.size),g,dr,t,os⟩:=by
  have o2:=ok.step st
  refine ⟨o2.rel,o2.top,⟨?_,?_⟩,o2.hnd,?_⟩
  ·have:=o2.room.1;show A.depth+(GM "type.__call__" ⟨.ref D::cs,[]⟩).weight+2*(n+1)+2<Gc;rw[zj];dsimp only at this;exact be (ae [A.depth,n,Gc] [(.a (.a (.a 0 (.m 2 22)) 112) 111,2),(2,.a (.a 11 (.m 2 21)) 112)] rfl this)
  ·have:=o2.room.2;show A.units+(GM "type.__call__" ⟨.ref D::cs,[]⟩).cUnits+8*(n+1)+40<F9;rw[zi];dsimp only at this;exact be (ae [A.units,n,F9] [(.a (.a (.a 0 (.m 8 22)) 150) 111,2),(2,.a (.a 11 (.m 8 21)) 150)] rfl this)
  ·refine ad o2.frs fun l hl1 hl2=>?_
   refine ⟨l,?_,hl2⟩
   show pushEnvs (GM "type.__call__" ⟨.ref D::cs,[]⟩).envs A.frames=_
   rw[zh,hl1];rfl
 refine Hn (r9 (args:=.ref (h.objs.size+1)::args) (Q:=fun v H'=>v = .none/\Q (.ref (h.objs.size+1)) H') (X:=X) G ho hd hcd hok hl (W (h.objs.size+1) h.objs.size HN1 HN0 (Nat.succ_ne_self _)) _ _ (.ref (h.objs.size+1)::cs) okU (aJ.cons .ref_ (rs.keep vk))) fun r s' hr=>?_
 rcases r with e | (_ | _ | _ | v)
 ·exact XG.back st hr
 ·exact hr.elim
 ·exact hr.elim
 ·exact hr.elim
 ·refine dC hr fun v' H' st' vr hr119_4 hQ=>?_
  try clear hr
  subst hr119_4
  dsimp only[VR] at vr
  exact ⟨vr,.ref (h.objs.size+1),H',st.trans st',.ref_,hQ⟩
end
end
section
set_option maxRecDepth 100000
open PySem PySem.W PyProof.Rows
noncomputable def cW (l:List (String × V)) (x:String):Option V:=(l.find? fun p=>Dn p.1==Dn x).map (·.2)
noncomputable def bF (l:List (String × V)) (x:String) (v:V):List (String × V):=match l with
 | []=>[(x,v)]
 | p::r=>if (Dn p.1==Dn x)=true then (p.1,v)::r else p::bF r x v
section
variable {C:Cx}{d:Md}{H:MH}{Q:V->MH->Prop}{X:XP}{K:Frag}
theorem kj {e:Gs}{x y:String}(h:∃ t,e.key = .str (Dn x) t):e.key.isStr (Dn y)=(Dn x==Dn y):=by
 obtain ⟨t,h⟩:=h;rw[h];first | rfl | (simp[Value.isStr];done) | (simp[Value.isStr,eq_comm])
theorem lp {h:Heap}{x:String}:∀ {l:List (String × V)} {es:List Gs},kb C h l es->(∀ v,cW l x=some v -> ∃ e,es.find? (·.key.isStr (Dn x))=some e/\VR C h v e.val)/\(cW l x=none->es.find? (·.key.isStr (Dn x))=none)/\es.any (·.refKey)=false
 | [],[],_=>⟨(fun v e=>by cases e),(fun zz=>rfl),rfl⟩
 | (y,v)::l,e::es,r=>by
  refine kU r fun hk zz hv ht=>?_
  try clear r
  have ih:=lp (x:=x) ht
  have hr:e.refKey=false:=by obtain ⟨t,hk⟩:=hk;simp[Gs.refKey,hk]
  refine ⟨fun u hu=>?_,fun hu=>?_,by rw[List.any_cons,hr,ih.2.2];rfl⟩
  ·rw[EQ,kj hk]
   unfold cW at hu
   rw[EQ] at hu
   cases q:(Dn y==Dn x) with
   | true=>rw[q] at hu;cases hu;exact ⟨e,rfl,hv⟩
   | false=>rw[q] at hu;exact ih.1 u hu
  ·rw[EQ,kj hk]
   unfold cW at hu
   rw[EQ] at hu
   cases q:(Dn y==Dn x) with
   | true=>rw[q] at hu;cases hu
   | false=>rw[q] at hu;exact ih.2.1 hu
 | [],_::_,r=>r.elim
 | _::_,[],r=>r.elim
theorem sF {h h':Heap}{x:String}{v:V}{cv:Value}{t:Tok}(k:VK h h')(hv:VR C h' v cv):∀ {l:List (String × V)} {es:List Gs},kb C h l es->kb C h' (bF l x v) (putL (Dn x) (GS C.w.params (Dn x)) (.str (Dn x) t) cv es)
 | [],[],_=>⟨⟨t,rfl⟩,rfl,hv,trivial⟩
 | (y,u)::l,e::es,r=>by
  refine kU r fun hk hh hu ht=>?_
  try clear r
  unfold bF putL
  rw[kj hk]
  cases q:(Dn y==Dn x) with
  | true=>rw[if_pos rfl,if_pos rfl];exact ⟨hk,hh,hv,ht.keepS k.s⟩
  | false=>rw[if_neg (by decide),if_neg (by decide)];exact ⟨hk,hh,hu.keep k,sF k hv ht⟩
 | [],_::_,r=>r.elim
 | _::_,[],r=>r.elim
noncomputable def g8 (K:Frag) (D:Addr):Bool:=plainGet K D "" && hasDictIn K D&&Ge K (.ref D) "__setattr__" == some (some (.builtin "object.__setattr__"))&&plainOver K D
structure At (C:Cx)(cn x:String):Prop where
 ex:∃ (K:Frag) (D:Addr),K.In C.h0/\C.G cn (.ref D)/\g8 K D=true/\Ge K (.ref D) (Dn x)=some none
theorem mi {D:Addr}(e:g8 K D=true):Ge K (.ref D) "__getattribute__" = some (some (.builtin "object.__getattribute__"))/\Ge K (.ref D) "__getattr__" = some none/\hasDictIn K D=true/\Ge K (.ref D) "__setattr__" = some (some (.builtin "object.__setattr__"))/\plainOver K D=true:=by
 unfold g8 at e
 refine az (DH.mp e) fun e e4=>?_
 refine az (DH.mp e) fun e e3=>?_
 refine az (DH.mp e) fun e1 e2=>?_
 exact ⟨(plainGet_of e1).1,(plainGet_of e1).2,e2,beq_iff_eq.mp e3,e4⟩
theorem nV {A:D4}{s:Shared}{a dx:Addr}{cn:String}{l:List (String × V)}{D:Addr}(ok:Ok C d H A s)(g:C.G cn (.ref D))(h1:H a=some (.ins cn dx))(h2:H dx=some (.nsd l)) :
  ∃ es n,InstAt s.heap a { cls:=.ref D,dict:=some dx,data:=.plain } D (some { cls:=.type "dict",data:=.dict es n })/\kb C s.heap l es.toList/\s.heap.get? dx=some { cls:=.type "dict",data:=.dict es n }/\C.h0.get? dx=none:=by
 obtain ⟨_,r,g',ho⟩:=ok.rel _ _ h1
 obtain ⟨z,es,n,hd,hn⟩:=ok.rel _ _ h2
 cases g'.uniq g
 exact ⟨es,n,⟨ho,rfl,rfl,hd⟩,hn,hd,z⟩
theorem uJ {h:Heap}{v:V}{cv:Value}(r:VR C h v cv)(hg:∀ x,v ≠ .glb x):handedIn cv=true:=by
 cases v with
 | none=>dsimp only[VR] at r;subst r;rfl
 | bool b=>dsimp only[VR] at r;subst r;rfl
 | int i=>dsimp only[VR] at r;obtain ⟨t,rfl⟩:=r;rfl
 | str i=>dsimp only[VR] at r;obtain ⟨t,rfl⟩:=r;rfl
 | tup l=>dsimp only[VR] at r;obtain ⟨_,_,⟨rfl,_⟩,_⟩:=r;rfl
 | ref a=>dsimp only[VR] at r;subst r;rfl
 | exc c=>dsimp only[VR] at r;obtain ⟨_,_,_,_,rfl,_⟩:=r;rfl
 | glb x=>exact (hg x rfl).elim
 | rng a b c=>dsimp only[VR] at r;obtain ⟨_,_,_,_,rfl,_⟩:=r;rfl
theorem bD {a dx:Addr}{cn x:String}{l:List (String × V)}{v:V}(P:At C cn x)(h1:H a=some (.ins cn dx))(h2:H dx=some (.nsd l))(hv:cW l x=some v)(hg:∀ y,v ≠ .glb y)(q:Q v H):v3 C d (.ref a) x H Q X:=fun A s co ok r=>by
 dsimp only[VR] at r;subst r
 refine dC P.ex fun K D KX gC hp hf=>?_
 refine js (mi hp) fun p1 p2 p3 p4 p5=>?_
 refine dC (nV ok gC h1 h2) fun es n I hn hd zz=>?_
 refine ad ((lp (x:=x) hn).1 v hv) fun e he vr=>?_
 have hl:lookIn (Dn x) { cls:=.type "dict",data:=.dict es n }=some (some e.val):=by unfold lookIn;dsimp only;rw[he]
 exact get_value (KX.keeps ok.top) I p1 (findObj_own p3 hf rfl hl) (uJ vr hg) (qp (ok.toks _) vr q)
theorem wC {a dx:Addr}{cn m:String}{l:List (String × V)}{D f:Addr}(KX:K.In C.h0)(gC:C.G cn (.ref D))(hp:g8 K D=true)(hf:Ge K (.ref D) (Dn m)=some (some (.ref f)))(ht:typeIn K (.ref f)=some (.type "function"))
  (h1:H a=some (.ins cn dx)) (h2:H dx=some (.nsd l)) (hv:cW l m=none):j_ C d (.ref a) m (.ref f) H:=fun A s co pl Q E ok r q=>by
 dsimp only[VR] at r;subst r
 refine js (mi hp) fun p1 p2 p3 p4 p5=>?_
 refine dC (nV ok gC h1 h2) fun es n I hn hd zz=>?_
 refine fA (lp (x:=m) hn) fun zz hno hr=>?_
 have hl:lookIn (Dn m) { cls:=.type "dict",data:=.dict es n }=some none:=by
  unfold lookIn;dsimp only;rw[hno hv];dsimp only;rw[hr];rfl
 exact method_fn (KX.keeps ok.top) I p1 p2 hf ht (by unfold shadowIn;dsimp only;rw[hl];rfl) q
theorem dj {a dx:Addr}{cn x:String}{l:List (String × V)}{v:V}{Q:MH->Prop}(P:At C cn x)(h1:H a=some (.ins cn dx))(h2:H dx=some (.nsd l))(hl:l.length<=900)(q:Q (an H dx (.nsd (bF l x v)))):s9 C d (.ref a) x v H Q X:=fun A s co cv ok r rv=>by
 dsimp only[VR] at r;subst r
 refine dC P.ex fun K D KX gC hp hf=>?_
 refine js (mi hp) fun p1 p2 p3 p4 p5=>?_
 refine dC (nV ok gC h1 h2) fun es n I hn hd hz=>?_
 have KS:=KX.keeps ok.top
 refine set_plain KS I p4 ?_
 refine osa_open (s:={ s with toks:=s.toks+1 }) KS I p5 (by unfold takerIn;rw[hf];rfl) fun b=>?_
 refine ad (any_some p3) fun cd hc hd'=>?_
 refine Dq (wpAny_pure (Dq (Dq (wpAny_loadPart I.at_ (Dq (looks_clsIn KS hc _ _ _ _ (fun zz zz e=>e) ?_))))))
 rw[hd']
 refine wpAny_pure (a:=some dx) (Dq (wpAny_pure (Dq ?_)))
 unfold nsSet
 refine Dq (Dq (G9 (wpAny_pure (Dq (wpAny_mkText (Dq (wpAny_loadPart hd ?_)))))))
 have hr:=(lp (x:=x) hn).2.2
 have c:(!es.any (·.key.isStr (Dn x))&&es.any (·.refKey))=false:=by rw[<- Array.any_toList,<- Array.any_toList,hr,Bool.and_false]
 dsimp only
 rw[aRefKeyMayBeTheName_at,c]
 have ed:({ cls:=.type "dict",data:=.dict es n }:Obj)=dictOf es.toList n:=by unfold dictOf;simp
 have ef:=putName_dict (Dn x) (GS C.w.params (Dn x)) (.str (Dn x) (s.toks+1)) cv es.toList n
 rw[<- ed] at ef
 have D':=Ew (Obj.putName (Dn x) (GS C.w.params (Dn x)) (.str (Dn x) (s.toks+1)) cv) hd (by rw[ef];rfl)
 rw[ef] at D'
 have hlen:∀ {l:List (String × V)} {es:List Gs} {h:Heap},kb C h l es->l.length=es.length:=by
  intro l
  induction l with
  | nil=>intro es h r;cases es with | nil=>rfl | cons _ _=>exact r.elim
  | cons p l ih=>intro es h r;cases es with | nil=>exact r.elim | cons e es=>simp[ih r.2.2.2]
 have hle:=hlen hn
 have hlp:∀ es:List Gs,(putL (Dn x) (GS C.w.params (Dn x)) (.str (Dn x) (s.toks+1)) cv es).length<=es.length+1:=by
  intro es
  induction es with
  | nil=>simp[putL]
  | cons e es ih=>unfold putL;split <;> simp;(clear hl hle;omega)
 have hz1:1000<Dz:=by decide
 refine wpAny_updatePart hd (Dq (wpAny_lookBehind D' (pastItsLine_dict (by rw[FJ];have:=hlp es.toList;lia)) ?_))
 refine wpAny_pure ⟨an H dx (.nsd (bF l x v)),?_,q⟩
 refine Step.mut (s':={ s with heap:=_,toks:=_ }) ok.rel ok.top (by rw[h2];rfl) hz (EO ..) (fun ob hob=>?_) (fun ob es' ep hob hdd=>?_) (fun vk=>?_) rfl rfl
 ·rw[hd] at hob;cases hob;exact .inl ⟨_,_,rfl⟩
 ·exact ⟨_,_,_,D',rfl⟩
 ·exact ⟨hz,_,_,D',by rw[GF];exact sF vk (rv.keep vk) hn⟩
end
end
section
open PySem PySem.W PyProof.Rows
structure Cls (C:Cx)(cn:String)(vs:Vs)(np:Nat)(body:List St):Prop where
 fn:Fn C cn
 call:∀ {n:Nat} {q:Bool} {H:MH} {Q:V->MH->Prop} {X:XP} {args:List V},args.length+1=np ->
  (∀ a dx,H a=none->H dx=none->a≠dx->aM C ⟨n,q⟩ body ((.ref a::args).map some++DN (vs.length-np) none) (an (an H dx (.nsd [])) a (.ins cn dx)) (fun f zz H'=>match f with | .ret v=>v = .none/\Q (.ref a) H' | .next=>V.none = .none/\Q (.ref a) H') (fun c zz H'=>X c H')) ->
  bB C ⟨n+2,q⟩ cn args H Q X
noncomputable def tx (K:Frag) (vs:Vs) (np:Nat) (body:List St) (fI:Addr):Bool:=(typeIn K (.ref fI)==some (.type "function"))&&(match K.lookup fI with | some ⟨_,_,.func fd,_⟩=>codeIn K fd.code fd.qualname&&l7 fd vs np body | _=>false)
noncomputable def zP (K:Frag) (vs:Vs) (np:Nat) (body:List St) (D:Addr):Bool:=makesIn K D&&keepIn K (.ref D)&&(match Ge K (.ref D) "__init__" with | some (some (.ref fI))=>tx K vs np body fI | _=>false)
noncomputable def xL (K:Frag) (cn:String) (vs:Vs) (np:Nat) (body:List St):Bool:=match nsIn K E4 (Dn cn) with | some (some (.ref D))=>zP K vs np body D | _=>false
theorem uo {C:Cx}{K:Frag}(G:C.Good)(KX:K.In C.h0){cn:String}{vs:Vs}{np:Nat}{body:List St}(e:xL K cn vs np body=true):Cls C cn vs np body:=by
 unfold xL at e
 split at e
 ·rename_i D hD
  unfold zP at e
  refine az (DH.mp e) fun e1 e2=>?_
  refine az (DH.mp e1) fun e0 e1=>?_
  split at e2
  ·rename_i fI hI
   unfold tx at e2
   refine az (DH.mp e2) fun e3 e4=>?_
   split at e4
   ·rename_i c1 d1 fd s1 ho
    refine az (DH.mp e4) fun e5 e6=>?_
    have g:=fZ G KX hD
    exact ⟨⟨_,g,tj KX e1⟩,fun hl W=>pF g (yG KX g e0 hI (beq_iff_eq.mp e3) G (KX _ _ ho) rfl (codeRec_of KX e5) e6 hl W)⟩
   ·exact (DP e4).elim
  ·exact (DP e2).elim
 ·exact (DP e).elim
structure Mth (C:Cx)(cn m:String)(vs:Vs)(np:Nat)(body:List St):Prop where
 ex:∃ f:Addr,(∀ {d:Md} {H:MH} {a dx:Addr} {l:List (String × V)},H a=some (.ins cn dx)->H dx=some (.nsd l)->cW l m=none->j_ C d (.ref a) m (.ref f) H)/\fm C (.ref f) /\
  ∀ {n:Nat} {q:Bool} {H:MH} {Q:V->MH->Prop} {X:XP} {args:List V},args.length=np->aM C ⟨n,q⟩ body (args.map some++DN (vs.length-np) none) H (fun f zz H'=>match f with | .ret v=>Q v H' | .next=>Q .none H') (fun c zz H'=>X c H') ->
   bn C ⟨n+1,q⟩ (.ref f) args H Q X
noncomputable def Aq (K:Frag) (m:String) (vs:Vs) (np:Nat) (body:List St) (D:Addr):Bool:=g8 K D&&(match Ge K (.ref D) (Dn m) with | some (some (.ref f))=>tx K vs np body f | _=>false)
noncomputable def xW (K:Frag) (cn m:String) (vs:Vs) (np:Nat) (body:List St):Bool:=match nsIn K E4 (Dn cn) with | some (some (.ref D))=>Aq K m vs np body D | _=>false
theorem fu {C:Cx}{K:Frag}(G:C.Good)(KX:K.In C.h0){cn m:String}{vs:Vs}{np:Nat}{body:List St}(e:xW K cn m vs np body=true):Mth C cn m vs np body:=by
 unfold xW at e
 split at e
 ·rename_i D hD
  unfold Aq at e
  refine az (DH.mp e) fun e1 e2=>?_
  split at e2
  ·rename_i f hI
   unfold tx at e2
   refine az (DH.mp e2) fun e3 e4=>?_
   split at e4
   ·rename_i c1 d1 fd s1 ho
    refine az (DH.mp e4) fun e5 e6=>?_
    have g:=fZ G KX hD
    exact ⟨f,fun h1 h2 hv=>wC KX g e1 hI (beq_iff_eq.mp e3) h1 h2 hv,oq (KX _ _ ho) rfl,fun hl W=>rZ G (KX _ _ ho) rfl (codeRec_of KX e5) e6 hl W⟩
   ·exact (DP e4).elim
  ·exact (DP e2).elim
 ·exact (DP e).elim
noncomputable def zJ (K:Frag) (cn x:String):Bool:=match nsIn K E4 (Dn cn) with | some (some (.ref D))=>g8 K D&&Ge K (.ref D) (Dn x)==some none | _=>false
theorem iP {C:Cx}{K:Frag}(G:C.Good)(KX:K.In C.h0){cn x:String}(e:zJ K cn x=true):At C cn x:=by
 unfold zJ at e
 split at e
 ·rename_i D hD
  refine az (DH.mp e) fun e1 e2=>?_
  exact ⟨K,D,KX,fZ G KX hD,e1,beq_iff_eq.mp e2⟩
 ·exact (DP e).elim
end
section
open PySem PyProof.Rows
noncomputable def fq:Vs:=[aq "_law_script",aq "_law_k"]
noncomputable def e_:List St :=
  [.ret (.sub (.bin .Add (.sli (.nm 0) (.nm 1) (.bin .Add (.nm 1) (.ci 1)) .cn) (.lst [(.ci 0)])) (.ci 0))]
noncomputable def fU:Vs:=[aq "_law_script",aq "_law_k"]
noncomputable def ft:List St :=
  [.ret (.bin .Mod (.bin .Mult (.bin .Add (.call "_law_cell" [(.nm 0),(.nm 1)]) (.bin .Mult (.ci 101) (.nm 1))) (.ci 48271)) (.ci 2147483647))]
noncomputable def cell (ns:List Int) (k:Int):Int:=ns.getD k.toNat 0
noncomputable def dE (ns:List Int) (k:Int):Int:=(cell ns k+101*k)*48271 % 2147483647
theorem qh (ns:List Int)(k:Int):0<=dE ns k:=D9 _ (by decide)
section
variable {C:Cx}{H:MH}{Q:V->MH->Prop}{X:XP}{n:Nat}{q:Bool}{a:Addr}{ns:List Int}{k:Int}
theorem xx (hk:0<=k):(f_ (ns.map .int) (some k) (some (k+1)) ++ [V.int 0])[0]? = some (.int (cell ns k)):=by
 refine aF (Ft hk) fun k hr26_1=>?_
 subst hr26_1
 unfold f_ cell
 simp only[HI,Dt]
 rw[clipAt_nat,show (k:Int)+1=((k+1:Nat):Int) by exact eV (am [k] [(.a 11 111,11)] rfl) (am [k] [(.a 11 111,11)] rfl),clipAt_nat]
 by_cases h:k<ns.length
 ·rw[GB (by exact au (ae [k,ns.length] [(11,1),(21,11)] rfl h)),GB (by exact au (ae [k,ns.length] [(11,1),(21,0)] rfl h)),show k+1-k=1 by exact cy (ae [k,k+1-k] [(11,.a 1 0),(21,111)] rfl (ms (k+1) k)) (ae [k+1-k,k] [(.a 0 1,21),(.a 111 111,0)] rfl (md (ae [k] [(.a 11 111,0)] rfl)))]
  rw[EF (by simpa using h)]
  simp[DL,h]
 ·rw[Nat.min_eq_right (by exact au (ae [ns.length,k] [(0,1),(.a 21 111,0)] rfl (mn h))),Nat.min_eq_right (by exact au (ae [ns.length,k] [(0,1),(21,0)] rfl (mn h)))]
  simp[DL,h]
theorem yg (G:C.Good)(D:bq C "_law_cell" fq 2 e_)(ha:aS H (.ref a)=some (ns.map .int))(hl:ns.length<=63)(hk:0<=k)(K:∀ H',ay H H'->Q (.int (cell ns k)) H'):bB C ⟨n+1,q⟩ "_law_cell" [.ref a,.int k] H Q X:=by
 have hz:1000<Dz:=by decide
 have hv:∀ lo hi,(f_ (ns.map .int) lo hi).length<=63:=fun lo hi=>by unfold f_;simp;(clear hk hz;lia)
 refine D.call G rfl ?_
 unfold e_
 refine aX (aQ (aE (gQ (ag rfl (ag rfl (aE (ag rfl (aO (bA (cH (fK (ha) (by simp;exact aB (au (ae [ns.length] [(0,173),(.a 16777326 111,0)] rfl hl))) (.int _) (.int _) fun b hb=>?_)))))))))))
 refine bu (ac (aO (ah ⟨by simp;decide,fun c hc=>?_⟩)))
 refine dz ((ay.new hc).items aW) aW (by have:=hv (some k) (some (k+1));simp;exact aB (au (ae [(f_ (GV V.int ns) (some k) (some (k+1))).length] [(0,173),(.a 16777326 111,11)] rfl this))) fun e he=>?_
 refine aO (jU (j:=0) aW (by have:=hv (some k) (some (k+1));simp;exact aB (au (ae [(f_ (GV V.int ns) (some k) (some (k+1))).length] [(0,173),(.a 16777326 111,11)] rfl this))) ?_ (xx hk) ?_)
 ·simp[Fa]
 ·exact K _ ((((ay.refl _).more hb).more hc).more he)
theorem jF (G:C.Good)(D:bq C "_law_cell" fq 2 e_)(D':bq C "_law_mixed" fU 2 ft)(ha:aS H (.ref a)=some (ns.map .int))(hl:ns.length<=63)(hk:0<=k)(K:∀ H',ay H H'->Q (.int (dE ns k)) H'):bB C ⟨n+2,q⟩ "_law_mixed" [.ref a,.int k] H Q X:=by
 refine D'.call G rfl ?_
 unfold ft
 refine aX (aE (aE (aE (bw D.fn (ac (ag rfl (ac (ag rfl (ah (yg G D ha hl hk fun H' x=>?_)))))))))) 
 refine aE (aO (ag rfl (ga (bA (aO (ga (aO (bc (by decide) (K _ x))) (.of_right (by decide)))))  (.of_left (by decide)))))
theorem lY (G:C.Good)(D:bq C "_law_cell" fq 2 e_)(D':bq C "_law_mixed" fU 2 ft)(ha:H a=some (.fro (ns.map .int)))(hl:ns.length<=63)(hk:0<=k)(K:∀ H',ay H H'->Q (.int (dE ns k)) H'):bB C ⟨n+2,q⟩ "_law_mixed" [.ref a,.int k] H Q X:=jF G D D' (kt ha) hl hk K
end
inductive Wd where
 | sum | stop | pick | nt
 deriving DecidableEq
noncomputable def Wd.name:Wd->String
 | .sum=>"sum"
 | .stop=>"stop"
 | .pick=>"pick"
 | .nt=>"not"
noncomputable def Wd.ar:Wd->Nat
 | .sum=>2
 | .stop=>2
 | .pick=>3
 | .nt=>1
structure Pt where
 w:Wd
 ls:List Nat
noncomputable def Pt.v (p:Pt):V:=.tup (.str (Dn p.w.name)::p.ls.map fun (l:Nat)=>V.int l)
noncomputable def Pt.ok (p:Pt) (n:Nat):Prop:=p.ls.length=p.w.ar /\ ∀ l∈p.ls,l<n
noncomputable def given (p:Pt) (ds:List Int) (ring:Int):Int :=
 let at':=fun i=>ds.getD (p.ls.getD i 0) 0
 match p.w with
 | .nt=>ring-1-at' 0
 | .sum=>(at' 0+at' 1) % ring
 | .stop=>if at' 1=0 then at' 0 else 0
 | .pick=>if at' 0=0 then at' 1 else at' 2
noncomputable def ew:Vs:=[aq "part",aq "digits",aq "ring",aq "first",aq "second"]
noncomputable def ec:List St :=
  [.asg 3 (.sub (.nm 1) (.sub (.nm 0) (.ci 1))),
  .ife (.cmp .Eq (.sub (.nm 0) (.ci 0)) (.cs "not")) [.ret (.bin .Sub (.bin .Sub (.nm 2) (.ci 1)) (.nm 3))] [],
  .asg 4 (.sub (.nm 1) (.sub (.nm 0) (.ci 2))),
  .ife (.cmp .Eq (.sub (.nm 0) (.ci 0)) (.cs "sum")) [.ret (.bin .Mod (.bin .Add (.nm 3) (.nm 4)) (.nm 2))] [],
  .ife (.cmp .Eq (.sub (.nm 0) (.ci 0)) (.cs "stop")) [.ret (.ife (.cmp .Eq (.nm 4) (.ci 0)) (.nm 3) (.ci 0))] [],
  .ret (.ife (.cmp .Eq (.nm 3) (.ci 0)) (.nm 4) (.sub (.nm 1) (.sub (.nm 0) (.ci 3))))]
noncomputable def gD:List St :=
  [.asg 3 (.sub (.nm 1) (.sub (.nm 0) (.ci 1))),
  .ife (.cmp .Eq (.sub (.nm 0) (.ci 0)) (.cs "not")) [.ret (.bin .Sub (.bin .Sub (.nm 2) (.ci 1)) (.nm 3))] [],
  .ife (.cmp .Eq (.sub (.nm 0) (.ci 0)) (.cs "sum")) [.ret (.bin .Mod (.bin .Add (.nm 3) (.sub (.nm 1) (.sub (.nm 0) (.ci 2)))) (.nm 2))] [],
  .ife (.cmp .Eq (.sub (.nm 0) (.ci 0)) (.cs "stop")) [.ret (.bin .Mult (.nm 3) (.call "int" [(.cmp .Eq (.sub (.nm 1) (.sub (.nm 0) (.ci 2))) (.ci 0))]))] [],
  .ife (.cmp .Eq (.nm 3) (.ci 0)) [.ret (.sub (.nm 1) (.sub (.nm 0) (.ci 2)))] [],
  .ret (.sub (.nm 1) (.sub (.nm 0) (.ci 3)))]
section
variable {C:Cx}{H:MH}{Q:V->MH->Prop}{X:XP}{n:Nat}{q:Bool}{b:Addr}{ds:List Int}{ring:Int}{p:Pt}
theorem cj {i:Nat}(hi:i<ds.length):(ds.map V.int)[i]? = some (.int (ds.getD i 0)):=by simp[DL,hi]
theorem iG {H:MH}:∀ ds:List Int,VDs H (ds.map .int) (ds.map .int)
 | []=>.nil
 | _::ds=>.cons (.int _) (iG ds)
theorem ii:∀ ds:List Int,Eb (ds.map .int)=true
 | []=>rfl
 | _::ds=>by simp only[D3,Eb,Es,Bool.true_and];exact ii ds
theorem jx:∀ ds:List Int,DW (ds.map .int)=0
 | []=>rfl
 | _::ds=>by simp only[D3,DW,Ei,jx ds];rfl
theorem wx (ds:List Int):(Gx (ds.map .int)).canLay0=true:=by rw[Es];exact ii ds
theorem wk (G:C.Good)(D:bq C "given_of" ew 3 ec)(hb:aS H (.ref b)=some (ds.map .int))(hl:ds.length<=1000)(hp:p.ok ds.length)(hr:0<ring)(K:Q (.int (given p ds ring)) H) :
  bB C ⟨n+1,q⟩ "given_of" [p.v,.ref b,.int ring] H Q X:=by
 have hz:1000<Dz:=by decide
 have hL:(ds.map V.int).length<=Dz:=by simp;exact aB (au (ae [ds.length] [(0,1110),(.a 16777326 111,0)] rfl hl))
 obtain ⟨w,ls⟩:=p
 refine az hp fun h1 h2=>?_
 try clear hp
 refine D.call G rfl ?_
 unfold ec
 cases w with
 | sum=>
  match ls,h1 with
  | [x,y],_=>
  have hx:=h2 x (by simp)
  have hy:=h2 y (by simp)
  rw[show Pt.v ⟨.sum,[x,y]⟩ = .tup [.str (Dn "sum"),.int x,.int y] from rfl]
  refine aC (aQ (ag rfl (ao rfl ?_)))
  refine bM rfl (aN hb hL (cj hx) ?_)
  refine aI (aK (ao rfl ?_))
  refine bi rfl ?_
  refine aZ (bU false (by decide +kernel) (ai (bf (aL (aC (aQ (ag rfl (ao rfl ?_))))))))
  refine cS rfl (aN hb hL (cj hy) ?_)
  refine aI (aK (ao rfl ?_))
  refine bi rfl ?_
  refine aZ (bU true (by decide +kernel) (ai (bC (bg (aX (aE (jw rfl rfl (bA (ag rfl ?_)))))))))
  refine bc hr ?_
  exact K
 | stop=>
  match ls,h1 with
  | [x,y],_=>
  have hx:=h2 x (by simp)
  have hy:=h2 y (by simp)
  rw[show Pt.v ⟨.stop,[x,y]⟩ = .tup [.str (Dn "stop"),.int x,.int y] from rfl]
  refine aC (aQ (ag rfl (ao rfl ?_)))
  refine bM rfl (aN hb hL (cj hx) ?_)
  refine aI (aK (ao rfl ?_))
  refine bi rfl ?_
  refine aZ (bU false (by decide +kernel) (ai (bf (aL (aC (aQ (ag rfl (ao rfl ?_))))))))
  refine cS rfl (aN hb hL (cj hy) ?_)
  refine aI (aK (ao rfl ?_))
  refine bi rfl ?_
  refine aZ (bU false (by decide +kernel) (ai (bf (aL (aI (aK (ao rfl ?_)))))))
  refine bi rfl ?_
  refine aZ (bU true (by decide +kernel) (ai (bC (bg (aX (xG (eJ rfl (bx (ai ?_)))))))))
  simp only[given,GH,GG] at K
  split
  ·rename_i h;rw[if_pos (by simpa using h)] at K
   refine ag rfl ?_
   exact K
  ·rename_i h;rw[if_neg (by simpa using h)] at K
   refine aO ?_
   exact K
 | pick=>
  match ls,h1 with
  | [x,y,z],_=>
  have hx:=h2 x (by simp)
  have hy:=h2 y (by simp)
  have hz':=h2 z (by simp)
  rw[show Pt.v ⟨.pick,[x,y,z]⟩ = .tup [.str (Dn "pick"),.int x,.int y,.int z] from rfl]
  refine aC (aQ (ag rfl (ao rfl ?_)))
  refine bM rfl (aN hb hL (cj hx) ?_)
  refine aI (aK (ao rfl ?_))
  refine bi rfl ?_
  refine aZ (bU false (by decide +kernel) (ai (bf (aL (aC (aQ (ag rfl (ao rfl ?_))))))))
  refine cS rfl (aN hb hL (cj hy) ?_)
  refine aI (aK (ao rfl ?_))
  refine bi rfl ?_
  refine aZ (bU false (by decide +kernel) (ai (bf (aL (aI (aK (ao rfl ?_)))))))
  refine bi rfl ?_
  refine aZ (bU false (by decide +kernel) (ai (bf (aL (aX (xG (eJ rfl (bx (ai ?_)))))))))
  simp only[given,GH,GG] at K
  split
  ·rename_i h;rw[if_pos (by simpa using h)] at K
   refine ag rfl ?_
   exact K
  ·rename_i h;rw[if_neg (by simpa using h)] at K
   refine aQ (ag rfl (ao rfl ?_))
   refine vL rfl (aN hb hL (cj hz') ?_)
   exact K
 | nt=>
  match ls,h1 with
  | [x],_=>
  have hx:=h2 x (by simp)
  rw[show Pt.v ⟨.nt,[x]⟩ = .tup [.str (Dn "not"),.int x] from rfl]
  refine aC (aQ (ag rfl (ao rfl ?_)))
  refine bM rfl (aN hb hL (cj hx) ?_)
  refine aI (aK (ao rfl ?_))
  refine bi rfl ?_
  refine aZ (bU true (by decide +kernel) (ai (bC (bg (aX (aE (aV rfl (bZ (ag rfl (bZ ?_))))))))))
  exact K
theorem zX {vs:Vs}(G:C.Good)(S:Std C)(D:bq C "_law_due" vs 3 gD)(hv:vs.length=4)(hb:aS H (.ref b)=some (ds.map .int))(hl:ds.length<=1000)(hp:p.ok ds.length)(hr:0<ring)(K:Q (.int (given p ds ring)) H) :
  bB C ⟨n+1,q⟩ "_law_due" [p.v,.ref b,.int ring] H Q X:=by
 have hz:1000<Dz:=by decide
 have hL:(ds.map V.int).length<=Dz:=by simp;exact aB (au (ae [ds.length] [(0,1110),(.a 16777326 111,0)] rfl hl))
 obtain ⟨w,ls⟩:=p
 refine az hp fun h1 h2=>?_
 try clear hp
 refine D.call G rfl ?_
 rw[hv]
 unfold gD
 cases w with
 | sum=>
  match ls,h1 with
  | [x,y],_=>
  have hx:=h2 x (by simp)
  have hy:=h2 y (by simp)
  rw[show Pt.v ⟨.sum,[x,y]⟩ = .tup [.str (Dn "sum"),.int x,.int y] from rfl]
  refine aC (aQ (ag rfl (ao rfl ?_)))
  refine bM rfl (aN hb hL (cj hx) ?_)
  refine aI (aK (ao rfl ?_))
  refine bi rfl ?_
  refine aZ (bU false (by decide +kernel) (ai (bf (aL (aI (aK (ao rfl ?_)))))))
  refine bi rfl ?_
  refine aZ (bU true (by decide +kernel) (ai (bC (bg (aX (aE (aE (ag rfl (aQ (ag rfl (ao rfl ?_)))))))))))
  refine cS rfl (aN hb hL (cj hy) ?_)
  refine bA (ag rfl ?_)
  refine bc hr ?_
  exact K
 | stop=>
  match ls,h1 with
  | [x,y],_=>
  have hx:=h2 x (by simp)
  have hy:=h2 y (by simp)
  rw[show Pt.v ⟨.stop,[x,y]⟩ = .tup [.str (Dn "stop"),.int x,.int y] from rfl]
  refine aC (aQ (ag rfl (ao rfl ?_)))
  refine bM rfl (aN hb hL (cj hx) ?_)
  refine aI (aK (ao rfl ?_))
  refine bi rfl ?_
  refine aZ (bU false (by decide +kernel) (ai (bf (aL (aI (aK (ao rfl ?_)))))))
  refine bi rfl ?_
  refine aZ (bU false (by decide +kernel) (ai (bf (aL (aI (aK (ao rfl ?_)))))))
  refine bi rfl ?_
  refine aZ (bU true (by decide +kernel) (ai (bC (bg (aX (aE (ag rfl (aA (Std.n_int (by assumption)) aH (ac (c6 (aQ (ag rfl (ao rfl ?_)))))))))))))
  refine cS rfl (aN hb hL (cj hy) ?_)
  refine aO (bx (ah ?_))
  refine ja (ga ?_ (.of_right ?_))
  ·simp only[given,GH,GG] at K
   by_cases h:ds.getD y 0=0
   ·rw[if_pos h] at K;simp only[h,beq_self_eq_true,if_true,Int.mul_one];exact K
   ·rw[if_neg h] at K
    have:(ds.getD y 0==0)=false:=by simpa using h
    simp only[this,D2,if_false,Int.mul_zero];exact K
  ·split <;> decide
 | pick=>
  match ls,h1 with
  | [x,y,z],_=>
  have hx:=h2 x (by simp)
  have hy:=h2 y (by simp)
  have hz':=h2 z (by simp)
  rw[show Pt.v ⟨.pick,[x,y,z]⟩ = .tup [.str (Dn "pick"),.int x,.int y,.int z] from rfl]
  refine aC (aQ (ag rfl (ao rfl ?_)))
  refine bM rfl (aN hb hL (cj hx) ?_)
  refine aI (aK (ao rfl ?_))
  refine bi rfl ?_
  refine aZ (bU false (by decide +kernel) (ai (bf (aL (aI (aK (ao rfl ?_)))))))
  refine bi rfl ?_
  refine aZ (bU false (by decide +kernel) (ai (bf (aL (aI (aK (ao rfl ?_)))))))
  refine bi rfl ?_
  refine aZ (bU false (by decide +kernel) (ai (bf (aL (aI (eJ rfl (bx (ai ?_))))))))
  simp only[given,GH,GG] at K
  split
  ·rename_i h;rw[if_pos (by simpa using h)] at K
   refine bg (aX (aQ (ag rfl (ao rfl ?_))))
   refine cS rfl (aN hb hL (cj hy) ?_)
   exact K
  ·rename_i h;rw[if_neg (by simpa using h)] at K
   refine aL (aX (aQ (ag rfl (ao rfl ?_))))
   refine vL rfl (aN hb hL (cj hz') ?_)
   exact K
 | nt=>
  match ls,h1 with
  | [x],_=>
  have hx:=h2 x (by simp)
  rw[show Pt.v ⟨.nt,[x]⟩ = .tup [.str (Dn "not"),.int x] from rfl]
  refine aC (aQ (ag rfl (ao rfl ?_)))
  refine bM rfl (aN hb hL (cj hx) ?_)
  refine aI (aK (ao rfl ?_))
  refine bi rfl ?_
  refine aZ (bU true (by decide +kernel) (ai (bC (bg (aX (aE (aV rfl (bZ (ag rfl (bZ ?_))))))))))
  exact K
end
end
section
open PySem PyProof.Rows
section
variable {C:Cx}{d:Md}{H:MH}{A:D4}{s:Shared}{Q:V->MH->Prop}{X:XP}
theorem Ok.none (ok:Ok C d H A s)(hq:d.q=true):A.handled=EK:=ok.hnd.1 hq
theorem ut {a b:Int}(hq:d.q=true)(q:Q (.int (min a b)) H):bn C d (.builtin "min") [.int a,.int b] H Q X:=fun A s cs ok rs=>by
 refine aG (iM rs) fun c e hr13_2 r r'=>?_
 subst hr13_2
 dsimp only[VR] at r r';obtain ⟨t,rfl⟩:=r;obtain ⟨u,rfl⟩:=r'
 refine min_two_ints (ok.none hq) fun h' tk k=>qp (Step.keeps ok.rel ok.top k rfl rfl) ?_ q
 by_cases h:b<a
 ·rw[if_pos h,Int.min_eq_right (Int.le_of_lt h)];exact .int_
 ·rw[if_neg h,Int.min_eq_left (Gq.mp h)];exact .int_
theorem pD {l m:List V}(hsz:l.length+m.length<=Dz)(q:Q (.tup (l++m)) H):fQ C d .Add (.tup l) (.tup m) H Q X:=fun A s ca cb ok ra rb=>by
 dsimp only[VR] at ra rb
 refine aG ra fun a items ho29_2 hL rs=>?_
 try clear ra
 obtain ⟨rfl,nd⟩:=ho29_2
 refine aG rb fun b items2 ho30_2 hL2 rs2=>?_
 try clear rb
 obtain ⟨rfl,nd2⟩:=ho30_2
 have hn:=rs.length
 have hn2:=rs2.length
 simp only[DS] at hn hn2
 obtain ⟨⟨cls,dd,data,sl⟩,ho,hc,n,hd⟩:=id hL
 obtain ⟨⟨cls2,dd2,data2,sl2⟩,ho2,hc2,n2,hd2⟩:=id hL2
 simp only at hc hd hc2 hd2
 subst hc hd hc2 hd2
 by_cases h1:items.isEmpty=true
 ·refine concat_meets ⟨_,ho,rfl⟩ ⟨_,ho2,rfl⟩ noFill_tuple_add seq_tuple_add PySem.F.slot_tuple_add PySem.F.entry_tuple_add (PySem.F.args_tuple_add_2 _ _) (tuple_addW0 a b items items2 n n2 dd dd2 sl sl2 h1) ⟨ho,ho2,?_⟩
  have:l = []:=Ey.mp (by rw[hn];simpa using h1)
  subst this
  exact qp ok.refl (by dsimp only[VR];exact ⟨b,items2,⟨rfl,nd2⟩,hL2,rs2⟩) q
 ·by_cases h2:items2.isEmpty=true
  ·refine concat_meets ⟨_,ho,rfl⟩ ⟨_,ho2,rfl⟩ noFill_tuple_add seq_tuple_add PySem.F.slot_tuple_add PySem.F.entry_tuple_add (PySem.F.args_tuple_add_2 _ _) (tuple_addW1 a b items items2 n n2 dd dd2 sl sl2 h1 h2) ⟨ho,ho2,?_⟩
   have:m = []:=Ey.mp (by rw[hn2];simpa using h2)
   subst this
   rw[GE] at q
   exact qp ok.refl (by dsimp only[VR];exact ⟨a,items,⟨rfl,nd⟩,hL,rs⟩) q
  ·refine concat_meets ⟨_,ho,rfl⟩ ⟨_,ho2,rfl⟩ noFill_tuple_add seq_tuple_add PySem.F.slot_tuple_add PySem.F.entry_tuple_add (PySem.F.args_tuple_add_2 _ _) (tuple_addW2 a b items items2 n n2 dd dd2 sl sl2 h1 h2 (by exact aB (au (ae [l.length,m.length,items.size,items2.size] [(.a 0 1,16777326),(2,0),(3,1),(.a 16777326 111,.a 2 3)] rfl (gO hsz) (mf hn) (mf hn2))))) ⟨ho,ho2,?_⟩
   have k:∀ b o,s.heap.get? b=some o->(s.heap.push { cls:=.type "tuple",data:=.seq (items++items2) }).get? b=some o:=fun b o e=>Dv _ e
   refine qp (Step.keeps (s':={ s with heap:=s.heap.push { cls:=.type "tuple",data:=.seq (items++items2) } }) ok.rel ok.top k rfl rfl) ?_ q
   dsimp only[VR]
   exact ⟨_,_,⟨rfl,.of (DG _ rfl) rfl⟩,⟨_,DG _ rfl,rfl,_,rfl⟩,by rw[Array.toList_append];exact (rs.append rs2).keep (.of_keeps k)⟩
theorem kS {h:Heap}:∀ {bs:List Bool} {vs:List Value},aJ C h (bs.map .bool) vs->vs=bs.map .bool
 | [],_,r=>r.inv_nil
 | b::bs,_,r=>by
  refine aG r.inv_cons fun v vs' hr58_2 h1 h2=>?_
  subst hr58_2
  dsimp only[VR] at h1;subst h1
  rw[kS h2];rfl
theorem ud (bs:List Bool):(DU bs.length).all (fun i=>bs.getD i false)=bs.all id:=by
 rw[Bool.eq_iff_iff]
 simp only[Et,Fs,id]
 constructor
 ·intro h b hb
  obtain ⟨i,hi,e⟩:=List.getElem_of_mem hb
  have:=h i hi
  rw[DL,DA hi] at this
  rw[<- e];exact this
 ·intro h i hi
  rw[DL,DA hi]
  exact h _ (FS hi)
theorem ue (bs:List Bool):(DU bs.length).any (fun i=>bs.getD i false)=bs.any id:=by
 rw[Bool.eq_iff_iff]
 simp only[Hh,Fs,id]
 constructor
 ·rintro ⟨i,hi,e⟩
  rw[DL,DA hi] at e
  exact ⟨_,FS hi,e⟩
 ·rintro ⟨b,hb,e⟩
  obtain ⟨i,hi,e'⟩:=List.getElem_of_mem hb
  refine ⟨i,hi,?_⟩
  rw[DL,DA hi]
  show bs[i]=true
  rw[e',e]
theorem mP {a:Addr}{bs:List Bool}(hq:d.q=true)(h:H a=some (.lst (bs.map .bool)))(q:Q (.bool (bs.all id)) H):bn C d (.builtin "all") [.ref a] H Q X:=fun A s cs ok rs=>by
 refine ad (dS rs) fun c hr89_1 r=>?_
 subst hr89_1
 dsimp only[VR] at r;subst r
 refine ad (dL ok.rel (af h)) fun items hL rs=>?_
 have hi:=kS rs
 have hne:a≠s.heap.objs.size:=fun e=>by obtain ⟨o,ho,_⟩:=hL;rw[e,ba] at ho;cases ho
 refine call_all_walk (GZ hL ?_)
 have hn:items.size=bs.length:=by rw[<- DS,hi,Dt]
 refine ⟨_,_,_,_,_,_,fun i=>bs.getD i false,rfl,Walks.list (A:=A.in1) (ok.none hq) s.heap.objs.size a hne items,⟨⟨_,DG _ rfl,rfl,rfl⟩,hL.push _⟩,fun i v s' Q' E' hP hQ=>?_,fun h' tk k=>?_⟩
 ·replace hP:items[i]? = some v:=hP
  rw[<- FG,hi,DC] at hP
  cases e:bs[i]? with
  | none=>rw[e] at hP;cases hP
  | some b=>
   rw[e] at hP;cases hP
   refine GY ?_
   replace hQ:Q' (bs.getD i false) s':=hQ
   rw[DL,e] at hQ;exact hQ
 ·rw[hn,ud]
  refine qp (Step.keeps ok.rel ok.top (fun b o e=>k b o (fun hm=>?_) (Dv _ e)) rfl rfl) .bool_ q
  simp only[EV] at hm
  rw[hm,ba] at e;cases e
theorem zQ {a:Addr}{bs:List Bool}(hq:d.q=true)(h:H a=some (.lst (bs.map .bool)))(q:Q (.bool (bs.any id)) H):bn C d (.builtin "any") [.ref a] H Q X:=fun A s cs ok rs=>by
 refine ad (dS rs) fun c hr111_1 r=>?_
 subst hr111_1
 dsimp only[VR] at r;subst r
 refine ad (dL ok.rel (af h)) fun items hL rs=>?_
 have hi:=kS rs
 have hne:a≠s.heap.objs.size:=fun e=>by obtain ⟨o,ho,_⟩:=hL;rw[e,ba] at ho;cases ho
 refine call_any_walk (GZ hL ?_)
 have hn:items.size=bs.length:=by rw[<- DS,hi,Dt]
 refine ⟨_,_,_,_,_,_,fun i=>bs.getD i false,rfl,Walks.list (A:=A.in1) (ok.none hq) s.heap.objs.size a hne items,⟨⟨_,DG _ rfl,rfl,rfl⟩,hL.push _⟩,fun i v s' Q' E' hP hQ=>?_,fun h' tk k=>?_⟩
 ·replace hP:items[i]? = some v:=hP
  rw[<- FG,hi,DC] at hP
  cases e:bs[i]? with
  | none=>rw[e] at hP;cases hP
  | some b=>
   rw[e] at hP;cases hP
   refine GY ?_
   replace hQ:Q' (bs.getD i false) s':=hQ
   rw[DL,e] at hQ;exact hQ
 ·rw[hn,ue]
  refine qp (Step.keeps ok.rel ok.top (fun b o e=>k b o (fun hm=>?_) (Dv _ e)) rfl rfl) .bool_ q
  simp only[EV] at hm
  rw[hm,ba] at e;cases e
noncomputable def fS {κ:Type} [DecidableEq κ] (l:List (κ × V)) (k:κ) (v:V):List (κ × V):=if l.any (fun p=>decide (p.1=k)) then l.map (fun p=>if p.1=k then (p.1,v) else p) else l ++ [(k,v)]
theorem jT {κ:Type}[DecidableEq κ]{h:Heap}{k:κ}{x:V}{v:Value}(r:VR C h x v):∀ {l:List (κ × V)} {kvs:List (κ × Value)},kvs.map (·.1)=l.map (·.1)->aJ C h (l.map (·.2)) (kvs.map (·.2)) ->
  (FC kvs k v).map (·.1)=(fS l k x).map (·.1)/\aJ C h ((fS l k x).map (·.2)) ((FC kvs k v).map (·.2)):=by
 intro l kvs m rs
 have hany:kvs.any (fun kv=>decide (kv.1=k))=l.any (fun p=>decide (p.1=k)):=by
  rw[show (fun kv:κ × Value=>decide (kv.1=k))=(fun z:κ=>decide (z=k)) ∘ (·.1) from rfl,show (fun kv:κ × V=>decide (kv.1=k))=(fun z:κ=>decide (z=k)) ∘ (·.1) from rfl,<- List.any_map,<- List.any_map,m]
 unfold FC fS
 rw[hany]
 by_cases h:(l.any (fun p=>decide (p.1=k)))=true
 ·rw[if_pos h,if_pos h]
  clear h hany
  induction l generalizing kvs with
  | nil=>cases kvs with
   | nil=>exact ⟨rfl,.nil⟩
   | cons _ _=>simp at m
  | cons p l ih=>cases kvs with
   | nil=>simp at m
   | cons p' kvs=>
    simp only[D3,HA] at m rs
    refine az (ih m.2 rs.tail) fun i1 i2=>?_
    simp only[D3,m.1]
    by_cases hk:p.1=k
    ·rw[if_pos hk,if_pos hk]
     exact ⟨by rw[i1],aJ.cons r i2⟩
    ·rw[if_neg hk,if_neg hk]
     exact ⟨by rw[i1,m.1],aJ.cons rs.head i2⟩
 ·rw[if_neg h,if_neg h]
  simp only[DO,D3,List.map_nil]
  exact ⟨by rw[m],rs.append (aJ.cons r .nil)⟩
theorem wT {a:Addr}{l:List (Int × V)}{k:Int}{x:V}{Q:MH->Prop}(h:H a=some (.dci l))(hl:l.length<=Dz)(q:Q (an H a (.dci (fS l k x)))):k6 C d (.ref a) (.int k) x H Q X:=fun A s co ci cv ok ro ri rx=>by
 dsimp only[VR] at ro;dsimp only[VR] at ri;subst ro;obtain ⟨t,rfl⟩:=ri
 obtain ⟨h0,hs,kvs,hD,hm,rs⟩:=ok.rel _ _ h
 have hlen:kvs.length=l.length:=by rw[<- Dt (f:=(·.1)),hm,Dt]
 refine wpAny_setItem_pairs (knd:=intKind C.prog C.w) (k:=k) (by simp[intKind,F_]) hD (fun h' hD' hsb=>?_) (by exact aB (au (ae [l.length,kvs.length] [(0,16777326),(1,0),(.a 16777326 111,1)] rfl (gO hl) (me hlen))))
 refine ⟨_,Step.mut (o:=.dci (fS l k x)) (s':={ s with heap:=h',toks:=s.toks+1 }) ok.rel ok.top (by rw[h];rfl) h0 hsb (fun ob hob=>?_) (fun ob es ep hob hd=>?_) (fun vk=>?_) rfl rfl,q⟩
 ·refine cZ hD fun o es ep ho ho170_4 hd zz=>?_
  try clear hD
  obtain ⟨hc,_⟩:=ho170_4
  rw[ho] at hob;cases hob
  exact .inl ⟨es,ep,hd⟩
 ·refine cZ hD' fun o' es' ep' ho' ho173_4 hd' zz=>?_
  try clear hD'
  obtain ⟨hc',_⟩:=ho173_4
  exact ⟨o',es',ep',ho',hd'⟩
 ·have:=jT (k:=k) (rx.keep vk) hm (rs.keep vk)
  exact ⟨h0,hs,_,hD',this.1,this.2⟩
theorem kQ {κ:Type}[DecidableEq κ]{k:κ}:∀ {l:List (κ × V)} {kvs:List (κ × Value)},kvs.map (·.1)=l.map (·.1)->eD l k=none->valueAt kvs k=none:=by
 intro l kvs m e
 unfold eD at e;unfold valueAt
 simp only[Option.map_eq_none_iff,List.find?_eq_none] at e ⊢
 intro p hp
 have:p.1∈l.map (·.1):=by rw[<- m];exact Ef.mpr ⟨p,hp,rfl⟩
 refine ad (Ef.mp this) fun p' hp' e'=>?_
 have:=e p' hp'
 rw[e'] at this;exact this
theorem qi {a:Addr}(h:a≠GP):(a==GP)=false:=by
 cases e:a==GP with
 | false=>rfl
 | true=>exact absurd (Gm e) h
theorem zZ {a:Addr}{l:List (Int × V)}{k:Int}(h:H a=some (.dci l))(q:Q (.bool (eD l k).isSome) H):bX C d .In (.int k) (.ref a) H Q X:=fun A s ca cb ok ra rb=>by
 dsimp only[VR] at ra;dsimp only[VR] at rb;subst rb;obtain ⟨t,rfl⟩:=ra
 obtain ⟨h0,hs,kvs,hD,hm,rs⟩:=ok.rel _ _ h
 refine wpAny_in_of (knd:=intKind C.prog C.w) (k:=k) (by simp[intKind,F_]) (qi hs) hD.mapOf (qp (ok.toks _) ?_ q)
 cases e:eD l k with
 | none=>rw[kQ hm e];exact .bool_
 | some x=>obtain ⟨v,hv,r⟩:=gA hm rs e;rw[hv];exact .bool_
theorem oH {a:Addr}{l:List (Int × V)}(h:H a=some (.dci l)):j_ C d (.ref a) "get" (.builtin "dict.get") H:=fun A s co pl Q E ok r q=>by
 dsimp only[VR] at r;subst r
 obtain ⟨_,_,kvs,⟨o,es,ep,ho,hc,hd,_⟩,_⟩:=ok.rel _ _ h
 exact getMethod_builtin (T := "dict") ⟨_,ho,hc.1⟩ PySem.F.plainAttrs_dict PySem.F.slot_dict_get PySem.F.type_dict_get (fun a e=>by cases e;exact ⟨_,ho,hc.2.1⟩) q
theorem rU {a:Addr}{l:List (Int × V)}{k:Int}{x:V}(h:H a=some (.dci l))(q:Q ((eD l k).getD x) H):bn C d (.builtin "dict.get") [.ref a,.int k,x] H Q X:=fun A s cs ok rs=>by
 refine cZ (xI rs) fun c e f hr205_3 r r' r''=>?_
 subst hr205_3
 dsimp only[VR] at r;dsimp only[VR] at r';subst r;obtain ⟨t,rfl⟩:=r'
 obtain ⟨h0,hs,kvs,hD,hm,rs⟩:=ok.rel _ _ h
 refine call_meetsIn PySem.F.slot_dict_get hD.typeIs PySem.F.entry_dict_get (PySem.F.args_dict_get_3 _ _ _) (meets_dict_get_default (intKind C.prog C.w) (k:=k) a (by simp[intKind,F_]) (qi hs) _) ⟨_,hD.mapOf,qp (ok.toks _) ?_ q⟩
 cases e:eD l k with
 | none=>rw[kQ hm e];exact r''
 | some y=>obtain ⟨v,hv,ry⟩:=gA hm rs e;rw[hv];exact ry
end
end
section
open PySem PyProof.Rows
theorem CU:∀ n:Nat,n<8->n=0 ∨ n=1 ∨ n=2 ∨ n=3 ∨ n=4 ∨ n=5 ∨ n=6 ∨ n=7:=by decide
theorem ay.mut {H H':MH}{a:Addr}{o:O}(x:ay H H')(h:H a=none):ay H (an H' a o):=fun b o' e=>by
 rw[aP]
 ·exact x b o' e
 ·rintro rfl;rw[h] at e;cases e
theorem ay.gone {H H':MH}{a:Addr}(x:ay H H')(h:H' a=none):H a=none:=by
 cases e:H a with
 | none=>rfl
 | some o=>rw[x a o e] at h;cases h
theorem ay.ne {H:MH}{a b:Addr}{o:O}(h:H a=some o)(h':H b=none):a≠b:=by rintro rfl;rw[h] at h';cases h'
noncomputable def fp:Vs:=[aq "thing",aq "least",aq "most"]
noncomputable def e9:List St :=
  [.ret (.bop .And [(.call "isinstance" [(.nm 0),(.gl "int")]),(.una .Not (.call "isinstance" [(.nm 0),(.gl "bool")])),(.cmp2 .LtE .LtE (.nm 1) (.nm 0) (.nm 2))])]
noncomputable def jb:Vs:=[fj "work",aq "thing"]
noncomputable def gT:List St :=
  [.ife (.bop .Or [(.una .Not (.call "isinstance" [(.nm 1),(.gl "tuple")])),(.cmp .NotEq (.call "len" [(.nm 1)]) (.sub (.nm 0) (.ci 1)))]) [.ret (.cb false)] [],
  .ret (.call "all" [(.comp 1 (.call "is_among" [(.nm 2),(.ci 0),(.bin .Sub (.sub (.nm 0) (.ci 0)) (.ci 1))]) (.nm 1) [])])]
noncomputable def gU:List St :=
  [.asg 2 (.sub (.lst [(.cs "sum"),(.cs "stop"),(.cs "pick"),(.cs "not")]) (.bin .Mod (.nm 0) (.ci 4))),
  .asg 3 (.lst []),
  .for [4] (.pl (.call "range" [(.sub (.dct ["sum", "stop", "pick", "not"] [(.ci 2),(.ci 2),(.ci 3),(.ci 1)]) (.nm 2))])) [.asg 5 (.bin .FloorDiv (.bin .FloorDiv (.nm 0) (.ci 4)) (.sub (.lst [(.ci 1),(.ci 7),(.ci 49)]) (.nm 4))),
  .ife (.cmp .Eq (.bin .Mod (.nm 5) (.ci 2)) (.ci 0)) [.exp (.meth (.nm 3) "append" [(.bin .Sub (.bin .Sub (.nm 1) (.ci 1)) (.bin .Mod (.bin .FloorDiv (.nm 5) (.ci 2)) (.call "min" [(.nm 1),(.ci 3)])))])] [.exp (.meth (.nm 3) "append" [(.bin .Mod (.bin .FloorDiv (.nm 5) (.ci 2)) (.nm 1))])]],
  .ret (.call "tuple" [(.bin .Add (.lst [(.nm 2)]) (.nm 3))])]
noncomputable def lG:Vs:=[fj "_law_script",aq "_law_most",aq "_law_first",aq "_law_ring",fj "_law_inputs",aq "_law_many",aq "_law_parts"]
noncomputable def jD:List St :=
  [.asg 2 (.call "_law_mixed" [(.nm 0),(.ci 0)]),
  .asg 3 (.sub (.lst [(.ci 2),(.ci 2),(.ci 3),(.ci 2),(.ci 3),(.ci 4),(.ci 5),(.ci 2)]) (.bin .Mod (.nm 2) (.ci 8))),
  .asg 4 (.bin .Add (.ci 1) (.bin .Mod (.bin .FloorDiv (.nm 2) (.ci 8)) (.ci 3))),
  .ife (.cmp .Eq (.bin .Mod (.bin .FloorDiv (.nm 2) (.ci 24)) (.ci 8)) (.ci 1)) [.asg 4 (.bin .Add (.ci 1) (.bin .Mod (.bin .FloorDiv (.nm 2) (.ci 192)) (.ci 6)))] [],
  .asg 5 (.bin .Add (.ci 1) (.bin .Mod (.call "_law_mixed" [(.nm 0),(.ci 1)]) (.nm 1))),
  .ife (.bop .And [(.cmp .Gt (.nm 3) (.ci 3)),(.cmp .Lt (.nm 1) (.ci 8))]) [.asg 5 (.call "min" [(.nm 5),(.ci 4)])] [],
  .asg 6 (.comp 1 (.call "_law_part" [(.call "_law_mixed" [(.nm 0),(.bin .Add (.ci 2) (.nm 7))]),(.bin .Add (.nm 4) (.nm 7))]) (.call "range" [(.nm 5)]) []),
  .ret (.tup [(.nm 3),(.nm 4),(.nm 6)])]
section
variable {C:Cx}{H:MH}{Q:V->MH->Prop}{X:XP}{n:Nat}{c lines:Int}
theorem d7 {d:Md}{a b:Int}(hq:d.q=true)(ha : -1000000<=a)(ha':a<=1000000)(hb : -1000000<=b)(hb':b<=1000000):gM d (.rng a b 1) :=
 ⟨.inl hq,fun zz zz zz e=>by cases e;exact small_one (by exact aY (am [a] [(.g 1000000,0),(11,.g 4611686018427387904)] rfl ha)) (by exact bE (am [a] [(0,1000110),(4611686018427388014,0)] rfl ha')) (by exact aY (am [b] [(.g 1000000,0),(11,.g 4611686018427387904)] rfl hb)) (by exact bE (am [b] [(0,1000110),(4611686018427388014,0)] rfl hb'))⟩
theorem yK {vs:Vs}(G:C.Good)(S:Std C)(D:bq C "_law_part" vs 2 gU)(hv:vs.length=6)(hc:0<=c)(hl:1<=lines)(K:∀ (p:Pt) H',p.ok lines.toNat->ay H H'->Q p.v H') :
  bB C ⟨n+1,true⟩ "_law_part" [.int c,.int lines] H Q X:=by
 have hz:1000<Dz:=by decide
 refine D.call G rfl ?_
 rw[hv]
 unfold gU
 refine aC (aQ (bu (ac (aZ (ac (aZ (ac (aZ (ac (aZ (ah ?_)))))))))))
 refine ⟨by decide,fun t0 ht0=>?_⟩
 refine aV rfl ?_
 refine bc (by decide) ?_
 have hw:∃ w:Wd,∀ (Q:V->MH->Prop),Q (.str (Dn w.name)) (an H t0 (.lst [V.str (Dn "sum"),.str (Dn "stop"),.str (Dn "pick"),.str (Dn "not")]))->fR C ⟨n,true⟩ (.ref t0) (.int (c % 4)) (an H t0 (.lst [V.str (Dn "sum"),.str (Dn "stop"),.str (Dn "pick"),.str (Dn "not")])) Q (fun c H1=>X c H1):=by
  have h4:c % 4=((0:Nat):Int) ∨ c % 4=((1:Nat):Int) ∨ c % 4=((2:Nat):Int) ∨ c % 4=((3:Nat):Int):=by (clear hv hc hl hz;lia)
  rcases h4 with h | h | h | h <;> rw[h]
  ·exact ⟨.sum,fun Q q=>aN aW (by decide) rfl q⟩
  ·exact ⟨.stop,fun Q q=>aN aW (by decide) rfl q⟩
  ·exact ⟨.pick,fun Q q=>aN aW (by decide) rfl q⟩
  ·exact ⟨.nt,fun Q q=>aN aW (by decide) rfl q⟩
 refine aF hw fun w hw=>?_
 refine hw _ ?_
 clear hw
 have x1:=ay.new (o:=.lst [V.str (Dn "sum"),.str (Dn "stop"),.str (Dn "pick"),.str (Dn "not")]) ht0
 generalize an H t0 (.lst [V.str (Dn "sum"),.str (Dn "stop"),.str (Dn "pick"),.str (Dn "not")])=H1 at x1 ⊢
 clear ht0
 refine aC (bu (ah ?_))
 refine ⟨by decide,fun t ht=>?_⟩
 have ht':=x1.gone ht
 have x2:=x1.more (o:=.lst []) ht
 have t2:=aj H1 t (.lst [])
 generalize an H1 t (.lst [])=H2 at x2 t2 ⊢
 clear x1 ht
 refine cA ?_
 refine aA (Std.n_range (by assumption)) aH (ac (aQ (xE (ck (ck (ck (dk ?_)))))))
 refine ⟨rfl,by decide,by decide +kernel,fun g hg=>?_⟩
 refine ag rfl ?_
 refine bT (aj ..) (x:=.int w.ar) ?_ ?_
 ·cases w <;> rfl
 have x3:=x2.more (o:=.dcs ((["sum", "stop", "pick", "not"].map Dn).zip [V.int 2,.int 2,.int 3,.int 1])) hg
 have t3:=ay.new (o:=.dcs ((["sum", "stop", "pick", "not"].map Dn).zip [V.int 2,.int 2,.int 3,.int 1])) hg t _ t2
 generalize an H2 g _=H3 at x3 t3 ⊢
 clear x2 t2 hg
 refine ah ?_
 refine cV ?_
 have har:w.ar<=3:=by cases w <;> decide
 refine ⟨_,d7 rfl (by decide) (by decide) (by exact aY (am [w.ar] [(110,0),(11,.g 1000000)] rfl (q0 w.ar))) (by exact aY (am [w.ar] [(0,113),(.a 1000110 111,0)] rfl (ql har))),rfl,?_⟩
 refine ch (P:=fun i ρ H'=>∃ kk nn,∃ ls:List Nat,ρ = [some (.int c),some (.int lines),some (.str (Dn w.name)),some (.ref t),kk,nn]/\H' t=some (.lst (ls.map fun (l:Nat)=>V.int l))/\ay H H'/\ls.length=i /\ ∀ l∈ls,l<lines.toNat)
  (nJ none none ([]) rfl t3 x3 rfl (by simp)) (fun i x ρ H' R hP hx hR=>?_) fun ρ H' hP=>⟨rfl,?_⟩
 ·refine cR hP fun kk nn ls hr106_3 ht hx' hi hls=>?_
  try clear hP
  subst hr106_3
  refine az (eA hx) fun hr107_0 hi'=>?_
  subst hr107_0
  refine ⟨rfl,_,rfl,?_⟩
  refine aC (aE (aV rfl ?_))
  refine bj (by decide) (by decide) ?_
  refine aQ (bu (ck (ck (dk ?_))))
  refine ⟨by decide,fun u hu=>?_⟩
  refine ag rfl ?_
  have hs:∃ m:Int,0<m/\m<100/\([V.int 1,.int 7,.int 49])[i]? = some (.int m):=by
   have:i=0 ∨ i=1 ∨ i=2:=by (clear hv hc hl hz hw hi;lia)
   rcases this with rfl | rfl | rfl
   ·exact ⟨1,by decide,by decide,rfl⟩
   ·exact ⟨7,by decide,by decide,rfl⟩
   ·exact ⟨49,by decide,by decide,rfl⟩
  refine bN hs fun m hm hm' hms=>?_
  try clear hs
  rw[Fe]
  refine aN (i:=i) aW (by decide) hms (bj hm (by exact bE (am [m] [(11,210),(1073741934,0)] rfl hm')) ?_)
  generalize hnear:c / 4 / m=near
  have hn0:0<=near:=by rw[<- hnear];exact HB (HB hc (by decide)) (by exact aY (am [m] [(.a 110 111,0),(11,110)] rfl hm))
  have tu:=ay.ne ht hu
  have ht1:an H' u (.lst [V.int 1,.int 7,.int 49]) t=some (.lst (ls.map fun (l:Nat)=>V.int l)):=(aP tu).trans ht
  have x4:ay H (an H' u (.lst [V.int 1,.int 7,.int 49])):=hx'.more hu
  generalize an H' u (.lst [V.int 1,.int 7,.int 49])=H4 at ht1 x4 ⊢
  have done:∀ (e:Int),0<=e->e<lines->R [some (.int c),some (.int lines),some (.str (Dn w.name)),some (.ref t),some (.int i),some (.int near)] (an H4 t (.lst ((ls.map fun (l:Nat)=>V.int l) ++ [.int e]))):=by
   intro e he he'
   refine hR _ _ (nJ _ _ (ls ++ [e.toNat]) rfl ?_ (x4.mut ht') (by simp[hi]) (fun l hl'=>?_))
   ·rw[aj,DO];simp only[D3,List.map_nil,Fm he]
   ·rcases El.mp hl' with h | h
    ·exact hls l h
    ·simp only[EV] at h;exact im (am [e,lines,l,e.toNat,lines.toNat] [(11,1),(2,3),(3,0),(1,4),(4,2)] rfl he' (qe h) (qT (am [e] [(110,0),(11,110)] rfl he)) (qt lines))
  have hlen:(ls.map fun (l:Nat)=>V.int l).length<=Dz:=by simp;exact aB (dF (am [w.ar,ls.length,i] [(0,113),(1,2),(31,.s 0 110),(.a 16777326 111,1)] rfl (ql har) (qe hi) hi'))
  refine aI (aK (aV rfl ?_))
  refine bc (by decide) ?_
  refine aO (bx (ai ?_))
  split
  ·refine bg (cD (bG (ag rfl ?_)))
   refine ⟨_,cL ht1,ak,?_⟩
   refine ac (aE (aV rfl (bZ (aE (aV rfl ?_)))))
   refine bj (by decide) (by decide) ?_
   refine aA (Std.n_min (by assumption)) ak (a8 rfl (dk ?_))
   refine ut rfl (bc (by (clear hv hc hz hw har hi hi' hm hm' hnear hn0 tu hlen;omega)) ?_)
   have h1:0<=near / 2 % min lines 3:=D9 _ (by (clear hv hc hz hw har hi hi' hm hm' hnear hn0 tu hlen;omega))
   have h2:near / 2 % min lines 3<min lines 3:=D5 _ (by (clear hv hc hz hw har hi hi' hm hm' hnear hn0 tu hlen h1;omega))
   refine bZ (ah ?_)
   refine du ht1 hlen (aR ?_)
   exact done _ (by (clear hv hc hl hz hw har hi hi' hm hm' hnear hn0 tu hlen h1;omega)) (by exact bE (am [near / 2 % min lines 3,lines] [(110,0),(1,.s (.s 1 111) 0)] rfl h1))
  ·refine bg (cD (bG (ag rfl ?_)))
   refine ⟨_,cL ht1,ak,?_⟩
   refine ac (aE (aV rfl ?_))
   refine bj (by decide) (by decide) ?_
   refine ag rfl ?_
   refine bc (by exact bE (am [lines] [(111,0),(0,110)] rfl hl)) ?_
   have h1:0<=near / 2 % lines:=D9 _ (by exact f9 (am [lines] [(111,0),(0,110),(.w 0 110,0)] rfl hl))
   have h2:near / 2 % lines<lines:=D5 _ (by exact bE (am [lines] [(111,0),(0,110)] rfl hl))
   refine ah ?_
   refine du ht1 hlen (aR ?_)
   exact done _ (by exact aY (am [near / 2 % lines] [(110,0),(11,110)] rfl h1)) (by exact bE (am [near / 2 % lines,lines] [(11,1),(1,0)] rfl h2))
 rw[c9] at hP
 refine cR hP fun kk nn ls hr164_3 ht hx hi hls=>?_
 try clear hP
 subst hr164_3
 refine aX (aA (Std.n_tuple (by assumption)) aH (ac (aE (bu (a9 rfl ?_)))))
 refine ⟨by simp;decide,fun u hu=>?_⟩
 refine ag rfl ?_
 refine dz aW ((ay.new hu).items (af ht)) (by simp;exact aB (dF (am [w.ar,ls.length,((↑w.ar:Int)-0).toNat] [(0,113),(1,2),(2,.s 0 110),(.a 16777326 111,.a 111 1)] rfl (ql har) (qe hi) (qT (am [w.ar] [(110,0),(.a (.s 0 110) 111,110)] rfl (q0 w.ar)))))) fun v hv=>?_
 refine ah ?_
 refine fH aW (by simp;exact aB (dF (am [w.ar,ls.length,((↑w.ar:Int)-0).toNat] [(0,113),(1,2),(2,.s 0 110),(.a 16777326 111,21)] rfl (ql har) (qe hi) (qT (am [w.ar] [(110,0),(.a (.s 0 110) 111,110)] rfl (q0 w.ar)))))) ?_
 exact K ⟨w,ls⟩ _ ⟨show ls.length=w.ar by (clear hc hl hz hw har;lia),hls⟩ ((hx.more hu).more hv)
structure Wk where
 ring:Int
 inp:Nat
 ps:List Pt
structure Wk.Ok (w:Wk)(most:Nat):Prop where
 r1:2<=w.ring
 r2:w.ring<=5
 i1:1<=w.inp
 i2:w.inp<=6
 p1:1<=w.ps.length
 p2:w.ps.length<=most
 pt:∀ (k:Nat) (p:Pt),w.ps[k]? = some p->p.ok (w.inp+k)
 few:3<w.ring->most<8->w.ps.length<=4
noncomputable def Wk.v (w:Wk) (pa:Addr):V:=.tup [.int w.ring,.int w.inp,.ref pa]
noncomputable def pd (ns:List Int):Nat:=if dE ns 0 / 24 % 8=1 then (1+dE ns 0 / 192 % 6).toNat else (1+dE ns 0 / 8 % 3).toNat
theorem zu {vs:Vs}{a:Addr}{ns:List Int}{most:Nat}(G:C.Good)(S:Std C)(Dc:bq C "_law_cell" fq 2 e_)(Dm:bq C "_law_mixed" fU 2 ft)(Dp:bq C "_law_part" vs 2 gU)(hv:vs.length=6)
  (D:bq C "_law_work" lG 2 jD) (ha:aS H (.ref a)=some (ns.map .int)) (hl:ns.length<=63) (hm:1<=most) (hm':most<=100)
  (K:∀ (w:Wk) pa H',w.Ok most->w.inp=pd ns->ay H H'->H pa=none->H' pa=some (.lst (w.ps.map Pt.v))->Q (w.v pa) H'):bB C ⟨n+3,true⟩ "_law_work" [.ref a,.int most] H Q X:=by
 have hz:1000<Dz:=by decide
 refine D.call G rfl ?_
 unfold jD
 refine aC ?_
 refine bw Dm.fn ?_
 refine a8 rfl (dk ?_)
 refine jF G Dc Dm ha hl (by decide) fun H1 x1=>?_
 obtain ⟨f0,hf0⟩:∃ f0,f0=dE ns 0:=⟨_,rfl⟩
 rw[<- hf0]
 refine aC (aQ (bu (ck (ck (ck (ck (ck (ck (ck (dk ?_))))))))))
 refine ⟨by decide,fun t ht=>?_⟩
 refine aV rfl ?_
 refine bc (by decide) ?_
 have hring:∃ r:Int,2<=r/\r<=5/\([V.int 2,.int 2,.int 3,.int 2,.int 3,.int 4,.int 5,.int 2])[(f0 % 8).toNat]? = some (.int r):=by
  have h8:(f0 % 8).toNat=0 ∨ (f0 % 8).toNat=1 ∨ (f0 % 8).toNat=2 ∨ (f0 % 8).toNat=3 ∨ (f0 % 8).toNat=4 ∨ (f0 % 8).toNat=5 ∨ (f0 % 8).toNat=6 ∨ (f0 % 8).toNat=7:=CU _ (by (clear hv hl hm hm' hz hf0;lia))
  rcases h8 with h | h | h | h | h | h | h | h <;> rw[h]
  ·exact ⟨2,by decide,by decide,rfl⟩
  ·exact ⟨2,by decide,by decide,rfl⟩
  ·exact ⟨3,by decide,by decide,rfl⟩
  ·exact ⟨2,by decide,by decide,rfl⟩
  ·exact ⟨3,by decide,by decide,rfl⟩
  ·exact ⟨4,by decide,by decide,rfl⟩
  ·exact ⟨5,by decide,by decide,rfl⟩
  ·exact ⟨2,by decide,by decide,rfl⟩
 refine bN hring fun r hr1 hr2 hr=>?_
 try clear hring
 rw[show f0 % 8=(((f0 % 8).toNat:Nat):Int) by exact eV (am [(f0 % 8).toNat,f0 % 8] [(0,1),(21,0)] rfl (qT (am [f0 % 8] [(110,0),(11,110)] rfl (qm f0 8 rfl)))) (am [f0 % 8,(f0 % 8).toNat] [(0,1),(21,0)] rfl (qt (f0 % 8)))]
 refine aN aW (by decide) hr ?_
 have x2:=x1.more (o:=.lst [V.int 2,.int 2,.int 3,.int 2,.int 3,.int 4,.int 5,.int 2]) ht
 generalize an H1 t (.lst [V.int 2,.int 2,.int 3,.int 2,.int 3,.int 4,.int 5,.int 2])=H2 at x2 ⊢
 clear x1 ht hr
 refine aC (aE (aO (aE (aV rfl ?_))))
 refine bj (by decide) (by decide) ?_
 refine aO ?_
 refine bc (by decide) ?_
 refine bA ?_
 refine eX (J:=fun ρ' H'=>∃ inp:Nat,1<=inp/\inp<=6/\inp=pd ns/\ρ' = [some (.ref a),some (.int most),some (.int f0),some (.int r),some (.int inp),none,none]/\H'=H2) (fun ρ' H' hJ=>?_) fun R hR=>?_
 rotate_left
 ·refine aK (aE (aV rfl ?_))
  refine bj (by decide) (by decide) ?_
  refine aO ?_
  refine bc (by decide) ?_
  refine aO (bx (ai ?_))
  split
  ·rename_i hsp
   refine aC (aE (aO (aE (aV rfl ?_))))
   refine bj (by decide) (by decide) ?_
   refine aO ?_
   refine bc (by decide) ?_
   refine bA ?_
   refine aR (hR _ _ ⟨(1+f0 / 192 % 6).toNat,by exact dF (am [f0 / 192 % 6,(1+f0 / 192 % 6).toNat] [(.a 111 0,1),(110,0),(21,111)] rfl (qt (1+f0 / 192 % 6)) (qm (f0 / 192) 6 rfl)),by lia,by unfold pd;rw[<- hf0,if_pos (of_decide_eq_true hsp)],?_,rfl⟩)
   rw[Fm (by exact aY (am [f0 / 192 % 6] [(110,0),(.a (.a 111 0) 111,110)] rfl (qm (f0 / 192) 6 rfl)))];rfl
  ·rename_i hsp
   refine aR (hR _ _ ⟨(1+f0 / 8 % 3).toNat,by exact dF (am [f0 / 8 % 3,(1+f0 / 8 % 3).toNat] [(.a 111 0,1),(110,0),(21,111)] rfl (qt (1+f0 / 8 % 3)) (qm (f0 / 8) 3 rfl)),by lia,by unfold pd;rw[<- hf0,if_neg fun z=>hsp (decide_eq_true z)],?_,rfl⟩)
   rw[Fm (by exact aY (am [f0 / 8 % 3] [(110,0),(.a (.a 111 0) 111,110)] rfl (qm (f0 / 8) 3 rfl)))];rfl
 refine rj hJ fun inp hi1 hi2 hinp hr248_4 hr248_5=>?_
 try clear hJ
 subst hr248_4
 subst hr248_5
 have a2:=x2.items ha
 refine aC (aE (aO (aE ?_)))
 refine bw Dm.fn ?_
 refine a8 rfl (dk ?_)
 refine jF G Dc Dm a2 hl (by decide) fun H3 x3=>?_
 refine ag rfl ?_
 refine bc (by exact bE (am [most] [(111,0),(0,110)] rfl (ql hm))) ?_
 refine bA ?_
 have hmany:1<=1+dE ns 1 % most/\1+dE ns 1 % most<=most:=by
  have h1:=D9 (dE ns 1) (show (most:Int)≠0 by exact f9 (am [most] [(111,0),(0,110),(.w 0 110,0)] rfl (ql hm)))
  have h2:=D5 (dE ns 1) (show 0<(most:Int) by exact bE (am [most] [(111,0),(0,110)] rfl (ql hm)))
  exact ⟨aY (am [dE ns 1 % (↑most:Int)] [(110,0),(.a (.a 111 0) 111,111)] rfl h1),aY (am [dE ns 1 % (↑most:Int),most] [(11,1),(21,.a 111 0)] rfl h2)⟩
 generalize 1+dE ns 1 % most=many at hmany ⊢
 refine eX (J:=fun ρ' H'=>∃ many:Nat,1<=many/\many<=most/\(3<r->most<8->many<=4)/\ρ' = [some (.ref a),some (.int most),some (.int f0),some (.int r),some (.int inp),some (.int many),none]/\H'=H3) (fun ρ' H' hJ=>?_) fun R hR=>?_
 rotate_left
 ·have h0:¬ (3<r/\(most:Int)<8)->R [some (.ref a),some (.int most),some (.int f0),some (.int r),some (.int inp),some (.int many),none] H3:=fun hn=>hR _ _ ⟨many.toNat,by exact dF (am [many,many.toNat] [(111,0),(0,1),(21,111)] rfl hmany.1 (qt many)),by exact dF (am [many,most,many.toNat] [(0,1),(2,0),(21,2)] rfl hmany.2 (qT (am [many] [(111,0),(11,110)] rfl hmany.1))),fun u v=>absurd ⟨u,by exact bE (am [most] [(11,118),(118,0)] rfl (ql v))⟩ hn,by rw[Fm (by exact aY (am [many] [(111,0),(11,110)] rfl hmany.1))],rfl⟩
  refine cO (eE (eJ rfl (mK (ai ?_))))
  split
  ·rename_i c1
   refine eE (eJ rfl (jh (ai ?_)))
   split
   ·rename_i c2
    refine iJ (bC (aC (aA (Std.n_min (by assumption)) ak (a8 rfl (dk ?_)))))
    refine ut rfl (aR (hR _ _ ⟨(min many 4).toNat,by (clear hv hl hm hm' hz hf0 hr1 hr2 hi1 hi2 hinp;lia),by lia,fun zz zz=>by (clear hv hl hm hm' hz hf0 hr1 hr2 hi1 hi2 hinp hmany;lia),?_,rfl⟩))
    rw[Fm (by (clear hv hl hm hm' hz hf0 hr1 hr2 hi1 hi2 hinp;lia))];rfl
   ·rename_i c2
    refine bf ?_
    refine aR ?_
    exact h0 fun u=>c2 (by simpa using u.2)
  ·rename_i c1
   refine bf ?_
   refine aR ?_
   exact h0 fun u=>c1 (by simpa using u.1)
 clear many hmany
 refine rj hJ fun many hmany1 hmany2 hfew hr283_4 hr283_5=>?_
 try clear hJ
 subst hr283_4
 subst hr283_5
 have a3:=x3.items a2
 have x13:=x2.trans x3
 refine aC (cU ?_)
 refine aA (Std.n_range (by assumption)) aH (a9 rfl ?_)
 refine cV ?_
 refine ⟨_,d7 rfl (by decide) (by decide) (by exact aY (am [many] [(110,0),(11,.g 1000000)] rfl (q0 many))) (by exact aY (am [most,many] [(0,210),(1,0),(.a 1000110 111,1)] rfl (ql hm') (ql hmany2))),rfl,by rw[c9];exact aB (dF (am [most,many,((↑many:Int)-0).toNat] [(0,210),(1,0),(2,.s 1 110),(.a 16777326 111,2)] rfl (ql hm') (ql hmany2) (qT (am [many] [(110,0),(.a (.s 0 110) 111,110)] rfl (q0 many))))),?_⟩
 refine cq (P:=fun i acc H'=>∃ ps:List Pt,acc=ps.map Pt.v/\ps.length=i/\(∀ (k:Nat) (p:Pt),ps[k]? = some p->p.ok (inp+k))/\ay H H')
  ⟨[],rfl,rfl,by simp,x13⟩ (fun i x acc H' R hP hx hR=>?_) fun acc H' hP=>⟨rfl,?_⟩
 ·refine cY hP fun ps hr292_1 hi hps hx'=>?_
  try clear hP
  subst hr292_1
  refine az (eA hx) fun hr293_0 hi'=>?_
  subst hr293_0
  refine ⟨rfl,_,rfl,?_⟩
  refine dR (bC ?_)
  refine bw Dp.fn ?_
  refine ac ?_
  refine bw Dm.fn ?_
  refine a8 rfl (ac (aE (aO (ag rfl (bA (ah ?_))))))
  refine jF G Dc Dm (hx'.items ha) hl (by exact aY (am [i] [(110,0),(.a (.a 112 (.a 110 0)) 111,110)] rfl (q0 i))) fun H5 x5=>?_
  refine ac (jw rfl rfl (bA (ah ?_)))
  refine yK G S Dp hv (qh _ _) (by exact aY (am [inp,i] [(111,0),(110,1),(.a (.a 0 (.a 110 1)) 111,111)] rfl (ql hi1) (q0 i))) fun p H6 hp x6=>?_
  refine hR _ _ ⟨ps ++ [p],by simp,by simp[hi],fun k p' hk=>?_,(hx'.trans x5).trans x6⟩
  rcases Fd k ps.length with h | h
  ·rw[EE h] at hk;exact hps k p' hk
  ·rw[D1 h] at hk
   have:k-ps.length=0:=by
    rcases Nat.eq_zero_or_pos (k-ps.length) with h0 | h0
    ·exact h0
    ·rw[List.getElem?_eq_none (by simp;exact au (ae [k-ps.length] [(.a 110 111,0),(11,111)] rfl h0))] at hk;cases hk
   rw[this] at hk;cases hk
   have e:((inp:Int)+(0+(i:Int))).toNat=inp+k:=by lia
   rw[e] at hp;exact hp
 rw[c9] at hP
 refine cY hP fun ps hr315_1 hi hps hx=>?_
 try clear hP
 subst hr315_1
 refine ⟨by simp;exact aB (dF (am [most,many,ps.length,((↑many:Int)-0).toNat] [(0,210),(1,0),(2,3),(3,.s 1 110),(.a 16777326 111,2)] rfl (ql hm') (ql hmany2) (qe hi) (qT (am [many] [(110,0),(.a (.s 0 110) 111,110)] rfl (q0 many))))),fun pa hpa=>?_⟩
 refine aX (bJ (mH rfl rfl rfl ?_))
 refine ⟨show 3<=Dz by decide,?_⟩
 exact K ⟨r,inp,ps⟩ pa _ ⟨hr1,hr2,hi1,hi2,by show 1<=ps.length;exact dF (am [many,((↑many:Int)-0).toNat,ps.length] [(111,0),(1,2),(.s 0 110,1),(31,111)] rfl (ql hmany1) (qf hi) (qt ((↑many:Int)-0))),by show ps.length<=most;exact dF (am [many,most,ps.length,((↑many:Int)-0).toNat] [(0,1),(2,3),(3,.s 0 110),(21,2)] rfl (ql hmany2) (qe hi) (qT (am [many] [(110,0),(.a (.s 0 110) 111,110)] rfl (q0 many)))),hps,fun u v=>by have:=hfew u v;show ps.length<=4;(clear hv hl hm hm' hz hf0 hr1 hr2 hi1 hi2 hinp hmany1 hmany2 u v;lia)⟩ hinp (hx.more hpa) (hx.gone hpa) (aj ..)
end
end
section
open PySem PyProof.Rows
noncomputable def eF (w:Wk) (ey:Int->Option Int) (fr:Nat->Bool) (p:Pt) (k:Nat) (ds:List Int):List Int :=
 (if fr k=true then (DU w.ring.toNat).map (fun (d:Nat)=>(d:Int)) else [given p ds w.ring]).filter fun d=>(ey ((w.inp:Int)+(k:Int))).getD d==d
noncomputable def rows (w:Wk) (ey:Int->Option Int) (fr:Nat->Bool):List Pt->Nat->List Int->List (List Int)
 | [],_,ds=>[ds]
 | p::ps,k,ds=>(eF w ey fr p k ds).flatMap fun d=>rows w ey fr ps (k+1) (ds ++ [d])
structure Tak (w:Wk)(fr:Nat->Bool)(tk:List (List Int)):Prop where
 len:tk.length=w.ps.length+1
 ge:∀ k,∀ l∈tk.getD k [],0<=l
 sub:∀ k,k<w.ps.length -> ∀ l∈tk.getD (k+1) [],l∈tk.getD k []
 own:∀ (k:Nat) (p:Pt),w.ps[k]? = some p->fr k=false -> ∀ l:Nat,l∈p.ls->(l:Int)∈tk.getD k []
section
variable {w:Wk}{ey:Int->Option Int}{fr:Nat->Bool}{tk:List (List Int)}
theorem uH {p:Pt}{a b:List Int}{r:Int}(hp:p.ls.length=p.w.ar)(h:∀ l∈p.ls,a.getD l 0=b.getD l 0):given p a r=given p b r:=by
 obtain ⟨w,ls⟩:=p
 have hl:ls.length=w.ar:=hp
 have key:∀ i,i<ls.length->a.getD (ls.getD i 0) 0=b.getD (ls.getD i 0) 0:=fun i hi=>by
  refine h _ ?_
  rw[DL,DA hi]
  exact FS hi
 cases w <;> simp only[given,Wd.ar] at hl ⊢
 ·rw[key 0 (by exact be (ae [ls.length] [(112,0),(0,110)] rfl (mf hl))),key 1 (by exact be (ae [ls.length] [(112,0),(0,111)] rfl (mf hl)))]
 ·rw[key 0 (by exact be (ae [ls.length] [(112,0),(0,110)] rfl (mf hl))),key 1 (by exact be (ae [ls.length] [(112,0),(0,111)] rfl (mf hl)))]
 ·rw[key 0 (by exact be (ae [ls.length] [(113,0),(0,110)] rfl (mf hl))),key 1 (by exact be (ae [ls.length] [(113,0),(0,111)] rfl (mf hl))),key 2 (by exact be (ae [ls.length] [(113,0),(0,112)] rfl (mf hl)))]
 ·rw[key 0 (by exact be (ae [ls.length] [(111,0),(0,110)] rfl (mf hl)))]
noncomputable def BK (ls:List Int) (a b:List Int):Prop:=a.length=b.length /\ ∀ l:Int,l∈ls->l<a.length->a.getD l.toNat 0=b.getD l.toNat 0
theorem ib {a:List Int}{d:Int}{i:Nat}(h:i<a.length):(a ++ [d]).getD i 0=a.getD i 0:=by
 rw[DL,DL,EE h]
theorem qH (T:Tak w fr tk)(hw:∀ (k:Nat) (p:Pt),w.ps[k]? = some p->p.ok (w.inp+k)):∀ (rest:List Pt) (k:Nat),rest=w.ps.drop k -> ∀ a b:List Int,a.length=w.inp+k->BK (tk.getD k []) a b->(rows w ey fr rest k a = [] ↔ rows w ey fr rest k b = [])
 | [],k,_,a,b,_,_=>by simp[rows]
 | p::rest,k,hr,a,b,ha,hab=>by
  have hk:w.ps[k]? = some p:=by rw[<- List.head?_drop,<- hr];rfl
  have hlt:k<w.ps.length:=(DD.mp hk).1
  have hr':rest=w.ps.drop (k+1):=by rw[<- List.tail_drop,<- hr];rfl
  have hc:eF w ey fr p k a=eF w ey fr p k b:=by
   unfold eF
   cases q:fr k with
   | true=>simp only[if_true]
   | false=>
    simp only[D2,if_false]
    have:given p a w.ring=given p b w.ring:=uH (hw k p hk).1 fun l hl=>by
     have:=hab.2 l (T.own k p hk q l hl) (by have:=(hw k p hk).2 l hl;exact bE (am [w.inp,k,a.length,l] [(.a 0 1,2),(41,.a 0 1),(2,3)] rfl (qf ha) (ql this)))
     simpa using this
    rw[this]
  simp only[rows,Ga]
  rw[hc]
  refine forall_congr' fun d=>imp_congr_right fun zz=>?_
  refine qH T hw rest (k+1) hr' _ _ (by simp;exact cy (ae [w.inp,k,a.length] [(.a 0 1,2),(.a 31 111,.a 0 21)] rfl (mf ha)) (ae [a.length,w.inp,k] [(0,.a 1 2),(.a (.a 1 31) 111,11)] rfl (me ha))) ⟨by simp[hab.1],fun l hl hlt'=>?_⟩
  have h0:=T.ge _ _ hl
  simp at hlt'
  rcases Fd l.toNat a.length with h | h
  ·rw[ib h,ib (by rw[<- hab.1];exact h)]
   exact hab.2 l (T.sub k hlt l hl) (by exact bE (am [l.toNat,a.length,l] [(11,1),(2,0),(1,2)] rfl (ql h) (qt l)))
  ·have e:l.toNat=a.length:=by (clear ha hlt h0;lia)
   rw[e,DL,DL,D1 (Ea _),D1 (by rw[hab.1];exact Ea _),hab.1]
noncomputable def jB (tk:List (List Int)) (k:Nat) (ds:List Int):Int × List Int:=(k,((tk.getD k []).filter fun (l:Int)=>decide (l<(ds.length:Int))).map fun (l:Int)=>ds.getD l.toNat 0)
theorem yB {k:Nat}{a b:List Int}(h:a.length=b.length)(e:jB tk k a=jB tk k b):BK (tk.getD k []) a b:=by
 refine ⟨h,fun l hl hlt=>?_⟩
 unfold jB at e
 rw[<- h] at e
 have e2:=(Prod.ext_iff.mp e).2
 dsimp only at e2
 have:=List.map_inj_left.mp e2 l (Ep.mpr ⟨hl,by simpa using hlt⟩)
 exact this
noncomputable def nK (w:Wk) (ey:Int->Option Int) (fr:Nat->Bool) (tk:List (List Int)) (ks:List (Int × List Int)):Prop :=
 ∀ k:Nat,∀ ds:List Int,k<=w.ps.length->ds.length=w.inp+k->jB tk k ds∈ks->rows w ey fr (w.ps.drop k) k ds = []
theorem nK.add (T:Tak w fr tk)(hw:∀ (k:Nat) (p:Pt),w.ps[k]? = some p->p.ok (w.inp+k)){ks ks':List (Int × List Int)}{k:Nat}{ds:List Int}(h:nK w ey fr tk ks)(hl:ds.length=w.inp+k)(hd:rows w ey fr (w.ps.drop k) k ds = [])
  (hk:∀ x,x∈ks' ↔ x∈ks ∨ x=jB tk k ds):nK w ey fr tk ks':=fun k' ds' hk' hl' hm=>by
 rcases (hk _).mp hm with q | q
 ·exact h k' ds' hk' hl' q
 ·have e:k'=k:=by have:=(Prod.ext_iff.mp q).1;simp[jB] at this;exact sB (am [k,k'] [(0,1),(21,0)] rfl (zf this)) (am [k',k] [(0,1),(21,0)] rfl (ze this))
  subst e
  exact (qH T hw _ k' rfl ds' ds hl' (yB (by exact cy (ae [w.inp,k',ds'.length,ds.length] [(.a 0 1,2),(3,.a 0 1),(31,3)] rfl (mf hl') (me hl)) (ae [ds'.length,w.inp,k',ds.length] [(0,.a 1 2),(.a 1 2,3),(41,0)] rfl (me hl') (mf hl))) q)).mpr hd
end
end
section
open PySem
noncomputable def Tk (t:SetTable):Prop:=t.dummies = #[]/\t.place.toList.Pairwise (· < ·)
section
variable {xs:Array Nat}{j:Nat}
theorem v4 (hp:xs.toList.Pairwise (· < ·)):∀ (fuel lo hi:Nat),hi<=xs.size->lo<=hi->hi-lo<=fuel->(∀ i,i<lo->xs.getD i 0<j)->(∀ i,hi<=i->i<xs.size->j<=xs.getD i 0) ->
  Gf xs j fuel lo hi<=xs.size/\(∀ i,i<Gf xs j fuel lo hi->xs.getD i 0<j) /\ ∀ i,Gf xs j fuel lo hi<=i->i<xs.size->j<=xs.getD i 0:=by
 have mono:∀ a b,a<=b->b<xs.size->xs.getD a 0<=xs.getD b 0:=fun a b h1 h2=>by
  rcases Fd a b with h | h
  ·have:=ER.mp hp a b (by simpa using GL h h2) (by simpa using h2) h
   simp only[HO] at this
   rw[En,En,D8 (GL h h2),D8 h2]
   exact Nat.le_of_lt this
  ·rw[Nat.le_antisymm h1 h];exact Ea _
 intro fuel
 induction fuel with
 | zero=>
  intro lo hi h1 h2 h3 hl hh
  unfold Gf
  exact ⟨by exact au (ae [hi,xs.size,lo] [(0,1),(2,0),(21,2)] rfl h1 h2),hl,fun i hi1 hi2=>hh i (by exact au (ae [hi-lo,lo,i,hi] [(0,110),(1,2),(3,.a 0 1),(31,3)] rfl h3 hi1 (ms hi lo))) hi2⟩
 | succ n ih=>
  intro lo hi h1 h2 h3 hl hh
  unfold Gf
  by_cases h:lo<hi
  ·rw[if_pos h]
   dsimp only
   have hm:(lo+hi) / 2<hi:=by exact be (ae [lo,hi,(lo+hi) / 2] [(11,1),(.m 2 2,.a 0 1),(.w 2 1,2)] rfl h (mv (lo+hi) 2))
   have hs:(lo+hi) / 2<xs.size:=by exact be (ae [hi,xs.size,(lo+hi) / 2] [(0,1),(31,0),(1,2)] rfl h1 hm)
   have e:xs.getD ((lo+hi) / 2) j=xs.getD ((lo+hi) / 2) 0:=by
    rw[En,En,D8 hs];rfl
   rw[e]
   by_cases q:xs.getD ((lo+hi) / 2) 0<j
   ·rw[if_pos q]
    exact ih _ _ h1 (by exact au (ae [(lo+hi) / 2,hi] [(11,1),(21,11)] rfl hm)) (by (clear h1 h2 h hm hs e q;omega)) (fun i hi1=>Nat.lt_of_le_of_lt (mono i _ (by exact au (ae [i,(lo+hi) / 2] [(11,21),(21,0)] rfl hi1)) hs) q) hh
   ·rw[if_neg q]
    exact ih _ _ (by exact au (ae [(lo+hi) / 2,xs.size] [(11,1),(21,0)] rfl hs)) (by exact au (ae [(lo+hi) / 2,hi,lo] [(11,1),(.a (.a 2 1) 111,.m 2 11),(11,2)] rfl hm (mV (lo+hi) 2 rfl))) (by (clear h1 h2 h hm hs e q;omega)) hl (fun i hi1 hi2=>EI (EU q) (mono _ i hi1 hi2))
  ·rw[if_neg h]
   exact ⟨by exact au (ae [hi,xs.size,lo] [(0,1),(2,0),(21,2)] rfl h1 h2),hl,fun i hi1 hi2=>hh i (by exact au (ae [hi,lo,i] [(0,1),(1,2),(31,0)] rfl (mn h) hi1)) hi2⟩
theorem mG (hp:xs.toList.Pairwise (· < ·)):DR xs j<=xs.size/\(∀ i,i<DR xs j->xs.getD i 0<j) /\ ∀ i,DR xs j<=i->i<xs.size->j<=xs.getD i 0 :=
 v4 hp _ _ _ (Ea _) (EP _) (by exact au (ae [xs.size-0,xs.size] [(.a 0 110,1),(21,0)] rfl (md (ae [xs.size] [(11,110)] rfl)))) (fun i h=>absurd h (Hw _)) fun i h1 h2=>by exact au (ae [xs.size,i,xs.getD i 0,j] [(0,1),(21,0),(.w 0 31,3)] rfl h1 h2)
theorem pA (hp:xs.toList.Pairwise (· < ·)){i:Nat}(hi:i<=xs.size)(h0:i=0->j=0)(h1:0<i->j=xs.getD (i-1) 0+1):DR xs j=i:=by
 refine fA (mG (j:=j) hp) fun a b c=>?_
 have mono:∀ a b,a<b->b<xs.size->xs.getD a 0<xs.getD b 0:=fun a b h h2=>by
  have:=ER.mp hp a b (by simpa using GL h h2) (by simpa using h2) h
  simp only[HO] at this
  rw[En,En,D8 (GL h h2),D8 h2]
  exact this
 rcases Nat.lt_trichotomy (DR xs j) i with q | q | q
 ·exfalso
  have h3:=h1 (by exact be (ae [DR xs j,i] [(11,1),(1,110)] rfl q))
  have h2:=c (DR xs j) (Ea _) (by exact be (ae [i,xs.size,DR xs j] [(0,1),(31,0),(1,2)] rfl hi q))
  rcases Fd (DR xs j) (i-1) with r | r
  ·have:=mono _ _ r (by (clear a q h3 h2;omega));lia
  ·have e:DR xs j=i-1:=by exact cy (ae [i-1,DR xs j] [(0,1),(21,0)] rfl r) (ae [DR xs j,i,i-1] [(11,1),(1,.a 2 111),(31,0)] rfl q (ms i 1))
   rw[e] at h2;exact ae [xs.getD (i-1) 0,j] [(11,1),(1,0)] rfl (mf h3) h2
 ·exact q
 ·exfalso
  have h2:=b i q
  rcases Nat.eq_zero_or_pos i with e | e
  ·rw[h0 e] at h2;exact ae [xs.getD i 0] [(11,110)] rfl h2
  ·have:=mono (i-1) i (by exact be (ae [i-1,i] [(.a 0 111,1),(1,0)] rfl (md (ae [i] [(.a 110 111,0),(11,111)] rfl e)))) (by exact be (ae [DR xs j,xs.size,i] [(0,1),(31,0),(1,2)] rfl a q))
   rw[h1 e] at h2;exact ae [xs.getD i 0,xs.getD (i-1) 0] [(11,21),(21,0)] rfl h2 this
theorem oV (hp:xs.toList.Pairwise (· < ·))(hn:xs[DR xs j]? ≠ some j):(SetTable.insertAt xs (DR xs j) j).toList.Pairwise (· < ·):=by
 refine fA (mG (j:=j) hp) fun a b c=>?_
 rw[SetTable.toList_insertAt]
 have gd:∀ i (h:i<xs.size),xs.getD i 0=xs[i]:=fun i h=>by rw[En,D8 h];rfl
 have lt:∀ x∈xs.toList.take (DR xs j),x<j:=fun x hx=>by
  obtain ⟨i,h1,h2⟩:=List.mem_take_iff_getElem.mp hx
  have h3:i<xs.size:=by simp at h1;lia
  have:=b i (by simp at h1;lia)
  rw[gd i h3] at this
  rw[<- h2];simpa using this
 have gt:∀ x∈xs.toList.drop (DR xs j),j<x:=fun x hx=>by
  obtain ⟨i,h1,h2⟩:=List.mem_drop_iff_getElem.mp hx
  have h3:i+DR xs j<xs.size:=by simpa using h1
  have h4:=c (i+DR xs j) (by exact au (ae [i,DR xs j] [(.a (.a 0 1) 111,1)] rfl)) h3
  rw[gd _ h3] at h4
  have e:x=xs[i+DR xs j]:=by rw[<- h2];simp[Nat.add_comm]
  rw[e]
  rcases Nat.eq_zero_or_pos i with q | q
  ·subst q
   have:xs[0+DR xs j]≠j:=fun z=>hn (by rw[D8 (by exact be (ae [DR xs j,xs.size] [(.a (.a 110 0) 111,1),(1,0)] rfl h3))];simpa using z)
   (clear a h2 e;lia)
  ·have h5:=c (DR xs j) (Ea _) (by exact be (ae [i,DR xs j,xs.size] [(.a (.a 0 1) 111,2),(2,1)] rfl h3))
   rw[gd _ (by exact be (ae [i,DR xs j,xs.size] [(.a (.a 0 1) 111,2),(2,1)] rfl h3))] at h5
   have:=ER.mp hp (DR xs j) (i+DR xs j) (by simp;exact be (ae [i,DR xs j,xs.size] [(.a (.a 0 1) 111,2),(2,1)] rfl h3)) (by simpa using h3) (by exact be (ae [i,DR xs j] [(.a 110 111,0),(.a 0 1,1)] rfl q))
   simp only[HO] at this
   exact be (ae [j,xs[DR xs j],xs[i+DR xs j]] [(0,1),(21,2),(2,0)] rfl h5 this)
 refine HL.mpr ⟨hp.take,F7.mpr ⟨gt,hp.drop⟩,fun x hx y hy=>?_⟩
 rcases EW.mp hy with rfl | hy
 ·exact lt x hx
 ·exact GL (lt x hx) (gt y hy)
end
theorem sg (j:Nat):SetTable.has #[] j=false:=by simp[SetTable.has]
theorem Tk.fresh (f m:Nat)(l:Bool):Tk (SetTable.fresh f m l):=⟨rfl,by simp[SetTable.fresh]⟩
theorem Tk.standIn {t:SetTable}(n:Nat):Tk (t.standIn n):=⟨rfl,by simp[SetTable.standIn];exact List.pairwise_lt_range⟩
theorem Tk.orStandIn {t:SetTable}(h:Tk t)(n:Nat):Tk (t.orStandIn n):=by
 unfold SetTable.orStandIn
 split
 ·exact h
 ·exact Tk.standIn n
theorem wL {t:SetTable}(hd:t.dummies = #[]){g:Nat->Int}{h:Int}(hg:∀ i,(g i==h)=false):∀ (fuel:Nat) (p:SetTable.Probe),p.dummy=none -> ∀ m,SetTable.probe.go t g h fuel p=some m -> ∃ j,m = .empty j none/\t.place[DR t.place j]? ≠ some j:=by
 intro fuel
 induction fuel with
 | zero=>intro p _ m e;simp[SetTable.probe.go] at e
 | succ n ih=>
  intro p hp m e
  unfold SetTable.probe.go at e
  have adv:(t.advance p).dummy=none:=by unfold SetTable.advance;split <;> simp[hp]
  cases hs:t.slot p.j with
  | empty=>
   rw[hs] at e
   simp only[G1] at e
   refine ⟨p.j,by rw[<- e,hp],fun q=>?_⟩
   unfold SetTable.slot at hs
   dsimp only at hs
   rw[q] at hs
   simp at hs
  | dummy=>
   exfalso
   unfold SetTable.slot at hs
   rw[hd,sg] at hs
   dsimp only at hs
   split at hs <;> simp at hs
  | live i=>
   rw[hs] at e
   dsimp only at e
   rw[hg i] at e
   exact ih _ adv m e
theorem uF {t:SetTable}(hk:Tk t){h:Int}{slot:Nat}{wd:Bool}(e:t.freeSlot h=some (slot,wd)):t.place[DR t.place slot]? ≠ some slot:=by
 unfold SetTable.freeSlot at e
 cases q:t.probe (fun zz=>h+1) h (t.probeStart h) with
 | none=>rw[q] at e;simp at e
 | some m=>
  obtain ⟨j,rfl,hj⟩:=wL hk.1 (g:=fun zz=>h+1) (h:=h) (fun zz=>by simp;exact f9 (am [h] [(11,0),(.w 0 0,11)] rfl)) _ _ rfl m q
  rw[q] at e
  simp at e
  rw[<- e.1];exact hj
theorem Tk.put {t:SetTable}(hk:Tk t){j:Nat}(hn:t.place[DR t.place j]? ≠ some j):Tk (t.put j).1:=by
 refine ⟨?_,oV hk.2 hn⟩
 show (if SetTable.has t.dummies j then _ else t.dummies) = #[]
 rw[hk.1,sg];rfl
theorem Tk.layNew {t:SetTable}(hk:Tk t)(es:Array (Int × Value))(h:Int)(x:Value):Tk (layNew t es h x).2.1/\(layNew t es h x).2.1.led=t.led:=by
 unfold PySem.layNew
 cases q:t.freeSlot h with
 | none=>exact ⟨Tk.standIn _,rfl⟩
 | some p=>
  obtain ⟨slot,wd⟩:=p
  refine ⟨(hk.put (uF hk q)).orStandIn _,?_⟩
  show (SetTable.orStandIn (t.put slot).1 _).led=t.led
  unfold SetTable.orStandIn
  split <;> rfl
theorem rH {mask f m:Nat}{led plain:Bool}{hs:Array Int}{r:SetTable × Array Nat}(e:SetTable.laid mask f m led plain hs=some r):Tk r.1/\r.1.led=led:=by
 unfold SetTable.laid at e
 cases q:SetTable.layClean mask hs with
 | none=>rw[q] at e;simp at e
 | some ow=>
  rw[q] at e
  simp only[Option.bind_eq_bind,Option.bind_some,Option.pure_def,G1] at e
  subst e
  refine ⟨⟨rfl,?_⟩,rfl⟩
  show ((GV (·.1) ((DU (mask+1)).filterMap fun j=>(ow.getD j none).map (j,·))).toArray).toList.Pairwise (· < ·)
  rw[GF,List.pairwise_map]
  refine List.Pairwise.filterMap (R:=(· < ·)) _ (fun a b hab x hx y hy=>?_) List.pairwise_lt_range
  simp only[DE] at hx hy
  refine ad hx fun zz zz hr180_2=>?_
  try clear hx
  subst hr180_2
  refine ad hy fun zz zz hr181_2=>?_
  try clear hy
  subst hr181_2
  exact hab
theorem Tk.relay {t:SetTable}(hk:Tk t)(es:Array (Int × Value))(n:Nat):Tk (relayAll t es n).2.1/\(relayAll t es n).2.1.led=t.led:=by
 unfold relayAll
 cases q:t.relaid (es.map (·.1)) n with
 | none=>exact ⟨Tk.standIn _,rfl⟩
 | some r=>
  obtain ⟨t',ord⟩:=r
  unfold SetTable.relaid at q
  have:=rH q
  dsimp only
  split
  ·exact this
  ·exact ⟨Tk.standIn _,rfl⟩
end
section
open PySem
noncomputable def eP (e:Int × Value):Int:=match e.2 with | .int k _=>k | _=>0
noncomputable def fM (w:Fq):Bool:=w.params.followText "set-order"
noncomputable def cE (es:Array (Int × Value)) (ep:Nat) (t:SetTable):Obj:={ cls:=.type "set",dict:=none,data:=.set es ep t }
structure SetE (prog:Ee)(w:Fq)(es:Array (Int × Value))(t:SetTable)(l:List Int):Prop where
 ent:∀ e∈es.toList,∃ u,e=((intKind prog w).hash (eP e),.int (eP e) u)
 nod:(es.toList.map eP).Nodup
 mem:∀ k,k∈es.toList.map eP ↔ k∈l
 len:es.size<=l.length
 fit:t.fits es.size=true
 tk:Tk t
 led:t.led = !fM w
noncomputable def fG (prog:Ee) (w:Fq) (h:Heap) (a:Addr) (l:List Int):Prop:=∃ es ep t,h.get? a=some (cE es ep t)/\SetE prog w es t l
section
variable {prog:Ee}{w:Fq}{A:D4}{E:Value->Shared->Prop}{s:Shared}{es:Array (Int × Value)}{t:SetTable}{l:List Int}{a:Addr}
theorem km (k:Int)(u:Tok):(intKind prog w).is k (.int k u)=true:=by simp[intKind,F_]
theorem sj {k:Int}{e:Int × Value}{u:Tok}(h:e=((intKind prog w).hash (eP e),.int (eP e) u)):(intKind prog w).is k e.2=decide (k=eP e):=by
 rw[h]
 exact KeyKind.is_eq_decide (km (eP e) u) k
theorem SetE.elems (x:SetE prog w es t l):ElemsOf (intKind prog w) es.toList:=fun e he=>by
 refine aF (x.ent e he) fun u hu=>?_
 refine ⟨⟨eP e,by rw[hu];exact km _ _,by rw[hu];rfl⟩,by rw[hu];rfl⟩
theorem qU {h:Heap}{ep:Nat}{es':Array (Int × Value)}{t':SetTable}(ho:h.get? a=some (cE es ep t)):(h.update a (Obj.putSet es' t')).get? a=some (cE es' (ep+1) t'):=by
 have:=Ew (Obj.putSet es' t') ho rfl
 exact this
theorem SetE.perm {es':Array (Int × Value)}{t':SetTable}(x:SetE prog w es t l)(p:List.Perm es'.toList es.toList)(f:t'.fits es'.size=true)(k:Tk t')(d:t'.led = !fM w):SetE prog w es' t' l where
 ent:=fun e he=>x.ent e (p.mem_iff.mp he)
 nod:=(p.map eP).nodup_iff.mpr x.nod
 mem:=fun k=>((p.map eP).mem_iff).trans (x.mem k)
 len:=by have:=p.length_eq;simp at this;rw[this];exact x.len
 fit:=f
 tk:=k
 led:=d
theorem px {g:Bool->Sem Unit}(hg:∀ (b:Bool) (s₁:Shared) (Q':Unit->Shared->Prop),Q' () s₁->wpAny (Er prog w) A (g b) Q' E s₁)
  {ep:Nat} {es1:Array (Int × Value)} {t2:SetTable} {m:List Int} (ho:s.heap.get? a=some (cE es ep t)) (x:SetE prog w es1 t2 m) (hb1:es1.size<Fp) {wasDummy:Bool} {R:Option Bool->Shared->Prop}
  (h:∀ h',Eg a s.heap h'->fG prog w h' a m->R (some true) { s with heap:=h' }) :
  wpAny (Er prog w) A (do
    storeSet a es1 t2
    if (!wasDummy&&t2.tooFull)=true then do
      g (relayAll t2 es1 (FM es1.size)).2.2
      storeSet a (relayAll t2 es1 (FM es1.size)).1 (relayAll t2 es1 (FM es1.size)).2.1
      pure (some true)
     else pure (some true)) R E s:=by
 refine Dq (wpAny_storeSet_of ho rfl ?_ (fits_of_scanBound hb1))
 have ho1:(s.heap.update a (Obj.putSet es1 t2)).get? a=some (cE es1 (ep+1) t2):=qU ho
 have hsb1:=EO s.heap a (Obj.putSet es1 t2)
 split
 ·have hp:=relayAll_perm t2 es1 (FM es1.size)
  have hfr:=relayAll_fits t2 es1 (FM es1.size)
  have hk:=x.tk.relay es1 (FM es1.size)
  generalize relayAll t2 es1 (FM es1.size)=Rl at hp hfr hk ⊢
  obtain ⟨es2,t3,gave2⟩:=Rl
  dsimp only at hp hfr hk ⊢
  have hsz:es2.size=es1.size:=by rw[<- DS,hp.length_eq,DS]
  refine Dq (hg _ _ _ ?_)
  refine Dq (wpAny_storeSet_of ho1 rfl ?_ (fits_of_scanBound (by rw[hsz];exact hb1)))
  exact wpAny_pure (h _ (hsb1.trans (EO _ a _)) ⟨es2,_,t3,qU ho1,x.perm hp hfr hk.1 (hk.2.trans x.led)⟩)
 ·exact wpAny_pure (h _ hsb1 ⟨es1,_,t2,ho1,x⟩)
theorem te {k:Int}{u:Tok}{Q:Bool->Shared->Prop}(hS:fG prog w s.heap a l)(hroom:l.length+1<Fp)
  (h:∀ b h',Eg a s.heap h'->fG prog w h' a (l ++ [k])->Q b { s with heap:=h' }) :
  wpAny (Er prog w) A (setAddHashed a (.int k u) ((intKind prog w).hash k)) Q E s:=by
 refine f8 hS fun es ep t ho x=>?_
 try clear hS
 have hlen:=x.len
 have hb:es.size<Fp:=by exact be (ae [l.length,Fp,es.size] [(.a 11 111,1),(2,0),(1,2)] rfl hroom hlen)
 unfold setAddHashed setAddHashedIn
 refine DT (Dq (E0 ho rfl x.fit ?_))
 dsimp only
 rw[byScan_of rfl hb x.elems]
 simp -iota only[↓reduceIte]
 unfold setAddByScan
 refine Dq ?_
 refine Dq (wpAny_rule ?_)
 refine Dq (wpAny_setScan_of (km k u) ho rfl x.fit x.elems ?_)
 cases hr:List.findIdx? (fun e=>(intKind prog w).is k e.2) es.toList with
 | some j=>
  dsimp only
  refine ad (List.findIdx?_eq_some_iff_getElem.mp hr) fun hj hpj zz=>?_
  refine aF (x.ent _ (FS hj)) fun u' hu=>?_
  rw[sj hu] at hpj
  have hk:k∈l:=(x.mem k).mp (Ef.mpr ⟨_,FS hj,(of_decide_eq_true hpj).symm⟩)
  refine wpAny_pure (wpAny_pure ?_)
  have e:s={ s with heap:=s.heap }:=by cases s;rfl
  rw[e]
  refine h _ s.heap (Eg.refl a s.heap) ⟨es,ep,t,ho,{ x with mem:=fun k'=>(x.mem k').trans ?_,len:=by simp -iota;(exact au (ae [es.size,l.length] [(0,1),(.a 21 111,0)] rfl hlen)) }⟩
  simp -iota only[El,EV]
  exact ⟨.inl,fun q=>q.elim id fun e=>e ▸ hk⟩
 | none=>
  dsimp only
  have hnk:k ∉ es.toList.map eP:=fun q=>by
   refine ad (Ef.mp q) fun e he q=>?_
   refine aF (x.ent e he) fun u' hu=>?_
   have:=List.findIdx?_eq_none_iff.mp hr e he
   rw[sj hu,decide_eq_true q.symm] at this
   cases this
  have hgw:∀ (b:Bool) {s₁:Shared} {Q':Unit->Shared->Prop},Q' () s₁->wpAny (Er prog w) A (match b with | true=>rule "set.scan.the-table-gave-way" | false=>pure ()) Q' E s₁ :=
   fun b s₁ Q' hq=>by cases b <;> first | exact wpAny_pure hq | exact wpAny_rule hq
  have hperm:=layNew_perm t es ((intKind prog w).hash k) (.int k u)
  have hfits:=layNew_fits t es ((intKind prog w).hash k) (.int k u)
  have hk1:=x.tk.layNew es ((intKind prog w).hash k) (.int k u)
  generalize layNew t es ((intKind prog w).hash k) (.int k u)=L at hperm hfits hk1 ⊢
  obtain ⟨es1,t1,wasDummy,gave⟩:=L
  dsimp only at hperm hfits hk1 ⊢
  rw[G6] at hperm
  have hmap:=hperm.map eP
  rw[DO] at hmap
  have hsz:es1.size=es.size+1:=by have:=hperm.length_eq;simpa using this
  have x1:SetE prog w es1 t1 (l ++ [k]) :=
   { ent:=fun e he=>by
       rcases El.mp (hperm.mem_iff.mp he) with he | he
       · exact x.ent e he
       · rw[EV] at he;subst he;exact ⟨u,rfl⟩
     nod:=by
       refine hmap.nodup_iff.mpr (List.nodup_append.mpr ⟨x.nod,by simp -iota,fun p hp q hq=>?_⟩)
       simp -iota only[D3,List.map_nil,EV] at hq
       rintro rfl
       exact hnk (by rw[show k=p from hq.symm];exact hp)
     mem:=fun k'=>by
       rw[hmap.mem_iff]
       simp -iota only[El,x.mem k']
       exact Iff.rfl
     len:=by rw[hsz];simp -iota;exact au (ae [es.size,l.length] [(0,1),(21,0)] rfl hlen)
     fit:=hfits
     tk:=hk1.1
     led:=hk1.2.trans x.led }
  have hb1:es1.size<Fp:=by exact be (ae [l.length,Fp,es.size,es1.size] [(.a 11 111,1),(2,0),(3,31),(1,3)] rfl hroom hlen (me hsz))
  refine Dq (hgw _ ?_)
  split
  ·refine Dq ?_
   rw[hashByValue_scannable 8 rfl]
   refine wpAny_pure ?_
   refine px (m:=l ++ [k]) ?_ ho (by exact x1) hb1 ?_
   ·intro b s₁ Q' hq;cases b <;> first | exact wpAny_pure hq | exact wpAny_rule hq
   ·intro h' hsb hS';dsimp only;exact wpAny_pure (h _ h' hsb hS')
  ·refine Dq (wpAny_pure ?_)
   simp -iota only[↓reduceIte]
   refine px ?_ ho x1 hb1 ?_
   ·intro b s₁ Q' hq;cases b <;> first | exact wpAny_pure hq | exact wpAny_rule hq
   ·intro h' hsb hS';dsimp only;exact wpAny_pure (h _ h' hsb hS')
theorem yQ {k:Int}{u:Tok}{Q:Bool->Shared->Prop}(hS:fG prog w s.heap a l)(hroom:l.length+1<Fp)
  (h:∀ b h',Eg a s.heap h'->fG prog w h' a (l ++ [k])->Q b { s with heap:=h',toks:=s.toks+1 }) :
  wpAny (Er prog w) A (setAdd a (.int k u)) Q E s:=by
 unfold setAdd
 refine DT ?_
 refine Dq ((intKind prog w).pyHash (km k u) ?_)
 exact te (s:={ s with toks:=s.toks+1 }) hS hroom h
end
end
section
set_option maxRecDepth 100000
open PySem
theorem mS:entryFor table "set.update.loop" = some DX.«set.update.loop» := G_ (by kernel_rfl)
theorem jL:plainId "set.update.loop" = true:=by decide +kernel
theorem oh (a:Addr):checkTypeCall "set" ⟨[.ref a],[]⟩=pure ():=by kernel_rfl
theorem o5 (a:Addr):Ha "set.__new__" ⟨[.type "set",.ref a],[]⟩=pure ():=by kernel_rfl
theorem qc:isSubtype (.type "list") (.type "set")=pure false:=by rw[Gd];kernel_rfl
theorem oY:isSubtype (.type "list") (.type "frozenset")=pure false:=by rw[Gd];kernel_rfl
section
variable {prog:Ee}{w:Fq}{A:D4}{E:Value->Shared->Prop}{s:Shared}{a:Addr}
theorem fG.at {h h':Heap}{l:List Int}(x:fG prog w h a l)(e:∀ o,h.get? a=some o->h'.get? a=some o):fG prog w h' a l :=
 let ⟨es,ep,t,ho,r⟩:=x;⟨es,ep,t,e _ ho,r⟩
theorem vM {R:Result->Shared->Prop}(hh:A.in1.handled=none)(S I L:Addr)(hSI:S≠I)(hSL:S≠L)(hLI:L≠I)(items:Array Value)(ns:List Int)(hv:∀ (i:Nat) v,items[i]? = some v -> ∃ u,v = .int (ns.getD i 0) u)
  (hn:ns.length=items.size) (hb:ns.length+1<Fp) :
  ∀ (k i:Nat) (s:Shared),items.size-i=k->i<=items.size->s.heap.IsListIter I L i->s.heap.IsList L items->fG prog w s.heap S (ns.take i) ->
  (∀ h' tk,fG prog w h' S ns->(∀ b o,b≠S->b≠I->s.heap.get? b=some o->h'.get? b=some o)->R (.ok (.ret .none)) { s with heap:=h',toks:=tk }) ->
  GJ (Er prog w) A (.builtin "set.update.loop" ⟨[.ref S,.ref I],[]⟩) R s:=by
 have W:=Walks.list (prog:=prog) (w:=w) hh I L hLI items
 intro k
 induction k with
 | zero=>
  intro i s hk hi hit hl hS hR
  have hin:i=items.size:=by exact cy (ae [items.size-i,items.size,i] [(0,110),(1,.a 0 2),(31,1)] rfl (me hk) (ms items.size i)) (ae [i,items.size] [(0,1),(21,0)] rfl hi)
  refine EH mS ?_
  rw[EZ jL _]
  show wpAny _ A.in1 (FW (.ref I) >>= _) _ _ s
  refine Dq (W.done s _ _ (hin ▸ ⟨hit,hl⟩) fun h' tk hk'=>?_)
  refine wpAny_pure (hR h' tk ?_ fun b o zz h2 e=>hk' b o (by simpa using h2) e)
  have e:ns.take i=ns:=ED (by exact au (ae [ns.length,items.size,i] [(0,1),(1,2),(31,0)] rfl (me hn) (mf hin)))
  rw[e] at hS
  exact hS.at fun o e=>hk' S o (by simpa using hSI) e
 | succ k ih=>
  intro i s hk hi hit hl hS hR
  have hlt:i<items.size:=by (clear hSI hSL hLI hn hb hi;omega)
  refine EH mS ?_
  rw[EZ jL _]
  show wpAny _ A.in1 (FW (.ref I) >>= _) _ _ s
  refine Dq (W.item i s _ _ hlt ⟨hit,hl⟩ fun v h' tk hP hst' hm=>?_)
  refine aF (hv i v hP) fun u hr48_1=>?_
  subst hr48_1
  have hS':fG prog w h' S (ns.take i):=hS.at fun o e=>hm S o (by simpa using hSI) e
  refine Dq (DT (yQ (s:={ s with heap:=h',toks:=tk }) hS' (by simp;lia) fun b h'' hsb hS''=>?_))
  refine wpAny_pure ⟨Gv jL _,?_⟩
  have et:ns.take i ++ [ns.getD i 0]=ns.take (i+1):=by
   rw[D7,DL,DA (by exact be (ae [items.size,ns.length,i] [(0,1),(31,0),(1,2)] rfl (mf hn) hlt))];rfl
  rw[et] at hS''
  refine ih (i+1) _ (by lia) hlt (hst'.1.at fun o e=>?_) (hst'.2.at fun o e=>?_) hS'' fun h3 tk3 hS3 hk3=>hR h3 tk3 hS3 fun b o h1 h2 e=>hk3 b o h1 h2 ?_
  ·exact (hsb.2 I (fun q=>hSI q.symm)).trans e
  ·exact (hsb.2 L (fun q=>hSL q.symm)).trans e
  ·exact (hsb.2 b h1).trans (hm b o (by simpa using h2) e)
end
end
section
set_option maxRecDepth 100000
open PySem
section
variable {prog:Ee}{w:Fq}{A:D4}{E:Value->Shared->Prop}{s:Shared}{L:Addr}
theorem wS {Q₁:Value->Shared->Prop}
  (h:Q₁ (.ref s.heap.objs.size) { s with heap:=s.heap.push (cE #[] 0 (.fresh 0 0 (!fM w))) }) :
  GJ (Er prog w) A (.call (.builtin "set.__new__") ⟨[.type "set",.ref L],[]⟩) (wants Q₁ E) s:=by
 refine codeAny_of_tree ?_
 show wpAny _ A.in1 (do Ha "set.__new__" ⟨[.type "set",.ref L],[]⟩;again (.builtin "set.__new__" ⟨[.type "set",.ref L],[]⟩)) _ _ s
 refine Dq (wpAny_of_eq (o5 L) (wpAny_pure ⟨Gv F.plain_set_new _,EH F.entry_set_new ?_⟩))
 rw[EZ F.plain_set_new _]
 unfold DX.«set.__new__» DX.Frozenset.newClass
 have hsub:=sub_set_self
 obtain ⟨hp,g,d,tk,os⟩:=s
 dsimp only
 wp_walk
 refine G9 (wpAny_pure ?_)
 dsimp only
 simp only[newObj]
 refine Dq (wpAny_alloc (wpAny_pure ?_))
 exact wpAny_pure h
theorem rA {M:Model}{self x:Value}{Q:Unit->Shared->Prop}(hT:s.TypeIs self "set")(hQ:Q () s) :
  wpAny M A (Ha "set.__init__" ⟨[self,x],[]⟩) Q E s:=by
 simp only[Ha,kind_set_init,split_set_init,sig_set_init]
 refine Dq (E6 hT sub_set_self ?_)
 simp only[E5,D2,if_false]
 unfold Bind.checkArgs
 dsimp only
 refine Dq (m:=Bind.printed "set" true _ _) (PyProof.Rows.printed_name (by decide) ?_)
 refine Dq (m:=Bind.printed "*" false _ _) (PyProof.Rows.printed_star (self:=self) rfl hT fun short=>?_)
 have hrn:(G2.self==G2.none)=false:=by decide
 have hn:(if (G2.self==G2.none)=true then [self,x].length else [self,x].length-1)=1:=by simp[hrn]
 rw[hn]
 simp only[List.map_nil]
 have hc:Bind.check ⟨.positional, "set", "*",.self,[⟨"iterable",.posOnly,false⟩]⟩ "set" short 1 []=pure ():=by
  first | kernel_rfl | rfl | simp +decide [Bind.check,Bind.checkCount,Bind.isPositional]
 rw[hc]
 exact wpAny_pure hQ
theorem uK {S:Addr}{items:Array Value}{ns:List Int}{P:Fin->Shared->Prop}(hh:A.handled=none)(hS:s.heap.get? S=some (cE #[] 0 (.fresh 0 0 (!fM w))))(hL:s.heap.IsList L items)(hSL:S≠L)
  (hv:∀ (i:Nat) v,items[i]? = some v -> ∃ u,v = .int (ns.getD i 0) u) (hn:ns.length=items.size) (hb:ns.length+1<Fp)
  (hR:∀ h' tk,fG prog w h' S ns->(∀ b o,b≠S->s.heap.get? b=some o->h'.get? b=some o)->P (.done (.ret .none)) { s with heap:=h',toks:=tk }) :
  wpAny (Er prog w) A (DX.«set.__init__» ⟨[.ref S,.ref L],[]⟩) P E s:=by
 have hT:s.TypeIs (.ref S) "set" := ⟨_,hS,rfl⟩
 have hTL:=hL.typeIs
 unfold DX.«set.__init__» noKeywords
 have n1:=qc
 have n2:=oY
 obtain ⟨hp,g,d,tk,os⟩:=s
 wp_walk using GZ hL
 have hIn:hp.get? hp.objs.size=none:=by simp[Hi]
 have hne:∀ b o,hp.get? b=some o->b≠hp.objs.size:=fun b o e q=>by rw[q,hIn] at e;cases e
 refine ad (id hL) fun oL hoL qL=>?_
 have kp:∀ b o,hp.get? b=some o->(hp.push { cls:=.type "list_iterator",data:=.fields #[.ref L,.int 0 0] }).get? b=some o:=fun b o e=>Dv _ e
 refine vM (s:={ heap:=hp.push { cls:=.type "list_iterator",data:=.fields #[.ref L,.int 0 0] },gens:=g,drawn:=d,toks:=tk,os:=os }) hh S hp.objs.size L (hne S _ hS) hSL (hne L _ hoL) items ns hv hn hb items.size 0 (by (clear hSL hn hb qL;lia)) (EP _)
  ⟨_,DG _ rfl,rfl,rfl⟩ ⟨oL,kp _ _ hoL,qL⟩ ⟨#[],0,_,kp _ _ hS,⟨fun e he=>by simp at he,by simp,fun k=>by simp,by simp,by rfl,Tk.fresh _ _ _,rfl⟩⟩ fun h' tk' hS' hk'=>?_
 exact wpAny_pure (wpAny_pure (hR h' tk' hS' fun b o h1 e=>hk' b o h1 (hne b o e) (kp b o e)))
set_option maxHeartbeats 1000000 in
theorem uk {items:Array Value}{ns:List Int}{Q:Value->Shared->Prop}(hh:A.handled=none)(hL:s.heap.IsList L items)
  (hv:∀ (i:Nat) v,items[i]? = some v -> ∃ u,v = .int (ns.getD i 0) u) (hn:ns.length=items.size) (hb:ns.length+1<Fp)
  (h:∀ h' tk,fG prog w h' s.heap.objs.size ns->(∀ b o,s.heap.get? b=some o->h'.get? b=some o)->Q (.ref s.heap.objs.size) { s with heap:=h',toks:=tk }) :
  wpAny (Er prog w) A (call (.type "set") [.ref L]) Q E s:=by
 refine vT FU.mro fun c tl hmro=>?_
 have hmade:=FU.made
 have hsub:=FU.sub
 refine Hl (codeAny_of_tree ?_)
 show wpAny _ _ (callAny (.type "set") _) _ _ _
 refine wpAny_pure ⟨Code.quiet_builtin _ (by decide +kernel),EH F.entry_type_call ?_⟩
 rw[D4.under_plain (weight_type_call_type "set" [.ref L] []) rfl]
 have h1:=FU.notType
 have h2:=FU.canCreate
 have hct:=oh L
 repeat (any_goals (first | assumption | wp_step))
 refine Hn (wS (E:=E) (Q₁:=fun obj s₁=>obj = .ref s.heap.objs.size/\s₁={ s with heap:=s.heap.push (cE #[] 0 (.fresh 0 0 (!fM w))) }) ⟨rfl,rfl⟩) fun r s₁ hr=>?_
 cases r with
 | error e=>exact hr
 | ok fl=>
  cases fl with
  | ret obj=>
   refine az hr fun hr87_0 hr87_1=>?_
   try clear hr
   subst hr87_0
   subst hr87_1
   have hS:(s.heap.push (cE #[] 0 (.fresh 0 0 (!fM w)))).get? s.heap.objs.size=some (cE #[] 0 (.fresh 0 0 (!fM w))):=DG _ rfl
   have hT:Shared.TypeIs { s with heap:=s.heap.push (cE #[] 0 (.fresh 0 0 (!fM w))) } (.ref s.heap.objs.size) "set" := ⟨_,hS,rfl⟩
   have hli:=FU.init.lookup
   have hbi:=FU.init.bind (.ref s.heap.objs.size)
   repeat (any_goals (first | assumption | wp_step))
   have hLn:s.heap.objs.size≠L:=fun q=>by obtain ⟨o,ho,_⟩:=hL;rw[<- q] at ho;simp[Hi] at ho
   refine Hn (codeAny_call_builtin (R:=wants (fun r s₂=>r = .none/\Q (.ref s.heap.objs.size) s₂) E) FU.init.plain F.entry_set_init (rA hT ?_)) fun r₂ s₂ hr₂=>?_
   ·have hlt:∀ b o,s.heap.get? b=some o->b≠s.heap.objs.size:=fun b o e q=>by rw[q] at e;simp[Hi] at e
    refine ad (id hL) fun oL hoL qL=>?_
    refine uK (s:={ s with heap:=s.heap.push (cE #[] 0 (.fresh 0 0 (!fM w))) }) (by exact hh) hS ⟨oL,Dv _ hoL,qL⟩ hLn hv hn hb fun h' tk hS' hk=>?_
    exact ⟨rfl,h h' tk hS' fun b o e=>hk b o (hlt b o e) (Dv _ e)⟩
   ·cases r₂ with
    | error e=>exact hr₂
    | ok fl₂=>
     cases fl₂ with
     | ret r=>
      refine az hr₂ fun hr104_0 hq=>?_
      try clear hr₂
      subst hr104_0
      repeat (any_goals (first | assumption | wp_step))
     | _=>exact hr₂.elim
  | _=>exact hr.elim
end
end
section
set_option maxRecDepth 100000
open PySem
theorem cQ:Slot "set_iterator" "__next__" "set_iterator.__next__" :=
 .of (owner := "set_iterator") (n := "__next__") (by rw[Hu,Gl];kernel_rfl) (by decide +kernel) (by decide +kernel) (by decide +kernel)
  (by first | exact .inl (by decide +kernel) | exact .inr (by decide +kernel)) (by rw[Gd];kernel_rfl)
theorem iW:Slot "set_iterator" "__iter__" "set_iterator.__iter__" :=
 .of (owner := "set_iterator") (n := "__iter__") (by rw[Hu,Gl];kernel_rfl) (by decide +kernel) (by decide +kernel) (by decide +kernel)
  (by first | exact .inl (by decide +kernel) | exact .inr (by decide +kernel)) (by rw[Gd];kernel_rfl)
theorem ia:entryFor table "set_iterator.__next__" = some DX.«set_iterator.__next__» := G_ (by kernel_rfl)
theorem lR:entryFor table "set_iterator.__iter__" = some DX.«dict_keyiterator.__iter__» :=
 entryFor_alias (id' := "dict_keyiterator.__iter__") (by kernel_rfl) rfl (by decide +kernel) (by kernel_rfl)
theorem nS:entryFor table "set.__iter__" = some DX.«frozenset.__iter__» :=
 entryFor_alias (id' := "frozenset.__iter__") (by kernel_rfl) rfl (by decide +kernel) (by kernel_rfl)
theorem iO (a:Value):argsOk "set_iterator.__next__" ⟨[a],[]⟩:=by unfold argsOk;kernel_rfl
theorem mC (a:Value):argsOk "set_iterator.__iter__" ⟨[a],[]⟩:=by unfold argsOk;kernel_rfl
end
section
set_option maxRecDepth 100000
open PySem
theorem jz {α:Type}:∀ (l:List α) (i:Nat) (h:i<l.length),(l[i]::l.eraseIdx i).Perm l
 | [],i,h=>by simp at h
 | x::l,0,h=>.refl _
 | x::l,i+1,h=>by
  simp only[List.getElem_cons_succ,List.eraseIdx_cons_succ]
  exact (List.Perm.swap _ _ _).trans ((jz l i (by simpa using h)).cons x)
theorem yL {α:Type}(next:Nat->Nat):∀ (fuel k:Nat) (left:List α) (out:Array α),left.length=fuel->(pickOrder.go next fuel k left out).toList.Perm (out.toList++left):=by
 intro fuel
 induction fuel with
 | zero=>intro k left out h;rw[Ey.mp h];simp[pickOrder.go]
 | succ n ih=>
  intro k left out h
  unfold pickOrder.go
  have hlt:next k % left.length<left.length:=Nat.mod_lt _ (by exact be (ae [n,left.length] [(11,1),(1,110)] rfl (mf h)))
  rw[DA hlt]
  dsimp only
  refine (ih _ _ _ (by rw[List.length_eraseIdx_of_lt hlt];exact cy (ae [n,left.length,left.length-1] [(11,1),(1,.a 2 111),(31,0)] rfl (mf h) (ms left.length 1)) (ae [left.length,n,left.length-1] [(0,21),(.a 2 111,0),(21,2)] rfl (me h) (md (ae [n,left.length] [(11,1),(21,111)] rfl (mf h)))))).trans ?_
  rw[G6,FK,List.singleton_append]
  exact (List.Perm.refl _).append (jz _ _ hlt)
theorem vn {α:Type}(next:Nat->Nat)(xs:Array α):(pickOrder next xs).toList.Perm xs.toList:=by
 have:=yL next xs.size 0 xs.toList #[] (by simp)
 simpa [pickOrder] using this
section
variable {prog:Ee}{w:Fq}{A:D4}{E:Value->Shared->Prop}{s:Shared}
theorem tw {M:Model}{src:Source}{n:Nat}{Q:Nat->Shared->Prop}(hn:n≠0)(h:∀ i dr,i<n->Q i { s with drawn:=dr }):wpAny M A (choose src n) Q E s :=
 fun zz zz zz=>⟨hn,h _ _ (Nat.mod_lt _ (Nat.pos_of_ne_zero hn))⟩
theorem we {M:Model}{α:Type}:∀ (n:Nat) (xs:List α) (s:Shared) {Q:List α->Shared->Prop},xs.length=n->(∀ ys dr,ys.Perm xs->Q ys { s with drawn:=dr })->wpAny M A (drawOrder n xs) Q E s:=by
 intro n
 induction n with
 | zero=>intro xs s Q h hQ;rw[Ey.mp h] at hQ ⊢;unfold drawOrder;exact wpAny_pure (by have:=hQ [] s.drawn (.refl _);exact this)
 | succ n ih=>
  intro xs s Q h hQ
  cases xs with
  | nil=>simp at h
  | cons x xs=>
   unfold drawOrder
   refine Dq (tw (by simp) fun i dr hi=>?_)
   rw[DA hi]
   dsimp only
   refine Dq (ih _ _ (by rw[List.length_eraseIdx_of_lt hi];simp at h ⊢;(clear hi;lia)) fun ys dr' hp=>?_)
   exact wpAny_pure (hQ _ dr' ((hp.cons _).trans (jz _ _ hi)))
noncomputable def gp (first:Value) (i:Nat) (a:Addr) (n ep:Nat):Obj:={ cls:=.type "set_iterator",data:=.fields #[first,.int i 0,.ref a,.int n 0,.int ep 0] }
noncomputable def kc (w:Fq) (es:Array (Int × Value)) (ep:Nat) (t:SetTable) (a:Addr) (h:Heap) (ord:List Value) (i:Nat) (first:Value):Prop :=
 (fM w=true/\(∃ sl:Nat,first = .int sl 0)/\ord=(pickOrder (w.params.setOrder a ep) es).toList.map (·.2)) ∨
 (fM w=false/\(!t.plain&&decide (es.size>1))=false/\ord=es.toList.map (·.2) /\ ∃ sl:Nat,first = .int sl 0/\(i=0->sl=0)/\(0<i->sl=t.place.getD (i-1) 0+1)) ∨
 (fM w=false/\(∃ T o items m,first = .ref T/\h.get? T=some o/\o.cls = .type "tuple" /\ o.data = .seq items m/\items.size=ord.length /\ ∀ (j:Nat) v,ord[j]? = some v -> ∃ p:Nat,items[j]? = some (DB p 0)/\(es[p]?).map (·.2)=some v))
theorem gR {Q:Bool->Shared->Prop}(h:Q (fM w) s):wpAny (Er prog w) A setsByText Q E s:=Dq (G9 (wpAny_pure h))
section
variable {a:Addr}{es:Array (Int × Value)}{ep:Nat}{t:SetTable}{l:List Int}
theorem vP {Q:Array (Int × Value)->Shared->Prop}(ha:s.heap.get? a=some (cE es ep t))(x:SetE prog w es t l)(hb:fM w=true)(h:Q (pickOrder (w.params.setOrder a ep) es) s):wpAny (Er prog w) A (setWalk a) Q E s:=by
 unfold setWalk
 refine Dq (E0 ha rfl x.fit ?_)
 dsimp only
 refine Dq (gR ?_)
 rw[hb]
 simp only[if_true]
 exact Dq (G9 (wpAny_pure h))
theorem kM {Q:Option (Value × Nat)->Shared->Prop}{sl i:Nat}(ha:s.heap.get? a=some (cE es ep t))(x:SetE prog w es t l)(hb:fM w=true)
  (h:Q (((pickOrder (w.params.setOrder a ep) es)[i]?).map fun e=>(e.2,sl)) s):wpAny (Er prog w) A (setNext a sl i ep) Q E s:=by
 unfold setNext
 refine Dq (E0 ha rfl x.fit ?_)
 dsimp only
 refine Dq (gR ?_)
 rw[hb]
 simp -iota only[if_true,bne_self_eq_false,D2,if_false]
 exact Dq (vP ha x hb (wpAny_pure h))
theorem j3 {Q:Option (Value × Nat)->Shared->Prop}{sl i g:Nat}(ha:s.heap.get? a=some (cE es ep t))(x:SetE prog w es t l)(hb:fM w=false)(hd:(!t.plain&&decide (es.size>1))=false)
  (hi:DR t.place sl=i) (h:Q (match es[i]?,t.place[i]? with | some (_,x),some j=>some (x,j+1) | _,_=>none) s):wpAny (Er prog w) A (setNext a sl g ep) Q E s:=by
 have hl:t.led=true:=by rw[x.led,hb];rfl
 unfold setNext
 refine Dq (E0 ha rfl x.fit ?_)
 dsimp only
 refine Dq (gR ?_)
 rw[hb]
 simp -iota only[D2,if_false]
 show wpAny _ _ (if (!t.plain&&decide (es.size>1))=true then _ else _) _ _ _
 rw[hd]
 simp -iota only[D2,if_false]
 show wpAny _ _ ((if (!t.led && !es.isEmpty)=true then unsupported "set:maker-not-led" else pure ()) >>= _) _ _ _
 rw[hl]
 simp -iota only[E5,Bool.false_and,D2,if_false]
 rw[hi]
 exact Dq (wpAny_pure (wpAny_pure h))
end
theorem tK {I a:Addr}{es:Array (Int × Value)}{ep:Nat}{t:SetTable}{l:List Int}{ord:List Value}{i:Nat}{first v:Value}{Q:Option Value->Shared->Prop}(hI:s.heap.get? I=some (gp first i a es.size ep))(ha:s.heap.get? a=some (cE es ep t))
  (x:SetE prog w es t l) (hne:a≠I) (O:kc w es ep t a s.heap ord i first) (hv:ord[i]? = some v) (hT:∀ T,first = .ref T->T≠I)
  (hQ:∀ h' first',h'.get? I=some (gp first' (i+1) a es.size ep)->Eg I s.heap h'->kc w es ep t a h' ord (i+1) first'->(∀ T,first' = .ref T->first = .ref T)->Q (some v) { s with heap:=h' }) :
  wpAny (Er prog w) A (FW (.ref I)) Q E s:=by
 have hTI:s.TypeIs (.ref I) "set_iterator" := ⟨_,hI,rfl⟩
 unfold FW
 refine Dq (Gu (Fo (name:=Dn "__next__") hTI cQ
  (EC cQ hTI ia ?_ (iO _))))
 show wpAny _ _ (fieldsOf (.ref I) >>= _) _ _ s
 refine Dq (wpAny_fieldsOf hI rfl ?_)
 dsimp only
 refine Dq (wpAny_setEntries_of ha rfl x.fit ?_)
 rw[if_neg (by simp)]
 rcases O with ⟨hb,⟨sl,rfl⟩,ho⟩ | ⟨hb,hd,ho,sl,rfl,h0,h1⟩ | ⟨hb,T,oT,items,m,rfl,hoT,hcT,hdT,hsz,hall⟩
 ·dsimp only
  have hv':((pickOrder (w.params.setOrder a ep) es)[i]?).map (·.2)=some v:=by rw[ho] at hv;simpa using hv
  refine ad (DE.mp hv') fun e he hr115_2=>?_
  subst hr115_2
  refine Dq (kM ha x hb ?_)
  simp only[Fh,he,Option.map_some]
  refine Dq (EJ hI (by simp) fun h1 e1 s1=>?_)
  refine Dq (EJ (s:={ s with heap:=h1 }) e1 (by simp) fun h2 e2 s2=>?_)
  refine wpAny_pure ⟨_,rfl,wpAny_pure (hQ h2 (.int sl 0) ?_ (s1.trans s2) (.inl ⟨hb,⟨sl,rfl⟩,ho⟩) fun T e=>nomatch e)⟩
  rw[e2];rfl
 ·dsimp only
  have hsz:t.place.size=es.size:=by have:=x.fit;simp[SetTable.fits] at this;exact this.1
  have hi:i<es.size:=by rw[ho] at hv;have:=(DD.mp hv).1;simpa using this
  have hb':DR t.place sl=i:=pA x.tk.2 (by exact au (ae [es.size,t.place.size,i] [(0,1),(31,0),(21,2)] rfl (mf hsz) hi)) h0 h1
  refine Dq (j3 ha x hb hd hb' ?_)
  rw[D8 hi,D8 (show i<t.place.size by exact be (ae [es.size,t.place.size,i] [(0,1),(31,0),(1,2)] rfl (mf hsz) hi))]
  have hv2:es[i].2=v:=by rw[ho] at hv;simpa [hi] using hv
  dsimp only
  refine Dq (EJ hI (by simp) fun h1 e1 s1=>?_)
  refine Dq (EJ (s:={ s with heap:=h1 }) e1 (by simp) fun h2 e2 s2=>?_)
  rw[hv2]
  refine wpAny_pure ⟨_,rfl,wpAny_pure (hQ h2 (.int ((t.place[i]+1:Nat):Int) 0) ?_ (s1.trans s2) (.inr (.inl ⟨hb,hd,ho,_,rfl,fun q=>by (clear hne;lia),fun zz=>?_⟩)) fun T e=>nomatch e)⟩
  ·rw[e2];rfl
  ·simp[En,D8 (show i<t.place.size by (clear hne;lia))]
 ·dsimp only
  refine ad (hall i v hv) fun p hp hpe=>?_
  refine ad (DE.mp hpe) fun e he hr138_2=>?_
  subst hr138_2
  refine Dq (FL hoT hdT ?_)
  simp only[Fh,hp]
  have hnd:wpAny (Er prog w) A.in1 (setNextDrawn a p ep) (fun y s'=>y=e.2/\s'=s) (fun zz zz=>False) s:=by
   unfold setNextDrawn
   refine Dq (E0 ha rfl x.fit ?_)
   dsimp only
   simp only[bne_self_eq_false,D2,if_false]
   rw[he]
   exact wpAny_pure ⟨rfl,rfl⟩
  refine Dq (Dy hnd (fun y s' q=>?_) fun zz zz q=>q.elim)
  refine az q fun hr149_0 hr149_1=>?_
  try clear q
  subst hr149_0
  subst hr149_1
  refine Dq (EJ hI (by simp) fun h1 e1 s1=>?_)
  refine wpAny_pure ⟨_,rfl,wpAny_pure (hQ h1 (.ref T) ?_ s1 (.inr (.inr ⟨hb,T,oT,items,m,rfl,(s1.2 T (hT T rfl)).trans hoT,hcT,hdT,hsz,hall⟩)) fun T e=>e)⟩
  rw[e1];rfl
theorem mw {I:Addr}{vs:Array Value}{k:Nat}{Q:Option Value->Shared->Prop}{P:Fin->Shared->Prop}(hh:A.handled=none) 
  (hQ:∀ h',Fu I s.heap h'->Q none { s with heap:=h' }) :
  wpAny (Er prog w) A.in1 (newExc (.type "StopIteration") [] >>= fun x=>(raiseNew x:Sem Fin)) P (fun e s'=>wpAny (Er prog w) A (do if <- isInstance e (.type "StopIteration") then pure none else throw e) Q E s') s:=by
 refine Dq ?_
 simp -iota only[newExc,newTuple]
 refine Dq (D6 ?_ (by size_fits))
 refine Dq (m:=HH _ _) (wpAny_of_eq (a:=DJ) (by first | rfl | (simp -iota only[HH];rfl)) ?_)
 refine D6 ?_ (by size_fits)
 simp -iota only[raiseNew]
 refine Dq (wpAny_handled ?_)
 rw[show A.in1.handled=none from hh]
 refine Dq (wpAny_pure (wpAny_throw ?_))
 refine Dq (E6 (T := "StopIteration") (b:=true) ⟨_,DG _ rfl,rfl⟩ isSubtype_stop ?_)
 exact wpAny_pure (hQ _ (((Eg.refl I s.heap).extBut.push _).push _))
theorem uZ {I a:Addr}{es:Array (Int × Value)}{ep:Nat}{t:SetTable}{l:List Int}{ord:List Value}{first:Value}{Q:Option Value->Shared->Prop}(hh:A.handled=none)(hI:s.heap.get? I=some (gp first ord.length a es.size ep))(ha:s.heap.get? a=some (cE es ep t))
  (x:SetE prog w es t l) (hne:a≠I) (O:kc w es ep t a s.heap ord ord.length first) (hlen:ord.length=es.size)
  (hQ:∀ h',Fu I s.heap h'->Q none { s with heap:=h' }) :
  wpAny (Er prog w) A (FW (.ref I)) Q E s:=by
 have hTI:s.TypeIs (.ref I) "set_iterator" := ⟨_,hI,rfl⟩
 unfold FW
 refine Dq (Gu (Fo (name:=Dn "__next__") hTI cQ
  (EC cQ hTI ia ?_ (iO _))))
 show wpAny _ _ (fieldsOf (.ref I) >>= _) _ _ s
 refine Dq (wpAny_fieldsOf hI rfl ?_)
 dsimp only
 refine Dq (wpAny_setEntries_of ha rfl x.fit ?_)
 rw[if_neg (by simp)]
 rcases O with ⟨hb,⟨sl,rfl⟩,ho⟩ | ⟨hb,hd,ho,sl,rfl,h0,h1⟩ | ⟨hb,T,oT,items,m,rfl,hoT,hcT,hdT,hsz,hall⟩
 ·dsimp only
  refine Dq (kM ha x hb ?_)
  have hn:(pickOrder (w.params.setOrder a ep) es)[ord.length]? = none:=by rw[ho];simp
  simp only[Fh,hn,Option.map_none]
  refine Dq (EJ hI (by simp) fun h1 e1 s1=>?_)
  exact mw (s:={ s with heap:=h1 }) (vs:=#[]) (k:=0) hh fun h' e'=>hQ h' fun b o hb he=>e' b o hb ((s1.2 b hb).trans he)
 ·dsimp only
  have hsz:t.place.size=es.size:=by have:=x.fit;simp[SetTable.fits] at this;exact this.1
  have hb':DR t.place sl=ord.length:=pA x.tk.2 (by exact au (ae [ord.length,es.size,t.place.size] [(0,1),(1,2),(31,0)] rfl (me hlen) (mf hsz))) h0 h1
  refine Dq (j3 ha x hb hd hb' ?_)
  rw[Ht (by exact au (ae [es.size,ord.length] [(0,1),(21,0)] rfl (mf hlen)))]
  dsimp only
  refine Dq (EJ hI (by simp) fun h1 e1 s1=>?_)
  exact mw (s:={ s with heap:=h1 }) (vs:=#[]) (k:=0) hh fun h' e'=>hQ h' fun b o hb he=>e' b o hb ((s1.2 b hb).trans he)
 ·dsimp only
  refine Dq (FL hoT hdT ?_)
  have hn:items[ord.length]? = none:=Ht (by exact au (ae [items.size,ord.length] [(0,1),(21,0)] rfl (me hsz)))
  simp only[Fh,hn]
  refine Dq (EJ hI (by simp) fun h1 e1 s1=>?_)
  refine Dq (EJ (s:={ s with heap:=h1 }) e1 (by simp) fun h2 e2 s2=>?_)
  exact mw (s:={ s with heap:=h2 }) (vs:=#[]) (k:=0) hh fun h' e'=>hQ h' fun b o hb he=>e' b o hb ((s2.2 b hb).trans ((s1.2 b hb).trans he))
theorem wV {I:Addr}{o:Obj}{Q:Value->Shared->Prop}(hI:s.heap.get? I=some o)(hc:o.cls = .type "set_iterator")(h:Q (.ref I) s):wpAny (Er prog w) A (pyIter (.ref I)) Q E s:=by
 have hT:s.TypeIs (.ref I) "set_iterator" := ⟨o,hI,hc⟩
 refine wpAny_pyIter_slot hT iW (EC iW hT lR ?_ (mC _))
 show wpAny _ _ (ret (.ref I)) _ _ s
 exact wpAny_pure ⟨_,rfl, "set_iterator",_,hT,cQ.lookup,h⟩
theorem yT {a:Addr}{es:Array (Int × Value)}{ep:Nat}{t:SetTable}{l:List Int}{Q:Value->Shared->Prop}(ha:s.heap.get? a=some (cE es ep t))(x:SetE prog w es t l)(hz:es.size<=Dz)
  (hQ:∀ I first ord h' dr,h'.get? I=some (gp first 0 a es.size ep)->s.heap.get? I=none->(∀ b o,s.heap.get? b=some o->h'.get? b=some o)->kc w es ep t a h' ord 0 first->(∀ T,first = .ref T->T≠I)->ord.Perm (es.toList.map (·.2))->Q (.ref I) { s with heap:=h',drawn:=dr }) :
  wpAny (Er prog w) A (pyIter (.ref a)) Q E s:=by
 have hT:s.TypeIs (.ref a) "set" := ⟨_,ha,rfl⟩
 have hin:∀ h:Heap,h.get? h.objs.size=none:=fun h=>by simp[Hi]
 refine wpAny_pyIter_slot hT F.slot_set_iter (EC F.slot_set_iter hT nS ?_ (F.args_set_iter_1 _))
 unfold DX.«frozenset.__iter__»
 show wpAny _ _ (DX.Frozenset.sizeOf a >>= _) _ _ s
 unfold DX.Frozenset.sizeOf
 refine Dq (Dq (wpAny_setEntries_of ha rfl x.fit (wpAny_pure ?_)))
 unfold setDrawn
 refine Dq (Dq (E0 ha rfl x.fit ?_))
 dsimp only
 refine Dq (gR (wpAny_pure ?_))
 show wpAny _ _ (if (!fM w&&(!t.plain&&decide (es.size>1)))=true then _ else _) _ _ _
 cases hc:(!fM w&&(!t.plain&&decide (es.size>1))) with
 | false=>
  rw[if_neg (by simp)]
  refine Dq (wpAny_pure ?_)
  unfold setEpoch
  refine Dq (Dq (E0 ha rfl x.fit (wpAny_pure ?_)))
  refine Dq (D6 ?_)
  have hI:(s.heap.push (gp (.int 0 0) 0 a es.size ep)).get? s.heap.objs.size=some (gp (.int 0 0) 0 a es.size ep):=DG _ rfl
  refine wpAny_pure ⟨_,rfl, "set_iterator",_,⟨_,hI,rfl⟩,cQ.lookup,?_⟩
  cases hb:fM w with
  | true=>exact hQ s.heap.objs.size (.int 0 0) _ _ s.drawn hI (hin _) (fun b o e=>Dv _ e) (.inl ⟨hb,⟨0,rfl⟩,rfl⟩) (fun T e=>nomatch e) ((vn _ _).map _)
  | false=>
   rw[hb] at hc
   exact hQ s.heap.objs.size (.int 0 0) _ _ s.drawn hI (hin _) (fun b o e=>Dv _ e) (.inr (.inl ⟨hb,by simpa using hc,rfl,0,rfl,fun zz=>rfl,fun q=>absurd q (FY _)⟩)) (fun T e=>nomatch e) (.refl _)
 | true=>
  rw[if_pos rfl]
  have hb:fM w=false:=by simp at hc;exact hc.1
  refine Dq (we es.size _ _ (by simp) fun ps dr hp=>?_)
  have hps:ps.length=es.size:=by rw[hp.length_eq];simp
  have hlt:∀ p∈ps,p<es.size:=fun p q=>Fs.mp (hp.mem_iff.mp q)
  refine Dq (D6 ?_ (by show (_:Array Value).size<=_;rw[FJ,Dt,hps];exact hz))
  unfold setEpoch
  refine Dq (Dq (E0 (Dv _ ha) rfl x.fit (wpAny_pure ?_)))
  refine Dq (D6 ?_)
  have hI:=DG (s.heap.push { cls:=.type "tuple",data:=.seq (ps.map fun (i:Nat)=>rawInt i).toArray }) (o:=gp (.ref s.heap.objs.size) 0 a es.size ep) rfl
  have hTp:((s.heap.push { cls:=.type "tuple",data:=.seq (ps.map fun (i:Nat)=>rawInt i).toArray }).push (gp (.ref s.heap.objs.size) 0 a es.size ep)).get? s.heap.objs.size=some { cls:=.type "tuple",data:=.seq (ps.map fun (i:Nat)=>rawInt i).toArray } :=
   Dv _ (DG _ rfl)
  have kp:∀ b o,s.heap.get? b=some o->((s.heap.push { cls:=.type "tuple",data:=.seq (ps.map fun (i:Nat)=>rawInt i).toArray }).push (gp (.ref s.heap.objs.size) 0 a es.size ep)).get? b=some o:=fun b o e=>Dv _ (Dv _ e)
  have hnI:s.heap.get? (s.heap.push { cls:=.type "tuple",data:=.seq (ps.map fun (i:Nat)=>rawInt i).toArray }).objs.size=none:=by
   cases q:s.heap.get? (s.heap.push { cls:=.type "tuple",data:=.seq (ps.map fun (i:Nat)=>rawInt i).toArray }).objs.size with
   | none=>rfl
   | some o=>have:=Dv { cls:=.type "tuple",data:=.seq (ps.map fun (i:Nat)=>rawInt i).toArray } q;rw[hin] at this;cases this
  refine wpAny_pure ⟨_,rfl, "set_iterator",_,⟨_,hI,rfl⟩,cQ.lookup,?_⟩
  refine hQ _ (.ref s.heap.objs.size) (ps.map fun p=>((es[p]?).map (·.2)).getD .none) _ dr hI hnI kp (.inr (.inr ⟨hb,s.heap.objs.size,_,_,_,rfl,hTp,rfl,rfl,by simp,fun j v hv=>?_⟩)) (fun T e q=>?_) ?_
  ·rw[DC] at hv
   refine ad (DE.mp hv) fun p hp1 hr263_2=>?_
   subst hr263_2
   have hp2:=hlt p (DQ hp1)
   refine ⟨p,by simp[hp1,rawInt],?_⟩
   rw[D8 hp2];rfl
  ·injection e with e
   have:=DG s.heap (o:={ cls:=.type "tuple",data:=.seq (ps.map fun (i:Nat)=>rawInt i).toArray }) rfl
   rw[e,q,hin] at this;cases this
  ·refine (hp.map _).trans ?_
   have e:(DU es.size).map (fun p=>((es[p]?).map (·.2)).getD DJ)=es.toList.map (·.2):=by
    refine Hg (by simp) fun i h1 h2=>?_
    simp at h1
    simp[h1]
   rw[e]
end
end
section
set_option maxRecDepth 100000
open PySem
section
variable {prog:Ee}{w:Fq}{A:D4}{E:Value->Shared->Prop}{s:Shared}
theorem kc.keep {es:Array (Int × Value)}{ep:Nat}{t:SetTable}{a:Addr}{h h':Heap}{ord:List Value}{i:Nat}{first:Value}(O:kc w es ep t a h ord i first)(k:∀ T,first = .ref T -> ∀ o,h.get? T=some o->h'.get? T=some o):kc w es ep t a h' ord i first:=by
 rcases O with x | x | ⟨hb,T,oT,items,m,hf,hoT,r⟩
 ·exact .inl x
 ·exact .inr (.inl x)
 ·exact .inr (.inr ⟨hb,T,oT,items,m,hf,k T hf _ hoT,r⟩)
theorem wR {I a T0:Addr}{es:Array (Int × Value)}{ep:Nat}{t:SetTable}{l:List Int}{ord:List Value}(hh:A.handled=none)(x:SetE prog w es t l)(hne:a≠I)(hT0:T0≠I)(hlen:ord.length=es.size) :
  WalksS prog w A I [I,a,T0] [I] (fun a b=>b=a) ord.length (fun i v=>ord[i]? = some v)
   (fun i s=>∃ first,s.heap.get? I=some (gp first i a es.size ep)/\s.heap.get? a=some (cE es ep t)/\kc w es ep t a s.heap ord i first /\ ∀ T,first = .ref T->T=T0) where
 sub:=fun b hb=>by simp at hb;simp[hb]
 grefl:=fun zz=>rfl
 gtrans:=fun zz zz zz h1 h2=>h2.trans h1
 frame:=fun i s h' tk z zz hk=>cY z fun first h1 h2 O hT=>⟨first,hk I (by simp) _ h1,hk a (by simp) _ h2,O.keep fun T e o ho=>hk T (by simp[hT T e]) o ho,hT⟩
 item:=fun i s Q E hi z hQ=>cY z fun first h1 h2 O hT=>by
  refine tK (v:=ord[i]) h1 h2 x hne O (by simp[hi]) (fun T e=>hT T e ▸ hT0) fun h' first' e1 sb O' hT'=>?_
  exact hQ _ _ (by simp[hi]) ⟨first',e1,(sb.2 a hne).trans h2,O',fun T e=>hT T (hT' T e)⟩ ⟨fun b o hb e=>(sb.2 b (by simpa using hb)).trans e,rfl,rfl,rfl,Ea _⟩
 done:=fun s Q E z hQ=>cY z fun first h1 h2 O hT=>uZ hh h1 h2 x hne O hlen fun h' e=>hQ _ ⟨fun b o hb q=>e b o (by simpa using hb) q,rfl,rfl,rfl,Ea _⟩
 self:=fun i s Q E z hQ=>cY z fun first h1 h2 O hT=>wV h1 rfl hQ
theorem B0 {α:Type}{c:Prop}[Decidable c]{M:Model}{a b:Sem α}{Q:α->Shared->Prop}(h:c)(k:wpAny M A a Q E s):wpAny M A (if c then a else b) Q E s:=by rw[if_pos h];exact k
theorem By {α:Type}{c:Prop}[Decidable c]{M:Model}{a b:Sem α}{Q:α->Shared->Prop}(h:¬ c)(k:wpAny M A b Q E s):wpAny M A (if c then a else b) Q E s:=by rw[if_neg h];exact k
theorem yD {a:Addr}{Q:Bool->Shared->Prop}(hT2:s.TypeIs (.ref a) "set")(hQ:Q false s):wpAny (Er prog w) A (DX.List.listLengthHint (.ref a)) Q E s:=by
 refine Dq (m:=specialOf (.ref a) "__len__") (Fy hT2 F.slot_set_len.lookup ?_)
 have e:splitId "set.__len__" = some ("set", "__len__"):=by decide +kernel
 dsimp only
 rw[e]
 refine Dq (E6 (b:=true) hT2 (by rw[Gd];kernel_rfl) ?_)
 refine By (by decide) ?_
 refine B0 (by decide +kernel) ?_
 refine Dq (GI hT2 ?_)
 exact wpAny_pure hQ
theorem rB {a:Addr}{es:Array (Int × Value)}{ep:Nat}{t:SetTable}{l:List Int}{Q:List Value->Shared->Prop}(hh:A.handled=none)(ha:s.heap.get? a=some (cE es ep t))(x:SetE prog w es t l)(hz:es.size<=Dz)
  (hQ:∀ ord h' dr tk,ord.Perm (es.toList.map (·.2))->(∀ b o,s.heap.get? b=some o->h'.get? b=some o)->Q ord { s with heap:=h',drawn:=dr,toks:=tk }):wpAny (Er prog w) A (collect (.ref a)) Q E s:=by
 have hin:∀ h:Heap,h.get? h.objs.size=none:=fun h=>by simp[Hi]
 have hSa:s.heap.objs.size≠a:=fun q=>by rw[<- q,hin] at ha;cases ha
 have hT:s.TypeIs (.ref a) "set" := ⟨_,ha,rfl⟩
 unfold collect
 refine Dq (wpAny_runValue (EH F.entry_proto_collect ?_))
 rw[EZ F.plain_proto_collect _]
 show wpAny _ A.in1 (newList [] >>= fun l=>again (.builtin "list.__iadd__" ⟨[l,.ref a],[]⟩)) _ _ s
 refine Dq (D6 ?_)
 refine wpAny_pure ⟨Gv F.plain_list_iadd _,EH F.entry_list_iadd ?_⟩
 rw[EZ F.plain_list_iadd _]
 have ha1:(s.heap.push { cls:=.type "list",data:=.seq ([]:List Value).toArray }).get? a=some (cE es ep t):=Dv _ ha
 have hS₁:(s.heap.push { cls:=.type "list",data:=.seq ([]:List Value).toArray }).get? s.heap.objs.size=some { cls:=.type "list",data:=.seq ([]:List Value).toArray }:=DG _ rfl
 have h1:DX.List.listSameRef (.ref s.heap.objs.size) (.ref a)=false:=by simp[DX.List.listSameRef,hSa]
 show wpAny _ A.in1 (DX.List.listExtendWith (.ref s.heap.objs.size) (.ref a) (.ref s.heap.objs.size)) _ _ _
 unfold DX.List.listExtendWith
 refine Dq (GI (T := "set") ⟨_,ha1,rfl⟩ ?_)
 rw[if_neg (by rw[h1];decide)]
 refine Dq (yT (s:={ s with heap:=s.heap.push { cls:=.type "list",data:=.seq ([]:List Value).toArray } }) ha1 x hz fun I first ord h' dr hI hnI hk O hTI hp=>?_)
 have hT2:Shared.TypeIs { s with heap:=h',drawn:=dr } (.ref a) "set" := ⟨_,hk _ _ ha1,rfl⟩
 refine Dq (DT ?_)
 refine yD hT2 ?_
 rw[if_pos (by decide +kernel)]
 have hS2:h'.get? s.heap.objs.size=some { cls:=.type "list",data:=.seq ([]:List Value).toArray }:=hk _ _ hS₁
 have hne:a≠I:=fun q=>by rw[<- q,ha1] at hnI;cases hnI
 have hSI:s.heap.objs.size≠I:=fun q=>by rw[<- q,hS₁] at hnI;cases hnI
 refine Dq (wpAny_rule ?_)
 show wpAny _ _ ((updateSeq s.heap.objs.size (·.push .none) >>= fun zz=>updateSeq s.heap.objs.size (·.pop)) >>= _) _ _ _
 refine Dq (Dq (wpAny_updateSeq hS2 rfl ?_))
 have hS3:=Ew (EM (·.push .none)) hS2 rfl
 refine wpAny_updateSeq hS3 rfl ?_ (by size_fits) (by simp)
 have hS4:=Ew (EM (·.pop)) hS3 rfl
 have sb:Eg s.heap.objs.size h' ((h'.update s.heap.objs.size (EM (·.push .none))).update s.heap.objs.size (EM (·.pop))):=(EO _ _ _).trans (EO _ _ _)
 generalize hH:(h'.update s.heap.objs.size (EM (·.push .none))).update s.heap.objs.size (EM (·.pop))=h2 at hS4 sb ⊢
 have hlen:ord.length=es.size:=by rw[hp.length_eq];simp
 obtain ⟨T0,hT0I,hT0S,hTT⟩:∃ T0,T0≠I/\T0≠s.heap.objs.size /\ ∀ T,first = .ref T->T=T0:=by
  rcases id O with ⟨_,⟨sl,e⟩,_⟩ | ⟨_,_,_,sl,e,_⟩ | ⟨_,T,oT,_,_,e,hoT,hcT,_⟩
  ·exact ⟨a,hne,hSa.symm,fun T q=>by rw[e] at q;cases q⟩
  ·exact ⟨a,hne,hSa.symm,fun T q=>by rw[e] at q;cases q⟩
  ·refine ⟨T,hTI T e,fun q=>?_,fun T' q=>by rw[e] at q;injection q with q;exact q.symm⟩
   rw[q,hS2] at hoT;cases hoT;simp at hcT
 have W:=wR (prog:=prog) (w:=w) (A:=A.in1) (I:=I) (a:=a) (T0:=T0) (es:=es) (ep:=ep) (t:=t) (l:=l) (ord:=ord) hh x hne hT0I hlen
 refine wpAny_pure ⟨Gv F.plain_extend_loop _,codeAny_extend_loopS W (by exact aB (au (ae [es.size,ord.length] [(0,16777326),(1,0),(.a 16777326 111,1)] rfl (gO hz) (me hlen)))) s.heap.objs.size (by simp[hSI,hSa,hT0S.symm]) _ ord.length 0 _ _ _ rfl (EP _)
  ⟨first,(sb.2 I hSI.symm).trans hI,(sb.2 a hSa.symm).trans (hk _ _ ha1),O.keep fun T e o ho=>(sb.2 T (by rw[hTT T e];exact hT0S)).trans ho,hTT⟩ hS4 (ItemsOf.nil _) fun s' acc' c' hm hS' hacc=>?_⟩
 show wpAny _ A (load s.heap.objs.size >>= _) _ _ s'
 refine Dq (wpAny_load hS' ?_)
 refine wpAny_pure ?_
 have e:acc'.toList=ord:=Hg (by rw[DS,hacc.1]) fun i h1 h2=>by
  have:=hacc.2 i acc'[i] (by simp at h1;simp[h1])
  dsimp only at this
  rw[DA h2] at this
  simpa using (Eh this).symm
 rw[e]
 obtain ⟨hp',g',d',t',o'⟩:=s'
 obtain ⟨m1,m2,m3,m4,m5⟩:=hm
 cases m2;cases m4
 refine hQ ord hp' d' t' hp fun b o q=>m1 b o ?_ ?_
 ·have b1:b≠s.heap.objs.size:=fun z=>by rw[z,hin] at q;cases q
  have b2:b≠I:=fun z=>by rw[z] at q;rw[Dv _ q] at hnI;cases hnI
  simp[b1,b2]
 ·exact (sb.2 b fun z=>by rw[z,hin] at q;cases q).trans (hk b o (Dv _ q))
end
end
section
set_option maxRecDepth 100000
open PySem PyProof.Rows
theorem gv:∀ (m:Nat) (ks:List Int),ks.Nodup->(∀ k∈ks,0<=k/\k<m)->ks.length<=m
 | 0,ks,_,h=>by
  cases ks with
  | nil=>exact Ea _
  | cons k ks=>have:=h k (by simp);exact dF (am [k,(k::ks).length] [(110,0),(11,110),(.w 0 (.a 110 111),1)] rfl this.1 this.2)
 | m+1,ks,hn,h=>by
  have h1:(ks.filter (fun k=>decide (k≠(m:Int)))).length<=m:=gv m _ (hn.filter _) fun k hk=>by
   refine az (Ep.mp hk) fun a b=>?_
   have:=h k a
   simp at b
   lia
  by_cases q:(m:Int)∈ks
  ·have h2:ks.Perm ((m:Int)::ks.filter (fun k=>decide (k≠(m:Int)))):=by
    have h3:=List.perm_cons_erase q
    rwa [hn.erase_eq_filter,List.filter_congr (q:=fun k=>decide (k≠(m:Int))) (fun x zz=>by simp[bne];rfl)] at h3
   rw[h2.length_eq];simp;simpa using h1
  ·have h2:ks.filter (fun k=>decide (k≠(m:Int)))=ks:=List.filter_eq_self.mpr fun k hk=>by simp;rintro rfl;exact q hk
   rw[h2] at h1;exact au (ae [ks.length,m] [(0,1),(.a 21 111,0)] rfl h1)
section
variable {prog:Ee}{w:Fq}{A:D4}{E:Value->Shared->Prop}{s:Shared}
theorem yr {l:List (Int × Value)}(h:∀ e∈l,∃ u,e=((intKind prog w).hash (eP e),.int (eP e) u)):Gw (l.map (·.2)) (l.map eP):=by
 induction l with
 | nil=>exact .nil
 | cons e l ih=>
  refine aF (h e (by simp)) fun u hu=>?_
  have:e.2 = .int (eP e) u:=by rw[hu];rfl
  rw[D3,D3,this]
  exact .cons _ _ (ih fun x hx=>h x (by simp[hx]))
theorem uM {vs ord:List Value}(p:ord.Perm vs):∀ {ns:List Int},Gw vs ns -> ∃ ms,Gw ord ms/\ms.Perm ns:=by
 induction p with
 | nil=>intro ns h;exact ⟨ns,h,.refl _⟩
 | cons x p ih=>
  intro ns h
  cases h with
  | cons n t h=>obtain ⟨ms,h1,h2⟩:=ih h;exact ⟨n::ms,.cons _ _ h1,h2.cons n⟩
 | swap x y l=>
  intro ns h
  cases h with
  | cons n t h=>
   cases h with
   | cons n' t' h=>exact ⟨_,.cons _ _ (.cons _ _ h),List.Perm.swap _ _ _⟩
 | trans p q ih1 ih2=>
  intro ns h
  refine ad (ih2 h) fun ms h1 h2=>?_
  refine ad (ih1 h1) fun ks h3 h4=>?_
  exact ⟨ks,h3,h4.trans h2⟩
theorem t7 {a:Addr}{l:List Int}{Q:Value->Shared->Prop}(hh:A.handled=none)(hS:fG prog w s.heap a l)(hb:∀ ks:List Int,ks.Nodup->(∀ k∈ks,k∈l)->ks.length<64)
  (h:∀ (r:Addr) (out:Array Value) (ks:List Int) (h':Heap) dr tk n,s.heap.get? r=none->h'.get? r=some (seqObj "list" out n)->Gw out.toList ks->ks.Nodup->(∀ k,k∈ks ↔ k∈l)->ks.Pairwise (· <= ·) ->
   (∀ b o,s.heap.get? b=some o->h'.get? b=some o)->Q (.ref r) { s with heap:=h',drawn:=dr,toks:=tk }) :
  wpAny (Er prog w) A (call (.builtin "sorted") [.ref a]) Q E s:=by
 refine f8 hS fun es ep t ha x=>?_
 try clear hS
 have hin:∀ h:Heap,h.get? h.objs.size=none:=fun h=>by simp[Hi]
 have hsz:es.size<64:=by have:=hb _ x.nod fun k hk=>(x.mem k).mp hk;simpa using this
 refine Calls.call_function_entry kind_sorted plain_sorted entry_sorted (args_sorted1 _) ?_
 unfold DX.«sorted»
 refine Dq (m:=checkCount "sorted" 1 1 _) (wpAny_pure ?_)
 refine Dq (rB hh ha x (by rw[sizeLine_eq];exact au (ae [es.size] [(11,174),(.a 16777326 111,0)] rfl hsz)) fun ord h' dr tk hp hk=>?_)
 refine ad (uM hp (yr x.ent)) fun ms hms hmp=>?_
 have hl:ord.length<64:=by rw[hp.length_eq];simpa using hsz
 refine Dq (wpAny_newList ?_ (by rw[sizeLine_eq];exact au (ae [ord.length] [(11,174),(.a 16777326 111,0)] rfl hl)))
 have hoL:(h'.push (seqObj "list" ord.toArray 0)).get? h'.objs.size=some (seqObj "list" ord.toArray 0):=DG _ rfl
 refine Dq (DT (EC slot_list_sort ⟨_,hoL,rfl⟩ entry_list_sort (list_sort_tree (s:={ s with heap:=h'.push (seqObj "list" ord.toArray 0),drawn:=dr,toks:=tk }) hoL hms hl fun out ns' a1 a2 a3=>⟨_,rfl,?_⟩) (args_list_sort _)))
 refine aF (sortedHeap_at (h:=h'.push (seqObj "list" ord.toArray 0)) (a:=h'.objs.size) (vs:=ord) (out:=out) hoL) fun e he=>?_
 have hn:s.heap.get? h'.objs.size=none:=by
  cases q:s.heap.get? h'.objs.size with
  | none=>rfl
  | some o=>have:=hk _ _ q;rw[hin] at this;cases this
 refine wpAny_pure ⟨_,rfl,h _ out ns' _ dr tk _ hn he a1 ((a2.trans hmp).nodup_iff.mpr x.nod) (fun k=>(a2.trans hmp).mem_iff.trans (x.mem k)) a3 fun b o q=>?_⟩
 have q1:=hk b o q
 have hb1:b≠h'.objs.size:=fun z=>by rw[z,hin] at q1;cases q1
 have q2:=Dv (seqObj "list" ord.toArray 0) q1
 rw[sortedHeap_old hb1 (D_ q2)];exact q2
end
end
section
open PySem PyProof.Rows
noncomputable def xk (l:List Int):Pr where
 P p w h a:=fG p w h a l
 keep:=fun v e x=>x.at e
 there:=fun ⟨es,ep,t,ho,_⟩=>⟨_,ho,fun vs e=>by cases e⟩
section
variable {C:Cx}{d:Md}{A:D4}{H:MH}{s:Shared}{Q:V->MH->Prop}{X:XP}
theorem jV {h:Heap}:∀ {ns:List Int} {vs:List Value},aJ C h (ns.map .int) vs->Gw vs ns
 | [],vs,r=>by rw[aJ.inv_nil r];exact .nil
 | n::ns,vs,r=>by
  refine aG (aJ.inv_cons r) fun v vs' hr20_2 r1 r2=>?_
  subst hr20_2
  dsimp only[VR] at r1
  refine aF r1 fun t hr22_1=>?_
  try clear r1
  subst hr22_1
  exact .cons _ _ (jV r2)
theorem yu {h:Heap}{ns:List Int}{vs:List Value}(x:Gw vs ns):aJ C h (ns.map .int) vs:=by
 induction x with
 | nil=>exact .nil
 | cons n t r ih=>exact aJ.cons .int_ ih
theorem ki:∀ {ns:List Int} {vs:List Value},Gw vs ns->ns.length=vs.length /\ ∀ (i:Nat) v,vs[i]? = some v -> ∃ u,v = .int (ns.getD i 0) u
 | _,_,.nil=>⟨rfl,fun i v h=>by simp at h⟩
 | _,_,.cons n t r=>⟨by simp[(ki r).1],fun i v h=>by
   cases i with
   | zero=>simp at h;exact ⟨t,h.symm⟩
   | succ i=>simpa using (ki r).2 i v (by simpa using h)⟩
theorem zS {b:Addr}{ns:List Int}(hq:d.q=true)(h:aS H (.ref b)=some (ns.map .int))(hl:ns.length+1<Fp)(q:∀ a,H a=none->Q (.ref a) (an H a (.prd (xk ns)))):bn C d (.type "set") [.ref b] H Q X:=fun A s cs ok rs=>by
 refine ad (dS rs) fun c hr36_1 r=>?_
 subst hr36_1
 dsimp only[VR] at r;subst r
 refine ad (dL ok.rel h) fun items hL rs=>?_
 refine az (ki (jV rs)) fun e1 e2=>?_
 refine uk (ns:=ns) (ok.none hq) hL (fun i v hv=>e2 i v (by simpa using hv)) (by simpa using e1) hl fun h' tk hS k=>?_
 exact jn (Step.grow (o:=.prd (xk ns)) (s':={ s with heap:=h',toks:=tk }) ok k ⟨mT ok,hS⟩ rfl rfl) .ref_ (q _ (ok.rel.fresh (ba _)))
theorem uw {a:Addr}{l:List Int}(hq:d.q=true)(h:H a=some (.prd (xk l)))(hb:∀ ks:List Int,ks.Nodup->(∀ k∈ks,k∈l)->ks.length<64)
  (q:∀ r (ks:List Int),H r=none->ks.Nodup->(∀ k,k∈ks ↔ k∈l)->ks.Pairwise (· <= ·)->Q (.ref r) (an H r (.lst (ks.map .int)))):bn C d (.builtin "sorted") [.ref a] H Q X:=fun A s cs ok rs=>by
 refine ad (dS rs) fun c hr45_1 r=>?_
 subst hr45_1
 dsimp only[VR] at r;subst r
 refine az (ok.rel _ _ h) fun h0 hS=>?_
 refine t7 (ok.none hq) hS hb fun r out ks h' dr tk n hn hr hi k1 k2 k3 k=>?_
 have h0r:C.h0.get? r=EK:=by
  cases e:C.h0.get? r with
  | none=>rfl
  | some o=>have:=ok.top _ _ e;rw[hn] at this;cases this
 refine jn ((Step.keeps (s':={ s with heap:=h',drawn:=dr,toks:=tk }) ok.rel ok.top k rfl rfl).adopt (o:=.lst (ks.map .int)) hn ⟨h0r,out,⟨n,hr⟩,yu hi⟩) .ref_ (q r ks (ok.rel.fresh hn) k1 k2 k3)
noncomputable def kv (k:Int × List Int):V:=.tup [.int k.1,.tup (k.2.map .int)]
theorem mX {p:Ee}{w:Fq}:∀ {ns:List Int} {vs:List Value},Gw vs ns->ItemsAre (intKind p w) ns vs
 | _,_,.nil=>.nil
 | _,_,.cons n t r=>.cons (km n t) (mX r)
theorem xV {h:Heap}{k:Int × List Int}{cv:Value}(r:VR C h (kv k) cv):∃ a,cv = .ref a/\cJ C.prog C.w h k a:=by
 unfold kv at r
 dsimp only[VR] at r
 refine aG r fun a items ho63_2 ho63_3 rs=>?_
 try clear r
 obtain ⟨rfl,nd⟩:=ho63_2
 obtain ⟨o,ho,hc,n,hd⟩:=ho63_3
 refine aG (aJ.inv_cons rs) fun v1 vs1 e1 r1 rs1=>?_
 refine aG (aJ.inv_cons rs1) fun v2 vs2 e2 r2 rs2=>?_
 rw[aJ.inv_nil rs2] at e2
 dsimp only[VR] at r1 r2
 refine aF r1 fun t hr68_1=>?_
 try clear r1
 subst hr68_1
 refine aG r2 fun b it2 ho69_2 ho69_3 rs2=>?_
 try clear r2
 obtain ⟨rfl,nd2⟩:=ho69_2
 obtain ⟨o2,ho2,hc2,n2,hd2⟩:=ho69_3
 exact ⟨a,rfl,o,items,n,b,t,ho,hc,hd,by rw[e1,e2],o2,it2,n2,ho2,hc2,hd2,mX (jV rs2)⟩
theorem oo {K:Type}[DecidableEq K]{xs:List (K × Addr × Value)}{k:K}:(atKey xs k).isSome=true ↔ k∈xs.map (·.1):=by
 unfold atKey
 rw[Option.isSome_map,List.find?_isSome]
 simp only[decide_eq_true_eq,Ef]
theorem pV (ok:Ok C d H A s):(il C.prog C.w).room A.in1:=by
 have:=ok.units
 show A.in1.units+1<F9
 first | (have e:A.in1.units<=A.units+1:=by first | exact Ea _ | exact HJ _ | simp[D4.in1]);(exact be (ae [A.units,F9,A.in1.units] [(.a (.p 0 40) 111,1),(2,11),(1,31)] rfl this e)) | omega
theorem z4 {a:Addr}{ks:List (Int × List Int)}{k:Int × List Int}(h:H a=some (.prd (eK ks)))(q:∀ b:Bool,(b=true ↔ k∈ks)->Q (.bool b) H):bX C d .In (kv k) (.ref a) H Q X:=fun A s ca cb ok ra rb=>by
 dsimp only[VR] at rb;subst rb
 refine ad (xV ra) fun b hr82_1 hk=>?_
 subst hr82_1
 obtain ⟨h0,hs,xs,hD,rfl⟩:=ok.rel _ _ h
 exact wpAny_in_heap (knd:=il C.prog C.w) (k:=k) (pV ok) hk (qi hs) hD (qp (ok.toks _) .bool_ (q _ oo))
theorem rM {xs:List ((Int × List Int) × Addr × Value)}{k:Int × List Int}{b:Addr}{v:Value}:(∀ x,x∈(storedH xs k b v).map (·.1) ↔ x∈xs.map (·.1) ∨ x=k)/\(storedH xs k b v).length<=xs.length+1:=by
 unfold storedH
 cases e:(atKey xs k).isSome with
 | true=>
  rw[if_pos rfl]
  refine ⟨fun x=>?_,by simp⟩
  rw[keys_map_putAt]
  exact ⟨.inl,fun q=>q.elim id fun z=>z ▸ oo.mp e⟩
 | false=>rw[if_neg (by decide)];exact ⟨fun x=>by simp,by simp⟩
theorem wU {a:Addr}{ks:List (Int × List Int)}{k:Int × List Int}{x:V}{Q:MH->Prop}(h:H a=some (.prd (eK ks)))(hl:ks.length<=Dz)(q:∀ ks':List (Int × List Int),(∀ x,x∈ks' ↔ x∈ks ∨ x=k)->ks'.length<=ks.length+1->Q (an H a (.prd (eK ks')))):k6 C d (.ref a) (kv k) x H Q X:=fun A s co ci cv ok ro ri rx=>by
 dsimp only[VR] at ro;subst ro
 refine ad (xV ri) fun b hr96_1 hk=>?_
 subst hr96_1
 obtain ⟨h0,hs,xs,hD,rfl⟩:=ok.rel _ _ h
 refine wpAny_setItem_heap (knd:=il C.prog C.w) (k:=k) (pV ok) hk hD (fun h' hD' hsb=>?_) (by simpa using hl)
 have sk:=rM (xs:=xs) (k:=k) (b:=b) (v:=cv)
 refine ⟨_,Step.mut (o:=.prd (eK ((storedH xs k b cv).map (·.1)))) (s':={ s with heap:=h',toks:=s.toks+(il C.prog C.w).draws k }) ok.rel ok.top (by rw[h];rfl) h0 hsb (fun ob hob=>?_) (fun ob es ep hob hd=>?_) (fun vk=>?_) rfl rfl,q _ sk.1 (by simpa using sk.2)⟩
 ·refine cZ hD fun o es ep ho ho101_4 hd zz=>?_
  try clear hD
  obtain ⟨hc,_⟩:=ho101_4
  rw[ho] at hob;cases hob
  exact .inl ⟨es,ep,hd⟩
 ·refine cZ hD' fun o' es' ep' ho' ho104_4 hd' zz=>?_
  try clear hD'
  obtain ⟨hc',_⟩:=ho104_4
  exact ⟨o',es',ep',ho',hd'⟩
 ·exact ⟨h0,hs,_,hD',rfl⟩
theorem fB (q:Q (.bool true) H):bX C d .Is .none .none H Q X:=fun A s ca cb ok ra rb=>by
 dsimp only[VR] at ra rb;subst ra rb
 exact is_none_none (qp ok.refl .bool_ q)
theorem lF {a:Addr}(q:Q (.bool false) H):bX C d .Is (.ref a) .none H Q X:=fun A s ca cb ok ra rb=>by
 dsimp only[VR] at ra rb;subst ra rb
 exact is_none_ne (by simp) (qp ok.refl .bool_ q)
theorem ee (q:Q (.bool false) H):bX C d .IsNot .none .none H Q X:=fun A s ca cb ok ra rb=>by
 dsimp only[VR] at ra rb;subst ra rb
 exact isnot_none_none (qp ok.refl .bool_ q)
theorem gb {a:Addr}(q:Q (.bool true) H):bX C d .IsNot (.ref a) .none H Q X:=fun A s ca cb ok ra rb=>by
 dsimp only[VR] at ra rb;subst ra rb
 exact isnot_none_ne (by simp) (qp ok.refl .bool_ q)
theorem lE {n:Nat}(hq:d.q=true)(hn:n<=1000)(q:∀ b,H b=none->Q (.ref b) (an H b (.lst ((DU n).map fun (k:Nat)=>V.int k)))):bn C d (.type "list") [.rng 0 n 1] H Q X:=fun A s cs ok rs=>by
 refine ad (dS rs) fun c hr122_1 r=>?_
 subst hr122_1
 dsimp only[VR] at r
 refine rk r fun r t u v hr124_4 hr=>?_
 subst hr124_4
 have h1:DV 0 (n:Int) 1=n:=by rw[rangeSize_one];(clear hn r;lia)
 refine call_list_range (ok.none hq) hr (small_one (by decide) (by decide) (by exact aY (am [n] [(110,0),(11,.g 4611686018427387904)] rfl (q0 n))) (by exact bE (am [n] [(0,1110),(4611686018427388014,0)] rfl (ql hn)))) h1 (by exact au (ae [n] [(0,1110),(.a 16777326 111,0)] rfl hn)) fun h' tk acc c' k e hi=>?_
 refine jn (Step.grow (o:=.lst ((DU n).map fun (k:Nat)=>V.int k)) (s':={ s with heap:=h',toks:=tk }) ok k ⟨mT ok,acc,⟨c',e⟩,?_⟩ rfl rfl) .ref_ (q _ (ok.rel.fresh (ba _)))
 have hz:∀ (l:List Value) (k:Nat),l.length+k=n->(∀ (j:Nat) x,l[j]? = some x -> ∃ t,x = .int (0+((j+k:Nat):Int)*1) t)->aJ C h' ((HK k l.length).map fun (k:Nat)=>V.int k) l:=by
  intro l
  induction l with
  | nil=>intro k _ _;exact aJ.nil
  | cons x l ih=>
   intro k hk hx
   rw[E7,List.range'_succ,D3]
   refine aJ.cons ?_ (ih (k+1) (by simp at hk;exact cy (ae [n,l.length,k] [(0,.a 21 2),(.a (.a 1 31) 111,0)] rfl (mf hk)) (ae [l.length,k,n] [(.a 11 1,2),(31,.a 0 21)] rfl (me hk))) fun j y hy=>?_)
   ·refine aF (hx 0 x rfl) fun t e=>?_
    rw[e];simp;exact .int_
   ·refine aF (hx (j+1) y (by simpa using hy)) fun t e=>?_
    exact ⟨t,by rw[e,show j+1+k=j+(k+1) by exact cy (ae [j,k] [(.a (.a 11 1) 111,.a 0 21)] rfl) (ae [j,k] [(.a (.a 0 21) 111,.a 11 1)] rfl)]⟩
 have:=hz acc.toList 0 (by simp[hi.1]) fun j x hx=>hi.2 j x (by simpa using hx)
 rw[DS,hi.1,<- List.range_eq_range'] at this
 exact this
end
end
section
set_option maxRecDepth 100000
open PySem
theorem oZ:typeLookup (.type "tuple") "keys" = pure none:=by rw[Hu,Gl];kernel_rfl
theorem uP {prog:Ee}{w:Fq}{A:D4}{E:Value->Shared->Prop}{s:Shared}{a:Addr}{o:Obj}{xs:Array Value}{k:Nat}{Q:Option Value->Shared->Prop}(hh:A.handled=none)
  (hx:s.heap.get? a=some o) (hc:o.cls = .type "tuple") (hdat:o.data = .seq xs k) (hd:o.dict=none)
  (h:∀ h' tk,(∀ b ob,s.heap.get? b=some ob->h'.get? b=some ob)->Q none { s with heap:=h',toks:=tk }) :
  wpAny (Er prog w) A (getAttr? (.ref a) "keys") Q E s:=by
 obtain ⟨c,dct,dat,sl⟩:=o
 simp only at hc hdat hd
 subst hc hdat hd
 obtain ⟨hp,g,d,tk,os⟩:=s
 have hT:∀ tk',(⟨hp,g,d,tk',os⟩:Shared).TypeIs (.ref a) "tuple" := fun zz=>⟨_,hx,rfl⟩
 have f1:=sub_AttributeError
 have f3:=GX.lookup
 have f4:=GX.bind (.ref a)
 have f5:=am_tuple_getattr_none
 unfold getAttr? getAttrBy? getAttrBy
 repeat (any_goals (first | assumption | exact hT _ | ((with_reducible show wpAny _ _ (call (EB "tuple.__getattribute__") _ _) _ _ _);refine call_meets GX (hT _) am_entry_tuple_getattribute (F.args_tuple_getattribute_2 _ _) (meets_getattribute_miss_tuple a xs k sl "keys" _ oZ (by decide +kernel) (by size_fits)) ⟨hx,hh,fun h' tk' e hx'=>?_⟩) | wp_step))
 refine vT hx'.there fun t' u' he=>?_
 show wpAny _ _ (getattributeRaised _ _ _ _ _ _ _) _ _ _
 unfold getattributeRaised
 repeat (any_goals (first | assumption | wp_step))
 exact h _ _ hx'.keeps
theorem mR:entryFor table "dict.update.loop" = some DX.«dict.update.loop» := G_ (by kernel_rfl)
theorem gW:plainId "dict.update.loop" = true:=by decide +kernel
section
variable {prog:Ee}{w:Fq}{A:D4}{E:Value->Shared->Prop}{s:Shared}
theorem uy {R:Result->Shared->Prop}(hh:A.in1.handled=none)(D I L:Addr)(hDI:D≠I)(hDL:D≠L)(hLI:L≠I)(items:Array Value)(ps:List (Int × Value))
  (hn:ps.length=items.size) (hb:ps.length<=Dz) (T:Nat->Addr) (hTI:∀ i,T i≠I) (hTD:∀ i,T i≠D) (hv:∀ (i:Nat) v,items[i]? = some v->v = .ref (T i)) :
  ∀ (k i:Nat) (s:Shared) (j:Nat),items.size-i=k->i<=items.size->s.heap.IsTupleIter I L i->s.heap.IsTuple L items->s.heap.DictOf (intKind prog w) D ((ps.take i).foldl (fun m p=>FC m p.1 p.2) []) ->
  (∀ i p,ps[i]? = some p -> ∃ u its,s.heap.IsTuple (T i) its/\its.toList = [.int p.1 u,p.2]) ->
  (∀ h' tk,h'.DictOf (intKind prog w) D (ps.foldl (fun m p=>FC m p.1 p.2) [])->(∀ b o,b≠D->b≠I->s.heap.get? b=some o->h'.get? b=some o)->R (.ok (.ret .none)) { s with heap:=h',toks:=tk }) ->
  GJ (Er prog w) A (.builtin "dict.update.loop" ⟨[.ref D,.ref I,.int j 0,.none],[]⟩) R s:=by
 have W:=Walks.tuple (prog:=prog) (w:=w) hh I L hLI items
 intro k
 induction k with
 | zero=>
  intro i s j hk hi hit hl hS hp hR
  have hin:i=items.size:=by exact cy (ae [items.size-i,items.size,i] [(0,110),(1,.a 0 2),(31,1)] rfl (me hk) (ms items.size i)) (ae [i,items.size] [(0,1),(21,0)] rfl hi)
  refine EH mR ?_
  rw[EZ gW _]
  show wpAny _ A.in1 (FW (.ref I) >>= _) _ _ s
  refine Dq (W.done s _ _ (hin ▸ ⟨hit,hl⟩) fun h' tk hk'=>?_)
  have e:ps.take i=ps:=ED (by exact au (ae [ps.length,items.size,i] [(0,1),(1,2),(31,0)] rfl (me hn) (mf hin)))
  rw[e] at hS
  refine f8 hS fun o es ep ho r=>?_
  try clear hS
  refine Dq (wpAny_pure ?_)
  exact wpAny_pure (hR h' tk ⟨o,es,ep,hk' D o (by simpa using hDI) ho,r⟩ fun b o zz h2 e=>hk' b o (by simpa using h2) e)
 | succ k ih=>
  intro i s j hk hi hit hl hS hp hR
  have hlt:i<items.size:=by (clear hDI hDL hLI hn hb hi;omega)
  refine EH mR ?_
  rw[EZ gW _]
  show wpAny _ A.in1 (FW (.ref I) >>= _) _ _ s
  refine Dq (W.item i s _ _ hlt ⟨hit,hl⟩ fun v h' tk hP hst' hm=>?_)
  have hvT:=hv i v hP
  subst hvT
  have hip:i<ps.length:=by exact be (ae [items.size,ps.length,i] [(0,1),(31,0),(1,2)] rfl (mf hn) hlt)
  refine eT (hp i ps[i] (by simp[hip])) fun u its ho69_2 hits=>?_
  obtain ⟨oT,hoT,hcT,nT,hdT⟩:=ho69_2
  have hoT':=hm (T i) oT (by simpa using hTI i) hoT
  dsimp only
  refine Dq (DT ?_)
  have hpi:wpAny (Er prog w) A.in1 (DX.Dict.pairItems (.ref (T i))) (fun l s'=>l = [.int ps[i].1 u,ps[i].2]/\s'={ s with heap:=h',toks:=tk }) (fun zz zz=>False) { s with heap:=h',toks:=tk }:=by
   unfold DX.Dict.pairItems
   refine Dq (GI (T := "tuple") ⟨oT,hoT',hcT⟩ ?_)
   rw[if_pos (by decide)]
   refine Dq (FL hoT' hdT (wpAny_pure ⟨?_,rfl⟩))
   exact hits
  refine Dq (wpAny_tryCatch (Dy hpi (fun l s' q=>?_) fun zz zz q=>q.elim))
  refine az q fun hr80_0 hr80_1=>?_
  try clear q
  subst hr80_0
  subst hr80_1
  dsimp only
  refine DT ?_
  have hD':h'.DictOf (intKind prog w) D ((ps.take i).foldl (fun m p=>FC m p.1 p.2) []):=by
   refine f8 hS fun o es ep ho r=>?_
   try clear hS
   exact ⟨o,es,ep,hm D o (by simpa using hDI) ho,r⟩
  have hlen:∀ (l:List (Int × Value)) (m:List (Int × Value)),(l.foldl (fun m p=>FC m p.1 p.2) m).length<=m.length+l.length:=by
   intro l
   induction l with
   | nil=>intro m;simp
   | cons p l ih2=>
    intro m
    have:(FC m p.1 p.2).length<=m.length+1:=by unfold FC;split <;> simp
    have:=ih2 (FC m p.1 p.2)
    simp only[F5,E7] at this ⊢
    (clear hDI hDL hLI hn hb hk hi hlt hst';lia)
  have hl1:=hlen (ps.take i) []
  simp at hl1
  refine wpAny_dictSet_pairs (s:={ s with heap:=h',toks:=tk }) (knd:=intKind prog w) (k:=ps[i].1) (by simp[intKind,F_]) hD' (fun h2 hD2 hsb=>?_) (by lia)
  refine wpAny_pure ⟨Gv gW _,?_⟩
  have et:FC ((ps.take i).foldl (fun m p=>FC m p.1 p.2) []) ps[i].1 ps[i].2=(ps.take (i+1)).foldl (fun m p=>FC m p.1 p.2) []:=by
   rw[D7,DA hip,Gi];rfl
  rw[et] at hD2
  refine ih (i+1) _ (j+1) (by (clear hDI hDL hLI hn hb hi hlt hst' hl1;omega)) hlt (hst'.1.at fun o e=>?_) (hst'.2.at fun o e=>?_) hD2 (fun i' p' hp'=>?_) fun h3 tk3 hS3 hk3=>hR h3 tk3 hS3 fun b o h1 h2 e=>hk3 b o h1 h2 ?_
  ·exact (hsb.2 I (fun q=>hDI q.symm)).trans e
  ·exact (hsb.2 L (fun q=>hDL q.symm)).trans e
  ·refine eT (hp i' p' hp') fun u' its' ho106_2 h5=>?_
   obtain ⟨o',ho',r'⟩:=ho106_2
   exact ⟨u',its',⟨o',(hsb.2 _ (hTD i')).trans (hm _ o' (by simpa using hTI i') ho'),r'⟩,h5⟩
  ·exact (hsb.2 b h1).trans (hm b o (by simpa using h2) e)
theorem mI {L:Addr}{items:Array Value}{ps:List (Int × Value)}{T:Nat->Addr}{oL:Obj}{nL:Nat}{Q:Value->Shared->Prop}(hh:A.handled=none)(hL:s.heap.get? L=some oL)(hcL:oL.cls = .type "tuple")(hdL:oL.data = .seq items nL)(hnL:oL.dict=none)
  (hn:ps.length=items.size) (hb:ps.length<=Dz) (hv:∀ (i:Nat) v,items[i]? = some v->v = .ref (T i)) (hT:∀ i,∃ o,s.heap.get? (T i)=some o) (hp:∀ i p,ps[i]? = some p -> ∃ u its,s.heap.IsTuple (T i) its/\its.toList = [.int p.1 u,p.2])
  (h:∀ h' tk,h'.DictOf (intKind prog w) s.heap.objs.size (ps.foldl (fun m p=>FC m p.1 p.2) [])->(∀ b o,s.heap.get? b=some o->h'.get? b=some o)->Q (.ref s.heap.objs.size) { s with heap:=h',toks:=tk }) :
  wpAny (Er prog w) A (call (.type "dict") [.ref L]) Q E s:=by
 have hin:∀ h:Heap,h.get? h.objs.size=none:=fun h=>by simp[Hi]
 have hne:∀ b o,s.heap.get? b=some o->b≠s.heap.objs.size:=fun b o e q=>by rw[q,hin] at e;cases e
 refine callType_codes (Q₁:=fun obj s₁=>obj = .ref s.heap.objs.size/\s₁={ s with heap:=s.heap.push { cls:=.type "dict",data:=.dict #[] } }) F.kt_called_dict (F.kt_typeCall_dict_1 _) F.entry_dict_init (kt_code_dict_new _ ⟨rfl,rfl⟩) ?_
 rintro obj s₁ ⟨rfl,rfl⟩
 have hnew:(s.heap.push { cls:=.type "dict",data:=.dict #[] }).DictOf (intKind prog w) s.heap.objs.size []:=Heap.DictOf.new s.heap
 have hL1:=Dv { cls:=.type "dict",data:=.dict #[] } hL
 refine ⟨hnew.typeIs,F.args_dict_init_2 _ _,?_⟩
 unfold DX.«dict.__init__»
 refine Dq ?_
 unfold DX.Dict.selfAndRest
 refine Dq (wpAny_notOrdered_dict hnew.typeIs ?_)
 show wpAny _ _ (pure (s.heap.objs.size,[Du L])) _ _ _
 refine wpAny_pure ?_
 show wpAny _ _ (DX.Dict.updateFrom "dict.__init__" s.heap.objs.size (.ref L) [] .none) _ _ _
 unfold DX.Dict.updateFrom
 refine Dq (GI (T := "tuple") ⟨_,hL1,hcL⟩ ?_)
 rw[if_pos (by decide)]
 refine Dq (uP (by exact hh) hL1 hcL hdL hnL fun h1 tk1 k1=>?_)
 rw[if_pos (by rfl)]
 refine Dq (wpAny_rule ?_)
 refine Dq (wpAny_pyIter_tuple (items:=items) ⟨_,k1 _ _ hL1,hcL,_,hdL⟩ ?_)
 have hne1:∀ b o,h1.get? b=some o->b≠h1.objs.size:=fun b o e q=>by rw[q,hin] at e;cases e
 have kp:∀ b o,s.heap.get? b=some o->h1.get? b=some o:=fun b o e=>k1 b o (Dv _ e)
 have kq:∀ b o,h1.get? b=some o->(h1.push { cls:=.type "tuple_iterator",data:=.fields #[.ref L,.int 0 0] }).get? b=some o:=fun b o e=>Dv _ e
 refine f8 hnew fun oD esD epD hoD rD=>?_
 try clear hnew
 refine wpAny_pure ⟨Gv gW _,?_⟩
 refine uy (A:=A.in1) (by exact hh) s.heap.objs.size h1.objs.size L (hne1 _ _ (k1 _ _ hoD)) (hne L _ hL).symm (hne1 _ _ (k1 _ _ hL1)) items ps hn hb T (fun i=>?_) (fun i=>?_) hv items.size 0
  { heap:=h1.push { cls:=.type "tuple_iterator",data:=.fields #[.ref L,.int 0 0] },gens:=s.gens,drawn:=s.drawn,toks:=tk1,os:=s.os } 0 (by (clear hn hb rD;lia)) (EP _)
  ⟨_,DG _ rfl,rfl,rfl⟩ ⟨_,kq _ _ (k1 _ _ hL1),hcL,_,hdL⟩ ⟨oD,esD,epD,kq _ _ (k1 _ _ hoD),rD⟩ (fun i p hp'=>?_) fun h' tk hD' hk'=>⟨rfl,h h' tk hD' fun b o e=>hk' b o (hne b o e) (hne1 b o (kp b o e)) (kq b o (kp b o e))⟩
 ·refine aF (hT i) fun o ho=>?_
  exact hne1 _ _ (kp _ _ ho)
 ·refine aF (hT i) fun o ho=>?_
  exact hne _ _ ho
 ·refine eT (hp i p hp') fun u its ho147_2 e=>?_
  obtain ⟨o,ho,r⟩:=ho147_2
  exact ⟨u,its,⟨o,kq _ _ (kp _ _ ho),r⟩,e⟩
end
end
section
open PySem PyProof.Rows
section
variable {C:Cx}{d:Md}{A:D4}{H:MH}{s:Shared}{Q:V->MH->Prop}{X:XP}
noncomputable def prs (ps:List (Int × V)):List V:=ps.map fun p=>.tup [.int p.1,p.2]
noncomputable def zW (ps:List (Int × V)):List (Int × V):=ps.foldl (fun m p=>fS m p.1 p.2) []
theorem vo {h:Heap}:∀ {ps:List (Int × V)} {vs:List Value},aJ C h (prs ps) vs -> ∃ ps':List (Int × Value),ps'.length=vs.length/\ps'.map (·.1)=ps.map (·.1)/\aJ C h (ps.map (·.2)) (ps'.map (·.2))/\(∀ (i:Nat) v,vs[i]? = some v -> ∃ a,v=Du a) /\
  ∀ (i:Nat) (p:Int × Value),ps'[i]? = some p -> ∃ u its a,vs[i]? = some (Du a)/\h.IsTuple a its/\its.toList = [.int p.1 u,p.2]
 | [],vs,r=>by rw[aJ.inv_nil r];exact ⟨[],rfl,rfl,aJ.nil,fun i v h=>by simp at h,fun i p h=>by simp at h⟩
 | p::ps,vs,r=>by
  refine aG (aJ.inv_cons r) fun v vs' hr17_2 r1 r2=>?_
  subst hr17_2
  refine rj (vo r2) fun ps' e1 e2 e3 e4 e5=>?_
  dsimp only[VR] at r1
  refine aG r1 fun a items ho20_2 ht rs=>?_
  try clear r1
  obtain ⟨rfl,nd⟩:=ho20_2
  refine aG (aJ.inv_cons rs) fun v1 vs1 f1 g1 rs1=>?_
  refine aG (aJ.inv_cons rs1) fun v2 vs2 f2 g2 rs2=>?_
  rw[aJ.inv_nil rs2] at f2
  dsimp only[VR] at g1
  refine aF g1 fun u hr25_1=>?_
  try clear g1
  subst hr25_1
  refine ⟨(p.1,v2)::ps',by simp[e1],by simp[e2],aJ.cons g2 e3,fun i v hv=>?_,fun i q hq=>?_⟩
  ·cases i with
   | zero=>simp at hv;exact ⟨a,hv.symm⟩
   | succ i=>exact e4 i v (by simpa using hv)
  ·cases i with
   | zero=>simp at hq;subst hq;exact ⟨u,items,a,rfl,ht,by rw[f1,f2]⟩
   | succ i=>exact e5 i q (by simpa using hq)
theorem pS {h:Heap}:∀ {ps:List (Int × V)} {ps':List (Int × Value)} {l:List (Int × V)} {kvs:List (Int × Value)},ps'.map (·.1)=ps.map (·.1)->aJ C h (ps.map (·.2)) (ps'.map (·.2))->kvs.map (·.1)=l.map (·.1)->aJ C h (l.map (·.2)) (kvs.map (·.2)) ->
  (ps'.foldl (fun m p=>FC m p.1 p.2) kvs).map (·.1)=(ps.foldl (fun m p=>fS m p.1 p.2) l).map (·.1)/\aJ C h ((ps.foldl (fun m p=>fS m p.1 p.2) l).map (·.2)) ((ps'.foldl (fun m p=>FC m p.1 p.2) kvs).map (·.2))
 | [],[],_,_,_,_,m,r=>⟨m,r⟩
 | [],_::_,_,_,e,_,_,_=>by simp at e
 | _::_,[],_,_,e,_,_,_=>by simp at e
 | p::ps,p'::ps',l,kvs,e,rs,m,r=>by
  simp only[D3,HA] at e
  have:=jT (k:=p.1) rs.head m r
  simp only[F5]
  rw[e.1]
  exact pS e.2 rs.tail this.1 this.2
theorem jY {ps:List (Int × V)}(G:C.Good)(hq:d.q=true)(hl:ps.length<=Dz)(q:∀ b,H b=none->Q (.ref b) (an H b (.dci (zW ps)))):bn C d (.type "dict") [.tup (prs ps)] H Q X:=fun A s cs ok rs=>by
 obtain ⟨c,rfl,r⟩:=dS rs
 dsimp only[VR] at r
 obtain ⟨L,items,⟨rfl,nd⟩,⟨oL,hL,hcL,nL,hdL⟩,rs⟩:=r
 obtain ⟨ps',e1,e2,e3,e4,e5⟩:=vo rs
 have hlen:ps'.length=ps.length:=by rw[<- Dt (f:=(·.1)),e2,Dt]
 let T:Nat->Addr:=fun i=>match items[i]? with | some (.ref a)=>a | _=>L
 have hTv:∀ (i:Nat) v,items[i]? = some v->v = .ref (T i):=fun i v hv=>by
  refine aF (e4 i v (by simpa using hv)) fun a hr54_1=>?_
  subst hr54_1
  show Du a = .ref (match items[i]? with | some (.ref a)=>a | _=>L)
  rw[hv]
 have hp:∀ i p,ps'[i]? = some p -> ∃ u its,s.heap.IsTuple (T i) its/\its.toList = [.int p.1 u,p.2]:=fun i p hp=>by
  refine eU (e5 i p hp) fun u its a h1 h2 h3=>?_
  have:=hTv i (.ref a) (by simpa using h1)
  injection this with this
  exact ⟨u,its,this ▸ h2,h3⟩
 refine mI (T:=T) (ps:=ps') (ok.none hq) hL hcL hdL (nd _ hL) (by simpa using e1) (by exact aB (au (ae [ps.length,ps'.length] [(0,16777326),(1,0),(.a 16777326 111,1)] rfl (gO hl) (me hlen)))) hTv (fun i=>?_) hp fun h' tk hD k=>?_
 ·rcases Fd i ps'.length with hi | hi
  ·refine eT (hp i ps'[i] (by simp[hi])) fun u its ho64_2 zz=>?_
   obtain ⟨o,ho,_⟩:=ho64_2
   exact ⟨o,ho⟩
  ·refine ⟨oL,?_⟩
   have:items[i]? = none:=Ht (by simp at e1;exact au (ae [items.size,ps'.length,i] [(0,1),(1,2),(31,0)] rfl (mf e1) hi))
   show s.heap.get? (match items[i]? with | some (.ref a)=>a | _=>L)=_
   rw[this];exact hL
 ·have fr:=pS (l:=[]) (kvs:=[]) e2 e3 rfl aJ.nil
  refine jn (Step.grow (o:=.dci (zW ps)) (s':={ s with heap:=h',toks:=tk }) ok k ⟨mT ok,jl G ok,_,hD,fr.1,fr.2.keep (.of_keeps k)⟩ rfl rfl) .ref_ (q _ (ok.rel.fresh (ba _)))
end
end
section
open PySem PyProof.Rows
section
variable {C:Cx}{d:Md}{H:MH}{A:D4}{s:Shared}{Q:V->MH->Prop}{X:XP}
theorem tQ (a b:Nat):FV (a:Int) (b:Int) 1=b-a:=by
 unfold FV
 have h1:(1:Int)>0:=by decide
 simp only[h1,if_true,Int.ediv_one]
 split <;> (clear h1;lia)
theorem qD {v:Value}{k:Option Int}{E:Value->Shared->Prop}{P:Option Int->Shared->Prop}(p:IsPart v k)(h:P k s):wpAny C.M A (DX.Slice.slicePartIndex v) P E s:=by
 cases p with
 | none=>exact slicePart_none h
 | int i t=>exact slicePart_int h
theorem Bd {sl:Addr}{vl vu:Value}{lo hi:Option Int}{a b n:Nat}{E:Value->Shared->Prop}{P:Int × Int × Nat->Shared->Prop}(hs:s.heap.IsSliceOf sl vl vu .none)(pl:IsPart vl lo)(pu:IsPart vu hi)
  (he:ET lo hi 1 (n:Int)=((a:Int),(b:Int))) (h:P ((a:Int),1,b-a) s):wpAny C.M A (DX.Slice.sliceApplied (.ref sl) (pure (n:Int))) P E s:=by
 refine bN (id hs) fun os hos hcs hds=>?_
 unfold DX.Slice.sliceApplied DX.Slice.sliceFields
 refine Dq (Dq (EG hos hds (x:=vl) rfl (Dq (EG hos hds (x:=vu) rfl (Dq (EG hos hds (x:=.none) rfl (wpAny_pure ?_)))))))
 refine Dq (slicePart_none ?_)
 show wpAny _ _ (if ((1:Int)==0)=true then _ else _) _ _ s
 rw[if_neg (by decide)]
 refine Dq (qD pl (Dq (qD pu (Dq (wpAny_pure ?_)))))
 show wpAny _ _ (match ET lo hi 1 (n:Int) with | (lo,hi)=>pure (lo,(1:Int),FV lo hi 1)) _ _ s
 rw[he]
 show wpAny _ _ (pure ((a:Int),(1:Int),FV (a:Int) (b:Int) 1)) _ _ s
 rw[tQ a b]
 exact wpAny_pure h
theorem AZ (xs:Array Value)(a n:Nat):((DU n).filterMap fun (k:Nat)=>xs[((a:Int)+(k:Int)*1).toNat]?)=(xs.toList.drop a).take n:=by
 have e:(fun (k:Nat)=>xs[((a:Int)+(k:Int)*1).toNat]?)=fun k=>xs[a+k]?:=by
  funext k
  have:((a:Int)+(k:Int)*1).toNat=a+k:=by lia
  rw[this]
 rw[e]
 have:=pick_run xs a n
 rw[List.filterMap_map] at this
 exact this
theorem sP {l:List V}{vl vu:V}{lo hi:Option Int}{a b:Nat}(pl:Prt vl lo)(pu:Prt vu hi)(he:ET lo hi 1 (l.length:Int)=((a:Int),(b:Int)))(hb:b<=l.length)(hl:l.length<=Dz)
  (q:Q (.tup ((l.drop a).take (b-a))) H):s_ C d (.tup l) vl vu .none H Q X:=fun A s co cl cu ct p ok ro rl ru rt hp=>by
 have ro':=ro
 dsimp only[VR] at ro;dsimp only[VR] at rt;subst rt
 refine aG ro fun t items ho48_2 ht rs=>?_
 try clear ro
 obtain ⟨rfl,nd⟩:=ho48_2
 have hn:=rs.length
 simp only[DS] at hn
 obtain ⟨o,ho,hc,n,hd⟩:=id ht
 have hT:IsTup s.heap t items:=⟨o,ho,hc,n,hd⟩
 have hs:s.heap.IsSliceOf p cl cu .none:=⟨_,hp,rfl,rfl⟩
 have hTs:s.TypeIs (.ref p) "slice" := ⟨_,hp,rfl⟩
 refine ⟨uG (T := "tuple") ⟨o,ho,hc⟩ GR.lookup,?_⟩
 have hsz:sizeOk (.seq ((items.toList.drop a).take (b-a)).toArray):=by
  show ((items.toList.drop a).take (b-a)).toArray.size<=Dz
  rw[FJ,Gn,Go,DS]
  (clear hb;omega)
 unfold getItem
 try with_reducible refine DT ?_
 first | refine Dq (wpAny_pure ?_) | skip
 refine Dq (wpAny_sequenceKey hT.typeIs (by decide) ?_)
 refine Dq (Fo (name:=Dn "__getitem__") hT.typeIs GR
  (EC GR hT.typeIs entry_tuple_getitem ?_ (args_tuple_getitem _ _)))
 show wpAny _ _ (DX.Tuple.tupleItemsOf (.ref t) >>= _) _ _ s
 refine Dq (tupleItemsOf_ hT ?_)
 refine Dq (GI hTs ?_)
 rw[if_pos (by decide)]
 refine Dq (Bd (C:=C) (n:=items.size) hs (pl.is rl) (pu.is ru) (by rw[<- hn];exact he) ?_)
 have key:aJ C s.heap ((l.drop a).take (b-a)) ((items.toList.drop a).take (b-a)):=(rs.drop a).take _
 dsimp only
 rw[AZ]
 by_cases hw:((a:Int)==0&&(1:Int)==1&&(b-a)==items.size)=true
 ·rw[if_pos hw]
  simp only[Ev,beq_iff_eq] at hw
  refine az hw fun ho77_0 h1=>?_
  try clear hw
  obtain ⟨h0,_⟩:=ho77_0
  have ha:a=0:=by exact sB (am [a] [(110,0),(11,110)] rfl (zf h0)) (am [a] [(0,110),(.a 110 111,0)] rfl (ze h0))
  subst ha
  have e:(l.drop 0).take (b-0)=l:=by rw[List.drop_zero];exact ED (by exact au (ae [l.length,items.size,b-0] [(0,1),(1,2),(31,0)] rfl (me hn) (mf h1)))
  rw[e] at q
  have fin:QP C H s Q (.ref t) s:=qp ok.refl ro' q
  refine Dq (m:=DX.Tuple.tupleIsExact (.ref t)) (Dq (GI hT.typeIs (wpAny_pure ?_)))
  rw[if_pos (by decide)]
  exact Dq (wpAny_rule (wpAny_pure ⟨_,rfl,wpAny_pure fin⟩))
 ·rw[if_neg hw]
  generalize hP:((items.toList.drop a).take (b-a)).toArray=P at hsz
  have fin:QP C H s Q (.ref s.heap.objs.size) { s with heap:=s.heap.push { cls:=.type "tuple",data:=.seq P } }:=by
   refine qp (Step.keeps ok.rel ok.top (fun b o e=>Dv _ e) rfl rfl) ?_ q
   dsimp only[VR]
   refine ⟨_,P,⟨rfl,.of (DG _ rfl) rfl⟩,⟨_,DG _ rfl,rfl,_,rfl⟩,?_⟩
   rw[<- hP,GF]
   exact key.keep (.of_keeps fun b o e=>Dv _ e)
  first
   | exact Dq (m:=FZ _) (D6 (wpAny_pure ⟨_,rfl,wpAny_pure fin⟩) hsz)
   | exact Dq (m:=FZ _) (D6 (Dq (wpAny_pure (wpAny_pure ⟨_,rfl,wpAny_pure fin⟩))) hsz)
   | exact Dq (Dq (m:=FZ _) (D6 (wpAny_pure (wpAny_pure ⟨_,rfl,wpAny_pure fin⟩)) hsz))
   | exact Dq (Dq (m:=FZ _) (D6 (wpAny_pure ⟨_,rfl,wpAny_pure fin⟩) hsz))
theorem uD (l:List Value)(n:Nat):∀ acc:Array Value,(Gp (fun x1 x2=>x1++x2) acc (DN n l.toArray)).toList=acc.toList++(DN n l).flatten:=by
 induction n with
 | zero=>intro acc;simp
 | succ n ih=>intro acc;rw[Fk,F5,ih];simp[Fk]
theorem sV {h:Heap}{l:List V}{m:List Value}(r:aJ C h l m):∀ n:Nat,aJ C h (DN n l).flatten (DN n m).flatten
 | 0=>by simpa using aJ.nil
 | n+1=>by rw[Fk,Fk,List.flatten_cons,List.flatten_cons];exact r.append (sV r n)
theorem pB {a:Addr}{l:List V}{x:Int}(h:H a=some (.lst l))(hne:l ≠ [])(h0:0<=x)(hx:x<=1000)(hl:l.length<=1000)(q:∀ b,H b=none->Q (.ref b) (an H b (.lst (DN x.toNat l).flatten))):fQ C d .Mult (.ref a) (.int x) H Q X:=fun A s ca cb ok ra rb=>by
 dsimp only[VR] at ra;dsimp only[VR] at rb;subst ra;obtain ⟨u,rfl⟩:=rb
 obtain ⟨_,items,⟨k,hL⟩,rs⟩:=ok.rel _ _ h
 have hn:=rs.length
 simp only[DS] at hn
 have hne':items.isEmpty=false:=by
  cases l with
  | nil=>exact (hne rfl).elim
  | cons y ys=>rw[Array.isEmpty_eq_false_iff];intro z;rw[z] at hn;simp at hn
 have hmul:items.size*x.toNat<=1000*1000:=Nat.mul_le_mul (by exact au (ae [l.length,items.size] [(0,1110),(1,0),(.a 1110 111,1)] rfl hl (mf hn))) (by (clear h0 hl hn;lia))
 have fin:QP C H s Q (.ref s.heap.objs.size) { s with heap:=s.heap.push { cls:=.type "list",data:=.seq (Gp (fun x1 x2=>x1++x2) #[] (DN (if items.isEmpty=true then 0 else x.toNat) items)) } }:=by
  rw[hne',if_neg (by decide)]
  have key:aJ C s.heap (DN x.toNat l).flatten (Gp (fun x1 x2=>x1++x2) #[] (DN x.toNat items)).toList:=by
   have:=uD items.toList x.toNat #[]
   simp only[Array.toArray_toList] at this
   rw[this]
   simpa using sV rs x.toNat
  refine az (jv (s':={ s with heap:=s.heap.push { cls:=.type "list",data:=.seq (Gp (fun x1 x2=>x1++x2) #[] (DN x.toNat items)) } }) ok key rfl rfl rfl) fun st hf=>?_
  exact jn st .ref_ (q _ hf)
 exact wpAny_binaryOp_repeat_ref (T := "list") (U := "int") (by decide) ⟨_,hL,rfl⟩ (fun s'=>typeIs_int s' x u) noFill_list_mul PySem.F.fills_int_mul PySem.F.slot_int_rmul repeat_list PySem.F.slot_int_index.lookup
  (call_meets PySem.F.slot_int_rmul (typeIs_int s x u) PySem.F.entry_int_rmul (PySem.F.args_int_rmul_2 _ _) (int___rmul___int_list x u a items k)
   ⟨hL,rfl,⟨_,hL,rfl⟩,call_meets PySem.F.slot_list_mul ⟨_,hL,rfl⟩ PySem.F.entry_list_mul (PySem.F.args_list_mul_2 _ _)
    (AutoListH.list___mul___list_int_3 a items k x u (by simp[DX.List.listFitsIndex];(clear hl hn hmul;omega)) (by (clear h0 hx hl hn;omega)) (by simp[DX.List.listTooLong,Dz];(clear h0 hx hl hn;omega)))
    ⟨hL,fin⟩⟩)
end
end
section
open PySem PyProof.Rows
noncomputable def d9:Vs:=[aq "work",aq "broken",aq "parts",aq "found",aq "at",aq "lines"]
noncomputable def dP:List St :=
  [.asg 2 (.sub (.nm 0) (.ci 2)),
  .asg 3 (.lst [(.lst [])]),
  .for [4] (.pl (.call "range" [(.bin .Sub (.call "len" [(.nm 2)]) (.ci 1)),(.una .USub (.ci 1)),(.una .USub (.ci 1))])) [.asg 5 (.call "list" [(.sub (.nm 3) (.ci 0))]),
  .ife (.cmp .NotIn (.nm 4) (.nm 1)) [.asg 5 (.call "sorted" [(.call "set" [(.bin .Add (.nm 5) (.call "list" [(.sli (.sub (.nm 2) (.nm 4)) (.ci 1) .cn .cn)]))])])] [],
  .asg 3 (.bin .Add (.lst [(.nm 5)]) (.nm 3))],
  .ret (.nm 3)]
noncomputable def bH (br:List Nat):V:=.tup (br.map fun (b:Nat)=>V.int b)
structure Tkh (H:MH)(t:Addr)(tk:List (List Int)):Prop where
 ex:∃ as:List Addr,H t=some (.lst (as.map .ref))/\as.length=tk.length /\ ∀ (i:Nat) a,as[i]? = some a->H a=some (.lst ((tk.getD i []).map .int))
 sz:∀ k,(tk.getD k []).length<=100
section
variable {C:Cx}{H:MH}{Q:V->MH->Prop}{X:XP}{n:Nat}{d:Md}
theorem kR {H:MH}:∀ br:List Nat,VDs H (br.map fun (b:Nat)=>V.int b) (br.map fun (b:Nat)=>E8 b)
 | []=>.nil
 | b::br=>.cons (.int _) (kR br)
theorem ku:∀ br:List Nat,Eb (br.map fun (b:Nat)=>E8 b)=true
 | []=>rfl
 | b::br=>by simp only[D3,Eb,ku br,Bool.and_true];rfl
theorem mQ:∀ br:List Nat,DW (br.map fun (b:Nat)=>E8 b)=0
 | []=>rfl
 | b::br=>by simp only[D3,DW,mQ br];rfl
theorem pz {k:Nat}:∀ br:List Nat,((br.map fun (b:Nat)=>E8 b).any fun y=>Em y (.int k))=decide (k∈br)
 | []=>rfl
 | b::br=>by
  rw[D3,List.any_cons,pz br]
  have:Em (.int b) (.int k)=decide (k=b):=by
   rw[Em]
   by_cases h:k=b
   ·subst h;simp
   ·rw[decide_eq_false h];simp;lia
  rw[this]
  simp only[EW]
  by_cases h:k=b <;> simp[h]
theorem u9 {k:Nat}{br:List Nat}(q:Q (.bool (!decide (k∈br))) H):bX C d .NotIn (.int k) (bH br) H Q X :=
 yj (.int _) (.tup (kR br)) (.inr rfl) rfl (ku br) (by rw[mQ];simp) (by rw[pz];exact q)
theorem Bz {k:Nat}{br:List Nat}(q:Q (.bool (decide (k∈br))) H):bX C d .In (.int k) (bH br) H Q X :=
 mL (.int _) (.tup (kR br)) (.inr rfl) rfl (ku br) (by rw[mQ];simp) (by rw[pz];exact q)
theorem mj {m:Nat}:dB ((m:Int)-1) (-1) (-1)=(DU m).map fun (i:Nat)=>V.int ((m:Int)-1-(i:Int)):=by
 unfold dB
 have:DV ((m:Int)-1) (-1) (-1)=m:=by
  unfold DV
  rw[if_neg (by decide)]
  split
  ·rw[show -(-1:Int)=1 by rfl,Int.ediv_one];exact eV (am [m] [(.a (.a (.s (.s (.s 0 111) (.g 1)) 111) 111) 111,0)] rfl) (am [m] [(11,.a (.s (.s (.s 0 111) (.g 1)) 111) 111)] rfl)
  ·lia
 rw[this,Fh]
 refine List.map_congr_left fun i zz=>?_
 rw[show (m:Int)-1+(i:Int) * -1=(m:Int)-1-(i:Int) by (clear this;lia)]
theorem tV {m:Nat}(h:m<=1000):DX.Range.small ((m:Int)-1) (-1) (-1)=true:=by
 have:DV ((m:Int)-1) (-1) (-1)=m:=by
  unfold DV
  rw[if_neg (by decide)]
  split
  ·rw[show -(-1:Int)=1 by rfl,Int.ediv_one];exact eV (am [m] [(.a (.a (.s (.s (.s 0 111) (.g 1)) 111) 111) 111,0)] rfl) (am [m] [(11,.a (.s (.s (.s 0 111) (.g 1)) 111) 111)] rfl)
  ·(clear h;lia)
 unfold DX.Range.small
 rw[this]
 simp only[DX.Range.rangeFitsLong,Ev,Bool.or_eq_true,decide_eq_true_eq,beq_iff_eq,show ¬ ((-1:Int)>0) by decide,if_false]
 (clear this;lia)
structure TkF (w:Wk)(fr:Nat->Bool)(m:Nat)(tk:List (List Int)):Prop where
 len:tk.length+m=w.ps.length+1
 ge:∀ k,∀ l∈tk.getD k [],0<=l/\l<16
 sub:∀ k,m+k<w.ps.length -> ∀ l∈tk.getD (k+1) [],l∈tk.getD k []
 own:∀ (k:Nat) (p:Pt),w.ps[m+k]? = some p->fr (m+k)=false -> ∀ l:Nat,l∈p.ls->(l:Int)∈tk.getD k []
 sz:∀ k,(tk.getD k []).length<=100
theorem TkF.tak {w:Wk}{fr:Nat->Bool}{tk:List (List Int)}(x:TkF w fr 0 tk):Tak w fr tk where
 len:=by have:=x.len;exact cy (ae [w.ps.length,tk.length] [(11,20),(21,11)] rfl (mf this)) (ae [tk.length,w.ps.length] [(10,21),(.a 21 111,0)] rfl (me this))
 ge:=fun k l hl=>(x.ge k l hl).1
 sub:=fun k hk l hl=>x.sub k (by exact be (ae [k,w.ps.length] [(11,1),(1,.a 110 0)] rfl hk)) l hl
 own:=fun k p hk hf l hl=>x.own k p (by rw[Nat.zero_add];exact hk) (by rw[Nat.zero_add];exact hf) l hl
theorem TkF.cons {w:Wk}{fr:Nat->Bool}{m:Nat}{tk:List (List Int)}{ks:List Int}(x:TkF w fr (m+1) tk)(h1:∀ l∈tk.getD 0 [],l∈ks)(h2:∀ l∈ks,0<=l/\l<16)(h3:ks.length<=100)
  (h4:∀ p,w.ps[m]? = some p->fr m=false -> ∀ l:Nat,l∈p.ls->(l:Int)∈ks):TkF w fr m (ks::tk) where
 len:=by have:=x.len;simp;exact cy (ae [w.ps.length,tk.length,m] [(11,.a 1 31),(.a (.a 21 2) 111,11)] rfl (mf this)) (ae [tk.length,m,w.ps.length] [(.a 0 21,31),(.a 31 111,.a 11 1)] rfl (me this))
 ge:=fun k=>by cases k with
  | zero=>exact h2
  | succ k=>exact x.ge k
 sub:=fun k hk=>by cases k with
  | zero=>exact h1
  | succ k=>exact x.sub k (by exact be (ae [m,k,w.ps.length] [(.a (.a 0 21) 111,2),(2,.a 11 1)] rfl hk))
 own:=fun k p hk hf=>by cases k with
  | zero=>exact h4 p hk hf
  | succ k=>exact x.own k p (by rw[show m+1+k=m+(k+1) by exact cy (ae [m,k] [(.a (.a 11 1) 111,.a 0 21)] rfl) (ae [m,k] [(.a (.a 0 21) 111,.a 11 1)] rfl)];exact hk) (by rw[show m+1+k=m+(k+1) by exact cy (ae [m,k] [(.a (.a 11 1) 111,.a 0 21)] rfl) (ae [m,k] [(.a (.a 0 21) 111,.a 11 1)] rfl)];exact hf)
 sz:=fun k=>by cases k with
  | zero=>exact h3
  | succ k=>exact x.sz k
theorem vQ {w:Wk}{pa:Addr}{br:List Nat}{most:Nat}(G:C.Good)(S:Std C)(D:bq C "wanted_from" d9 2 dP)(hw:w.Ok most)(hm:most<=10)(hp:H pa=some (.lst (w.ps.map Pt.v)))
  (K:∀ t tk H',ay H H'->H t=none->Tkh H' t tk->Tak w (fun k=>decide (k∈br)) tk->Q (.ref t) H'):bB C ⟨n+1,true⟩ "wanted_from" [w.v pa,bH br] H Q X:=by
 have hz:10000<Dz:=by decide
 have hi2:=hw.i2;have hp2:=hw.p2;have hp1:=hw.p1
 refine D.call G rfl ?_
 unfold dP
 refine aC (ao rfl ?_)
 refine cS rfl ?_
 refine aC (bu (ac (bu (ah ?_))))
 refine ⟨by decide,fun a0 ha0=>?_⟩
 refine ah ?_
 refine ⟨show 1<=Dz by decide,fun f0 hf0=>?_⟩
 have x0:ay H (an (an H a0 (.lst [])) f0 (.lst [.ref a0])):=((ay.refl H).more ha0).more hf0
 have f00:H f0=none:=(ay.new ha0).gone hf0
 have k0:Tkh (an (an H a0 (.lst [])) f0 (.lst [.ref a0])) f0 [[]]:=⟨⟨[a0],aj ..,rfl,fun i a h=>by
  cases i with
  | zero=>simp at h;subst h;exact (ay.new hf0) _ _ (aj ..)
  | succ i=>simp at h⟩,fun k=>by cases k <;> simp⟩
 generalize an (an H a0 (.lst [])) f0 (.lst [.ref a0])=H1 at x0 k0
 refine cA ?_
 refine aA (Std.n_range (by assumption)) aH (ac (aE (aA (Std.n_len (by assumption)) ak (a9 rfl ?_))))
 refine bp (af (x0 _ _ hp)) (by simp;exact aB (au (ae [most,w.ps.length] [(0,120),(1,0),(.a 16777326 111,1)] rfl hm hp2))) ?_
 refine aO (bZ (ac (kZ (aO (jp (ac (kZ (aO (jp (ah ?_))))))))))
 rw[Dt]
 refine uu (by decide) (by rfl) ?_
 refine ⟨_,⟨.inl rfl,fun zz zz zz e=>by cases e;exact tV (by exact au (ae [most,w.ps.length] [(0,120),(1,0),(.a 1110 111,1)] rfl hm hp2))⟩,by rw[aS,mj],?_⟩
 have t0:TkF w (fun k=>decide (k∈br)) w.ps.length [[]]:=⟨(by simp;exact cy (ae [w.ps.length] [(.a (.a 111 0) 111,11)] rfl) (ae [w.ps.length] [(.a 11 111,.a 111 0)] rfl)),(fun k l hl=>by cases k <;> simp at hl),(fun k hk=>by (clear hm hz hi2 hp2 hp1;lia)),(fun k p hk=>by rw[List.getElem?_eq_none (by exact au (ae [w.ps.length,k] [(.a (.a 0 1) 111,0)] rfl))] at hk;cases hk),(fun k=>by cases k <;> simp)⟩
 refine ch (P:=fun i ρ H'=>∃ t aa ll tk,ρ = [some (w.v pa),some (bH br),some (.ref pa),some (.ref t),aa,ll]/\ay H H'/\H t=none/\Tkh H' t tk/\TkF w (fun k=>decide (k∈br)) (w.ps.length-i) tk)
  (vY f0 none none ([[]]) rfl x0 f00 k0 t0) (fun i x ρ H' R hP hx hR=>?_) fun ρ H' hP=>?_
 ·refine nH hP fun t aa ll tk hr132_4 hx' ht hk hT=>?_
  try clear hP
  subst hr132_4
  rw[DC,DE] at hx
  refine ad hx fun i' hi' hr134_2=>?_
  try clear hx
  subst hr134_2
  have hi:i<w.ps.length/\i'=i:=by
   refine aF (DD.mp hi') fun h1 h2=>?_
   simp at h1 h2;exact ⟨h1,h2.symm⟩
  refine az hi fun hi hr138_1=>?_
  subst hr138_1
  obtain ⟨m,hm1⟩:∃ m,w.ps.length-i'=m+1:=⟨w.ps.length-i'-1,by (clear hm hz hi2 hp2 hp1 hi;omega)⟩
  rw[hm1] at hT
  have em:(w.ps.length:Int)-1-(i':Int)=(m:Int):=by (clear hm hz hi2 hp2 hp1 hi;omega)
  rw[em]
  have hmp:m<w.ps.length:=by exact im (am [m,w.ps.length,i'] [(0,.s (.s 1 111) 2),(110,2),(1,0)] rfl (zf em) (q0 i'))
  refine bN hk.ex fun as h1 h2 h3=>?_
  have hlen:=hT.len
  obtain ⟨a1,ha1⟩:∃ a1,as[0]? = some a1:=⟨as[0]'(by exact be (ae [m,w.ps.length,tk.length,as.length] [(11,1),(2,3),(21,.a 2 11),(3,110)] rfl hmp (mf h2) (mf hlen))),DA _⟩
  have hb1:=h3 0 a1 ha1
  have hsz:=hk.sz 0
  refine ⟨by simp only[cz,aS,mj],_,rfl,?_⟩
  have tail:∀ r ks H'',ay H' H''->H'' r=some (.lst (ks.map .int))->TkF w (fun k=>decide (k∈br)) m (ks::tk)->aM C ⟨n,true⟩ [.asg 3 (.bin .Add (.lst [(.nm 5)]) (.nm 3))] [some (w.v pa),some (bH br),some (.ref pa),some (.ref t),some (.int m),some (.ref r)] H''
    (fun f ρ' H'=>match f with | .next=>R ρ' H' | .ret v=>Q v H') (fun c zz H'=>X c H'):=by
   intro r ks H'' y hr hT'
   refine aC (aE (bu (a9 rfl ?_)))
   refine ⟨show 1<=Dz by decide,fun g hg=>?_⟩
   refine ag rfl ?_
   have h1':an H'' g (.lst [.ref r]) t=some (.lst (as.map .ref)):=(ay.new hg) _ _ (y _ _ h1)
   refine dz aW (af h1') (by simp;exact aB (au (ae [most,w.ps.length,as.length,tk.length,m] [(0,120),(1,0),(2,3),(.a 3 51,21),(.a 16777326 111,.a 111 2)] rfl hm hp2 (me h2) (me hlen)))) fun t' ht'=>aR ?_
   have z:ay H'' (an (an H'' g (.lst [.ref r])) t' (.lst ([V.ref r]++as.map V.ref))):=((ay.refl _).more hg).more ht'
   refine hR _ _ (vY t' (some (.int m)) (some (.ref r)) (ks::tk) rfl (hx'.trans (y.trans z)) (((hx'.trans y).trans (ay.new hg)).gone ht') (⟨⟨r::as,aj ..,by simp[h2],fun j a hj=>?_⟩,hT'.sz⟩) ?_)
   ·cases j with
    | zero=>simp at hj;subst hj;exact z _ _ hr
    | succ j=>exact z _ _ (y _ _ (h3 j a (by simpa using hj)))
   ·rw[show w.ps.length-(i'+1)=m by (clear hm hz hi2 hp2 hp1 hi hm1 hmp h2 hlen hsz;omega)];exact hT'
  refine aC (aA (Std.n_list (by assumption)) aH (ac (ao rfl ?_)))
  refine aN (i:=0) (af h1) (by simp;exact aB (au (ae [most,w.ps.length,as.length,tk.length,m] [(0,120),(1,0),(2,3),(.a 3 51,21),(.a 16777326 111,2)] rfl hm hp2 (me h2) (me hlen)))) (x:=.ref a1) (by rw[DC,ha1];rfl) ?_
  refine ah ?_
  refine dK (.inl ⟨_,rfl⟩) (af hb1) (by rw[Dt];exact aB (au (ae [(tk.getD 0 []).length] [(0,210),(.a 16777326 111,0)] rfl hsz))) fun b hb=>?_
  refine aI (uj rfl rfl ?_)
  refine u9 ?_
  refine ai ?_
  have y1:ay H' (an H' b (.lst ((tk.getD 0 []).map .int))):=.new hb
  have b1:an H' b (.lst ((tk.getD 0 []).map .int)) b=some (.lst ((tk.getD 0 []).map .int)):=aj ..
  generalize an H' b (.lst ((tk.getD 0 []).map .int))=H2 at y1 b1
  split
  ·rename_i hbr
   have hfr:decide (m∈br)=false:=by simpa using hbr
   have hpm:w.ps[m]? = some w.ps[m]:=DA hmp
   refine az (hw.pt m _ hpm) fun q1 q2=>?_
   have hlsl:w.ps[m].ls.length<=3:=by rw[q1];cases w.ps[m].w <;> decide
   refine bg (aC (aA (Std.n_sorted (by assumption)) ak (ac (aA (Std.n_set (by assumption)) aH (ac (aE (ag rfl (aA (Std.n_list (by assumption)) aH (ac (gQ (hZ rfl rfl ?_)))))))))))
   refine aN (i:=m) (af (y1 _ _ (hx' _ _ hp))) (by simp;exact aB (au (ae [most,w.ps.length] [(0,120),(1,0),(.a 16777326 111,1)] rfl hm hp2))) (x:=w.ps[m].v) (by rw[DC,hpm];rfl) ?_
   rw[show w.ps[m].v = .tup (.str (Dn w.ps[m].w.name)::w.ps[m].ls.map fun (l:Nat)=>V.int l) from rfl]
   refine aO (cH (cH ?_))
   refine sP (lo:=some 1) (hi:=none) (a:=1) (b:=w.ps[m].ls.length+1) (.int _) .none (by simp[ET];(clear hm hz hi2 hp2 hp1 hi hm1 em h2 hlen hsz q1 hlsl;lia)) (by simp) (by simp;exact aB (au (ae [w.ps[m].ls.length] [(0,113),(.a 16777326 111,11)] rfl hlsl))) ?_
   have ed:((V.str (Dn w.ps[m].w.name)::w.ps[m].ls.map fun (l:Nat)=>V.int l).drop 1).take (w.ps[m].ls.length+1-1)=(w.ps[m].ls.map fun (l:Nat)=>(l:Int)).map .int:=by
    rw[List.drop_succ_cons,List.drop_zero,GU,FR];exact ED (by simp)
   rw[ed]
   refine ah ?_
   refine dK (.inr ⟨_,rfl⟩) rfl (by simp;exact aB (au (ae [w.ps[m].ls.length] [(0,113),(.a 16777326 111,0)] rfl hlsl))) fun c hc=>?_
   refine dz (af ((ay.new hc) _ _ b1)) aW (by rw[Dt];simp only[Dt];exact aB (au (ae [(tk.getD 0 []).length,w.ps[m].ls.length] [(0,210),(1,113),(.a 16777326 111,.a 0 1)] rfl hsz hlsl))) fun e he=>?_
   rw[<- DO]
   refine ah ?_
   refine zS rfl aW (by simp only[DZ,Dt];have:Fp=4096:=rfl;exact be (ae [(tk.getD 0 []).length,w.ps[m].ls.length,Fp] [(0,210),(1,113),(4206,2),(2,.a (.a 0 1) 111)] rfl hsz hlsl (mf this))) fun st hst=>?_
   refine ah ?_
   have hin:∀ l∈tk.getD 0 []++w.ps[m].ls.map (fun (l:Nat)=>(l:Int)),0<=l/\l<16:=fun l hl=>by
    rcases El.mp hl with h | h
    ·exact hT.ge 0 l h
    ·refine ad (Ef.mp h) fun l' h' hr199_2=>?_
     subst hr199_2
     have:=q2 l' h';exact ⟨aY (am [l'] [(110,0),(11,110)] rfl (q0 l')),bE (am [most,w.inp,w.ps.length,m,l'] [(0,120),(1,116),(2,0),(41,2),(51,.a 1 3),(126,4)] rfl (ql hm) (ql hi2) (ql hp2) (ql hmp) (ql this))⟩
   refine uw rfl (aj ..) (fun ks hn hs=>Nat.lt_of_le_of_lt (gv 16 ks hn fun k hk=>by have:=hin k (hs k hk);exact ⟨aY (am [k] [(110,0),(11,110)] rfl this.1),bE (am [k] [(11,126),(126,0)] rfl this.2)⟩) (by decide)) fun r ks hr hn hmem hpw=>?_
   have hk16:ks.length<=16:=gv 16 ks hn fun k hk=>by have:=hin k ((hmem k).mp hk);exact ⟨aY (am [k] [(110,0),(11,110)] rfl this.1),bE (am [k] [(11,126),(126,0)] rfl this.2)⟩
   refine tail r ks _ (y1.trans (((((ay.refl _).more hc).more he).more hst).more hr)) (aj ..) (hT.cons (fun l h=>(hmem l).mpr (List.mem_append_left _ h)) (fun l h=>hin l ((hmem l).mp h)) (by exact au (ae [ks.length] [(0,126),(.a 210 111,0)] rfl hk16)) fun p hp hf l hl=>?_)
   rw[hpm] at hp;cases hp
   exact (hmem _).mpr (List.mem_append_right _ (Ef.mpr ⟨l,hl,rfl⟩))
  ·rename_i hbr
   have hfr:m∈br:=by simpa using hbr
   refine tail b (tk.getD 0 []) _ y1 b1 (hT.cons (fun l h=>h) (hT.ge 0) hsz fun p hp hf=>?_)
   rw[decide_eq_true hfr] at hf;cases hf
 ·refine nH hP fun t aa ll tk hr210_4 hx' ht hk hT=>?_
  try clear hP
  subst hr210_4
  refine ⟨by simp only[cz,aS,mj],?_⟩
  refine eY rfl ?_
  rw[Dt,List.length_range,Nat.sub_self] at hT
  exact K t tk H' hx' ht hk hT.tak
end
end
section
open PySem PyProof.Rows
section
variable {prog:Ee}{w:Fq}{A:D4}{E:Value->Shared->Prop}{s:Shared}
end
end
section
open PySem PyProof.Rows
section
variable {C:Cx}{H:MH}{Q:V->MH->Prop}{X:XP}{n:Nat}
theorem dh {x l m:Int}{q:Bool}(G:C.Good)(S:Std C)(D:bq C "is_among" fp 3 e9)(K:Q (.bool (decide (l<=x)&&decide (x<=m))) H):bB C ⟨n+1,q⟩ "is_among" [.int x,.int l,.int m] H Q X:=by
 refine D.call G rfl ?_
 unfold e9
 refine aX (mB (ju (aA (Std.n_isinstance (by assumption)) ak (a8 rfl (ac (fF (Std.n_int (by assumption)) (ah ?_)))))))
 refine eq (k:=true) S.n_int (by rfl) ?_
 refine ai (bC (ju (kZ (aA (Std.n_isinstance (by assumption)) ak (a8 rfl (ac (fF (Std.n_bool (by assumption)) (ah ?_))))))))
 refine eq (k:=false) S.n_bool (by rfl) ?_
 refine zo (ai (ai (pc (mA (zA (ag rfl (ag rfl (mM (ai ?_)))))))))
 split
 ·rename_i h
  refine ag rfl (mM ?_)
  simpa [of_decide_eq_true h] using K
 ·rename_i h
  simpa [show decide (l<=x)=false by simpa using h] using K
theorem rC {w:Wk}{pa:Addr}{ds:List Int}{most:Nat}(G:C.Good)(S:Std C)(Da:bq C "is_among" fp 3 e9)(D:bq C "is_given" jb 2 gT)(hw:w.Ok most)(hd:ds.length=w.inp)(hr:∀ x∈ds,0<=x/\x<w.ring)
  (K:∀ H',ay H H'->Q (.bool true) H'):bB C ⟨n+2,true⟩ "is_given" [w.v pa,.tup (ds.map .int)] H Q X:=by
 have hz:1000<Dz:=by decide
 have hi2:=hw.i2
 refine D.call G rfl ?_
 unfold gT
 refine aI (cO (cC (b8 (bP (aA (Std.n_isinstance (by assumption)) ak (a8 rfl (ac (fF (Std.n_tuple (by assumption)) (ah ?_)))))))))
 refine eq (k:=true) S.n_tuple (by rfl) ?_
 refine ai (bR (cC (aK (aA (Std.n_len (by assumption)) ak (a9 rfl ?_)))))
 refine eZ (by simp;exact aB (au (ae [ds.length,w.inp] [(0,1),(1,116),(.a 16777326 111,0)] rfl (me hd) hi2))) ?_
 refine ao rfl ?_
 refine bM rfl ?_
 rw[Dt,hd]
 refine gS (ai ?_)
 rw[beq_self_eq_true]
 refine bR (cM (bf (aL (aX (aA (Std.n_all (by assumption)) ak (ac ?_))))))
 refine cU ?_
 refine ag rfl ?_
 refine ⟨_,⟨.inl rfl,fun zz zz zz e=>by cases e⟩,rfl,by simp;exact aB (au (ae [ds.length,w.inp] [(0,1),(1,116),(.a 16777326 111,0)] rfl (me hd) hi2)),?_⟩
 refine cq (P:=fun i acc H'=>acc=(DN i true).map .bool/\ay H H') ⟨rfl,.refl _⟩ (fun i x acc H' R hP hx hR=>?_) fun acc H' hP=>⟨rfl,?_⟩
 ·refine az hP fun hr45_0 hx'=>?_
  try clear hP
  subst hr45_0
  rw[DC] at hx
  cases e:ds[i]? with
  | none=>rw[e] at hx;cases hx
  | some y=>
  rw[e] at hx;cases hx
  have hy:=hr y (DQ e)
  refine ⟨rfl,_,rfl,?_⟩
  refine dR (bC ?_)
  refine bw Da.fn ?_
  refine a8 rfl (ck (ac (aE (ao rfl ?_))))
  refine bi rfl ?_
  refine aO (bZ (ah ?_))
  refine dh G S Da (hR _ _ ⟨?_,hx'⟩)
  rw[show (decide (0<=y)&&decide (y<=w.ring-1))=true by simp;exact ⟨aY (am [y] [(110,0),(11,110)] rfl hy.1),aY (am [y,w.ring] [(11,1),(.a (.s 1 111) 111,0)] rfl hy.2)⟩]
  simp[List.replicate_succ']
 refine az hP fun hr61_0 hx'=>?_
 try clear hP
 subst hr61_0
 refine ⟨by simp;exact aB (au (ae [ds.length,w.inp] [(0,1),(1,116),(.a 16777326 111,0)] rfl (me hd) hi2)),fun b hb=>?_⟩
 refine ah ?_
 refine mP rfl (aj ..) ?_
 simp only[List.all_replicate]
 have:(if (GV V.int ds).length=0 then true else id true)=true:=by split <;> rfl
 rw[this]
 exact K _ (hx'.more hb)
noncomputable def bW (l:List (Int × Int)):List (Int × V):=l.map fun p=>(p.1,V.int p.2)
noncomputable def bI (l:List (Int × Int)) (k:Int):Option Int:=(l.find? (fun p=>decide (p.1=k))).map (·.2)
theorem jy (l:List (Int × Int))(k:Int):eD (bW l) k=(bI l k).map .int:=by
 unfold eD bW bI
 rw[List.find?_map]
 simp only[Option.map_map]
 rfl
end
end
section
open PySem PyProof.Rows
noncomputable def eS:Vs:=[aq "self",aq "work",aq "seen",aq "broken"]
noncomputable def eB:List St :=
  [.seta (.nm 0) "task" (.nm 1),
  .seta (.nm 0) "eyes" (.call "dict" [(.nm 2)]),
  .seta (.nm 0) "free" (.nm 3),
  .seta (.nm 0) "takes" (.call "wanted_from" [(.nm 1),(.nm 3)]),
  .seta (.nm 0) "dead" (.emp 2)]
noncomputable def dc:Vs:=[fj "self",aq "at",aq "digits",aq "ring",aq "inputs",aq "parts",aq "some",fj "line"]
noncomputable def cT:List St :=
  [.unp [3,4,5] (.att (.nm 0) "task"),
  .asg 6 (.call "list" [(.call "range" [(.nm 3)])]),
  .ife (.cmp .NotIn (.nm 1) (.att (.nm 0) "free")) [.asg 6 (.lst [(.call "given_of" [(.sub (.nm 5) (.nm 1)),(.nm 2),(.nm 3)])])] [],
  .asg 7 (.bin .Add (.nm 4) (.nm 1)),
  .ret (.comp 1 (.nm 8) (.nm 6) [(.cmp .Eq (.meth (.att (.nm 0) "eyes") "get" [(.nm 7),(.nm 8)]) (.nm 8))])]
noncomputable def dO:Vs:=[aq "self",fj "digits",aq "at",aq "key",aq "digit",aq "found"]
noncomputable def cX:List St :=
  [.asg 2 (.bin .Sub (.call "len" [(.nm 1)]) (.sub (.att (.nm 0) "task") (.ci 1))),
  .ife (.cmp .Eq (.nm 2) (.call "len" [(.sub (.att (.nm 0) "task") (.ci 2))])) [.ret (.nm 1)] [],
  .asg 3 (.tup [(.nm 2),(.call "tuple" [(.comp 1 (.sub (.nm 1) (.nm 6)) (.sub (.att (.nm 0) "takes") (.nm 2)) [(.cmp .Lt (.nm 6) (.call "len" [(.nm 1)]))])])]),
  .ife (.cmp .In (.nm 3) (.att (.nm 0) "dead")) [.ret .cn] [],
  .for [4] (.pl (.meth (.nm 0) "choices" [(.nm 2),(.nm 1)])) [.asg 5 (.meth (.nm 0) "grown" [(.bin .Add (.nm 1) (.lst [(.nm 4)]))]),
  .ife (.cmp .IsNot (.nm 5) .cn) [.ret (.nm 5)] []],
  .seti (.att (.nm 0) "dead") (.nm 3) (.cb true),
  .ret .cn]
noncomputable def hV (C:Cx) (vs:Vs) (np:Nat) (body:List St) (f:Addr):Prop:=∀ {n:Nat} {q:Bool} {H:MH} {Q:V->MH->Prop} {X:XP} {args:List V},args.length=np->aM C ⟨n,q⟩ body (args.map some++DN (vs.length-np) none) H (fun f zz H'=>match f with | .ret v=>Q v H' | .next=>Q .none H') (fun c zz H'=>X c H') ->
   bn C ⟨n+1,q⟩ (.ref f) args H Q X
noncomputable def lA (w:Wk) (pa e:Addr) (br:List Nat) (t dd:Addr):List (String × V):=[("task",w.v pa),("eyes",.ref e),("free",bH br),("takes",.ref t),("dead",.ref dd)]
structure Wlk (H:MH)(a dx pa e t dd:Addr)(w:Wk)(br:List Nat)(es:List (Int × Int))(tk:List (List Int)):Prop where
 ins:H a=some (.ins "Walk" dx)
 nsd:H dx=some (.nsd (lA w pa e br t dd))
 parts:H pa=some (.lst (w.ps.map Pt.v))
 eyes:H e=some (.dci (bW es))
 takes:Tkh H t tk
noncomputable def cm (dd:Addr) (H H':MH):Prop:=∀ b o,b≠dd->H b=some o->H' b=some o
theorem ay.b {H H':MH}(x:ay H H')(dd:Addr):cm dd H H':=fun b o zz e=>x b o e
theorem cm.trans {dd:Addr}{H H' H'':MH}(x:cm dd H H')(y:cm dd H' H''):cm dd H H'':=fun b o n e=>y b o n (x b o n e)
section
variable {w:Wk}{pa e t dd:Addr}{br:List Nat}{H H':MH}{a dx:Addr}{es:List (Int × Int)}{tk:List (List Int)}
theorem gF:cW (lA w pa e br t dd) "task" = some (w.v pa):=by kernel_rfl
theorem u7:cW (lA w pa e br t dd) "eyes" = some (.ref e):=by kernel_rfl
theorem u8:cW (lA w pa e br t dd) "free" = some (bH br):=by kernel_rfl
theorem tL:cW (lA w pa e br t dd) "takes" = some (.ref t):=by kernel_rfl
theorem oK:cW (lA w pa e br t dd) "dead" = some (.ref dd):=by kernel_rfl
theorem qx:cW (lA w pa e br t dd) "choices" = none:=by kernel_rfl
theorem ni:cW (lA w pa e br t dd) "grown" = none:=by kernel_rfl
theorem Wlk.ext {p:Pr}(x:Wlk H a dx pa e t dd w br es tk)(hd:H dd=some (.prd p))(y:cm dd H H'):Wlk H' a dx pa e t dd w br es tk:=by
 have ne:∀ b o,H b=some o->(∀ p,o ≠ .prd p)->b≠dd:=fun b o h q z=>by rw[z,hd] at h;cases h;exact q p rfl
 obtain ⟨x1,x2,x3,x4,⟨as,x5,x6,x7⟩,x8⟩:=x
 exact ⟨y _ _ (ne _ _ x1 fun zz=>nofun) x1,y _ _ (ne _ _ x2 fun zz=>nofun) x2,y _ _ (ne _ _ x3 fun zz=>nofun) x3,y _ _ (ne _ _ x4 fun zz=>nofun) x4,⟨as,y _ _ (ne _ _ x5 fun zz=>nofun) x5,x6,fun i a h=>y _ _ (ne _ _ (x7 i a h) fun zz=>nofun) (x7 i a h)⟩,x8⟩
theorem Wlk.more (x:Wlk H a dx pa e t dd w br es tk)(y:ay H H'):Wlk H' a dx pa e t dd w br es tk:=by
 obtain ⟨x1,x2,x3,x4,⟨as,x5,x6,x7⟩,x8⟩:=x
 exact ⟨y _ _ x1,y _ _ x2,y _ _ x3,y _ _ x4,⟨as,y _ _ x5,x6,fun i a h=>y _ _ (x7 i a h)⟩,x8⟩
end
structure WkA (C:Cx):Prop where
 task:At C "Walk" "task"
 eyes:At C "Walk" "eyes"
 free:At C "Walk" "free"
 takes:At C "Walk" "takes"
 dead:At C "Walk" "dead"
section
variable {C:Cx}{H:MH}{Q:V->MH->Prop}{X:XP}{n:Nat}{d:Md}{w:Wk}{pa e t dd:Addr}{br:List Nat}{a dx:Addr}{es:List (Int × Int)}{tk:List (List Int)}{most:Nat}
theorem zO {ey:Int->Option Int}{fr:Nat->Bool}{p:Pt}{k:Nat}{ds:List Int}(h:fr k=false):eF w ey fr p k ds = [given p ds w.ring].filter fun d=>(ey ((w.inp:Int)+(k:Int))).getD d==d:=by
 unfold eF;rw[if_neg (by rw[h];decide)]
theorem yi {ey:Int->Option Int}{fr:Nat->Bool}{p:Pt}{k:Nat}{ds:List Int}(h:fr k=true):eF w ey fr p k ds=((DU w.ring.toNat).map fun (d:Nat)=>(d:Int)).filter fun d=>(ey ((w.inp:Int)+(k:Int))).getD d==d:=by
 unfold eF;rw[if_pos h]
theorem tq {f:Addr}{k:Nat}{b:Addr}{ds:List Int}{p:Pt}(G:C.Good)(S:Std C)(N:WkA C)(Do:bq C "given_of" ew 3 ec)(F:hV C dc 3 cT f)(hw:w.Ok most)(hm:most<=10)(x:Wlk H a dx pa e t dd w br es tk)
  (hb:H b=some (.lst (ds.map .int))) (hl:ds.length=w.inp+k) (hp:w.ps[k]? = some p)
  (K:∀ r H',ay H H'->H r=none->H' r=some (.lst ((eF w (bI es) (fun k=>decide (k∈br)) p k ds).map .int))->Q (.ref r) H'):bn C ⟨n+2,true⟩ (.ref f) [.ref a,.int k,.ref b] H Q X:=by
 have hz:10000<Dz:=by decide
 have hi2:=hw.i2;have hp2:=hw.p2;have hp1:=hw.p1;have hr1:=hw.r1;have hr2:=hw.r2
 have hk:k<w.ps.length:=(DD.mp hp).1
 refine F rfl ?_
 unfold cT
 refine hW (b7 (ag rfl ?_))
 refine bD N.task x.ins x.nsd gF (fun y=>nofun) ?_
 refine ⟨[.int w.ring,.int w.inp,.ref pa],rfl,⟨.inl rfl,fun zz zz zz e=>by cases e⟩,rfl,?_⟩
 obtain ⟨R,hR⟩:∃ R:Nat,w.ring=(R:Int):=⟨w.ring.toNat,by exact eV (am [w.ring.toNat,w.ring] [(0,1),(21,0)] rfl (qT (am [w.ring] [(112,0),(11,110)] rfl hr1))) (am [w.ring,w.ring.toNat] [(0,1),(21,0)] rfl (qt w.ring))⟩
 refine aC (aA (Std.n_list (by assumption)) aH (ac (aA (Std.n_range (by assumption)) aH (a9 rfl ?_))))
 refine cV ?_
 rw[hR]
 refine lE rfl (by exact dF (am [w.ring,R] [(0,115),(1,0),(.a 1110 111,1)] rfl hr2 (zf hR))) fun c hc=>?_
 refine aI (aK (ag rfl (b7 (ag rfl ?_))))
 refine bD N.free ((ay.new hc) _ _ x.ins) ((ay.new hc) _ _ x.nsd) u8 (fun y=>nofun) ?_
 refine u9 ?_
 refine ai ?_
 have y1:ay H (an H c (.lst ((DU R).map fun (k:Nat)=>V.int k))):=.new hc
 have c1:an H c (.lst ((DU R).map fun (k:Nat)=>V.int k)) c=some (.lst (((DU R).map fun (k:Nat)=>(k:Int)).map .int)):=by rw[aj,FR];rfl
 generalize an H c (.lst ((DU R).map fun (k:Nat)=>V.int k))=H2 at y1 c1
 have tail:∀ r (xs:List Int) H'',ay H H''->H'' r=some (.lst (xs.map .int))->xs.length<=1000->(xs.filter fun d=>(bI es ((w.inp:Int)+(k:Int))).getD d==d)=eF w (bI es) (fun k=>decide (k∈br)) p k ds ->
   aM C ⟨n+1,true⟩ [.asg 7 (.bin .Add (.nm 4) (.nm 1)),.ret (.comp 1 (.nm 8) (.nm 6) [(.cmp .Eq (.meth (.att (.nm 0) "eyes") "get" [(.nm 7),(.nm 8)]) (.nm 8))])]
    [some (.ref a),some (.int k),some (.ref b),some (.int R),some (.int w.inp),some (.ref pa),some (.ref r),none] H'' (fun f zz H'=>match f with | .ret v=>Q v H' | .next=>Q .none H') (fun c zz H'=>X c H'):=by
  intro r xs H'' y hr hl1 hch
  refine aC (jw rfl rfl (bA (aX ?_)))
  refine cU ?_
  refine ag rfl ?_
  refine ⟨_,⟨.inl rfl,fun zz zz zz e=>by cases e⟩,af hr,by rw[Dt];exact aB (au (ae [xs.length] [(0,1110),(.a 16777326 111,0)] rfl hl1)),?_⟩
  refine cq (P:=fun i acc H'=>acc=((xs.take i).filter fun d=>(bI es ((w.inp:Int)+(k:Int))).getD d==d).map .int/\H'=H'') ⟨rfl,rfl⟩ (fun i x' acc H' R' hP hx hR'=>?_) fun acc H' hP=>⟨?_,?_⟩
  ·refine az hP fun hr115_0 hr115_1=>?_
   try clear hP
   subst hr115_0
   subst hr115_1
   rw[DC,DE] at hx
   refine ad hx fun d hd hr117_2=>?_
   try clear hx
   subst hr117_2
   refine ⟨af hr,_,rfl,?_⟩
   have et:∀ q:Bool,((bI es ((w.inp:Int)+(k:Int))).getD d==d)=q->(xs.take (i+1)).filter (fun d=>(bI es ((w.inp:Int)+(k:Int))).getD d==d)=(xs.take i).filter (fun d=>(bI es ((w.inp:Int)+(k:Int))).getD d==d)++(if q=true then [d] else []):=by
    intro q hq
    rw[D7,hd,Fx]
    show _++HN _ [d]=_
    rw[FT,hq];cases q <;> rfl
   refine gY (aK (bG (b7 (ag rfl ?_))))
   refine bD N.eyes (y _ _ x.ins) (y _ _ x.nsd) u7 (fun y=>nofun) ?_
   refine ⟨_,oH (y _ _ x.eyes),ak,?_⟩
   refine dX rfl rfl ?_
   refine rU (y _ _ x.eyes) ?_
   rw[jy]
   have eg:((bI es ((w.inp:Int)+(k:Int))).map V.int).getD (.int d) = .int ((bI es ((w.inp:Int)+(k:Int))).getD d):=by cases bI es ((w.inp:Int)+(k:Int)) <;> rfl
   rw[eg]
   refine ag rfl (bx (ai ?_))
   split
   ·rename_i hq
    refine dR (bC (ag rfl ?_))
    refine hR' _ _ ⟨?_,rfl⟩
    rw[et true hq,DO];rfl
   ·rename_i hq
    refine bf ?_
    refine hR' _ _ ⟨?_,rfl⟩
    rw[et false (by simpa using hq)];simp
  ·refine az hP fun hr142_0 hr142_1=>?_
   try clear hP
   subst hr142_0
   subst hr142_1
   exact af hr
  ·refine az hP fun hr144_0 hr144_1=>?_
   try clear hP
   subst hr144_0
   subst hr144_1
   have e3:xs.take (xs.map V.int).length=xs:=by rw[Dt,Ec]
   rw[e3,hch]
   refine ⟨?_,fun r' hr'=>?_⟩
   ·rw[Dt,<- hch];exact EI (FF _ _) (by exact aB (au (ae [xs.length] [(0,1110),(.a 16777326 111,0)] rfl hl1)))
   ·exact K r' _ (y.more hr') (y.gone hr') (aj ..)
 split
 ·rename_i hbr
  have hfr:decide (k∈br)=false:=by simpa using hbr
  refine bg (aC (bu (ac ?_)))
  refine bw Do.fn ?_
  refine ac (hZ rfl rfl ?_)
  refine aN (i:=k) (af (y1 _ _ x.parts)) (by rw[Dt];exact aB (au (ae [most,w.ps.length] [(0,120),(1,0),(.a 16777326 111,1)] rfl hm hp2))) (x:=p.v) (by rw[DC,hp];rfl) ?_
  refine dX rfl rfl ?_
  refine wk G Do (af (y1 _ _ hb)) (by exact au (ae [most,ds.length,w.inp,k,w.ps.length] [(0,120),(1,.a 2 3),(2,116),(4,0),(41,4),(.a 1110 111,1)] rfl hm (me hl) hi2 hp2 hk)) (by rw[hl];exact hw.pt k p hp) (by exact bE (am [w.ring,R] [(112,0),(0,1),(1,110)] rfl hr1 (ze hR))) ?_
  refine ah ?_
  refine ⟨show 1<=Dz by decide,fun g hg=>?_⟩
  refine tail g [given p ds R] _ (y1.more hg) (aj ..) (by simp) ?_
  rw[zO hfr,hR]
 ·rename_i hbr
  have hfr:k∈br:=by simpa using hbr
  refine tail c _ _ y1 c1 (by simp;exact dF (am [w.ring,R] [(0,115),(1,0),(.a 1110 111,1)] rfl hr2 (zf hR))) ?_
  rw[yi (decide_eq_true hfr),hR];rfl
end
end
section
open PySem PyProof.Rows
section
variable {C:Cx}{X:XP}{n:Nat}{w:Wk}{pa e t dd:Addr}{br:List Nat}{a dx:Addr}{es:List (Int × Int)}{tk:List (List Int)}{most:Nat}
noncomputable def zB (w:Wk) (es:List (Int × Int)) (br:List Nat) (k:Nat) (ds:List Int) (v:V):Prop :=
 (v = .none/\rows w (bI es) (fun k=>decide (k∈br)) (w.ps.drop k) k ds = []) ∨ ((∃ c,v = .ref c)/\rows w (bI es) (fun k=>decide (k∈br)) (w.ps.drop k) k ds ≠ [])
theorem wm (G:C.Good)(S:Std C)(N:WkA C)(Do:bq C "given_of" ew 3 ec)(Mc:Mth C "Walk" "choices" dc 3 cT)(Mg:Mth C "Walk" "grown" dO 2 cX)(hw:w.Ok most)(hm:most<=10)
  (T:Tak w (fun k=>decide (k∈br)) tk) :
  ∀ (r:Nat) {k:Nat} {f b:Addr} {ds:List Int} {H:MH} {ks:List (Int × List Int)} {Q:V->MH->Prop},r+k=w.ps.length->hV C dO 2 cX f->Wlk H a dx pa e t dd w br es tk->H dd=some (.prd (eK ks))->nK w (bI es) (fun k=>decide (k∈br)) tk ks->ks.length+6 ^ r<=1000000 ->
   H b=some (.lst (ds.map .int))->ds.length=w.inp+k ->
   (∀ v ks' H',cm dd H H'->H' dd=some (.prd (eK ks'))->nK w (bI es) (fun k=>decide (k∈br)) tk ks'->ks'.length<=ks.length+6 ^ r->zB w es br k ds v->Q v H')->bn C ⟨n+r+3,true⟩ (.ref f) [.ref a,.ref b] H Q X:=by
 have hz:2000000<Dz:=by decide
 have hi2:=hw.i2;have hp2:=hw.p2;have hp1:=hw.p1;have hr1:=hw.r1;have hr2:=hw.r2
 intro r
 induction r with
 | zero=>
  intro k f b ds H ks Q hk F x hd hD hks hb hl K
  refine F rfl ?_
  unfold cX
  refine aC (aE (aA (Std.n_len (by assumption)) ak (a9 rfl ?_)))
  refine bp (af hb) (by rw[Dt];exact aB (au (ae [most,w.inp,w.ps.length,k,ds.length] [(0,120),(1,116),(2,0),(.a 110 3,2),(4,.a 1 3),(.a 16777326 111,4)] rfl hm hi2 hp2 (me hk) (me hl)))) ?_
  refine aQ (b7 (ag rfl ?_))
  refine bD N.task x.ins x.nsd gF (fun y=>nofun) ?_
  refine bM rfl ?_
  refine bZ (aI (aK (ag rfl (aA (Std.n_len (by assumption)) ak (ac (aQ (b7 (ag rfl ?_))))))))
  refine bD N.task x.ins x.nsd gF (fun y=>nofun) ?_
  refine cS rfl ?_
  refine ah ?_
  refine bp (af x.parts) (by rw[Dt];exact aB (au (ae [most,w.ps.length] [(0,120),(1,0),(.a 16777326 111,1)] rfl hm hp2))) ?_
  rw[Dt,Dt]
  refine bx (ai ?_)
  rw[if_pos (by simp;exact eV (am [w.ps.length,k,w.inp,ds.length] [(0,.a 110 1),(.a 2 1,3),(.a (.s 3 2) 111,0)] rfl (qf hk) (qf hl)) (am [k,w.ps.length,ds.length,w.inp] [(.a 110 0,1),(2,.a 3 0),(21,.s 2 3)] rfl (qe hk) (qe hl)))]
  refine bg (eY rfl ?_)
  refine K _ ks H (ay.b (.refl _) _) hd hD (by exact au (ae [ks.length] [(.a 11 111,0)] rfl)) (.inr ⟨⟨b,rfl⟩,?_⟩)
  rw[E3 (by exact au (ae [w.ps.length,k] [(0,.a 110 1),(21,0)] rfl (mf hk)))];simp[rows]
 | succ r ih=>
  intro k f b ds H ks Q hk F x hd hD hks hb hl K
  have hkl:k<w.ps.length:=by exact be (ae [r,k,w.ps.length] [(.a 11 1,2),(2,1)] rfl (me hk))
  have hpk:w.ps[k]? = some w.ps[k]:=DA hkl
  have h6:6 ^ (r+1)=6*6 ^ r:=by rw[Nat.pow_succ];(clear hm hz hi2 hp2 hp1 hr1 hr2 hk hks hl;lia)
  have h60:0<6 ^ r:=Nat.pow_pos (by decide)
  refine F rfl ?_
  unfold cX
  refine aC (aE (aA (Std.n_len (by assumption)) ak (a9 rfl ?_)))
  refine bp (af hb) (by rw[Dt];exact aB (au (ae [most,w.inp,w.ps.length,ds.length,k] [(0,120),(1,116),(2,0),(3,.a 1 4),(51,2),(.a 16777326 111,3)] rfl hm hi2 hp2 (me hl) hkl))) ?_
  refine aQ (b7 (ag rfl ?_))
  refine bD N.task x.ins x.nsd gF (fun y=>nofun) ?_
  refine bM rfl ?_
  refine bZ (aI (aK (ag rfl (aA (Std.n_len (by assumption)) ak (ac (aQ (b7 (ag rfl ?_))))))))
  refine bD N.task x.ins x.nsd gF (fun y=>nofun) ?_
  refine cS rfl ?_
  refine ah ?_
  refine bp (af x.parts) (by rw[Dt];exact aB (au (ae [most,w.ps.length] [(0,120),(1,0),(.a 16777326 111,1)] rfl hm hp2))) ?_
  rw[Dt,Dt]
  have ek:(ds.length:Int)-(w.inp:Int)=(k:Int):=by exact eV (am [w.inp,k,ds.length] [(.a 0 1,2),(.a (.s 2 0) 111,1)] rfl (qf hl)) (am [ds.length,w.inp,k] [(0,.a 1 2),(31,.s 0 1)] rfl (qe hl))
  rw[ek]
  refine bx (ai ?_)
  rw[if_neg (by simp;exact f9 (am [k,w.ps.length] [(11,1),(.w 0 0,1),(1,0)] rfl (ql hkl)))]
  refine aL (aC (bJ (a8 rfl (ac (aA (Std.n_tuple (by assumption)) aH (ac ?_))))))
  refine cU ?_
  refine aQ (b7 (ag rfl ?_))
  refine bD N.takes x.ins x.nsd tL (fun y=>nofun) ?_
  refine bN x.takes.ex fun as q1 q2 q3=>?_
  have hak:k<as.length:=by rw[q2,T.len];exact be (ae [k,w.ps.length] [(11,1),(21,0)] rfl hkl)
  refine ag rfl ?_
  refine aN (i:=k) (af q1) (by rw[Dt,q2,T.len];exact aB (au (ae [most,w.ps.length] [(0,120),(1,0),(.a 16777326 111,21)] rfl hm hp2))) (x:=.ref as[k]) (by rw[DC,DA hak];rfl) ?_
  have ht:=q3 k as[k] (DA hak)
  have htz:=x.takes.sz k
  refine ⟨_,⟨.inl rfl,fun zz zz zz e=>by cases e⟩,af ht,by rw[Dt];exact aB (au (ae [(tk.getD k []).length] [(0,210),(.a 16777326 111,0)] rfl htz)),?_⟩
  refine cq (P:=fun i acc H'=>acc=((((tk.getD k []).take i).filter fun (l:Int)=>decide (l<(ds.length:Int))).map fun (l:Int)=>ds.getD l.toNat 0).map .int/\H'=H) ⟨rfl,rfl⟩ (fun i x' acc H' R' hP hx hR'=>?_) fun acc H' hP=>⟨?_,?_⟩
  ·refine az hP fun hr77_0 hr77_1=>?_
   try clear hP
   subst hr77_0
   subst hr77_1
   rw[DC,DE] at hx
   refine ad hx fun l hl1 hr79_2=>?_
   try clear hx
   subst hr79_2
   have hl0:=T.ge k l (DQ hl1)
   refine ⟨af ht,_,rfl,?_⟩
   have et:∀ q:Bool,decide (l<(ds.length:Int))=q->((tk.getD k []).take (i+1)).filter (fun (l:Int)=>decide (l<(ds.length:Int)))=((tk.getD k []).take i).filter (fun (l:Int)=>decide (l<(ds.length:Int)))++(if q=true then [l] else []):=by
    intro q hq
    rw[D7,hl1,Fx]
    show _++HN _ [l]=_
    rw[FT,hq];cases q <;> rfl
   refine gY (aK (ag rfl (aA (Std.n_len (by assumption)) ak (a9 rfl ?_))))
   refine bp (af hb) (by rw[Dt];exact aB (dF (am [most,w.inp,w.ps.length,k,ds.length] [(0,120),(1,116),(2,0),(41,2),(.s 4 1,3),(.a 16777326 111,4)] rfl (ql hm) (ql hi2) (ql hp2) (ql hkl) (ze ek)))) ?_
   rw[Dt]
   refine jh (ai ?_)
   split
   ·rename_i hq
    have hlt:l<ds.length:=of_decide_eq_true hq
    refine dR (bC (hZ rfl rfl ?_))
    refine jU (af hb) (by rw[Dt];exact aB (dF (am [most,w.inp,w.ps.length,k,ds.length] [(0,120),(1,116),(2,0),(41,2),(.s 4 1,3),(.a 16777326 111,4)] rfl (ql hm) (ql hi2) (ql hp2) (ql hkl) (ze ek)))) (j:=l.toNat) (by rw[Dt];unfold Fa;simp;(clear hm hz hi2 hp2 hp1 hr1 hr2 hk hks hl h6 h60 ek q2 htz;lia)) (x:=.int (ds.getD l.toNat 0)) ?_ ?_
    ·rw[DC,DA (by exact im (am [l,ds.length,l.toNat] [(11,1),(2,0),(1,2)] rfl hlt (qT (am [l] [(110,0),(11,110)] rfl hl0)))),DL,DA (by exact im (am [l,ds.length,l.toNat] [(11,1),(2,0),(1,2)] rfl hlt (qT (am [l] [(110,0),(11,110)] rfl hl0))))];rfl
    refine hR' _ _ ⟨?_,rfl⟩
    rw[et true hq,DO,DO];rfl
   ·rename_i hq
    refine bf ?_
    refine hR' _ _ ⟨?_,rfl⟩
    rw[et false (by simpa using hq)];simp
  ·refine az hP fun hr103_0 hr103_1=>?_
   try clear hP
   subst hr103_0
   subst hr103_1
   exact af ht
  refine az hP fun hr105_0 hr105_1=>?_
  try clear hP
  subst hr105_0
  subst hr105_1
  have e3:(tk.getD k []).take ((tk.getD k []).map V.int).length=tk.getD k []:=by rw[Dt,Ec]
  rw[e3]
  generalize hkl2:(((tk.getD k []).filter fun (l:Int)=>decide (l<(ds.length:Int))).map fun (l:Int)=>ds.getD l.toNat 0)=kl
  have hkey:jB tk k ds=((k:Int),kl):=by rw[<- hkl2];rfl
  have hkll:kl.length<=100:=by rw[<- hkl2,Dt];exact EI (FF _ _) htz
  refine ⟨by rw[Dt];exact aB (au (ae [kl.length] [(0,210),(.a 16777326 111,0)] rfl hkll)),fun c hc=>?_⟩
  refine ah ?_
  refine fH aW (by rw[Dt];exact aB (au (ae [kl.length] [(0,210),(.a 16777326 111,0)] rfl hkll))) ?_
  refine ah ?_
  refine ⟨show 2<=Dz by decide,?_⟩
  have y1:ay H' (an H' c (.lst (kl.map .int))):=.new hc
  generalize an H' c (.lst (kl.map .int))=H1 at y1
  have x1:=x.more y1
  have hd1:=y1 _ _ hd
  have hb1:=y1 _ _ hb
  refine aI (aK (ag rfl (b7 (ag rfl ?_))))
  refine bD N.dead x1.ins x1.nsd oK (fun y=>nofun) ?_
  show bX C _ .In (kv ((k:Int),kl)) (.ref dd) H1 _ _
  refine z4 hd1 fun q hq=>?_
  refine ai ?_
  cases q with
  | true=>
   rw[if_pos rfl]
   refine bg (aX (cH ?_))
   refine K _ ks H1 (y1.b _) hd1 hD (by exact au (ae [ks.length,6 ^ (r+1)] [(.a (.a 0 1) 111,0)] rfl)) (.inl ⟨rfl,hD k ds (by exact au (ae [k,w.ps.length] [(11,1),(21,0)] rfl hkl)) hl ?_⟩)
   rw[hkey];exact hq.mp rfl
  | false=>
   rw[if_neg (by decide)]
   refine cA ?_
   refine bG (ag rfl ?_)
   refine bN Mc.ex fun fc mc cc Fc=>?_
   refine ⟨_,mc x1.ins x1.nsd qx,cc,?_⟩
   refine dX rfl rfl ?_
   refine tq G S N Do Fc hw hm x1 hb1 hl hpk fun rc H2 y2 hrc hrc2=>?_
   refine bN x1.takes.ex fun as' q1' q2' q3'=>?_
   have x2:=x1.more y2
   have hd2:=y2 _ _ hd1
   have hb2:=y2 _ _ hb1
   generalize hcs:eF w (bI es) (fun k=>decide (k∈br)) w.ps[k] k ds=cs at hrc2
   have hcl:cs.length<=5:=by
    rw[<- hcs];unfold eF
    refine EI (FF _ _) ?_
    split
    ·simp;exact aY (am [w.ring] [(0,115),(.a 115 111,0)] rfl hr2)
    ·simp
   have hrw:∀ ds',rows w (bI es) (fun k=>decide (k∈br)) (w.ps.drop k) k ds'=(eF w (bI es) (fun k=>decide (k∈br)) w.ps[k] k ds').flatMap fun d=>rows w (bI es) (fun k=>decide (k∈br)) (w.ps.drop (k+1)) (k+1) (ds' ++ [d]):=fun ds'=>by
    rw[EF hkl];rfl
   refine ⟨_,⟨.inl rfl,fun zz zz zz e=>by cases e⟩,af hrc2,?_⟩
   have hrcd:rc≠dd:=fun z=>by rw[z,hd1] at hrc;cases hrc
   have hbd:b≠dd:=fun z=>by rw[z,hd] at hb;cases hb
   refine ch (P:=fun i ρ H'=>∃ dg fo ks',ρ = [some (.ref a),some (.ref b),some (.int k),some (kv ((k:Int),kl)),dg,fo]/\cm dd H2 H'/\H' dd=some (.prd (eK ks'))/\nK w (bI es) (fun k=>decide (k∈br)) tk ks'/\ks'.length<=ks.length+i*6 ^ r /\
     ∀ d∈cs.take i,rows w (bI es) (fun k=>decide (k∈br)) (w.ps.drop (k+1)) (k+1) (ds ++ [d]) = [])
    (vX none none ks rfl (ay.b (.refl _) _) hd2 hD (by exact au (ae [ks.length,6 ^ r] [(.a (.a 0 (.m 0 1)) 111,0)] rfl)) (by simp)) (fun i x' ρ H3 R' hP hx hR'=>?_) fun ρ H3 hP=>?_
   ·refine kW hP fun dg fo ks' hr159_3 z3 hd3 hD3 hl3 hn3=>?_
    try clear hP
    subst hr159_3
    rw[DC,DE] at hx
    refine ad hx fun d hd4 hr161_2=>?_
    try clear hx
    subst hr161_2
    have hi5:i<cs.length:=(DD.mp hd4).1
    have x3:=x2.ext hd2 z3
    have hi6:i*6 ^ r+6 ^ r<=5*6 ^ r:=by
     have:(i+1)*6 ^ r<=5*6 ^ r:=Nat.mul_le_mul_right _ (by exact au (ae [cs.length,i] [(0,115),(21,0),(.a 115 111,21)] rfl hcl hi5))
     rw[Nat.add_mul,Nat.one_mul] at this;exact this
    refine ⟨by simp only[cz];exact af (z3 _ _ hrcd hrc2),_,rfl,?_⟩
    refine aC (bG (ag rfl ?_))
    refine bN Mg.ex fun fg mg cg Fg=>?_
    refine ⟨_,mg x3.ins x3.nsd ni,cg,?_⟩
    refine ac (aE (ag rfl (bu (a9 rfl ?_))))
    refine ⟨show 1<=Dz by decide,fun g hg=>?_⟩
    have hb3:=z3 _ _ hbd hb2
    have hgd:g≠dd:=fun z=>by rw[z,hd3] at hg;cases hg
    refine dz (af ((ay.new hg) _ _ hb3)) aW (by rw[Dt];simp;exact aB (dF (am [most,w.inp,w.ps.length,k,ds.length] [(0,120),(1,116),(2,0),(41,2),(.s 4 1,3),(.a 16777326 111,51)] rfl (ql hm) (ql hi2) (ql hp2) (ql hkl) (ze ek)))) fun g2 hg2=>?_
    refine ah ?_
    have y4:ay H3 (an (an H3 g (.lst [.int d])) g2 (.lst (ds.map .int ++ [.int d]))):=((ay.refl _).more hg).more hg2
    have hb4:an (an H3 g (.lst [.int d])) g2 (.lst (ds.map .int ++ [.int d])) g2=some (.lst ((ds ++ [d]).map .int)):=by rw[aj,DO];rfl
    generalize an (an H3 g (.lst [.int d])) g2 (.lst (ds.map .int ++ [.int d]))=H4 at y4 hb4
    refine ih (k:=k+1) (by exact cy (ae [w.ps.length,r,k] [(0,.a 21 2),(.a (.a 1 31) 111,0)] rfl (mf hk)) (ae [r,k,w.ps.length] [(.a 11 1,2),(31,.a 0 21)] rfl (me hk))) Fg (x3.more y4) (y4 _ _ hd3) hD3 (by (clear hm hz hi2 hp2 hp1 hr1 hr2 hk hl h6 h60 ek q2 htz hkll hq q2' hcl hrcd hbd hi5 hgd;lia)) hb4 (by simp;exact sB (am [k,ds.length,w.inp] [(0,.s 1 2),(.a 21 111,.a 2 11)] rfl (zf ek)) (am [ds.length,w.inp,k] [(.s 0 1,2),(.a (.a 1 31) 111,11)] rfl (ze ek))) fun v ks5 H5 z5 hd5 hD5 hl5 hv=>?_
    rcases hv with ⟨rfl,hn⟩ | ⟨⟨c5,rfl⟩,hne⟩
    ·refine aI (aK (ag rfl (cH ?_)))
     refine ee ?_
     refine ai (bf (aL ?_))
     refine aR (hR' _ _ (vX _ _ ks5 rfl (z3.trans ((y4.b _).trans z5)) hd5 hD5 ?_ (fun d' hd'=>?_)))
     ·rw[Nat.add_mul,Nat.one_mul];exact au (ae [ks'.length,ks.length,i*6 ^ r,ks5.length,6 ^ r] [(0,.a 1 2),(3,.a 0 4),(.a (.a 1 (.a 2 4)) 111,3)] rfl hl3 hl5)
     ·rw[D7,hd4] at hd'
      rcases El.mp hd' with q | q
      ·exact hn3 d' q
      ·simp at q;subst q;exact hn
    ·refine aI (aK (ag rfl (cH ?_)))
     refine gb ?_
     refine ai (bC (bg (eY rfl ?_)))
     refine K _ ks5 H5 (((y1.trans y2).b _).trans (z3.trans ((y4.b _).trans z5))) hd5 hD5 (by (clear hm hz hi2 hp2 hp1 hr1 hr2 hk hks hl h6 h60 ek q2 htz hkll hq q2' hcl hrcd hbd hi5 hgd;lia)) (.inr ⟨⟨c5,rfl⟩,fun z=>hne ?_⟩)
     rw[hrw,Ga] at z
     exact z d (by rw[hcs];exact DQ hd4)
   ·refine kW hP fun dg fo ks' hr197_3 z3 hd3 hD3 hl3 hn3=>?_
    try clear hP
    subst hr197_3
    refine ⟨by simp only[cz];exact af (z3 _ _ hrcd hrc2),?_⟩
    have x3:=x2.ext hd2 z3
    have hcm:(cs.map V.int).length*6 ^ r<=5*6 ^ r:=Nat.mul_le_mul_right _ (by rw[Dt];exact au (ae [cs.length] [(0,115),(.a 115 111,0)] rfl hcl))
    have hempty:rows w (bI es) (fun k=>decide (k∈br)) (w.ps.drop k) k ds = []:=by
     rw[hrw,hcs,Ga]
     intro d hd'
     exact hn3 d (by rw[Dt,Ec];exact hd')
    refine eu (zy (b7 (ag rfl ?_)))
    refine bD N.dead x3.ins x3.nsd oK (fun y=>nofun) ?_
    refine ag rfl ?_
    refine wU (k:=((k:Int),kl)) hd3 (by (clear hm hi2 hp2 hp1 hr1 hr2 hk hl h6 h60 ek q2 htz hkll hq q2' hcl hrcd hbd;lia)) fun ks6 hk6 hl6=>?_
    refine aX (cH ?_)
    have z6:cm dd H3 (an H3 dd (.prd (eK ks6))):=fun b o hb h=>by rw[aP hb];exact h
    exact K _ ks6 _ (((y1.trans y2).b _).trans (z3.trans z6)) (aj ..) (hD3.add T hw.pt hl hempty (by rw[hkey];exact hk6)) (by lia) (.inl ⟨rfl,hempty⟩)
end
end
section
set_option maxHeartbeats 2000000
open PySem PyProof.Rows
noncomputable def iE (l:List (Int × Int)) (k v:Int):List (Int × Int):=if l.any (fun p=>decide (p.1=k)) then l.map (fun p=>if p.1=k then (p.1,v) else p) else l ++ [(k,v)]
theorem pN (l:List (Int × Int))(k v:Int):fS (bW l) k (.int v)=bW (iE l k v):=by
 unfold fS iE bW
 rw[List.any_map]
 have:((fun p:Int × V=>decide (p.1=k)) ∘ fun p:Int × Int=>(p.1,V.int p.2))=fun p=>decide (p.1=k):=rfl
 rw[this]
 split
 ·rw[FR,FR]
  refine List.map_congr_left fun p zz=>?_
  simp only[Function.comp]
  split <;> rfl
 ·simp
theorem xo (l:List (Int × Int))(k v:Int):(iE l k v).length<=l.length+1:=by
 unfold iE;split <;> simp
section
variable {C:Cx}{a:Addr}{ns:List Int}{X:XP}
end
end
section
set_option maxHeartbeats 2000000
open PySem PyProof.Rows
noncomputable def fV:Vs:=[aq "work",aq "look",aq "broken"]
noncomputable def fe:List St :=
  [.ret (.meth (.call "Walk" [(.nm 0),(.sub (.nm 1) (.ci 1)),(.nm 2)]) "grown" [(.call "list" [(.sub (.nm 1) (.ci 0))])])]
noncomputable def cF (sn:List (Int × Int)):List (Int × Int):=sn.foldl (fun m p=>iE m p.1 p.2) []
theorem rW (sn:List (Int × Int)):zW (bW sn)=bW (cF sn):=by
 have:∀ (l m:List (Int × Int)),(bW l).foldl (fun m p=>fS m p.1 p.2) (bW m)=bW (l.foldl (fun m p=>iE m p.1 p.2) m):=by
  intro l
  induction l with
  | nil=>intro m;rfl
  | cons p l ih=>intro m;rw[F5,<- ih,<- pN];rfl
 exact this sn []
section
variable {C:Cx}{X:XP}{n:Nat}{H:MH}{Q:V->MH->Prop}{w:Wk}{pa:Addr}{br:List Nat}{sn:List (Int × Int)}{most:Nat}
theorem ip (x:String)(v:V):∀ l:List (String × V),(bF l x v).length<=l.length+1
 | []=>by simp[bF]
 | p::l=>by unfold bF;split <;> simp;exact ip x v l
theorem yM {w:Wk}{pa e t dd:Addr}{br:List Nat}:bF (bF (bF (bF (bF [] "task" (w.v pa)) "eyes" (.ref e)) "free" (bH br)) "takes" (.ref t)) "dead" (.ref dd)=lA w pa e br t dd:=by kernel_rfl
theorem zs (G:C.Good)(S:Std C)(N:WkA C)(Dw:bq C "wanted_from" d9 2 dP)(Cl:Cls C "Walk" eS 4 eB)(hw:w.Ok most)(hm:most<=10)(hs:sn.length<=1000)(hp:H pa=some (.lst (w.ps.map Pt.v)))
  (K:∀ a dx e t dd tk H',ay H H'->H dd=none->Wlk H' a dx pa e t dd w br (cF sn) tk->Tak w (fun k=>decide (k∈br)) tk->H' dd=some (.prd (eK []))->Q (.ref a) H'):bB C ⟨n+3,true⟩ "Walk" [w.v pa,.tup (prs (bW sn)),bH br] H Q X:=by
 have hz:10000<Dz:=by decide
 refine Cl.call rfl fun a dx ha hdx hne=>?_
 unfold eB
 have i0:an (an H dx (.nsd [])) a (.ins "Walk" dx) a=some (.ins "Walk" dx):=aj ..
 have d0:an (an H dx (.nsd [])) a (.ins "Walk" dx) dx=some (.nsd []):=by rw[aP hne.symm,aj]
 have x0:cm dx H (an (an H dx (.nsd [])) a (.ins "Walk" dx)):=fun b o hb h=>by
  rw[aP (fun z=>by rw[z,ha] at h;cases h),aP hb];exact h
 generalize an (an H dx (.nsd [])) a (.ins "Walk" dx)=H0 at i0 d0 x0
 have hpd:pa≠dx:=fun z=>by rw[z,hdx] at hp;cases hp
 have step:∀ (H1:MH) l,cm dx H1 (an H1 dx (.nsd l)):=fun H1 l b o hb h=>by rw[aP hb];exact h
 refine dJ (ag rfl (ag rfl ?_))
 refine dj N.task i0 d0 (by simp) ?_
 have i1:=step H0 (bF [] "task" (w.v pa)) _ _ hne i0
 have d1:an H0 dx (.nsd (bF [] "task" (w.v pa))) dx=_:=aj ..
 have x1:=x0.trans (step H0 (bF [] "task" (w.v pa)))
 generalize an H0 dx (.nsd (bF [] "task" (w.v pa)))=H1 at i1 d1 x1
 refine dJ (aA (Std.n_dict (by assumption)) aH (a9 rfl ?_))
 refine jY G rfl (by simp[bW];exact aB (au (ae [sn.length] [(0,1110),(.a 16777326 111,0)] rfl hs))) fun e he=>?_
 refine ag rfl ?_
 refine dj N.eyes ((ay.new he) _ _ i1) ((ay.new he) _ _ d1) (by simp[bF]) ?_
 rw[rW]
 have hed:e≠dx:=fun z=>by rw[z,d1] at he;cases he
 have i2:=step (an H1 e (.dci (bW (cF sn)))) (bF (bF [] "task" (w.v pa)) "eyes" (.ref e)) _ _ hne ((ay.new he) _ _ i1)
 have e2:=step (an H1 e (.dci (bW (cF sn)))) (bF (bF [] "task" (w.v pa)) "eyes" (.ref e)) _ _ hed (aj ..)
 have d2:an (an H1 e (.dci (bW (cF sn)))) dx (.nsd (bF (bF [] "task" (w.v pa)) "eyes" (.ref e))) dx=_:=aj ..
 have x2:=(x1.trans ((ay.new he).b dx)).trans (step (an H1 e (.dci (bW (cF sn)))) (bF (bF [] "task" (w.v pa)) "eyes" (.ref e)))
 generalize an (an H1 e (.dci (bW (cF sn)))) dx (.nsd (bF (bF [] "task" (w.v pa)) "eyes" (.ref e)))=H2 at i2 e2 d2 x2
 generalize hl2:bF (bF [] "task" (w.v pa)) "eyes" (.ref e)=l2 at d2
 have hl2':l2.length<=2:=by rw[<- hl2];have h1:=ip "eyes" (.ref e) (bF [] "task" (w.v pa));have h2:=ip "task" (w.v pa) [];simp at h2;exact au (ae [(bF (bF [] "task" (w.v pa)) "eyes" (V.ref e)).length,(bF [] "task" (w.v pa)).length] [(0,21),(1,111),(.a 112 111,0)] rfl h1 h2)
 refine dJ (ag rfl (ag rfl ?_))
 refine dj N.free i2 d2 (by exact au (ae [l2.length] [(0,112),(.a 1010 111,0)] rfl hl2')) ?_
 have i3:=step H2 (bF l2 "free" (bH br)) _ _ hne i2
 have e3:=step H2 (bF l2 "free" (bH br)) _ _ hed e2
 have d3:an H2 dx (.nsd (bF l2 "free" (bH br))) dx=_:=aj ..
 have x3:=x2.trans (step H2 (bF l2 "free" (bH br)))
 generalize an H2 dx (.nsd (bF l2 "free" (bH br)))=H3 at i3 e3 d3 x3
 have hl3:=ip "free" (bH br) l2
 generalize hl3':bF l2 "free" (bH br)=l3 at d3 hl3
 refine dJ ?_
 refine bw Dw.fn ?_
 refine dX rfl rfl ?_
 refine vQ G S Dw hw hm (x3 _ _ hpd hp) fun t tk H4 x4 ht hT hTk=>?_
 refine ag rfl ?_
 refine dj N.takes (x4 _ _ i3) (x4 _ _ d3) (by exact au (ae [l2.length,l3.length] [(0,112),(1,11),(.a 1010 111,1)] rfl hl2' hl3)) ?_
 have htd:t≠dx:=fun z=>by rw[z,d3] at ht;cases ht
 have i5:=step H4 (bF l3 "takes" (.ref t)) _ _ hne (x4 _ _ i3)
 have e5:=step H4 (bF l3 "takes" (.ref t)) _ _ hed (x4 _ _ e3)
 have t5:Tkh (an H4 dx (.nsd (bF l3 "takes" (.ref t)))) t tk:=by
  obtain ⟨⟨as,q1,q2,q3⟩,q4⟩:=hT
  have nd:∀ b o,H4 b=some (.lst o)->b≠dx:=fun b o h z=>by rw[z,x4 _ _ d3] at h;cases h
  exact ⟨⟨as,step H4 _ _ _ (nd _ _ q1) q1,q2,fun i a h=>step H4 _ _ _ (nd _ _ (q3 i a h)) (q3 i a h)⟩,q4⟩
 have d5:an H4 dx (.nsd (bF l3 "takes" (.ref t))) dx=_:=aj ..
 have x5:=(x3.trans (x4.b dx)).trans (step H4 (bF l3 "takes" (.ref t)))
 generalize an H4 dx (.nsd (bF l3 "takes" (.ref t)))=H5 at i5 e5 t5 d5 x5
 have hl5:=ip "takes" (.ref t) l3
 generalize hl5':bF l3 "takes" (.ref t)=l5 at d5 hl5
 refine dJ (xF ?_)
 intro dd hdd
 refine ag rfl ?_
 refine dj N.dead ((ay.new hdd) _ _ i5) ((ay.new hdd) _ _ d5) (by exact au (ae [l2.length,l3.length,l5.length] [(0,112),(1,11),(2,21),(.a 1010 111,2)] rfl hl2' hl3 hl5)) (aR ?_)
 have hddx:dd≠dx:=fun z=>by rw[z,d5] at hdd;cases hdd
 have y6:cm dx H5 (an (an H5 dd (.prd (eK []))) dx (.nsd (bF l5 "dead" (.ref dd)))):=((ay.new hdd).b dx).trans (step _ _)
 have d6:an (an H5 dd (.prd (eK []))) dx (.nsd (bF l5 "dead" (.ref dd))) dx=some (.nsd (lA w pa e br t dd)):=by
  rw[aj,<- hl5',<- hl3',<- hl2,yM]
 have p6:an (an H5 dd (.prd (eK []))) dx (.nsd (bF l5 "dead" (.ref dd))) dd=some (.prd (eK [])):=step _ _ _ _ hddx (aj ..)
 have t6:Tkh (an (an H5 dd (.prd (eK []))) dx (.nsd (bF l5 "dead" (.ref dd)))) t tk:=by
  obtain ⟨⟨as,q1,q2,q3⟩,q4⟩:=t5
  have nd:∀ b o,H5 b=some (.lst o)->b≠dx:=fun b o h z=>by rw[z,d5] at h;cases h
  exact ⟨⟨as,y6 _ _ (nd _ _ q1) q1,q2,fun i a h=>y6 _ _ (nd _ _ (q3 i a h)) (q3 i a h)⟩,q4⟩
 refine ⟨rfl,K a dx e t dd tk _ (fun b o h=>(x5.trans y6) b o (fun z=>by rw[z,hdx] at h;cases h) h) ?_ ⟨y6 _ _ hne i5,d6,(x5.trans y6) _ _ hpd hp,y6 _ _ hed e5,t6⟩ hTk p6⟩
 cases q:H dd with
 | none=>rfl
 | some o=>
  have:=x5 dd o hddx q
  rw[this] at hdd;cases hdd
theorem lW {g:List Int}(G:C.Good)(S:Std C)(N:WkA C)(Do:bq C "given_of" ew 3 ec)(Dw:bq C "wanted_from" d9 2 dP)(Cl:Cls C "Walk" eS 4 eB)(Mc:Mth C "Walk" "choices" dc 3 cT)(Mg:Mth C "Walk" "grown" dO 2 cX)
  (D:bq C "least_digits" fV 3 fe) (hw:w.Ok most) (hm:most<=7) (hs:sn.length<=1000) (hp:H pa=some (.lst (w.ps.map Pt.v))) (hg:g.length=w.inp)
  (K:∀ v H',ay H H'->zB w (cF sn) br 0 g v->Q v H'):bB C ⟨n+15,true⟩ "least_digits" [w.v pa,.tup [.tup (g.map .int),.tup (prs (bW sn))],bH br] H Q X:=by
 have hz:10000<Dz:=by decide
 have hi2:=hw.i2;have hp2:=hw.p2
 refine D.call G rfl ?_
 unfold fe
 refine aX (bG ?_)
 refine bw Cl.fn ?_
 refine a8 rfl (ac (ao rfl ?_))
 refine bM rfl ?_
 refine a9 rfl ?_
 refine zs (n:=n+11) G S N Dw Cl hw (by exact au (ae [most] [(0,117),(.a 120 111,0)] rfl hm)) hs hp fun a dx e t dd tk H1 x1 hdd x hT hd=>?_
 refine bN Mg.ex fun fg mg cg Fg=>?_
 refine ⟨_,mg x.ins x.nsd ni,cg,?_⟩
 refine ac (aA (Std.n_list (by assumption)) aH (ac (ao rfl ?_)))
 refine bi rfl ?_
 refine ah ?_
 refine dK (.inr ⟨_,rfl⟩) rfl (by rw[Dt];exact aB (au (ae [g.length,w.inp] [(0,1),(1,116),(.a 16777326 111,0)] rfl (me hg) hi2))) fun b hb=>?_
 refine ah ?_
 obtain ⟨m,hm2⟩:∃ m,n+14=m+w.ps.length+3:=⟨n+14-w.ps.length-3,by (clear hs hg hz hi2;lia)⟩
 rw[hm2]
 have h6:(6:Nat) ^ w.ps.length<=6 ^ 7:=Nat.pow_le_pow_right (by decide) (by exact au (ae [most,w.ps.length] [(0,117),(1,0),(.a 117 111,1)] rfl hm hp2))
 refine wm (k:=0) G S N Do Mc Mg hw (by exact au (ae [most] [(0,117),(.a 120 111,0)] rfl hm)) hT w.ps.length rfl Fg (x.more (.new hb)) ((ay.new hb) _ _ hd) (fun k ds zz zz h=>by simp at h) (by simp;exact au (ae [6 ^ w.ps.length] [(0,280046),(.a 1000110 111,0)] rfl h6)) (aj ..) (by exact cy (ae [w.inp,g.length] [(0,1),(21,10)] rfl (mf hg)) (ae [g.length,w.inp] [(0,1),(.a 20 111,0)] rfl (me hg))) fun v ks' H' z zz zz zz hv=>K v H' (fun b' o h=>z b' o (fun q=>?_) ((x1.more hb) _ _ h)) hv
 rw[q,hdd] at h;cases h
end
end
section
open PySem PyProof.Rows
theorem vN (l:List (Int × Int))(k v j:Int):bI (iE l k v) j=if j=k then some v else bI l j:=by
 unfold iE bI
 by_cases h:l.any (fun p=>decide (p.1=k))=true
 ·rw[if_pos h]
  induction l with
  | nil=>simp at h
  | cons p l ih=>
   rw[D3,EQ,EQ]
   by_cases hp:p.1=k
   ·rw[if_pos hp]
    by_cases hj:j=k
    ·subst hj;simp[hp]
    ·rw[if_neg hj]
     have h1:decide (p.1=j)=false:=by simp;lia
     simp only[h1]
     have e:∀ m:List (Int × Int),(GV (fun p=>if p.1=k then (p.1,v) else p) m).find? (fun p=>decide (p.1=j))=m.find? (fun p=>decide (p.1=j)):=by
      intro m
      induction m with
      | nil=>rfl
      | cons q m ihm=>
       rw[D3,EQ,EQ,ihm]
       by_cases hq:q.1=k
       ·rw[if_pos hq]
        have:decide (q.1=j)=false:=by simp;(clear hp;lia)
        simp[this]
       ·rw[if_neg hq]
     rw[e]
   ·rw[if_neg hp]
    have h':l.any (fun p=>decide (p.1=k))=true:=by simpa [hp] using h
    have:=ih h'
    by_cases hj:p.1=j
    ·have hjk:¬ j=k:=by lia
     simp[hj,hjk]
    ·simp only[decide_eq_false hj];exact this
 ·rw[if_neg h]
  rw[List.find?_append]
  by_cases hj:j=k
  ·subst hj
   have:l.find? (fun p=>decide (p.1=j))=none:=by
    rw[List.find?_eq_none];intro x hx
    simp only[Hh,not_exists,not_and] at h
    exact h x hx
   rw[this];simp
  ·rw[if_neg hj]
   have : [(k,v)].find? (fun p=>decide (p.1=j))=none:=by simp;(clear h;lia)
   rw[this];simp
theorem oP (sn:List (Int × Int))(k v j:Int):bI (cF (sn ++ [(k,v)])) j=if j=k then some v else bI (cF sn) j:=by
 unfold cF
 rw[Gi]
 exact vN _ _ _ _
noncomputable def dI (sn:List (Int × Int)) (j:Int):List Int:=(sn.filter fun p=>p.1==j).map (·.2)
theorem iX (j:Int):∀ n (sn:List (Int × Int)),sn.length=n->bI (cF sn) j=(dI sn j).getLast?
 | 0,sn,h=>by rw[Ey.mp h];rfl
 | n+1,sn,h=>by
  obtain ⟨l,p,rfl⟩:∃ l p,sn=l ++ [p]:=by
   cases hr:sn.reverse with
   | nil=>simp at hr;subst hr;simp at h
   | cons p l=>exact ⟨l.reverse,p,by rw[<- List.reverse_reverse sn,hr];simp⟩
  have ih:=iX j n l (by simpa using h)
  rw[show p=(p.1,p.2) from rfl,oP,ih]
  unfold dI
  rw[Fx,DO]
  by_cases hp:j=p.1
  ·subst hp;simp
  ·have:(p.1==j)=false:=by simp;(clear h;lia)
   rw[if_neg hp];simp[this]
section
variable {w:Wk}{ey ey':Int->Option Int}{fr:Nat->Bool}
theorem ot {p:Pt}{k:Nat}{ds:List Int}(h:ey ((w.inp:Int)+(k:Int))=ey' ((w.inp:Int)+(k:Int))):eF w ey fr p k ds=eF w ey' fr p k ds:=by
 unfold eF;rw[h]
theorem ny:∀ (rest:List Pt) (k:Nat) (ds:List Int),(∀ j:Nat,k<=j->ey ((w.inp:Int)+(j:Int))=ey' ((w.inp:Int)+(j:Int)))->rows w ey fr rest k ds=rows w ey' fr rest k ds
 | [],_,_,_=>rfl
 | p::rest,k,ds,h=>by
  simp only[rows]
  rw[ot (h k (Ea _))]
  congr 1
  funext d
  exact ny rest (k+1) _ fun j hj=>h j (by exact au (ae [k,j] [(11,1),(21,0)] rfl hj))
theorem jN:∀ (rest:List Pt) (k:Nat) (ds:List Int),∀ r∈rows w ey fr rest k ds,∀ i<ds.length,r.getD i 0=ds.getD i 0
 | [],_,ds,r,h,i,hi=>by simp[rows] at h;subst h;rfl
 | p::rest,k,ds,r,h,i,hi=>by
  simp only[rows,Hf] at h
  refine ad h fun d zz hr=>?_
  try clear h
  rw[jN rest (k+1) _ r hr i (by simp;exact be (ae [i,ds.length] [(11,1),(21,0)] rfl hi)),ib hi]
theorem oO {line d:Int}(he:∀ j,ey' j=if j=line then some d else ey j)(ht:ey line=none ∨ ey line=some d):∀ (rest:List Pt) (k:Nat) (ds:List Int),ds.length=w.inp+k->(w.inp:Int)+(k:Int)<=line->line<(w.inp:Int)+(k:Int)+rest.length ->
  (rows w ey' fr rest k ds ≠ [] ↔ ∃ r∈rows w ey fr rest k ds,r.getD line.toNat 0=d)
 | [],k,ds,_,h1,h2=>by simp at h2;(clear ht;omega)
 | p::rest,k,ds,hl,h1,h2=>by
  simp only[rows,ne_eq,Ga,Classical.not_forall,Hf]
  by_cases hk:(w.inp:Int)+(k:Int)=line
  ·have hc:eF w ey' fr p k ds=(eF w ey fr p k ds).filter (fun x=>x==d):=by
    unfold eF
    rw[hk,he,if_pos rfl,List.filter_filter]
    refine List.filter_congr fun x zz=>?_
    have e1:(d==x)=(x==d):=by
     by_cases q:d=x
     ·subst q;rfl
     ·rw[beq_eq_false_iff_ne.mpr q,beq_eq_false_iff_ne.mpr fun z=>q z.symm]
    rcases ht with h | h
    ·rw[h];simp only[Option.getD_some,Option.getD_none,beq_self_eq_true,Bool.and_true,e1]
    ·rw[h];simp only[Option.getD_some,e1,Bool.and_self]
   have hr:∀ x,rows w ey' fr rest (k+1) (ds ++ [x])=rows w ey fr rest (k+1) (ds ++ [x]):=fun x=>ny rest (k+1) _ fun j hj=>by rw[he,if_neg (by exact f9 (am [line,w.inp,k,j] [(0,.a 1 2),(31,3),(.a 1 3,0),(.w 0 0,.a 1 3)] rfl (zf hk) (ql hj)))]
   have hg:∀ x r,r∈rows w ey fr rest (k+1) (ds ++ [x])->r.getD line.toNat 0=x:=fun x r h=>by
    have e:line.toNat=ds.length:=by exact sB (am [ds.length,w.inp,k,line,line.toNat] [(0,.a 1 2),(.a 1 2,3),(3,4),(51,0)] rfl (qe hl) (ze hk) (qt line)) (am [w.inp,k,ds.length,line,line.toNat] [(.a 0 1,2),(3,.a 0 1),(4,3),(31,4)] rfl (qf hl) (zf hk) (qT (am [ds.length,w.inp,k,line] [(0,.a 1 2),(.a 1 2,3),(110,0),(41,110)] rfl (qe hl) (ze hk) (q0 ds.length))))
    rw[e,jN _ _ _ r h ds.length (by simp),DL,D1 (Ea _)];simp
   constructor
   ·rintro ⟨x,hx,hn⟩
    rw[hc,Ep] at hx
    rw[hr] at hn
    refine aF (List.exists_mem_of_ne_nil _ hn) fun r hr'=>?_
    exact ⟨r,⟨x,hx.1,hr'⟩,(hg x r hr').trans (by simpa using hx.2)⟩
   ·rintro ⟨r,⟨x,hx,hr'⟩,hd⟩
    rw[hg x r hr'] at hd
    refine ⟨x,by rw[hc,Ep];exact ⟨hx,by simpa using hd⟩,fun z=>?_⟩
    rw[hr] at z;rw[z] at hr';cases hr'
  ·have hc:eF w ey' fr p k ds=eF w ey fr p k ds:=ot (by rw[he,if_neg hk])
   rw[hc]
   have ih:∀ x,(rows w ey' fr rest (k+1) (ds ++ [x]) ≠ [] ↔ ∃ r∈rows w ey fr rest (k+1) (ds ++ [x]),r.getD line.toNat 0=d):=fun x=>oO he ht rest (k+1) _ (by simp;exact cy (ae [w.inp,k,ds.length] [(.a 0 1,2),(.a 31 111,.a 0 21)] rfl (mf hl)) (ae [ds.length,w.inp,k] [(0,.a 1 2),(.a (.a 1 31) 111,11)] rfl (me hl))) (by (clear ht hl h2;lia)) (by simp at h2;exact bE (am [line,w.inp,k,rest.length] [(11,.a (.a 1 2) 41),(.a (.a 1 31) 3,0)] rfl h2))
   constructor
   ·rintro ⟨x,hx,hn⟩
    refine ad ((ih x).mp hn) fun r hr hd=>?_
    exact ⟨r,⟨x,hx,hr⟩,hd⟩
   ·rintro ⟨r,⟨x,hx,hr⟩,hd⟩
    exact ⟨x,hx,(ih x).mpr ⟨r,hr,hd⟩⟩
theorem oC {p:Pt}{ds:List Int}{ring:Int}(hr:0<ring)(h:∀ i,0<=ds.getD i 0/\ds.getD i 0<ring):0<=given p ds ring/\given p ds ring<ring:=by
 obtain ⟨wd,ls⟩:=p
 have h0:=h (ls.getD 0 0);have h1:=h (ls.getD 1 0);have h2:=h (ls.getD 2 0)
 cases wd <;> simp only[given]
 ·exact ⟨D9 _ (by exact f9 (am [ds.getD (ls.getD 2 0) 0,ring] [(110,0),(11,1),(1,110),(.w 0 110,1)] rfl h2.1 h2.2)),D5 _ hr⟩
 ·split <;> omega
 ·split <;> omega
 ·exact ⟨aY (am [ds.getD (ls.getD 0 0) 0,ring] [(11,1),(.a (.s (.s 1 111) 0) 111,110)] rfl h0.2),bE (am [ds.getD (ls.getD 0 0) 0,ring] [(110,0),(1,.s (.s 1 111) 0)] rfl h0.1)⟩
noncomputable def hO (ring:Int) (ds:List Int):Prop:=∀ x∈ds,0<=x/\x<ring
theorem hO.getD {ring:Int}{ds:List Int}(h:hO ring ds)(hr:0<ring)(i:Nat):0<=ds.getD i 0/\ds.getD i 0<ring:=by
 rw[DL]
 cases e:ds[i]? with
 | none=>simp;exact hr
 | some x=>exact h x (DQ e)
theorem yh {p:Pt}{k:Nat}{ds:List Int}(hr:0<w.ring)(h:hO w.ring ds):hO w.ring (eF w ey fr p k ds):=fun x hx=>by
 unfold eF at hx
 have hx:=(Ep.mp hx).1
 split at hx
 ·refine ad (Ef.mp hx) fun y hy hr155_2=>?_
  subst hr155_2
  have:=Fs.mp hy;(clear hr;lia)
 ·simp at hx;subst hx
  exact oC hr (h.getD hr)
theorem hO.snoc {ring:Int}{ds:List Int}{d:Int}(h:hO ring ds)(hd:0<=d/\d<ring):hO ring (ds ++ [d]):=fun x hx=>by
 rcases El.mp hx with q | q
 ·exact h x q
 ·simp at q;subst q;exact hd
theorem mm (hr:0<w.ring):∀ (rest:List Pt) (k:Nat) (ds:List Int),hO w.ring ds -> ∀ r∈rows w ey fr rest k ds,hO w.ring r
 | [],_,ds,h,r,hm=>by simp[rows] at hm;subst hm;exact h
 | p::rest,k,ds,h,r,hm=>by
  simp only[rows,Hf] at hm
  refine ad hm fun d hd hr'=>?_
  try clear hm
  exact mm hr rest (k+1) _ (h.snoc (yh hr h d hd)) r hr'
end
end
section
set_option maxHeartbeats 2000000
open PySem PyProof.Rows
noncomputable def kE:Vs:=[aq "work",aq "thing",aq "last",aq "pair"]
noncomputable def je:List St :=
  [.ife (.bop .Or [(.una .Not (.call "isinstance" [(.nm 1),(.gl "tuple")])),(.cmp .NotEq (.call "len" [(.nm 1)]) (.ci 2)),(.una .Not (.call "is_given" [(.nm 0),(.sub (.nm 1) (.ci 0))]))]) [.rais "BadLook" "inputs, and what was seen, are wanted"] [],
  .ife (.una .Not (.call "isinstance" [(.sub (.nm 1) (.ci 1)),(.gl "tuple")])) [.rais "BadLook" "what was seen is a tuple"] [],
  .asg 2 (.bin .Sub (.sub (.nm 0) (.ci 1)) (.ci 1)),
  .for [3] (.pl (.sub (.nm 1) (.ci 1))) [.ife (.bop .Or [(.una .Not (.call "isinstance" [(.nm 3),(.gl "tuple")])),(.cmp .NotEq (.call "len" [(.nm 3)]) (.ci 2))]) [.rais "BadLook" "no pair"] [],
  .ife (.bop .Or [(.una .Not (.call "is_among" [(.sub (.nm 3) (.ci 0)),(.bin .Add (.nm 2) (.ci 1)),(.bin .Sub (.bin .Add (.sub (.nm 0) (.ci 1)) (.call "len" [(.sub (.nm 0) (.ci 2))])) (.ci 1))])),(.una .Not (.call "is_among" [(.sub (.nm 3) (.ci 1)),(.ci 0),(.bin .Sub (.sub (.nm 0) (.ci 0)) (.ci 1))]))]) [.rais "BadLook" "no line that goes on, or no digit"] [],
  .asg 2 (.sub (.nm 3) (.ci 0))],
  .ret (.cb true)]
noncomputable def lJ:Vs:=[aq "work",aq "look",aq "broken",fj "line",aq "given",aq "seen",aq "found",aq "digit",aq "told"]
noncomputable def jQ:List St :=
  [.unp [4,5] (.nm 1),
  .ife (.cmp .Lt (.nm 3) (.sub (.nm 0) (.ci 1))) [.ife (.cmp .Is (.call "least_digits" [(.nm 0),(.nm 1),(.nm 2)]) .cn) [.ret (.lst [])] [],
  .ret (.lst [(.sub (.nm 4) (.nm 3))])] [],
  .asg 6 (.lst []),
  .for [7] (.pl (.call "range" [(.sub (.nm 0) (.ci 0))])) [.asg 8 (.comp 1 (.sub (.nm 9) (.ci 1)) (.nm 5) [(.cmp .Eq (.sub (.nm 9) (.ci 0)) (.nm 3))]),
  .ife (.bop .And [(.cmp .In (.nm 8) (.tup [(.lst []),(.lst [(.nm 7)])])),(.cmp .IsNot (.call "least_digits" [(.nm 0),(.tup [(.nm 4),(.bin .Add (.nm 5) (.tup [(.tup [(.nm 3),(.nm 7)])]))]),(.nm 2)]) .cn)]) [.exp (.meth (.nm 6) "append" [(.nm 7)])] []],
  .ret (.nm 6)]
noncomputable def eG (g:List Int) (sn:List (Int × Int)):V:=.tup [.tup (g.map .int),.tup (prs (bW sn))]
structure LkOk (w:Wk)(g:List Int)(sn:List (Int × Int)):Prop where
 gl:g.length=w.inp
 gr:hO w.ring g
 inc:sn.Pairwise fun p q=>p.1<q.1
 rng:∀ p∈sn,(w.inp:Int)<=p.1/\p.1<(w.inp:Int)+(w.ps.length:Int)/\0<=p.2/\p.2<w.ring
 len:sn.length<=100
section
variable {C:Cx}{X:XP}{n:Nat}{H:MH}{Q:V->MH->Prop}{w:Wk}{pa:Addr}{br:List Nat}{g:List Int}{sn:List (Int × Int)}{most:Nat}
theorem qj (G:C.Good)(S:Std C)(Da:bq C "is_among" fp 3 e9)(Dg:bq C "is_given" jb 2 gT)(D:bq C "need_look" kE 2 je)(hw:w.Ok most)(hm:most<=10)(hp:H pa=some (.lst (w.ps.map Pt.v)))(L:LkOk w g sn)
  (K:∀ H',ay H H'->Q (.bool true) H'):bB C ⟨n+3,true⟩ "need_look" [w.v pa,eG g sn] H Q X:=by
 have hz:10000<Dz:=by decide
 have hi2:=hw.i2;have hp2:=hw.p2;have hll:=L.len
 refine D.call G rfl ?_
 unfold je
 refine aI (cO (cC (b8 (bP (aA (Std.n_isinstance (by assumption)) ak (a8 rfl (ac (fF (Std.n_tuple (by assumption)) (ah ?_)))))))))
 refine eq (k:=true) S.n_tuple (by rfl) ?_
 refine ai (bR (cC (aK (aA (Std.n_len (by assumption)) ak (a9 rfl ?_)))))
 refine eZ (show 2<=Dz by decide) ?_
 refine aO (gS (ai ?_))
 rw[show ([V.tup (g.map .int),.tup (prs (bW sn))].length:Int)=2 from rfl,beq_self_eq_true]
 refine bR (cC (b8 (bP ?_)))
 refine bw Dg.fn ?_
 refine a8 rfl (ac (ao rfl ?_))
 refine bi rfl ?_
 refine ah ?_
 refine rC (w:=w) (pa:=pa) G S Da Dg hw L.gl L.gr fun H1 x1=>?_
 refine ai (bR (cM (bf (aL (aI (b8 (bP (aA (Std.n_isinstance (by assumption)) ak (ac (ao rfl ?_))))))))))
 refine bM rfl ?_
 refine ac (fF (Std.n_tuple (by assumption)) (ah ?_))
 refine eq (k:=true) S.n_tuple (by rfl) ?_
 refine ai (bR (aL (aC (aE (ao rfl ?_)))))
 refine bM rfl ?_
 refine aO (bZ ?_)
 refine cA ?_
 refine ao rfl ?_
 refine bM rfl ?_
 refine ⟨_,⟨.inl rfl,fun zz zz zz e=>by cases e⟩,rfl,?_⟩
 refine ch (P:=fun i ρ H'=>∃ la pr,ρ = [some (w.v pa),some (eG g sn),some (.int la),pr]/\H'=H1/\(w.inp:Int)-1<=la /\ ∀ p,sn[i]? = some p->la<p.1)
  (vW ((w.inp:Int)-1) none rfl rfl (by exact aY (am [w.inp] [(.a (.s 0 111) 111,.s 0 111)] rfl)) (fun p hp'=>by have:=(L.rng p (DQ hp')).1;exact bE (am [w.inp,p.fst] [(0,1),(1,.s 0 111)] rfl this))) (fun i x ρ H' R hP hx hR=>?_) fun ρ H' hP=>?_
 ·refine dC hP fun la pr hr85_2 hr85_3 hla hlp=>?_
  try clear hP
  subst hr85_2
  subst hr85_3
  unfold prs bW at hx
  rw[FR,DC,DE] at hx
  refine ad hx fun p hpi hr88_2=>?_
  try clear hx
  subst hr88_2
  refine kU (L.rng p (DQ hpi)) fun r1 r2 r3 r4=>?_
  have hlp:=hlp p hpi
  refine ⟨rfl,_,rfl,?_⟩
  show aM C _ _ [some (w.v pa),some (eG g sn),some (.int la),some (.tup [.int p.1,.int p.2])] _ _ _
  refine aI (cO (cC (b8 (bP (aA (Std.n_isinstance (by assumption)) ak (a8 rfl (ac (fF (Std.n_tuple (by assumption)) (ah ?_)))))))))
  refine eq (k:=true) S.n_tuple (by rfl) ?_
  refine ai (bR (cC (aK (aA (Std.n_len (by assumption)) ak (a9 rfl ?_)))))
  refine eZ (show 2<=Dz by decide) ?_
  refine aO (gS (ai ?_))
  rw[show ([V.int p.1,.int p.2].length:Int)=2 from rfl,beq_self_eq_true]
  refine bR (cM (bf (aL (aI (cO (cC (b8 (bP ?_))))))))
  refine bw Da.fn ?_
  refine ac (ao rfl ?_)
  refine bi rfl ?_
  refine ac (aV rfl (bA (ac (aE (aE (ao rfl ?_))))))
  refine bM rfl ?_
  refine aA (Std.n_len (by assumption)) ak (ac (ao rfl ?_))
  refine cS rfl ?_
  refine ah ?_
  refine bp (af (x1 _ _ hp)) (by rw[Dt];exact aB (au (ae [most,w.ps.length] [(0,120),(1,0),(.a 16777326 111,1)] rfl hm hp2))) ?_
  rw[Dt]
  refine bA (aO (bZ (ah ?_)))
  refine dh G S Da ?_
  rw[show (decide (la+1<=p.1)&&decide (p.1<=(w.inp:Int)+(w.ps.length:Int)-1))=true by simp;exact ⟨aY (am [la,p.fst] [(11,1),(21,11)] rfl hlp),aY (am [p.fst,w.inp,w.ps.length] [(11,.a 1 2),(.a (.s (.a 1 2) 111) 111,0)] rfl r2)⟩]
  refine ai (bR (cC (b8 (bP ?_))))
  refine bw Da.fn ?_
  refine ac (ao rfl ?_)
  refine bM rfl ?_
  refine ck (ac (aE (ao rfl ?_)))
  refine bi rfl ?_
  refine aO (bZ (ah ?_))
  refine dh G S Da ?_
  rw[show (decide (0<=p.2)&&decide (p.2<=w.ring-1))=true by simp;exact ⟨aY (am [p.snd] [(110,0),(11,110)] rfl r3),aY (am [p.snd,w.ring] [(11,1),(.a (.s 1 111) 111,0)] rfl r4)⟩]
  refine ai (bR (cM (bf (aL (aC (ao rfl ?_))))))
  refine bi rfl (aR ?_)
  refine hR _ _ (vW p.1 (some (.tup [.int p.1,.int p.2])) rfl rfl (by exact aY (am [w.inp,p.fst] [(0,1),(21,.s 0 111)] rfl r1)) (fun p' hp'=>?_))
  have h1:=(DD.mp hpi)
  have h2:=(DD.mp hp')
  have:=ER.mp L.inc i (i+1) h1.1 h2.1 (by exact be (ae [i] [(11,0)] rfl))
  rw[h1.2,h2.2] at this;exact this
 ·refine dC hP fun la pr hr129_2 hr129_3 hla hlp=>?_
  try clear hP
  subst hr129_2
  subst hr129_3
  refine ⟨rfl,?_⟩
  refine nO ?_
  exact K _ x1
noncomputable def d8 (w:Wk) (g:List Int) (sn:List (Int × Int)) (br:List Nat) (line:Nat):List Int :=
 if line<w.inp then (if rows w (bI (cF sn)) (fun k=>decide (k∈br)) w.ps 0 g = [] then [] else [g.getD line 0])
 else ((DU w.ring.toNat).map fun (d:Nat)=>(d:Int)).filter fun d=>decide ((dI sn line = [] ∨ dI sn line = [d])/\rows w (bI (cF (sn ++ [((line:Int),d)]))) (fun k=>decide (k∈br)) w.ps 0 g ≠ [])
theorem zl {H:MH}{d:Md}{a b c:Addr}{l:List Int}{x:Int}(ha:H a=some (.lst (l.map .int)))(hb:H b=some (.lst []))(hc:H c=some (.lst [.int x]))(q:Q (.bool (decide (l = [] ∨ l = [x]))) H):bX C d .In (.ref a) (.tup [.ref b,.ref c]) H Q X:=by
 refine mL (da:=.list (l.map .int)) (db:=.tuple [.list [],.list [.int x]]) (.lst ha (iG l)) (.tup (.cons (.lst hb .nil) (.cons (.lst hc (.cons (.int x) .nil)) .nil))) (.inr rfl) (wx l) (by rfl) (by simp[DW,Ei]) ?_
 have e:([Gx [],Gx [.int x]].any fun y=>Em y (.list (l.map .int)))=decide (l = [] ∨ l = [x]):=by
  cases l with
  | nil=>rfl
  | cons y l=>
   cases l with
   | nil=>
    simp[Em,G7]
    by_cases h:x=y
    ·subst h;rw[beq_self_eq_true,decide_eq_true rfl]
    ·rw[beq_eq_false_iff_ne.mpr h,decide_eq_false fun z=>h z.symm]
   | cons z l=>simp[Em,G7]
 rw[e];exact q
theorem rJ {line:Nat}(G:C.Good)(S:Std C)(N:WkA C)(Do:bq C "given_of" ew 3 ec)(Dw:bq C "wanted_from" d9 2 dP)(Cl:Cls C "Walk" eS 4 eB)(Mc:Mth C "Walk" "choices" dc 3 cT)(Mg:Mth C "Walk" "grown" dO 2 cX)
  (Dl:bq C "least_digits" fV 3 fe) (D:bq C "shown_by" lJ 4 jQ) (hw:w.Ok most) (hm:most<=7) (hp:H pa=some (.lst (w.ps.map Pt.v))) (L:LkOk w g sn) (hline:line<w.inp+w.ps.length)
  (K:∀ r H',ay H H'->H r=none->H' r=some (.lst ((d8 w g sn br line).map .int))->Q (.ref r) H'):bB C ⟨n+16,true⟩ "shown_by" [w.v pa,eG g sn,bH br,.int line] H Q X:=by
 have hz:10000<Dz:=by decide
 have hi2:=hw.i2;have hp2:=hw.p2;have hll:=L.len;have hgl:=L.gl;have hr1:=hw.r1;have hr2:=hw.r2
 have d0:∀ sn' v,zB w (cF sn') br 0 g v->(v = .none/\rows w (bI (cF sn')) (fun k=>decide (k∈br)) w.ps 0 g = []) ∨ ((∃ c,v = .ref c)/\rows w (bI (cF sn')) (fun k=>decide (k∈br)) w.ps 0 g ≠ []):=fun sn' v h=>h
 refine D.call G rfl ?_
 unfold jQ
 refine hW (ag rfl ?_)
 refine ⟨[.tup (g.map .int),.tup (prs (bW sn))],rfl,⟨.inl rfl,fun zz zz zz e=>by cases e⟩,rfl,?_⟩
 refine aI (aK (ag rfl (ao rfl ?_)))
 refine bM rfl ?_
 refine jh (ai ?_)
 split
 ·rename_i hlt
  have hlt:line<w.inp:=by simpa using hlt
  refine bg (aI (aK ?_))
  refine bw Dl.fn ?_
  refine mH rfl rfl rfl ?_
  refine lW (w:=w) (pa:=pa) G S N Do Dw Cl Mc Mg Dl hw hm (by exact au (ae [sn.length] [(0,210),(.a 1110 111,0)] rfl hll)) hp hgl fun v H1 x1 hv=>?_
  rcases d0 _ _ hv with ⟨rfl,hn⟩ | ⟨⟨c,rfl⟩,hne⟩
  ·refine fB ?_
   refine ai (bC (bg (aX (bu (ah ?_)))))
   refine ⟨by decide,fun r hr=>K r _ (x1.more hr) (x1.gone hr) ?_⟩
   unfold d8
   rw[if_pos hlt,if_pos hn,aj];rfl
  ·refine lF ?_
   refine ai (bf (aL (bg (aX (bu (ac (hZ rfl rfl ?_)))))))
   refine g9 (j:=line) (by rw[Dt];unfold Fa;simp;(clear hm hline hz hi2 hp2 hll hr1 hr2;omega)) (by rw[Dt];exact aB (au (ae [w.inp,g.length] [(0,116),(1,0),(.a 16777326 111,1)] rfl hi2 (me hgl)))) (x:=.int (g.getD line 0)) ?_ ?_
   ·rw[DC,DA (by exact be (ae [w.inp,g.length,line] [(0,1),(31,0),(1,2)] rfl (mf hgl) hlt)),DL,DA (by exact be (ae [w.inp,g.length,line] [(0,1),(31,0),(1,2)] rfl (mf hgl) hlt))];rfl
   refine ah ?_
   refine ⟨show 1<=Dz by decide,fun r hr=>K r _ (x1.more hr) (x1.gone hr) ?_⟩
   unfold d8
   rw[if_pos hlt,if_neg hne,aj];rfl
 ·rename_i hlt
  have hlt:¬ line<w.inp:=by simpa using hlt
  have hsh:d8 w g sn br line=((DU w.ring.toNat).map fun (d:Nat)=>(d:Int)).filter fun d=>decide ((dI sn line = [] ∨ dI sn line = [d])/\rows w (bI (cF (sn ++ [((line:Int),d)]))) (fun k=>decide (k∈br)) w.ps 0 g ≠ []):=by unfold d8;rw[if_neg hlt]
  generalize hP:(fun d:Int=>decide ((dI sn line = [] ∨ dI sn line = [d])/\rows w (bI (cF (sn ++ [((line:Int),d)]))) (fun k=>decide (k∈br)) w.ps 0 g ≠ []))=P at hsh
  refine aL (aC (bu (ah ?_)))
  refine ⟨by decide,fun fo hfo=>?_⟩
  have x0:ay H (an H fo (.lst [])):=.new hfo
  have f0:an H fo (.lst []) fo=some (.lst []):=aj ..
  generalize an H fo (.lst [])=H1 at x0 f0
  refine cA ?_
  refine aA (Std.n_range (by assumption)) aH (ac (ao rfl ?_))
  refine bi rfl ?_
  refine ah ?_
  refine cV ?_
  obtain ⟨R,hR⟩:∃ R:Nat,w.ring=(R:Int):=⟨w.ring.toNat,by exact eV (am [w.ring.toNat,w.ring] [(0,1),(21,0)] rfl (qT (am [w.ring] [(112,0),(11,110)] rfl hr1))) (am [w.ring,w.ring.toNat] [(0,1),(21,0)] rfl (qt w.ring))⟩
  rw[hR]
  refine ⟨_,d7 rfl (by decide) (by decide) (by exact aY (am [R] [(110,0),(11,.g 1000000)] rfl (q0 R))) (by exact aY (am [w.ring,R] [(0,115),(1,0),(.a 1000110 111,1)] rfl hr2 (zf hR))),rfl,?_⟩
  refine ch (P:=fun i ρ H'=>∃ dg tl,ρ = [some (w.v pa),some (eG g sn),some (bH br),some (.int line),some (.tup (g.map .int)),some (.tup (prs (bW sn))),some (.ref fo),dg,tl]/\ay H H' /\
    H' fo=some (.lst ((((DU i).map fun (d:Nat)=>(d:Int)).filter P).map .int)))
   (kY none none rfl x0 f0) (fun i x ρ H' R' hPP hx hR'=>?_) fun ρ H' hPP=>?_
  ·refine aG hPP fun dg tl hr251_2 hx' hf=>?_
   try clear hPP
   subst hr251_2
   refine az (eA hx) fun hr252_0 hi=>?_
   subst hr252_0
   simp only[Fe]
   have hiR:i<R:=by exact im (am [i,R] [(11,.s 1 110),(1,0)] rfl hi)
   have hflen:(((DU i).map fun (d:Nat)=>(d:Int)).filter P).length<=i:=EI (FF _ _) (by simp)
   have hnext:((DU (i+1)).map fun (d:Nat)=>(d:Int)).filter P=((DU i).map fun (d:Nat)=>(d:Int)).filter P++(if P i=true then [(i:Int)] else []):=by
    rw[List.range_succ,DO,Fx]
    congr 1
    show HN P [(i:Int)]=_
    rw[FT];rfl
   refine ⟨rfl,_,rfl,?_⟩
   refine aC (cU ?_)
   refine ag rfl ?_
   refine ⟨_,⟨.inl rfl,fun zz zz zz e=>by cases e⟩,rfl,by simp[prs,bW];exact aB (au (ae [sn.length] [(0,210),(.a 16777326 111,0)] rfl hll)),?_⟩
   refine cq (P:=fun j acc H''=>acc=(dI (sn.take j) line).map .int/\H''=H') ⟨rfl,rfl⟩ (fun j x acc H'' R'' hQ hx2 hR2=>?_) fun acc H'' hQ=>⟨?_,?_⟩
   ·refine az hQ fun hr266_0 hr266_1=>?_
    try clear hQ
    subst hr266_0
    subst hr266_1
    unfold prs bW at hx2
    rw[FR,DC,DE] at hx2
    refine ad hx2 fun p hpj hr269_2=>?_
    try clear hx2
    subst hr269_2
    refine ⟨rfl,_,rfl,?_⟩
    have et:∀ q:Bool,(p.1==(line:Int))=q->dI (sn.take (j+1)) line=dI (sn.take j) line++(if q=true then [p.2] else []):=by
     intro q hq
     unfold dI
     rw[D7,hpj,Fx,DO]
     congr 1
     show GV _ (HN _ [p])=_
     rw[FT,hq];cases q <;> rfl
    show gL C _ _ [some (w.v pa),some (eG g sn),some (bH br),some (.int line),some (.tup (g.map .int)),some (.tup (prs (bW sn))),some (.ref fo),some (.int (i:Int)),tl,some (.tup [.int p.1,.int p.2])] _ _ _
    refine gY (aK (ao rfl ?_))
    refine bi rfl ?_
    refine ag rfl (bx (ai ?_))
    split
    ·rename_i hq
     show aU C _ _ [some (w.v pa),some (eG g sn),some (bH br),some (.int line),some (.tup (g.map .int)),some (.tup (prs (bW sn))),some (.ref fo),some (.int (i:Int)),tl,some (.tup [.int p.1,.int p.2])] _ _ _
     refine ao rfl ?_
     refine bM rfl (hR2 _ _ ⟨?_,rfl⟩)
     rw[et true hq,DO];rfl
    ·rename_i hq
     refine hR2 _ _ ⟨?_,rfl⟩
     rw[et false (by simpa using hq)];simp
   ·refine az hQ fun hr291_0 hr291_1=>?_
    try clear hQ
    subst hr291_0
    subst hr291_1
    rfl
   refine az hQ fun hr293_0 hr293_1=>?_
   try clear hQ
   subst hr293_0
   subst hr293_1
   have e3:sn.take (prs (bW sn)).length=sn:=by rw[show (prs (bW sn)).length=sn.length by simp[prs,bW],Ec]
   rw[e3]
   generalize htd:dI sn line=td
   have htl:td.length<=100:=by rw[<- htd];unfold dI;rw[Dt];exact EI (FF _ _) hll
   refine ⟨by rw[Dt];exact aB (au (ae [td.length] [(0,210),(.a 16777326 111,0)] rfl htl)),fun ta hta=>?_⟩
   have y1:ay H'' (an H'' ta (.lst (td.map .int))):=.new hta
   have t1:an H'' ta (.lst (td.map .int)) ta=some (.lst (td.map .int)):=aj ..
   generalize an H'' ta (.lst (td.map .int))=H2 at y1 t1
   refine aI (cO (eE (aK (ag rfl (bJ (ac (bu (ah ?_))))))))
   refine ⟨by decide,fun e1 he1=>?_⟩
   refine ac (bu (a9 rfl ?_))
   refine ⟨show 1<=Dz by decide,fun e2 he2=>?_⟩
   refine ah ?_
   refine ⟨show 2<=Dz by decide,?_⟩
   have y2:ay H2 (an (an H2 e1 (.lst [])) e2 (.lst [.int (i:Int)])):=((ay.refl _).more he1).more he2
   refine zl (y2 _ _ t1) ((ay.new he2) _ _ (aj ..)) (aj ..) ?_
   generalize an (an H2 e1 (.lst [])) e2 (.lst [.int (i:Int)])=H3 at y2
   have y3:=(hx'.trans y1).trans y2
   have hf3:=y2 _ _ (y1 _ _ hf)
   refine ai ?_
   have no:P i=false -> ∀ H4,ay H'' H4->R' [some (w.v pa),some (eG g sn),some (bH br),some (.int line),some (.tup (g.map .int)),some (.tup (prs (bW sn))),some (.ref fo),some (.int (i:Int)),some (.ref ta)] H4:=fun hPi H4 y4=>by
    refine hR' _ _ (kY _ _ rfl (hx'.trans y4) ?_)
    rw[hnext,hPi];simp;simpa using y4 _ _ hf
   split
   ·rename_i h1
    have h1:td = [] ∨ td = [(i:Int)]:=of_decide_eq_true h1
    refine eE (aK ?_)
    refine bw Dl.fn ?_
    refine a8 rfl (ac (bJ (a8 rfl (ac (aE (ag rfl (bJ (ac (bJ (dX rfl rfl ?_))))))))))
    refine ⟨show 2<=Dz by decide,?_⟩
    refine ah ?_
    refine ⟨show 1<=Dz by decide,?_⟩
    refine pD (by simp[prs,bW];exact aB (au (ae [sn.length] [(0,210),(.a 16777326 111,11)] rfl hll))) ?_
    refine ah ?_
    refine ⟨show 2<=Dz by decide,?_⟩
    refine a9 rfl ?_
    have esn:prs (bW sn) ++ [.tup [.int (line:Int),.int (i:Int)]]=prs (bW (sn ++ [((line:Int),(i:Int))])):=by simp[prs,bW]
    rw[esn]
    refine lW (w:=w) (pa:=pa) G S N Do Dw Cl Mc Mg Dl hw hm (by simp;exact au (ae [sn.length] [(0,210),(.a 1109 111,0)] rfl hll)) (y3 _ _ hp) hgl fun v H4 x4 hv=>?_
    rcases d0 _ _ hv with ⟨rfl,hn⟩ | ⟨⟨c,rfl⟩,hne⟩
    ·refine ee ?_
     refine ai (bf (bf (aL ?_)))
     refine aR (no ?_ _ ((y1.trans y2).trans x4))
     rw[<- hP];simp[hn]
    ·refine gb ?_
     refine ai (bC (iJ (bC (bg (cD (bG (ag rfl ?_)))))))
     have hf4:=x4 _ _ hf3
     refine ⟨_,cL hf4,ak,?_⟩
     refine a9 rfl ?_
     refine du hf4 (by rw[Dt];(clear hm hline hi2 hp2 hll hgl hr1 hlt hi htl h1;lia)) (aR (hR' _ _ (kY _ _ rfl (((y3.trans x4).mut ?_)) ?_)))
     ·exact hfo
     ·rw[aj,hnext,show P i=true by rw[<- hP];exact decide_eq_true ⟨by rw[htd];exact h1,hne⟩,DO];rfl
   ·rename_i h1
    refine bf (aL ?_)
    refine aR (no ?_ _ (y1.trans y2))
    rw[<- hP]
    refine decide_eq_false fun h=>h1 (decide_eq_true ?_)
    rw[<- htd];exact h.1
  ·refine aG hPP fun dg tl hr353_2 hx' hf=>?_
   try clear hPP
   subst hr353_2
   refine ⟨rfl,?_⟩
   refine eY rfl ?_
   refine K fo H' hx' ?_ ?_
   ·exact hfo
   ·rw[hf,hsh,c9,hR];simp
end
end
section
set_option maxHeartbeats 2000000
open PySem PyProof.Rows
noncomputable def iS:List St :=
  [.asg 3 (.call "list" [(.nm 1)]),
  .for [4] (.pl (.call "range" [(.call "len" [(.sub (.nm 0) (.ci 2))])])) [.exp (.meth (.nm 3) "append" [(.meth (.nm 2) "get" [(.nm 4),(.call "_law_due" [(.sub (.sub (.nm 0) (.ci 2)) (.nm 4)),(.nm 3),(.sub (.nm 0) (.ci 0))])])])],
  .ret (.nm 3)]
noncomputable def gq:List St :=
  [.asg 2 (.lst [(.ci 1),(.ci 5),(.ci 25),(.ci 125),(.ci 625),(.ci 3125)]),
  .ret (.call "tuple" [(.comp 1 (.bin .Mod (.bin .FloorDiv (.nm 1) (.sub (.nm 2) (.nm 3))) (.sub (.nm 0) (.ci 0))) (.call "range" [(.sub (.nm 0) (.ci 1))]) [])])]
noncomputable def jC:List St :=
  [.asg 3 (.call "_law_given" [(.nm 0),(.nm 1)]),
  .asg 4 (.call "len" [(.sub (.nm 0) (.ci 2))]),
  .asg 5 (.emp 0),
  .for [6] (.pl (.call "range" [(.bin .Mod (.nm 2) (.ci 3))])) [.asg 7 (.bin .Mod (.bin .FloorDiv (.bin .FloorDiv (.nm 2) (.ci 3)) (.bin .Add (.ci 1) (.bin .Mult (.ci 6) (.nm 6)))) (.nm 4)),
  .seti (.nm 5) (.nm 7) (.bin .Mod (.bin .FloorDiv (.bin .FloorDiv (.nm 2) (.ci 40)) (.bin .Add (.ci 1) (.bin .Mult (.ci 4) (.nm 6)))) (.sub (.nm 0) (.ci 0)))],
  .asg 8 (.call "_law_run" [(.nm 0),(.nm 3),(.nm 5)]),
  .asg 9 (.lst []),
  .for [6] (.pl (.call "range" [(.nm 4)])) [.asg 10 (.cmp .Eq (.bin .Mod (.bin .FloorDiv (.bin .FloorDiv (.nm 2) (.ci 200)) (.bin .Add (.ci 1) (.nm 6))) (.ci 3)) (.ci 1)),
  .ife (.bop .Or [(.nm 10),(.bop .And [(.cmp .Eq (.nm 6) (.bin .Sub (.nm 4) (.ci 1))),(.cmp .Gt (.bin .Mod (.bin .FloorDiv (.nm 2) (.ci 7)) (.ci 4)) (.ci 0))])]) [.asg 11 (.sub (.nm 8) (.bin .Add (.sub (.nm 0) (.ci 1)) (.nm 6))),
  .ife (.cmp .Eq (.bin .Mod (.bin .FloorDiv (.nm 2) (.ci 11)) (.ci 9)) (.ci 5)) [.asg 11 (.bin .Mod (.bin .Add (.nm 11) (.bin .FloorDiv (.nm 2) (.bin .Add (.ci 13) (.nm 6)))) (.sub (.nm 0) (.ci 0)))] [],
  .ife (.bop .And [(.cmp .Gt (.bin .Mod (.bin .FloorDiv (.nm 2) (.ci 11)) (.ci 9)) (.ci 5)),(.cmp .Eq (.nm 6) (.bin .Sub (.nm 4) (.ci 1)))]) [.asg 11 (.bin .Mod (.bin .Add (.nm 11) (.ci 1)) (.sub (.nm 0) (.ci 0)))] [],
  .exp (.meth (.nm 9) "append" [(.tup [(.bin .Add (.sub (.nm 0) (.ci 1)) (.nm 6)),(.nm 11)])])] []],
  .ret (.tup [(.nm 3),(.call "tuple" [(.nm 9)])])]
section
variable {C:Cx}{X:XP}{n:Nat}{H:MH}{Q:V->MH->Prop}{w:Wk}{pa:Addr}{most:Nat}
theorem Bc {l:List V}(hl:l = [V.int 1,.int 5,.int 25,.int 125,.int 625,.int 3125]){i:Nat}(hi:i<6):∃ s:Int,0<s/\s<1073741824/\l[i]? = some (.int s):=by
 subst hl
 rcases i with _ | _ | _ | _ | _ | _ | i
 ·exact ⟨1,by decide,by decide,rfl⟩
 ·exact ⟨5,by decide,by decide,rfl⟩
 ·exact ⟨25,by decide,by decide,rfl⟩
 ·exact ⟨125,by decide,by decide,rfl⟩
 ·exact ⟨625,by decide,by decide,rfl⟩
 ·exact ⟨3125,by decide,by decide,rfl⟩
 ·lia
theorem uR {vs:Vs}{c:Int}(G:C.Good)(S:Std C)(D:bq C "_law_given" vs 2 gq)(hv:vs.length=3)(hw:w.Ok most)
  (K:∀ g H',ay H H'->g.length=w.inp->hO w.ring g->Q (.tup (g.map .int)) H'):bB C ⟨n+1,true⟩ "_law_given" [w.v pa,.int c] H Q X:=by
 have hz:10000<Dz:=by decide
 have hi2:=hw.i2;have hr1:=hw.r1
 refine D.call G rfl ?_
 rw[hv]
 unfold gq
 refine aC (bu (ck (ck (ck (ck (ck (dk ?_)))))))
 refine ⟨show 6<=Dz by decide,fun so hso=>?_⟩
 have x0:ay H (an H so (.lst [V.int 1,.int 5,.int 25,.int 125,.int 625,.int 3125])):=.new hso
 obtain ⟨sl,hsl⟩:∃ sl,sl = [V.int 1,.int 5,.int 25,.int 125,.int 625,.int 3125]:=⟨_,rfl⟩
 have s0:an H so (.lst [V.int 1,.int 5,.int 25,.int 125,.int 625,.int 3125]) so=some (.lst sl):=by rw[aj,hsl]
 generalize an H so (.lst [V.int 1,.int 5,.int 25,.int 125,.int 625,.int 3125])=H1 at x0 s0
 refine aX (aA (Std.n_tuple (by assumption)) aH (ac ?_))
 refine cU ?_
 refine aA (Std.n_range (by assumption)) aH (ac (ao rfl ?_))
 refine bM rfl ?_
 refine ah ?_
 refine cV ?_
 refine ⟨_,d7 rfl (by decide) (by decide) (by exact aY (am [w.inp] [(110,0),(11,.g 1000000)] rfl (q0 w.inp))) (by exact aY (am [w.inp] [(0,116),(.a 1000110 111,0)] rfl (ql hi2))),rfl,by rw[c9];exact aB (dF (am [w.inp,((↑w.inp:Int)-0).toNat] [(0,116),(1,.s 0 110),(.a 16777326 111,1)] rfl (ql hi2) (qT (am [w.inp] [(110,0),(.a (.s 0 110) 111,110)] rfl (q0 w.inp))))),?_⟩
 refine cq (P:=fun i acc H'=>∃ g:List Int,acc=g.map .int/\g.length=i/\hO w.ring g/\H'=H1) ⟨[],rfl,rfl,fun x hx=>by simp at hx,rfl⟩ (fun i x acc H' R hP hx hR=>?_) fun acc H' hP=>⟨rfl,?_⟩
 ·refine cY hP fun g hr70_1 hg hgr hr70_4=>?_
  try clear hP
  subst hr70_1
  subst hr70_4
  refine az (eA hx) fun hr71_0 hi=>?_
  subst hr71_0
  simp only[Fe]
  refine bN (Bc hsl (i:=i) (by exact im (am [w.inp,i] [(0,116),(21,.s 0 110),(116,1)] rfl (ql hi2) hi))) fun s hs1 hs2 hs3=>?_
  refine ⟨rfl,_,rfl,?_⟩
  refine dR (bC (aE (aE (ag rfl (hZ rfl rfl ?_)))))
  refine aN (i:=i) (af s0) (by rw[hsl];show 6<=Dz;decide) hs3 ?_
  refine bj hs1 hs2 ?_
  refine ao rfl ?_
  refine bi rfl ?_
  refine bc (by exact bE (am [w.ring] [(112,0),(0,110)] rfl hr1)) ?_
  refine hR _ _ ⟨g ++ [c / s % w.ring],by simp,by simp[hg],hgr.snoc ⟨D9 _ (by exact f9 (am [w.ring] [(112,0),(0,110),(.w 0 110,0)] rfl hr1)),D5 _ (by exact bE (am [w.ring] [(112,0),(0,110)] rfl hr1))⟩,rfl⟩
 refine cY hP fun g hr82_1 hg hgr hr82_4=>?_
 try clear hP
 subst hr82_1
 subst hr82_4
 rw[c9] at hg
 refine ⟨by rw[Dt];exact aB (dF (am [w.inp,g.length,((↑w.inp:Int)-0).toNat] [(0,116),(1,2),(2,.s 0 110),(.a 16777326 111,1)] rfl (ql hi2) (qe hg) (qT (am [w.inp] [(110,0),(.a (.s 0 110) 111,110)] rfl (q0 w.inp))))),fun r hr=>?_⟩
 refine ah ?_
 refine fH aW (by rw[Dt];exact aB (dF (am [w.inp,g.length,((↑w.inp:Int)-0).toNat] [(0,116),(1,2),(2,.s 0 110),(.a 16777326 111,1)] rfl (ql hi2) (qe hg) (qT (am [w.inp] [(110,0),(.a (.s 0 110) 111,110)] rfl (q0 w.inp)))))) ?_
 exact K g _ (x0.more hr) (by (clear hv hz hi2 hr1;lia)) hgr
theorem xl {ring:Int}{l:List (Int × Int)}(h:∀ p∈l,0<=p.2/\p.2<ring){k x:Int}(hx:0<=x/\x<ring):0<=(bI l k).getD x/\(bI l k).getD x<ring:=by
 unfold bI
 cases e:l.find? (fun p=>decide (p.1=k)) with
 | none=>exact hx
 | some p=>exact h p (List.mem_of_find?_eq_some e)
theorem xp {ring:Int}{l:List (Int × Int)}(h:∀ p∈l,0<=p.2/\p.2<ring){k x:Int}(hx:0<=x/\x<ring):∀ p∈iE l k x,0<=p.2/\p.2<ring:=fun p hp=>by
 unfold iE at hp
 split at hp
 ·refine ad (Ef.mp hp) fun q hq hr97_2=>?_
  subst hr97_2
  split
  ·exact hx
  ·exact h q hq
 ·rcases El.mp hp with q | q
  ·exact h p q
  ·simp at q;subst q;exact hx
theorem yF {vs vs':Vs}{td:Addr}{l:List (Int × Int)}{g:List Int}(G:C.Good)(S:Std C)(Dd:bq C "_law_due" vs' 3 gD)(hv':vs'.length=4)(D:bq C "_law_run" vs 3 iS)(hv:vs.length=5)(hw:w.Ok most)(hm:most<=10)(hp:H pa=some (.lst (w.ps.map Pt.v)))
  (ht:H td=some (.dci (bW l))) (hlr:∀ p∈l,0<=p.2/\p.2<w.ring) (hg:g.length=w.inp) (hgr:hO w.ring g)
  (K:∀ b ds H',ay H H'->H b=none->H' b=some (.lst (ds.map .int))->ds.length=w.inp+w.ps.length->hO w.ring ds->Q (.ref b) H'):bB C ⟨n+2,true⟩ "_law_run" [w.v pa,.tup (g.map .int),.ref td] H Q X:=by
 have hz:10000<Dz:=by decide
 have hi2:=hw.i2;have hr1:=hw.r1;have hp2:=hw.p2
 refine D.call G rfl ?_
 rw[hv]
 unfold iS
 refine aC (aA (Std.n_list (by assumption)) aH (a9 rfl ?_))
 refine dK (.inr ⟨_,rfl⟩) rfl (by rw[Dt];exact aB (au (ae [g.length,w.inp] [(0,1),(1,116),(.a 16777326 111,0)] rfl (me hg) hi2))) fun b hb=>?_
 have x0:ay H (an H b (.lst (g.map .int))):=.new hb
 have b0:an H b (.lst (g.map .int)) b=some (.lst (g.map .int)):=aj ..
 generalize an H b (.lst (g.map .int))=H1 at x0 b0
 refine cA ?_
 refine aA (Std.n_range (by assumption)) aH (ac (aA (Std.n_len (by assumption)) ak (ac (ao rfl ?_))))
 refine cS rfl ?_
 refine ah ?_
 refine bp (af (x0 _ _ hp)) (by rw[Dt];exact aB (au (ae [most,w.ps.length] [(0,120),(1,0),(.a 16777326 111,1)] rfl hm hp2))) ?_
 rw[Dt]
 refine ah ?_
 refine cV ?_
 refine ⟨_,d7 rfl (by decide) (by decide) (by exact aY (am [w.ps.length] [(110,0),(11,.g 1000000)] rfl (q0 w.ps.length))) (by exact aY (am [most,w.ps.length] [(0,120),(1,0),(.a 1000110 111,1)] rfl (ql hm) (ql hp2))),rfl,?_⟩
 refine ch (P:=fun i ρ H'=>∃ kk ds,ρ = [some (w.v pa),some (.tup (g.map .int)),some (.ref td),some (.ref b),kk]/\ay H H'/\H' b=some (.lst (ds.map .int))/\ds.length=w.inp+i/\hO w.ring ds)
  (nI none g rfl x0 b0 (by exact cy (ae [w.inp,g.length] [(0,1),(21,10)] rfl (mf hg)) (ae [g.length,w.inp] [(0,1),(.a 20 111,0)] rfl (me hg))) hgr) (fun i x ρ H' R hP hx hR=>?_) fun ρ H' hP=>?_
 ·refine dD hP fun kk ds hr130_2 hx' hb' hdl hdr=>?_
  try clear hP
  subst hr130_2
  refine az (eA hx) fun hr131_0 hi=>?_
  subst hr131_0
  simp only[Fe]
  have hip:i<w.ps.length:=by exact im (am [i,w.ps.length] [(11,.s 1 110),(1,0)] rfl hi)
  have hpi:w.ps[i]? = some w.ps[i]:=DA hip
  refine ⟨rfl,_,rfl,?_⟩
  refine cD (bG (ag rfl ?_))
  refine ⟨_,cL hb',ak,?_⟩
  refine ac (bG (ag rfl ?_))
  refine ⟨_,oH (hx' _ _ ht),ak,?_⟩
  refine a8 rfl (ac ?_)
  refine bw Dd.fn ?_
  refine ac (aQ (ao rfl ?_))
  refine cS rfl ?_
  refine ag rfl ?_
  refine aN (i:=i) (af (hx' _ _ hp)) (by rw[Dt];exact aB (au (ae [most,w.ps.length] [(0,120),(1,0),(.a 16777326 111,1)] rfl hm hp2))) (x:=w.ps[i].v) (by rw[DC,hpi];rfl) ?_
  refine a8 rfl (ac (ao rfl ?_))
  refine bi rfl ?_
  refine ah ?_
  refine zX G S Dd hv' (af hb') (by exact au (ae [most,w.inp,w.ps.length,ds.length,i] [(0,120),(1,116),(2,0),(3,.a 1 4),(51,2),(.a 1110 111,3)] rfl hm hi2 hp2 (me hdl) hip)) (by rw[hdl];exact hw.pt i _ hpi) (by exact bE (am [w.ring] [(112,0),(0,110)] rfl hr1)) ?_
  refine ah ?_
  refine rU (hx' _ _ ht) ?_
  rw[jy]
  have eg:((bI l (i:Int)).map V.int).getD (.int (given w.ps[i] ds w.ring)) = .int ((bI l (i:Int)).getD (given w.ps[i] ds w.ring)):=by cases bI l (i:Int) <;> rfl
  rw[eg]
  refine ah ?_
  refine du hb' (by rw[Dt];exact aB (au (ae [most,w.inp,w.ps.length,ds.length,i] [(0,120),(1,116),(2,0),(3,.a 1 4),(51,2),(.a 16777326 111,3)] rfl hm hi2 hp2 (me hdl) hip))) (aR (hR _ _ (nI _ (ds ++ [(bI l (i:Int)).getD (given w.ps[i] ds w.ring)]) rfl (hx'.mut hb) ?_ (by simp;exact cy (ae [w.inp,i,ds.length] [(.a 0 1,2),(.a 31 111,.a 0 21)] rfl (mf hdl)) (ae [ds.length,w.inp,i] [(0,.a 1 2),(.a (.a 1 31) 111,11)] rfl (me hdl))) (hdr.snoc (xl hlr (oC (by exact bE (am [w.ring] [(112,0),(0,110)] rfl hr1)) (hdr.getD (by exact bE (am [w.ring] [(112,0),(0,110)] rfl hr1)))))))))
  rw[aj,DO];rfl
 ·refine dD hP fun kk ds hr158_2 hx' hb' hdl hdr=>?_
  try clear hP
  subst hr158_2
  refine ⟨rfl,?_⟩
  refine eY rfl ?_
  rw[c9] at hdl
  exact K b ds H' hx' hb hb' (by (clear hv' hv hm hg hz hi2 hr1 hp2;lia)) hdr
end
end
section
set_option maxHeartbeats 2000000
open PySem PyProof.Rows
section
variable {C:Cx}{X:XP}{n:Nat}{H:MH}{Q:V->MH->Prop}{w:Wk}{pa:Addr}{most:Nat}
theorem wB {vs vg vr vd:Vs}{c m:Int}(G:C.Good)(S:Std C)(Dg:bq C "_law_given" vg 2 gq)(hvg:vg.length=3)(Dd:bq C "_law_due" vd 3 gD)(hvd:vd.length=4)(Dr:bq C "_law_run" vr 3 iS)(hvr:vr.length=5)
  (D:bq C "_law_look" vs 3 jC) (hv:vs.length=12) (hw:w.Ok most) (hm:most<=10) (hp:H pa=some (.lst (w.ps.map Pt.v)))
  (K:∀ g sn H',ay H H'->LkOk w g sn->Q (eG g sn) H'):bB C ⟨n+3,true⟩ "_law_look" [w.v pa,.int c,.int m] H Q X:=by
 have hz:10000<Dz:=by decide
 have hi2:=hw.i2;have hr1:=hw.r1;have hp2:=hw.p2;have hp1:=hw.p1
 refine D.call G rfl ?_
 rw[hv]
 unfold jC
 refine aC ?_
 refine bw Dg.fn ?_
 refine dX rfl rfl ?_
 refine uR (w:=w) (pa:=pa) G S Dg hvg hw fun g H1 x1 hg hgr=>?_
 have hp1':=x1 _ _ hp
 refine aC (aA (Std.n_len (by assumption)) ak (ac (ao rfl ?_)))
 refine cS rfl ?_
 refine ah ?_
 refine bp (af hp1') (by rw[Dt];exact aB (au (ae [most,w.ps.length] [(0,120),(1,0),(.a 16777326 111,1)] rfl hm hp2))) ?_
 rw[Dt]
 refine aC (xF ?_)
 intro td htd
 have x2:ay H (an H1 td (.dci [])):=x1.more htd
 have t2:an H1 td (.dci []) td=some (.dci (bW [])):=aj ..
 have htd0:=x1.gone htd
 generalize an H1 td (.dci [])=H2 at x2 t2
 clear htd hp1' x1
 refine cA ?_
 refine aA (Std.n_range (by assumption)) aH (ac (aV rfl ?_))
 refine bc (by decide) ?_
 refine ah ?_
 refine cV ?_
 have hm3:0<=m % 3/\m % 3<3:=⟨D9 _ (by decide),D5 _ (by decide)⟩
 refine ⟨_,d7 rfl (by decide) (by decide) (by exact aY (am [m % 3] [(110,0),(11,.g 1000000)] rfl (qm m 3 rfl))) (by exact aY (am [m % 3] [(11,113),(.a 1000110 111,0)] rfl (qM m 3 rfl))),rfl,?_⟩
 refine ch (P:=fun i ρ H'=>∃ kk pl l,ρ = [some (w.v pa),some (.int c),some (.int m),some (.tup (g.map .int)),some (.int w.ps.length),some (.ref td),kk,pl,none,none,none,none]/\ay H H'/\H' td=some (.dci (bW l))/\l.length<=i /\ ∀ p∈l,0<=p.2/\p.2<w.ring)
  (nJ none none ([]) rfl x2 t2 (by simp) (fun p hp=>by simp at hp)) (fun i x ρ H' R hP hx hR=>?_) fun ρ H' hP=>?_
 ·refine cR hP fun kk pl l hr45_3 hx' ht hll hlr=>?_
  try clear hP
  subst hr45_3
  refine az (eA hx) fun hr46_0 hi=>?_
  subst hr46_0
  simp only[Fe]
  refine ⟨rfl,_,rfl,?_⟩
  refine aC (aE (aE (aV rfl ?_)))
  refine bj (by decide) (by decide) ?_
  refine aE (aO (aE (aO (ag rfl ?_))))
  refine ga ?_ (.of_left (by decide))
  refine bA ?_
  refine bj (by exact bE (am [i] [(.w 6 110,0),(.a 111 (.m 6 0),110)] rfl (q0 i))) (by exact bE (am [i,m % 3] [(.w 6 11,.s 1 110),(.w 6 21,113),(1073741934,.a 111 (.m 6 0))] rfl hi (qM m 3 rfl))) ?_
  refine ag rfl ?_
  refine bc (by exact bE (am [w.ps.length] [(111,0),(0,110)] rfl (ql hp1))) ?_
  refine eu (aE (aE (aV rfl ?_)))
  refine bj (by decide) (by decide) ?_
  refine aE (aO (aE (aO (ag rfl ?_))))
  refine ga ?_ (.of_left (by decide))
  refine bA ?_
  refine bj (by exact bE (am [i] [(.w 4 110,0),(.a 111 (.m 4 0),110)] rfl (q0 i))) (by exact bE (am [i,m % 3] [(.w 4 11,.s 1 110),(.w 4 21,113),(1073741934,.a 111 (.m 4 0))] rfl hi (qM m 3 rfl))) ?_
  refine ao rfl ?_
  refine bi rfl ?_
  refine bc (by exact bE (am [w.ring] [(112,0),(0,110)] rfl hr1)) ?_
  refine ag rfl (ag rfl ?_)
  refine wT ht (by simp[bW];exact aB (dF (am [l.length,i,m % 3] [(0,1),(21,.s 2 110),(31,113),(.a 16777326 111,0)] rfl (ql hll) hi (qM m 3 rfl)))) (aR ?_)
  rw[pN]
  refine hR _ _ (nJ _ _ _ rfl (hx'.mut htd0) (aj ..) ?_ (xp hlr ⟨D9 _ (by exact f9 (am [w.ring] [(112,0),(0,110),(.w 0 110,0)] rfl hr1)),D5 _ (by exact bE (am [w.ring] [(112,0),(0,110)] rfl hr1))⟩))
  have:=xo l (m / 3 / (1+6*(i:Int)) % (w.ps.length:Int)) (m / 40 / (1+4*(i:Int)) % w.ring);exact au (ae [l.length,i,(iE l (m / 3 / (1+6*(↑i:Int)) % (↑w.ps.length:Int)) (m / 40 / (1+4*(↑i:Int)) % w.ring)).length] [(0,1),(2,11),(.a 21 111,2)] rfl hll this)
 refine cR hP fun kk pl l hr71_3 hx' ht hll hlr=>?_
 try clear hP
 subst hr71_3
 refine ⟨rfl,?_⟩
 refine aC ?_
 refine bw Dr.fn ?_
 refine mH rfl rfl rfl ?_
 refine yF (w:=w) (pa:=pa) G S Dd hvd Dr hvr hw hm (hx' _ _ hp) ht hlr hg hgr fun b ds H3 x3 hb hb3 hdl hdr=>?_
 have x03:=hx'.trans x3
 refine aC (bu (ah ?_))
 refine ⟨by decide,fun se hse=>?_⟩
 have x4:ay H3 (an H3 se (.lst [])):=.new hse
 have s4:an H3 se (.lst []) se=some (.lst (prs (bW []))):=aj ..
 have hse0:=x03.gone hse
 generalize an H3 se (.lst [])=H4 at x4 s4
 have x04:=x03.trans x4
 have hb4:=x4 _ _ hb3
 have hbse:b≠se:=ay.ne hb3 hse
 clear hse x4 hb3 x3 x03 ht hlr hx'
 refine cA ?_
 refine aA (Std.n_range (by assumption)) aH (a9 rfl ?_)
 refine cV ?_
 refine ⟨_,d7 rfl (by decide) (by decide) (by exact aY (am [w.ps.length] [(110,0),(11,.g 1000000)] rfl (q0 w.ps.length))) (by exact aY (am [most,w.ps.length] [(0,120),(1,0),(.a 1000110 111,1)] rfl (ql hm) (ql hp2))),rfl,?_⟩
 refine ch (P:=fun i ρ H'=>∃ kk is dg sn,ρ = [some (w.v pa),some (.int c),some (.int m),some (.tup (g.map .int)),some (.int w.ps.length),some (.ref td),kk,pl,some (.ref b),some (.ref se),is,dg]/\ay H H'/\H' b=some (.lst (ds.map .int))/\H' se=some (.lst (prs (bW sn)))/\sn.length<=i /\
   sn.Pairwise (fun p q=>p.1<q.1) /\ ∀ p∈sn,(w.inp:Int)<=p.1/\p.1<(w.inp:Int)+(i:Int)/\0<=p.2/\p.2<w.ring)
  (rr kk none none ([]) rfl x04 hb4 s4 (by simp) .nil (fun p hp=>by simp at hp)) (fun i x ρ H' R hP hx hR=>?_) fun ρ H' hP=>?_
 ·refine vV hP fun kk' is dg sn hr96_4 hx' hb' hs' hsl hinc hsr=>?_
  try clear hP
  subst hr96_4
  refine az (eA hx) fun hr97_0 hi=>?_
  subst hr97_0
  simp only[Fe]
  have hip:i<w.ps.length:=by exact im (am [i,w.ps.length] [(11,.s 1 110),(1,0)] rfl hi)
  refine ⟨rfl,_,rfl,?_⟩
  have app:∀ bo dg0,aM C ⟨n+2,true⟩ [.asg 11 (.sub (.nm 8) (.bin .Add (.sub (.nm 0) (.ci 1)) (.nm 6))),
    .ife (.cmp .Eq (.bin .Mod (.bin .FloorDiv (.nm 2) (.ci 11)) (.ci 9)) (.ci 5)) [.asg 11 (.bin .Mod (.bin .Add (.nm 11) (.bin .FloorDiv (.nm 2) (.bin .Add (.ci 13) (.nm 6)))) (.sub (.nm 0) (.ci 0)))] [],
    .ife (.bop .And [(.cmp .Gt (.bin .Mod (.bin .FloorDiv (.nm 2) (.ci 11)) (.ci 9)) (.ci 5)),(.cmp .Eq (.nm 6) (.bin .Sub (.nm 4) (.ci 1)))]) [.asg 11 (.bin .Mod (.bin .Add (.nm 11) (.ci 1)) (.sub (.nm 0) (.ci 0)))] [],
    .exp (.meth (.nm 9) "append" [(.tup [(.bin .Add (.sub (.nm 0) (.ci 1)) (.nm 6)),(.nm 11)])])]
    [some (w.v pa),some (.int c),some (.int m),some (.tup (g.map .int)),some (.int w.ps.length),some (.ref td),some (.int (i:Int)),pl,some (.ref b),some (.ref se),some (.bool bo),dg0] H' (fun f ρ' H'=>match f with | .next=>R ρ' H' | .ret v=>Q v H') (fun c zz H'=>X c H'):=by
   intro bo dg0
   refine aC (aQ (ag rfl (aE (ao rfl ?_))))
   refine bM rfl ?_
   refine ag rfl (bA ?_)
   rw[show (w.inp:Int)+(i:Int)=((w.inp+i:Nat):Int) by exact eV (am [w.inp,i] [(.a (.a 0 1) 111,.a 0 1)] rfl) (am [w.inp,i] [(.a (.a 0 1) 111,.a 0 1)] rfl)]
   refine aN (i:=w.inp+i) (af hb') (by rw[Dt];exact aB (au (ae [most,w.inp,w.ps.length,ds.length] [(0,120),(1,116),(2,0),(3,.a 1 2),(.a 16777326 111,3)] rfl hm hi2 hp2 (me hdl)))) (x:=.int (ds.getD (w.inp+i) 0)) (cj (by exact be (ae [w.inp,w.ps.length,ds.length,i] [(.a 0 1,2),(41,1),(2,.a 0 3)] rfl (mf hdl) hip))) ?_
   have hd0:=hdr.getD (by exact bE (am [w.ring] [(112,0),(0,110)] rfl hr1)) (w.inp+i)
   generalize ds.getD (w.inp+i) 0=d0 at hd0
   refine eX (J:=fun ρ' H''=>∃ d1,0<=d1/\d1<w.ring/\ρ' = [some (w.v pa),some (.int c),some (.int m),some (.tup (g.map .int)),some (.int w.ps.length),some (.ref td),some (.int (i:Int)),pl,some (.ref b),some (.ref se),some (.bool bo),some (.int d1)]/\H''=H') (fun ρ' H'' hJ=>?_) fun R' hR'=>?_
   rotate_left
   ·refine aK (aE (aV rfl ?_))
    refine bj (by decide) (by decide) ?_
    refine aO ?_
    refine bc (by decide) ?_
    refine aO (bx (ai ?_))
    split
    ·refine aC (aE (aE (ag rfl (aE (ag rfl (aE (aO (ag rfl (bA ?_)))))))))
     refine bj (by exact bE (am [i] [(110,0),(.a 123 0,110)] rfl (q0 i))) (by exact bE (am [most,w.ps.length,i] [(0,120),(1,0),(31,1),(1073741934,.a 123 2)] rfl (ql hm) (ql hp2) (ql hip))) ?_
     refine bA (ao rfl ?_)
     refine bi rfl ?_
     refine bc (by exact bE (am [d0,w.ring] [(110,0),(11,1),(1,110)] rfl hd0.1 hd0.2)) ?_
     exact aR (hR' _ _ ⟨_,D9 _ (by exact f9 (am [d0,w.ring] [(110,0),(11,1),(1,110),(.w 0 110,1)] rfl hd0.1 hd0.2)),D5 _ (by exact bE (am [d0,w.ring] [(110,0),(11,1),(1,110)] rfl hd0.1 hd0.2)),rfl,rfl⟩)
    ·exact aR (hR' _ _ ⟨_,hd0.1,hd0.2,rfl,rfl⟩)
   refine cY hJ fun d1 hd1 hd2 hr130_3 hr130_4=>?_
   try clear hJ
   subst hr130_3
   subst hr130_4
   refine eX (J:=fun ρ' H2=>∃ d1,0<=d1/\d1<w.ring/\ρ' = [some (w.v pa),some (.int c),some (.int m),some (.tup (g.map .int)),some (.int w.ps.length),some (.ref td),some (.int (i:Int)),pl,some (.ref b),some (.ref se),some (.bool bo),some (.int d1)]/\H2=H'') (fun ρ' H2 hJ=>?_) fun R' hR'=>?_
   rotate_left
   ·have h0:R' [some (w.v pa),some (.int c),some (.int m),some (.tup (g.map .int)),some (.int w.ps.length),some (.ref td),some (.int (i:Int)),pl,some (.ref b),some (.ref se),some (.bool bo),some (.int d1)] H'':=hR' _ _ ⟨_,hd1,hd2,rfl,rfl⟩
    refine cO (eE (aK (aE (aV rfl ?_))))
    refine bj (by decide) (by decide) ?_
    refine aO ?_
    refine bc (by decide) ?_
    refine aO (mK (ai ?_))
    split
    ·refine eE (aK (ag rfl (aV rfl (bZ (bx (ai ?_))))))
     split
     ·refine iJ (bC (aC (aE (aV rfl (bA (ao rfl ?_))))))
      refine bi rfl ?_
      refine bc (by exact bE (am [d1,w.ring] [(110,0),(11,1),(1,110)] rfl hd1 hd2)) ?_
      exact aR (hR' _ _ ⟨_,D9 _ (by exact f9 (am [d1,w.ring] [(110,0),(11,1),(1,110),(.w 0 110,1)] rfl hd1 hd2)),D5 _ (by exact bE (am [d1,w.ring] [(110,0),(11,1),(1,110)] rfl hd1 hd2)),rfl,rfl⟩)
     ·refine bf ?_
      refine aR ?_;exact h0
    ·refine bf ?_
     refine aR ?_;exact h0
   clear hd1 hd2
   refine cY hJ fun d2 hd1 hd2 hr151_3 hr151_4=>?_
   try clear hJ
   subst hr151_3
   subst hr151_4
   refine cD (bG (ag rfl ?_))
   refine ⟨_,cL hs',ak,?_⟩
   refine ac (bJ (ac (aE (ao rfl ?_))))
   refine bM rfl ?_
   refine ag rfl (bA (a9 rfl ?_))
   refine ⟨show 2<=Dz by decide,?_⟩
   refine ah ?_
   refine du hs' (by simp[prs,bW];exact aB (au (ae [most,w.ps.length,sn.length,i] [(0,120),(1,0),(2,3),(41,1),(.a 16777326 111,2)] rfl hm hp2 hsl hip))) (aR (hR _ _ (rr _ _ _ (sn ++ [((w.inp:Int)+(i:Int),d2)]) rfl (hx'.mut hse0) ?_ ?_ ?_ ?_ ?_)))
   ·rw[aP hbse];exact hb'
   ·rw[aj];simp[prs,bW]
   ·simp;exact au (ae [sn.length,i] [(0,1),(21,0)] rfl hsl)
   ·exact HL.mpr ⟨hinc,by simp,fun p hp q hq=>by simp at hq;subst hq;exact (hsr p hp).2.1⟩
   ·intro p hp
    rcases El.mp hp with q | q
    ·have:=hsr p q;exact ⟨aY (am [w.inp,p.fst] [(0,1),(21,0)] rfl this.1),⟨bE (am [p.fst,w.inp,i] [(11,.a 1 2),(.a 1 31,0)] rfl this.2.1),⟨aY (am [p.snd] [(110,0),(11,110)] rfl this.2.2.1),bE (am [p.snd,w.ring] [(11,1),(1,0)] rfl this.2.2.2)⟩⟩⟩
    ·simp at q;subst q;dsimp only;exact ⟨aY (am [i,w.inp] [(110,0),(.a (.a 1 0) 111,1)] rfl (q0 i)),⟨bE (am [w.inp,i] [(.a 0 21,.a 0 1)] rfl),⟨aY (am [d2] [(110,0),(11,110)] rfl hd1),bE (am [d2,w.ring] [(11,1),(1,0)] rfl hd2)⟩⟩⟩
  have skip:∀ bo,R [some (w.v pa),some (.int c),some (.int m),some (.tup (g.map .int)),some (.int w.ps.length),some (.ref td),some (.int (i:Int)),pl,some (.ref b),some (.ref se),some (.bool bo),dg] H':=fun bo=>
   hR _ _ (rr _ _ _ sn rfl hx' hb' hs' (by exact au (ae [sn.length,i] [(0,1),(.a 21 111,0)] rfl hsl)) hinc (fun p hp=>by have:=hsr p hp;exact ⟨aY (am [w.inp,p.fst] [(0,1),(21,0)] rfl this.1),⟨bE (am [p.fst,w.inp,i] [(11,.a 1 2),(.a 1 31,0)] rfl this.2.1),⟨aY (am [p.snd] [(110,0),(11,110)] rfl this.2.2.1),bE (am [p.snd,w.ring] [(11,1),(1,0)] rfl this.2.2.2)⟩⟩⟩))
  refine aC (c6 (aE (aE (aV rfl ?_))))
  refine bj (by decide) (by decide) ?_
  refine aE (aO (ag rfl (bA ?_)))
  refine bj (by exact bE (am [i] [(110,0),(.a 111 0,110)] rfl (q0 i))) (by exact bE (am [most,w.ps.length,i] [(0,120),(1,0),(31,1),(1073741934,.a 111 2)] rfl (ql hm) (ql hp2) (ql hip))) ?_
  refine aO ?_
  refine bc (by decide) ?_
  refine aO (bx (aI (cO (cC (zF (ag rfl (ai ?_)))))))
  split
  ·exact app _ _
  ·refine cC (cO (eE (aK (ag rfl (aV rfl (bZ (bx (ai ?_))))))))
   split
   ·refine eE (aK (aE (aV rfl ?_)))
    refine bj (by decide) (by decide) ?_
    refine aO ?_
    refine bc (by decide) ?_
    refine aO (mK (ai ?_))
    split
    ·exact app _ _
    ·refine bf (cM (bf (aL ?_)))
     refine aR ?_;exact skip _
   ·refine bf (cM (bf (aL ?_)))
    refine aR ?_;exact skip _
 ·refine vV hP fun kk' is dg sn hr192_4 hx' hb' hs' hsl hinc hsr=>?_
  try clear hP
  subst hr192_4
  refine ⟨rfl,?_⟩
  rw[c9] at hsl hsr
  refine aX (bJ (a8 rfl (ac (aA (Std.n_tuple (by assumption)) aH (a9 rfl ?_)))))
  refine fH (af hs') (by simp[prs,bW];exact aB (dF (am [most,w.ps.length,sn.length,((↑w.ps.length:Int)-0).toNat] [(0,120),(1,0),(2,3),(3,.s 1 110),(.a 16777326 111,2)] rfl (ql hm) (ql hp2) (ql hsl) (qT (am [w.ps.length] [(110,0),(.a (.s 0 110) 111,110)] rfl (q0 w.ps.length)))))) ?_
  refine ah ?_
  refine ⟨show 2<=Dz by decide,?_⟩
  exact K g sn H' hx' ⟨hg,hgr,hinc,fun p hp=>by have:=hsr p hp;(clear hvg hvd hvr hv hm hz hi2 hr1 hp2 hp1 hg hm3 hll hdl hbse hsl;omega),by exact dF (am [most,w.ps.length,sn.length,((↑w.ps.length:Int)-0).toNat] [(0,120),(1,0),(2,3),(3,.s 1 110),(.a 210 111,2)] rfl (ql hm) (ql hp2) (ql hsl) (qT (am [w.ps.length] [(110,0),(.a (.s 0 110) 111,110)] rfl (q0 w.ps.length))))⟩
end
end
section
open PySem PyProof.Rows
section
variable {w:Wk}{ey:Int->Option Int}{fr:Nat->Bool}{g:List Int}{sn:List (Int × Int)}{br:List Nat}{most:Nat}
theorem qI {line:Nat}{e:Int}(he:ey line=some e):∀ (rest:List Pt) (k:Nat) (ds:List Int),ds.length=w.inp+k->w.inp+k<=line->line<w.inp+k+rest.length -> ∀ r∈rows w ey fr rest k ds,r.getD line 0=e
 | [],k,ds,_,h1,h2,r,hr=>by simp at h2;exact eV (am [w.inp,k,line,r.getD line 0,e] [(.a 0 1,2),(31,.a 0 1),(.w 0 41,4)] rfl (ql h1) (ql h2)) (am [w.inp,k,line,e,r.getD line 0] [(.a 0 1,2),(31,.a 0 1),(.w 0 41,4)] rfl (ql h1) (ql h2))
 | p::rest,k,ds,hl,h1,h2,r,hr=>by
  simp only[rows,Hf] at hr
  refine ad hr fun d hd hr=>?_
  by_cases hk:w.inp+k=line
  ·rw[jN _ _ _ r hr line (by simp;exact be (ae [w.inp,k,ds.length,line] [(.a 0 1,2),(3,.a 0 1),(31,3)] rfl (mf hl) (mf hk)))]
   unfold eF at hd
   have hd:=(Ep.mp hd).2
   rw[show (w.inp:Int)+(k:Int)=(line:Int) by exact eV (am [line,w.inp,k] [(0,.a 1 2),(.a (.a 1 2) 111,0)] rfl (qf hk)) (am [w.inp,k,line] [(.a 0 1,2),(31,.a 0 1)] rfl (qe hk)),he] at hd
   have hd:e=d:=by simpa using hd
   rw[show line=ds.length by exact cy (ae [ds.length,w.inp,k,line] [(0,.a 1 2),(.a 1 2,3),(41,0)] rfl (me hl) (me hk)) (ae [w.inp,k,ds.length,line] [(.a 0 1,2),(3,.a 0 1),(31,3)] rfl (mf hl) (mf hk)),DL,D1 (Ea _)]
   simp[hd]
  ·simp at h2
   exact qI he rest (k+1) _ (by simp;exact cy (ae [w.inp,k,ds.length] [(.a 0 1,2),(.a 31 111,.a 0 21)] rfl (mf hl)) (ae [ds.length,w.inp,k] [(0,.a 1 2),(.a (.a 1 31) 111,11)] rfl (me hl))) (by (clear hl h2;lia)) (by exact be (ae [line,w.inp,k,rest.length] [(11,.a (.a 1 2) 41),(.a (.a 1 31) 3,0)] rfl h2)) r hr
theorem xm (hinc:sn.Pairwise fun p q=>p.1<q.1)(j:Int):dI sn j = [] ∨ ∃ e,dI sn j = [e]:=by
 unfold dI
 have hp:(sn.filter fun p=>p.1==j).Pairwise fun p q=>p.1<q.1:=hinc.filter _
 have hm:∀ p∈sn.filter (fun p=>p.1==j),p.1=j:=fun p hp=>by simpa using (Ep.mp hp).2
 generalize sn.filter (fun p=>p.1==j)=l at hp hm
 rcases l with _ | ⟨p,_ | ⟨q,l⟩⟩
 ·exact .inl rfl
 ·exact .inr ⟨p.2,rfl⟩
 ·have h1:=hm p (by simp);have h2:=hm q (by simp)
  have:=(F7.mp hp).1 q (by simp)
  lia
noncomputable def tG (w:Wk) (g:List Int) (sn:List (Int × Int)) (br:List Nat) (line:Nat):List Int:=(rows w (bI (cF sn)) (fun k=>decide (k∈br)) w.ps 0 g).map fun r=>r.getD line 0
theorem uT {line:Nat}(hw:w.Ok most)(L:LkOk w g sn):∀ x∈tG w g sn br line,0<=x/\x<w.ring:=fun x hx=>by
 refine ad (Ef.mp hx) fun r hr hr78_2=>?_
 subst hr78_2
 have:=hw.r1
 exact (mm (by exact bE (am [w.ring] [(112,0),(0,110)] rfl this)) _ _ _ L.gr r hr).getD (by exact bE (am [w.ring] [(112,0),(0,110)] rfl this)) line
theorem tU {line:Nat}(hw:w.Ok most)(L:LkOk w g sn)(hline:line<w.inp+w.ps.length)(x:Int):x∈d8 w g sn br line ↔ x∈tG w g sn br line:=by
 have hr1:=hw.r1;have hgl:=L.gl
 unfold tG
 rw[Ef]
 unfold d8
 split
 ·rename_i hlt
  have key:∀ r∈rows w (bI (cF sn)) (fun k=>decide (k∈br)) w.ps 0 g,r.getD line 0=g.getD line 0:=fun r hr=>jN _ _ _ r hr line (by exact be (ae [w.inp,g.length,line] [(0,1),(31,0),(1,2)] rfl (mf hgl) hlt))
  split
  ·rename_i hn
   rw[hn];simp
  ·rename_i hne
   refine aF (List.exists_mem_of_ne_nil _ hne) fun r hr=>?_
   constructor
   ·intro hx
    have hx:x=g.getD line 0:=by simpa using hx
    exact ⟨r,hr,by rw[hx,key r hr]⟩
   ·rintro ⟨r,hr,rfl⟩
    rw[key r hr];simp
 ·rename_i hge
  have hge:w.inp<=line:=by exact au (ae [w.inp,line] [(0,1),(21,0)] rfl (mn hge))
  have more:∀ d,(bI (cF sn) line=none ∨ bI (cF sn) line=some d)->(rows w (bI (cF (sn ++ [((line:Int),d)]))) (fun k=>decide (k∈br)) w.ps 0 g ≠ [] ↔ ∃ r∈rows w (bI (cF sn)) (fun k=>decide (k∈br)) w.ps 0 g,r.getD line 0=d):=fun d hd=>by
   have:=oO (w:=w) (fr:=fun k=>decide (k∈br)) (fun j=>oP sn line d j) hd w.ps 0 g (by (clear hline hr1 hge hd;omega)) (by (clear hline hr1 hgl hge hd;omega)) (by (clear hr1 hgl hge hd;omega))
   simpa using this
  have ht:=iX line _ sn rfl
  rw[Ep]
  constructor
  ·rintro ⟨h1,h2⟩
   have h2:=of_decide_eq_true h2
   refine (more x ?_).mp h2.2
   rcases h2.1 with q | q
   ·left;rw[ht,q];rfl
   ·right;rw[ht,q];rfl
  ·rintro ⟨r,hr,rfl⟩
   have hrg:=(mm (by exact bE (am [w.ring] [(112,0),(0,110)] rfl hr1)) _ _ _ L.gr r hr).getD (by exact bE (am [w.ring] [(112,0),(0,110)] rfl hr1)) line
   refine ⟨Ef.mpr ⟨(r.getD line 0).toNat,Fs.mpr (by exact im (am [r.getD line 0,w.ring,(r.getD line 0).toNat,w.ring.toNat] [(11,1),(2,0),(1,3),(3,2)] rfl hrg.2 (qT (am [r.getD line 0] [(110,0),(11,110)] rfl hrg.1)) (qt w.ring))),by exact eV (am [r.getD line 0,(r.getD line 0).toNat] [(0,1),(21,0)] rfl (qt (r.getD line 0))) (am [(r.getD line 0).toNat,r.getD line 0] [(0,1),(21,0)] rfl (qT (am [r.getD line 0] [(110,0),(11,110)] rfl hrg.1)))⟩,?_⟩
   refine decide_eq_true ?_
   rcases xm L.inc line with q | ⟨e,q⟩
   ·exact ⟨.inl q,(more _ (.inl (by rw[ht,q];rfl))).mpr ⟨r,hr,rfl⟩⟩
   ·have h3:bI (cF sn) line=some e:=by rw[ht,q];rfl
    have h4:r.getD line 0=e:=qI h3 _ 0 _ (by (clear hline hr1 hge hrg;omega)) (by (clear hline hr1 hgl hge hrg;omega)) (by (clear hr1 hgl hge hrg;omega)) r hr
    exact ⟨.inr (by rw[q,h4]),(more _ (.inr (by rw[h3,h4]))).mpr ⟨r,hr,rfl⟩⟩
end
end
section
open PySem PyProof.Rows
section
variable {w:Wk}{ey:Int->Option Int}{fr fr':Nat->Bool}{most:Nat}{LL:List (List Int × List (Int × Int))}
noncomputable def gX (w:Wk) (br:List Nat) (L:List Int × List (Int × Int)):Bool:=decide (rows w (bI (cF L.2)) (fun k=>decide (k∈br)) w.ps 0 L.1 ≠ [])
noncomputable def room (w:Wk) (LL:List (List Int × List (Int × Int))) (br:List Nat):Bool:=LL.all (gX w br)
end
end
section
open PySem PyProof.Rows
noncomputable def rF:Vs:=[fj "work",aq "looks",fj "broken"]
noncomputable def mW:List St :=
  [.ret (.call "all" [(.comp 1 (.cmp .IsNot (.call "least_digits" [(.nm 0),(.nm 3),(.nm 2)]) .cn) (.nm 1) [])])]
noncomputable abbrev Lk:=List Int × List (Int × Int)
noncomputable def bh (L:Lk):V:=.tup [.tup (L.1.map .int),.tup (prs (bW L.2))]
structure LksOk (w:Wk)(LL:List Lk):Prop where
 ok:∀ L∈LL,LkOk w L.1 L.2
 len:LL.length<=100
structure WlD (C:Cx):Prop where
 G:C.Good
 S:Std C
 N:WkA C
 o:bq C "given_of" ew 3 ec
 w:bq C "wanted_from" d9 2 dP
 c:Cls C "Walk" eS 4 eB
 mc:Mth C "Walk" "choices" dc 3 cT
 mg:Mth C "Walk" "grown" dO 2 cX
 l:bq C "least_digits" fV 3 fe
 h:bq C "has_room" rF 3 mW
section
variable {C:Cx}{X:XP}{n:Nat}{H:MH}{Q:V->MH->Prop}{w:Wk}{pa lk:Addr}{br:List Nat}{LL:List Lk}{most:Nat}
theorem rE (W:WlD C)(hw:w.Ok most)(hm:most<=7)(hp:H pa=some (.lst (w.ps.map Pt.v)))(hk:H lk=some (.lst (LL.map bh)))(hL:LksOk w LL)
  (K:∀ H',ay H H'->Q (.bool (room w LL br)) H'):bB C ⟨n+16,true⟩ "has_room" [w.v pa,.ref lk,bH br] H Q X:=by
 have hz:10000<Dz:=by decide
 have hll:=hL.len
 have G:=W.G;have S:=W.S
 refine W.h.call G rfl ?_
 unfold mW
 rw[show w.v pa = .tup [.int w.ring,.int w.inp,.ref pa] from rfl]
 refine aX (aA (Std.n_all (by assumption)) ak (ac ?_))
 refine cU ?_
 refine ag rfl ?_
 refine ⟨_,⟨.inl rfl,fun zz zz zz e=>by cases e⟩,af hk,by rw[Dt];exact aB (au (ae [LL.length] [(0,210),(.a 16777326 111,0)] rfl hll)),?_⟩
 refine cq (P:=fun i acc H'=>acc=((LL.take i).map (gX w br)).map .bool/\ay H H') ⟨rfl,.refl _⟩ (fun i x acc H' R hP hx hR=>?_) fun acc H' hP=>⟨?_,?_⟩
 ·refine az hP fun hr89_0 hx'=>?_
  try clear hP
  subst hr89_0
  rw[DC,DE] at hx
  refine ad hx fun L hLi hr91_2=>?_
  try clear hx
  subst hr91_2
  have hok:=hL.ok L (DQ hLi)
  have hsl:=hok.len
  refine ⟨af (hx' _ _ hk),_,rfl,?_⟩
  have hs:∀ b,gX w br L=b->((LL.take (i+1)).map (gX w br)).map V.bool=((LL.take i).map (gX w br)).map .bool ++ [.bool b]:=fun b hb=>by
   rw[D7,hLi,DO,DO]
   show _ ++ [V.bool (gX w br L)]=_
   rw[hb]
  refine dR (bC (c6 ?_))
  refine bw W.l.fn ?_
  refine ac (ag rfl (ac (ag rfl (ac (ag rfl (ah ?_))))))
  refine lW (w:=w) (pa:=pa) (g:=L.1) (sn:=L.2) (br:=br) G S W.N W.o W.w W.c W.mc W.mg W.l hw hm (by exact au (ae [L.snd.length] [(0,210),(.a 1110 111,0)] rfl hsl)) (hx' _ _ hp) hok.gl fun v H1 x1 hv=>?_
  have d0:(v = .none/\rows w (bI (cF L.2)) (fun k=>decide (k∈br)) w.ps 0 L.1 = []) ∨ ((∃ c,v = .ref c)/\rows w (bI (cF L.2)) (fun k=>decide (k∈br)) w.ps 0 L.1 ≠ []):=hv
  rcases d0 with ⟨rfl,hn⟩ | ⟨⟨c,rfl⟩,hne⟩
  ·refine ee (hR _ _ ⟨?_,hx'.trans x1⟩)
   rw[hs false]
   unfold gX;rw[hn];simp
  ·refine gb (hR _ _ ⟨?_,hx'.trans x1⟩)
   rw[hs true]
   unfold gX;exact decide_eq_true hne
 ·refine az hP fun hr111_0 hx'=>?_
  try clear hP
  subst hr111_0
  exact af (hx' _ _ hk)
 refine az hP fun hr113_0 hx'=>?_
 try clear hP
 subst hr113_0
 rw[show (LL.map bh).length=LL.length from Dt ..,Ec]
 refine ⟨by simp;exact aB (au (ae [LL.length] [(0,210),(.a 16777326 111,0)] rfl hll)),fun r hr=>?_⟩
 refine ah ?_
 refine mP rfl (aj ..) ?_
 rw[show (LL.map (gX w br)).all id=room w LL br by unfold room;rw[List.all_map];rfl]
 exact K _ (hx'.more hr)
end
end
section
open PySem PyProof.Rows PySem.W
section
variable {C:Cx}{d:Md}{H:MH}{A:D4}{s:Shared}{Q:V->MH->Prop}{X:XP}
theorem nf {a:Addr}{l:List V}{m id:String}(h:H a=some (.lst l))(sl:Slot "list" (Dn m) id)(ty:typeOf (.builtin id)=pure (.type "method_descriptor")):j_ C d (.ref a) m (.builtin id) H:=oI h sl ty
theorem lu {a:Addr}{l l':List V}{items:Array Value}{k:Nat}{f:Array Value->Array Value}(ok:Ok C d H A s)(h:H a=some (.lst l))(h0:C.h0.get? a=none)(hL:s.heap.get? a=some { cls:=.type "list",data:=.seq items k })(key:aJ C s.heap l' (f items).toList) :
  Step C No H s (an H a (.lst l')) { s with heap:=s.heap.update a (EM f) }:=by
 refine Step.mut (o:=.lst l') ok.rel ok.top (by rw[h];rfl) h0 (EO ..) (fun ob hob=>?_) (fun ob es ep hob hd=>?_) (fun vk=>⟨h0,f items,⟨if (f items).size==items.size then k else k+1,?_⟩,key.keep vk⟩) rfl rfl
 ·rw[hL] at hob;cases hob;exact .inr (.inr ⟨"list",rfl,by decide,by decide⟩)
 ·rw[hL] at hob;cases hob;cases hd
 ·exact (Ew (EM f) hL rfl).trans rfl
theorem oy {a b:Addr}{l m:List V}(h:H a=some (.lst l))(h2:H b=some (.lst m))(hl:l.length+m.length<=Dz)(q:Q .none (an H a (.lst (l++m)))):bn C d (.builtin "list.extend") [.ref a,.ref b] H Q X:=fun A s cs ok rs=>by
 refine aG (iM rs) fun c e hr26_2 r r'=>?_
 subst hr26_2
 dsimp only[VR] at r;dsimp only[VR] at r';subst r r'
 obtain ⟨h0,items,⟨k,hL⟩,rs⟩:=ok.rel _ _ h
 obtain ⟨_,items2,⟨k2,hL2⟩,rs2⟩:=ok.rel _ _ h2
 have hn:=rs.length;have hn2:=rs2.length
 simp only[DS] at hn hn2
 refine call_meets PySem.F.slot_list_extend ⟨_,hL,rfl⟩ PySem.F.entry_list_extend (PySem.F.args_list_extend_2 _ _) (AutoSeq1.list_extend_list_list_0 a items k b items2 k2 (extend_door (by exact aB (au (ae [l.length,m.length,items.size,items2.size] [(.a 0 1,16777326),(2,0),(3,1),(.a 16777326 111,.a 2 3)] rfl (gO hl) (mf hn) (mf hn2))))) (by exact aB (au (ae [l.length,m.length,items.size] [(.a 0 1,16777326),(2,0),(.a 16777326 111,2)] rfl (gO hl) (mf hn)))) (by lia)) ⟨hL,hL2,?_⟩
 exact jn (lu (f:=fun x=>x++items2) ok h h0 hL (by rw[Array.toList_append];exact rs.append rs2)) .none_ q
theorem wc {a:Addr}{l:List V}(h:H a=some (.lst l))(hl:l.length<=Dz)(q:Q .none (an H a (.lst []))):bn C d (.builtin "list.clear") [.ref a] H Q X:=fun A s cs ok rs=>by
 refine ad (dS rs) fun c hr36_1 r=>?_
 subst hr36_1
 dsimp only[VR] at r;subst r
 obtain ⟨h0,items,⟨k,hL⟩,rs⟩:=ok.rel _ _ h
 have hn:=rs.length
 simp only[DS] at hn
 refine call_meets PySem.F.slot_list_clear ⟨_,hL,rfl⟩ PySem.F.entry_list_clear (PySem.F.args_list_clear_1 _) (AutoSeq1.list_clear_list_0 a items k (by exact aB (au (ae [l.length,items.size] [(0,16777326),(1,0),(.a 16777326 111,1)] rfl (gO hl) (mf hn))))) ⟨hL,?_⟩
 exact jn (lu (f:=fun zz=>#[]) ok h h0 hL aJ.nil) .none_ q
theorem iw {a:Addr}{l:List V}{i:Nat}{x:V}{Q:MH->Prop}(h:H a=some (.lst l))(hi:i<l.length)(hl:l.length<=Dz)(q:Q (an H a (.lst (l.set i x)))):k6 C d (.ref a) (.int i) x H Q X:=fun A s co ci cv ok ro ri rx=>by
 dsimp only[VR] at ro;dsimp only[VR] at ri;subst ro;obtain ⟨t,rfl⟩:=ri
 obtain ⟨h0,items,⟨k,hL⟩,rs⟩:=ok.rel _ _ h
 have hn:=rs.length
 simp only[DS] at hn
 have hz:Dz<2 ^ 62:=by decide
 refine ki_setAt hL (by exact aY (am [i] [(110,0),(11,110)] rfl (q0 i))) (by exact bE (am [i,l.length] [(11,1),(1,16777326),(9223372036854775918,0)] rfl (ql hi) (my hl))) (by exact bE (am [i,l.length,items.size] [(11,1),(1,2),(2,0)] rfl (ql hi) (qe hn))) ⟨_,lu ok h h0 hL ?_,q⟩
 rw[Array.toList_setIfInBounds]
 exact rs.set i rx
theorem uL {a:Addr}{ns:List Int}(ok:Ok C d H A s)(h:aS H (.ref a)=some (ns.map .int)):∃ vs:List Value,s.heap.IsList a vs.toArray/\Gw vs ns:=by
 refine ad (dL ok.rel h) fun items hL rs=>?_
 exact ⟨items.toList,by simpa using hL,jV rs⟩
theorem yl {a:Addr}{ns:List Int}(hq:d.q=true)(h:aS H (.ref a)=some (ns.map .int))(hne:0<ns.length)(q:∀ M,M∈ns->(∀ x∈ns,x<=M)->Q (.int M) H):bn C d (.builtin "max") [.ref a] H Q X:=fun A s cs ok rs=>by
 refine ad (dS rs) fun c hr59_1 r=>?_
 subst hr59_1
 dsimp only[VR] at r;subst r
 refine ad (uL ok h) fun vs hl hi=>?_
 refine aF hi.allInts.items fun xs e=>?_
 have hns:ns=xs.toList.map (·.1):=by rw[<- hi.numsOf,<- nums_intItems,<- e]
 have hsz:0<xs.size:=by have h3:=hne;rw[hns,Dt,DS] at h3;exact h3
 rw[e] at hl
 refine max_intList (ok.none hq) hl hsz fun v h' tk hv hk=>?_
 refine aF (intItems_at hv) fun t hr67_1=>?_
 subst hr67_1
 refine az (argBest_gt (numAt xs) (xs.size-1)) fun h1 h2=>?_
 refine qp (Step.keeps ok.rel ok.top hk rfl rfl) .int_ (q _ ?_ fun x hx=>?_)
 ·rw[hns,numAt_eq];exact getD_mem (by rw[Dt,DS];exact be (ae [argBest (fun i j=>decide (numAt xs i>numAt xs j)) (xs.size-1),xs.size-1,xs.size] [(0,1),(.a 1 111,2),(2,0)] rfl h1 (md (ae [xs.size] [(.a 110 111,0),(11,111)] rfl hsz))))
 ·rw[hns] at hx
  refine ad (mem_getD hx) fun j hj hr72_2=>?_
  subst hr72_2
  rw[Dt,DS] at hj
  rw[<- numAt_eq];exact h2 j (by exact au (ae [j,xs.size,xs.size-1] [(11,1),(1,.a 2 111),(31,0)] rfl hj (ms xs.size 1)))
end
end
section
set_option maxHeartbeats 1000000
open PySem PyProof.Rows
noncomputable def jP:Vs:=[aq "many",aq "found",aq "row",aq "longer",fj "one",aq "first"]
noncomputable def iV:List St :=
  [.asg 1 (.lst [(.tup [])]),
  .asg 2 (.lst [(.tup [])]),
  .whl (.cmp .NotEq (.nm 2) (.lst [])) [.asg 3 (.lst []),
  .for [4] (.pl (.nm 2)) [.asg 5 (.ci 0),
  .ife (.cmp .NotEq (.nm 4) (.tup [])) [.asg 5 (.bin .Add (.sub (.nm 4) (.una .USub (.ci 1))) (.ci 1))] [],
  .exp (.meth (.nm 3) "extend" [(.comp 1 (.bin .Add (.nm 4) (.tup [(.nm 6)])) (.call "range" [(.nm 5),(.nm 0)]) [])])],
  .exp (.meth (.nm 1) "extend" [(.nm 3)]),
  .asg 2 (.nm 3)],
  .ret (.nm 1)]
noncomputable def ie:Vs:=[aq "one",fj "other"]
noncomputable def gn:List St :=
  [.ret (.call "all" [(.comp 1 (.cmp .In (.nm 2) (.nm 1)) (.nm 0) [])])]
noncomputable def j0:Vs:=[aq "work",aq "looks",aq "found",fj "one"]
noncomputable def ij:List St :=
  [.asg 2 (.lst []),
  .for [3] (.pl (.call "sets_of" [(.call "len" [(.sub (.nm 0) (.ci 2))])])) [.ife (.bop .And [(.una .Not (.call "any" [(.comp 1 (.call "is_within" [(.nm 4),(.nm 3)]) (.nm 2) [])])),(.call "has_room" [(.nm 0),(.nm 1),(.nm 3)])]) [.exp (.meth (.nm 2) "append" [(.nm 3)])] []],
  .ret (.nm 2)]
noncomputable def dT (one:List Nat):Nat:=match one.getLast? with | none=>0 | some x=>x+1
noncomputable def dl (m:Nat) (one:List Nat):List (List Nat):=(DU (m-dT one)).map fun j=>one ++ [dT one+j]
noncomputable def fW (m:Nat):Nat->List (List Nat)
 | 0=>[[]]
 | k+1=>(fW m k).flatMap (dl m)
noncomputable def cK (m:Nat):Nat->List (List Nat)
 | 0=>[[]]
 | k+1=>cK m k++fW m (k+1)
theorem uQ:∀ m,m<8->fW m (m+1) = []/\(∀ k,k<m+1->fW m k ≠ []) /\ ∀ k,k<9->(fW m k).length<=100/\(cK m k).length<=200/\(fW m k).all (fun one=>decide (one.length<=8)&&decide (dT one<=8))=true:=by decide +kernel
theorem jk:∀ m,m<8->(cK m m).all (fun one=>decide (one.Pairwise (· < ·))&&one.all (fun x=>decide (x<m))&&decide (one.length<=8))=true/\(cK m m).length<=200:=by decide +kernel
theorem uC {α β:Type}(f:α->List β)(l:List α)(i:Nat):((l.take i).flatMap f).length<=(l.flatMap f).length:=by
 have:l.flatMap f=(l.take i).flatMap f++(l.drop i).flatMap f:=by rw[<- List.flatMap_append,List.take_append_drop]
 rw[this,DZ];exact au (ae [(List.flatMap f (List.take i l)).length,(List.flatMap f (List.drop i l)).length] [(.a (.a 0 1) 111,0)] rfl)
theorem oB {α β:Type}{f:α->List β}{l:List α}{i:Nat}{x:α}(h:l[i]? = some x):(l.take (i+1)).flatMap f=(l.take i).flatMap f++f x:=by
 rw[D7,h,List.flatMap_append];simp
theorem qJ {n:Nat}(h:0<n):Fa (-1) n=some (n-1):=by
 have e:(-1:Int)<0:=by decide
 simp only[Fa,if_pos e]
 rw[if_pos (by simp;exact ⟨aY (am [n] [(.a 110 111,0),(.a (.a (.g 1) 0) 111,110)] rfl (ql h)),bE (am [n] [(0,.a (.g 1) 0)] rfl)⟩)]
 congr 1;(clear h e;lia)
noncomputable def kT (one other:List Nat):Bool:=one.all fun x=>decide (x∈other)
noncomputable def cG (w:Wk) (LL:List Lk) (f:List (List Nat)) (one:List Nat):List (List Nat):=if (!(f.any fun l=>kT l one))=true/\room w LL one=true then f ++ [one] else f
noncomputable def bV (w:Wk) (LL:List Lk):List (List Nat):=(cK w.ps.length w.ps.length).foldl (cG w LL) []
theorem gE (w:Wk)(LL:List Lk):∀ (l f:List (List Nat)),(l.foldl (cG w LL) f).length<=f.length+l.length
 | [],_=>Ea _
 | o::l,f=>by
  have h1:(cG w LL f o).length<=f.length+1:=by unfold cG;split <;> simp
  have:=gE w LL l (cG w LL f o)
  rw[F5,E7];exact au (ae [(cG w LL f o).length,f.length,(Gp (cG w LL) (cG w LL f o) l).length,l.length] [(0,21),(2,.a 0 3),(.a (.a 1 41) 111,2)] rfl h1 this)
theorem ky (w:Wk)(LL:List Lk):∀ (l f:List (List Nat)) (x:List Nat),x∈l.foldl (cG w LL) f->x∈f ∨ x∈l
 | [],_,_,h=>.inl h
 | o::l,f,x,h=>by
  rcases ky w LL l _ x h with q | q
  ·unfold cG at q
   split at q
   ·rcases El.mp q with q | q
    ·exact .inl q
    ·simp at q;subst q;exact .inr (by simp)
   ·exact .inl q
  ·exact .inr (by simp[q])
section
variable {C:Cx}{X:XP}{n:Nat}{H:MH}{Q:V->MH->Prop}{w:Wk}{pa lk:Addr}{br:List Nat}{LL:List Lk}{most:Nat}{d:Md}
theorem jq {H:MH}:∀ (l:List (List Nat)),VDs H (l.map bH) (l.map fun o=>E2 (o.map fun (b:Nat)=>E8 b))
 | []=>.nil
 | o::l=>.cons (.tup (kR o)) (jq l)
theorem lj:∀ (l:List (List Nat)),Eb (l.map fun o=>E2 (o.map fun (b:Nat)=>E8 b))=true
 | []=>rfl
 | o::l=>by rw[D3,Eb,lj l];rw[show (E2 (o.map fun (b:Nat)=>E8 b)).canLay0=true by rw[Es];exact ku o];rfl
theorem ye {a e:Addr}{l:List (List Nat)}(h:H a=some (.lst (l.map bH)))(he:H e=some (.lst []))(q:Q (.bool (!decide (l = []))) H):bX C d .NotEq (.ref a) (.ref e) H Q X:=by
 refine gB (.lst h (jq l)) (.lst he .nil) (by rw[Es];exact lj l) rfl (by simp only[Ei,DW];lia) ?_
 have:Em (.list (l.map fun o=>E2 (o.map fun (b:Nat)=>E8 b))) (.list [])=decide (l = []):=by
  cases l with
  | nil=>rfl
  | cons a l=>simp[Em,G7]
 rw[this];exact q
theorem zK {one:List Nat}(q:Q (.bool (!decide (one = []))) H):bX C d .NotEq (bH one) (.tup []) H Q X:=by
 refine gB (.tup (kR one)) (.tup .nil) (by rw[Es];exact ku one) rfl (by simp only[Ei,DW];lia) ?_
 have:Em (.tuple (one.map fun (b:Nat)=>E8 b)) (.tuple [])=decide (one = []):=by
  cases one with
  | nil=>rfl
  | cons a l=>simp[Em,G7]
 rw[this];exact q
theorem tT {m:Nat}(G:C.Good)(S:Std C)(D:bq C "sets_of" jP 1 iV)(hm:m<=7)(K:∀ r H',ay H H'->H r=none->H' r=some (.lst ((cK m m).map bH))->Q (.ref r) H'):bB C ⟨n+1,true⟩ "sets_of" [.int m] H Q X:=by
 have hz:10000<Dz:=by decide
 refine fA (uQ m (by exact be (ae [m] [(0,117),(118,0)] rfl hm))) fun hend hne hlev=>?_
 refine D.call G rfl ?_
 unfold iV
 refine aC (bu (ac (bJ (ah ?_))))
 refine ⟨by decide,?_⟩
 refine ah ?_
 refine ⟨by decide,fun fo hfo=>?_⟩
 refine aC (bu (ac (bJ (ah ?_))))
 refine ⟨by decide,?_⟩
 refine ah ?_
 refine ⟨by decide,fun ro hro=>?_⟩
 have x0:ay H (an (an H fo (.lst [.tup []])) ro (.lst [.tup []])):=(ay.new hfo).more hro
 have f0:=(ay.new (o:=.lst [V.tup []]) hro) _ _ (aj H fo (.lst [V.tup []]))
 have r0:=aj (an H fo (.lst [V.tup []])) ro (.lst [V.tup []])
 generalize an (an H fo (.lst [.tup []])) ro (.lst [.tup []])=H1 at x0 f0 r0
 refine zD (m+2) (zt (P:=fun n' ρ H'=>∃ k ro lo on fi,ρ = [some (.int m),some (.ref fo),some (.ref ro),lo,on,fi]/\n'=m+1-k/\k<=m+1/\ay H H'/\H' fo=some (.lst ((cK m k).map bH))/\H' ro=some (.lst ((fW m k).map bH))) (fun n' ρ H' R hP hR=>?_) (m+1) _ _ ⟨0,ro,none,none,none,rfl,rfl,by exact au (ae [m] [(.a 11 111,110)] rfl),x0,f0,r0⟩ (m+2) (by exact be (ae [m] [(12,11)] rfl)))
 refine Br hP fun k ro' lo on fi hr116_5 hr116_6 hk hx hf hr=>?_
 try clear hP
 subst hr116_5
 subst hr116_6
 refine fA (hlev k (by exact be (ae [m,k] [(0,117),(1,11),(119,1)] rfl hm hk))) fun hl1 hl2 hl3=>?_
 refine aK (ag rfl (bu (ah ?_)))
 refine ⟨by decide,fun c hc=>?_⟩
 have x1:=hx.more (o:=.lst []) hc
 have f1:=(ay.new (o:=.lst []) hc) _ _ hf
 have r1:=(ay.new (o:=.lst []) hc) _ _ hr
 refine ye r1 (aj ..) ?_
 generalize an H' c (.lst [])=H2 at x1 f1 r1
 refine ai ?_
 by_cases hnil:fW m k = []
 ·rw[show (!decide (fW m k = []))=false by rw[decide_eq_true hnil];rfl,if_neg (by decide)]
  refine eY rfl ?_
  have hk':(cK m k)=cK m m:=by
   rcases Fd k (m+1) with q | q
   ·exact absurd hnil (hne k q)
   ·obtain rfl:k=m+1:=by exact cy (ae [m,k] [(11,1),(21,11)] rfl q) (ae [k,m] [(0,21),(.a 21 111,0)] rfl hk)
    show cK m m++fW m (m+1)=_
    rw[hend,GE]
  rw[<- hk'] at K
  exact K fo _ x1 hfo f1
 ·rw[show (!decide (fW m k = []))=true by rw[decide_eq_false hnil];rfl,if_pos rfl]
  have hkm:k<=m:=by
   rcases Fd m k with q | q
   ·exact absurd (by rw[show k=m+1 by exact cy (ae [m,k] [(11,1),(21,11)] rfl q) (ae [k,m] [(0,21),(.a 21 111,0)] rfl hk)];exact hend) hnil
   ·exact q
  refine fA (hlev (k+1) (by exact be (ae [m,k] [(0,117),(1,0),(119,21)] rfl hm hkm))) fun hn1 hn2 zz=>?_
  refine aC (bu (ah ?_))
  refine ⟨by decide,fun lo hlo=>?_⟩
  have x2:=x1.more (o:=.lst []) hlo
  have f2:=(ay.new (o:=.lst []) hlo) _ _ f1
  have r2:=(ay.new (o:=.lst []) hlo) _ _ r1
  have l2:=aj H2 lo (.lst [])
  have hlf:lo≠fo:=fun e=>by rw[e,f1] at hlo;cases hlo
  have hlr:lo≠ro':=fun e=>by rw[e,r1] at hlo;cases hlo
  have hlH:H lo=none:=by
   cases e:H lo with
   | none=>rfl
   | some o=>have:=x1 _ _ e;rw[hlo] at this;cases this
  generalize an H2 lo (.lst [])=H3 at x2 f2 r2 l2
  refine cA ?_
  refine ag rfl ?_
  refine ⟨_,⟨.inl rfl,fun zz zz zz e=>by cases e⟩,af r2,?_⟩
  refine ch (P:=fun i ρ H'=>∃ on fi,ρ = [some (.int m),some (.ref fo),some (.ref ro'),some (.ref lo),on,fi]/\ay H H'/\H' fo=some (.lst ((cK m k).map bH))/\H' ro'=some (.lst ((fW m k).map bH))/\H' lo=some (.lst ((((fW m k).take i).flatMap (dl m)).map bH)))
   (nI on fi rfl x2 f2 r2 l2) (fun i x ρ H4 R' hP hx4 hR'=>?_) fun ρ H4 hP=>?_
  ·refine dD hP fun on fi hr162_2 hx' hf' hr' hl'=>?_
   try clear hP
   subst hr162_2
   rw[DC,DE] at hx4
   refine ad hx4 fun one hoi hr164_2=>?_
   try clear hx4
   subst hr164_2
   obtain ⟨hol,hof⟩:one.length<=8/\dT one<=8:=by simpa using Et.mp hl3 one (DQ hoi)
   have hft:=uC (dl m) (fW m k) i
   refine ⟨af hr',_,rfl,?_⟩
   show aM C _ _ [some (.int m),some (.ref fo),some (.ref ro'),some (.ref lo),some (bH one),fi] _ _ _
   refine aC (aO ?_)
   refine eX (J:=fun ρ' H'=>ρ' = [some (.int m),some (.ref fo),some (.ref ro'),some (.ref lo),some (bH one),some (.int (dT one))]/\H'=H4) (fun ρ' H5 hJ=>?_) fun R2 hR2=>?_
   ·refine az hJ fun hr171_0 hr171_1=>?_
    try clear hJ
    subst hr171_0
    subst hr171_1
    refine cD (bG (ag rfl ?_))
    refine ⟨_,nf hl' PySem.F.slot_list_extend PySem.F.type_list_extend,ak,?_⟩
    refine ac ?_
    refine cU ?_
    refine aA (Std.n_range (by assumption)) aH (dX rfl rfl ?_)
    refine oz ?_
    refine ⟨_,d7 rfl (by exact aY (am [dT one] [(110,0),(11,.g 1000000)] rfl (q0 (dT one)))) (by exact aY (am [dT one] [(0,118),(.a 1000110 111,0)] rfl (ql hof))) (by exact aY (am [m] [(110,0),(11,.g 1000000)] rfl (q0 m))) (by exact aY (am [m] [(0,117),(.a 1000110 111,0)] rfl (ql hm))),rfl,by rw[c9];(clear hk hl1 hl2 hnil hkm hn1 hn2 hlf hlr hol hof hft;lia),?_⟩
    refine cq (P:=fun j acc H'=>acc=((DU j).map fun t=>one ++ [dT one+t]).map bH/\H'=H5) ⟨rfl,rfl⟩ (fun j x acc H' R3 hP hx3 hR3=>?_) fun acc H' hP=>⟨rfl,?_⟩
    ·refine az hP fun hr180_0 hr180_1=>?_
     try clear hP
     subst hr180_0
     subst hr180_1
     refine az (eA hx3) fun hr181_0 hj=>?_
     subst hr181_0
     refine ⟨rfl,_,rfl,?_⟩
     refine dR (bC (aE (ag rfl (bJ (a9 rfl ?_)))))
     refine ⟨show 1<=Dz by decide,?_⟩
     refine pD (by simp;exact aB (au (ae [one.length] [(0,118),(.a 16777326 111,11)] rfl hol))) ?_
     refine hR3 _ _ ⟨?_,rfl⟩
     rw[List.range_succ,DO,DO]
     show GV bH _ ++ [_]=GV bH _ ++ [bH (one ++ [dT one+j])]
     unfold bH
     rw[DO];rfl
    refine az hP fun hr191_0 hr191_1=>?_
    try clear hP
    subst hr191_0
    subst hr191_1
    rw[c9,show ((m:Int)-(dT one:Int)).toNat=m-dT one by (clear hm hz hk hl1 hl2 hnil hkm hn1 hn2 hlf hlr hol hof hft;lia)]
    have hlong:(DU (m-dT one)).map (fun t=>one ++ [dT one+t])=dl m one:=rfl
    rw[hlong]
    have hll:(dl m one).length<=7:=by unfold dl;simp;exact au (ae [m,dT one] [(0,117),(.a (.a 117 1) 111,0)] rfl hm)
    refine ⟨by rw[Dt];exact aB (au (ae [(dl m one).length] [(0,117),(.a 16777326 111,0)] rfl hll)),fun c hc=>?_⟩
    have x5:=hx'.more (o:=.lst ((dl m one).map bH)) hc
    have f5:=(ay.new (o:=.lst ((dl m one).map bH)) hc) _ _ hf'
    have r5:=(ay.new (o:=.lst ((dl m one).map bH)) hc) _ _ hr'
    have l5:=(ay.new (o:=.lst ((dl m one).map bH)) hc) _ _ hl'
    have c5:=aj H' c (.lst ((dl m one).map bH))
    generalize an H' c (.lst ((dl m one).map bH))=H6 at x5 f5 r5 l5 c5
    refine ah ?_
    refine oy l5 c5 (by rw[Dt,Dt];simp only[fW] at hn1;exact aB (au (ae [(List.flatMap (dl m) (fW m k)).length,(List.flatMap (dl m) (List.take i (fW m k))).length,(dl m one).length] [(0,210),(1,0),(2,117),(.a 16777326 111,.a 1 2)] rfl hn1 hft hll))) ?_
    refine aR (hR' _ _ (nI _ _ rfl (x5.mut hlH) ((aP (E9 hlf)).trans f5) ((aP (E9 hlr)).trans r5) ?_))
    rw[aj,oB hoi,DO]
   ·refine aK (ag rfl (bJ (ah ?_)))
    refine ⟨by decide,?_⟩
    refine zK ?_
    refine ai ?_
    by_cases h0:one = []
    ·rw[show (!decide (one = []))=false by rw[decide_eq_true h0];rfl,if_neg (by decide)]
     refine aR (hR2 _ _ ⟨?_,rfl⟩)
     subst h0;rfl
    ·rw[show (!decide (one = []))=true by rw[decide_eq_false h0];rfl,if_pos rfl]
     refine aC (aE (aQ (ag rfl (kZ (aO (jp ?_))))))
     have hlen:0<one.length:=List.length_pos_iff.mpr h0
     refine g9 (i:=-1) (x:=.int (one.getLast h0)) (j:=one.length-1) (by rw[Dt];exact qJ hlen) (by rw[Dt];exact aB (au (ae [one.length] [(0,118),(.a 16777326 111,0)] rfl hol))) (by rw[DC,<- List.getLast?_eq_getElem?,List.getLast?_eq_some_getLast h0];rfl) ?_
     refine aO (bA ?_)
     refine aR (hR2 _ _ ⟨?_,rfl⟩)
     have:dT one=one.getLast h0+1:=by unfold dT;rw[List.getLast?_eq_some_getLast h0]
     rw[this];rfl
  ·refine dD hP fun on fi hr223_2 hx' hf' hr' hl'=>?_
   try clear hP
   subst hr223_2
   refine ⟨af hr',?_⟩
   rw[Dt,Ec] at hl'
   change H4 lo=some (.lst ((fW m (k+1)).map bH)) at hl'
   refine cD (bG (ag rfl ?_))
   refine ⟨_,nf hf' PySem.F.slot_list_extend PySem.F.type_list_extend,ak,?_⟩
   refine a9 rfl ?_
   refine oy hf' hl' (by rw[Dt,Dt];exact aB (au (ae [(cK m k).length,(fW m (k+1)).length] [(0,310),(1,210),(.a 16777326 111,.a 0 1)] rfl hl2 hn1))) ?_
   refine aC (ag rfl ?_)
   refine aR (hR (m+1-(k+1)) _ _ (by exact be (ae [m+1-(k+1),k,m,m+1-k] [(.a 0 21,31),(31,.a 3 1),(3,0)] rfl (md (ae [k,m] [(0,1),(.a 21 111,11)] rfl hkm)) (ms (m+1) k))) ⟨k+1,lo,_,_,_,rfl,rfl,by exact au (ae [k,m] [(0,1),(.a 21 111,11)] rfl hkm),hx'.mut hfo,?_,(aP hlf).trans hl'⟩)
   rw[aj,<- DO];rfl
theorem vR {one other:List Nat}(G:C.Good)(S:Std C)(D:bq C "is_within" ie 2 gn)(hl:one.length<=100)(K:∀ H',ay H H'->Q (.bool (kT one other)) H'):bB C ⟨n+1,true⟩ "is_within" [bH one,bH other] H Q X:=by
 have hz:10000<Dz:=by decide
 refine D.call G rfl ?_
 unfold gn
 refine aX (aA (Std.n_all (by assumption)) ak (ac ?_))
 refine cU ?_
 refine ag rfl ?_
 refine ⟨_,⟨.inl rfl,fun zz zz zz e=>by cases e⟩,rfl,by rw[Dt];exact aB (au (ae [one.length] [(0,210),(.a 16777326 111,0)] rfl hl)),?_⟩
 refine cq (P:=fun i acc H'=>acc=((one.take i).map fun x=>decide (x∈other)).map .bool/\H'=H) ⟨rfl,rfl⟩ (fun i x acc H' R hP hx hR=>?_) fun acc H' hP=>⟨rfl,?_⟩
 ·refine az hP fun hr244_0 hr244_1=>?_
  try clear hP
  subst hr244_0
  subst hr244_1
  rw[DC,DE] at hx
  refine ad hx fun y hyi hr246_2=>?_
  try clear hx
  subst hr246_2
  refine ⟨rfl,_,rfl,?_⟩
  refine dR (bC (pE rfl rfl ?_))
  refine Bz (hR _ _ ⟨?_,rfl⟩)
  rw[D7,hyi,DO,DO];rfl
 refine az hP fun hr251_0 hr251_1=>?_
 try clear hP
 subst hr251_0
 subst hr251_1
 rw[show (one.map fun (b:Nat)=>V.int b).length=one.length from Dt ..,Ec]
 refine ⟨by simp;exact aB (au (ae [one.length] [(0,210),(.a 16777326 111,0)] rfl hl)),fun r hr=>?_⟩
 refine ah ?_
 refine mP rfl (aj ..) ?_
 rw[List.all_map]
 exact K _ (.new hr)
theorem jZ (W:WlD C)(Ds:bq C "sets_of" jP 1 iV)(Di:bq C "is_within" ie 2 gn)(D:bq C "least_sets" j0 2 ij)(hw:w.Ok most)(hm:most<=7)(hp:H pa=some (.lst (w.ps.map Pt.v)))(hk:H lk=some (.lst (LL.map bh)))(hL:LksOk w LL)
  (K:∀ r H',ay H H'->H r=none->H' r=some (.lst ((bV w LL).map bH))->Q (.ref r) H'):bB C ⟨n+17,true⟩ "least_sets" [w.v pa,.ref lk] H Q X:=by
 have hz:10000<Dz:=by decide
 have hp2:=hw.p2
 have G:=W.G;have S:=W.S
 refine az (jk w.ps.length (by exact be (ae [most,w.ps.length] [(0,117),(1,0),(118,1)] rfl hm hp2))) fun hall hln=>?_
 refine D.call G rfl ?_
 unfold ij
 refine aC (bu (ah ?_))
 refine ⟨by decide,fun fo hfo=>?_⟩
 have x0:ay H (an H fo (.lst [])):=.new hfo
 have f0:=aj H fo (.lst [])
 generalize an H fo (.lst [])=H1 at x0 f0
 refine cA ?_
 refine bw Ds.fn ?_
 refine ac (aA (Std.n_len (by assumption)) ak (ac (ao rfl ?_)))
 refine cS rfl ?_
 refine ah ?_
 refine bp (af (x0 _ _ hp)) (by rw[Dt];exact aB (au (ae [most,w.ps.length] [(0,117),(1,0),(.a 16777326 111,1)] rfl hm hp2))) ?_
 rw[Dt]
 refine ah ?_
 refine tT (n:=n+15) (m:=w.ps.length) G S Ds (by exact au (ae [most,w.ps.length] [(0,117),(1,0),(.a 117 111,1)] rfl hm hp2)) fun so H2 x2 hso hs2=>?_
 have hne:fo≠so:=fun e=>by rw[e,hso] at f0;cases f0
 refine ⟨_,⟨.inl rfl,fun zz zz zz e=>by cases e⟩,af hs2,?_⟩
 refine ch (P:=fun i ρ H'=>∃ on,ρ = [some (w.v pa),some (.ref lk),some (.ref fo),on]/\ay H H'/\H' so=some (.lst ((cK w.ps.length w.ps.length).map bH))/\H' fo=some (.lst ((((cK w.ps.length w.ps.length).take i).foldl (cG w LL) []).map bH)))
  ⟨none,rfl,x0.trans x2,hs2,x2 _ _ f0⟩ (fun i x ρ H' R hP hx hR=>?_) fun ρ H' hP=>?_
 ·refine cY hP fun on hr286_1 hx' hs' hf'=>?_
  try clear hP
  subst hr286_1
  rw[DC,DE] at hx
  refine ad hx fun one hoi hr288_2=>?_
  try clear hx
  subst hr288_2
  have hone:=Et.mp hall one (DQ hoi)
  simp only[Ev,decide_eq_true_eq,Et] at hone
  have hstep:((cK w.ps.length w.ps.length).take (i+1)).foldl (cG w LL) []=cG w LL (((cK w.ps.length w.ps.length).take i).foldl (cG w LL) []) one:=by
   rw[D7,hoi,Gi];rfl
  have hfl:=gE w LL ((cK w.ps.length w.ps.length).take i) []
  have hfm:=ky w LL ((cK w.ps.length w.ps.length).take i) []
  rw[hstep] at hR
  have hmem:∀ l∈((cK w.ps.length w.ps.length).take i).foldl (cG w LL) [],l.length<=8:=fun l hl=>by
   rcases hfm l hl with q | q
   ·cases q
   ·have:=Et.mp hall l (Gz q)
    simp only[Ev,decide_eq_true_eq,Et] at this
    exact this.2
  rw[Gn] at hfl
  clear hfm hstep
  generalize ((cK w.ps.length w.ps.length).take i).foldl (cG w LL) []=f at hfl hf' hR hmem
  simp only[F3] at hfl
  refine ⟨af hs',_,rfl,?_⟩
  show aM C _ _ [some (w.v pa),some (.ref lk),some (.ref fo),some (bH one)] _ _ _
  refine aI (cO (eE (b8 (bP (aA (Std.n_any (by assumption)) ak (ac ?_))))))
  refine cU ?_
  refine ag rfl ?_
  refine ⟨_,⟨.inl rfl,fun zz zz zz e=>by cases e⟩,af hf',by rw[Dt];(clear hm hp2 hne hone;lia),?_⟩
  refine cq (P:=fun j acc H''=>acc=((f.take j).map fun l=>kT l one).map .bool/\ay H' H'') ⟨rfl,.refl _⟩ (fun j x acc H'' R' hQ hx2 hR2=>?_) fun acc H'' hQ=>⟨?_,?_⟩
  ·refine az hQ fun hr313_0 xq=>?_
   try clear hQ
   subst hr313_0
   rw[DC,DE] at hx2
   refine ad hx2 fun y hyj hr315_2=>?_
   try clear hx2
   subst hr315_2
   refine ⟨af (xq _ _ hf'),_,rfl,?_⟩
   refine dR (bC ?_)
   refine bw Di.fn ?_
   refine dX rfl rfl ?_
   refine vR (n:=n+15) (one:=y) (other:=one) G S Di (by have:=hmem y (DQ hyj);exact au (ae [y.length] [(0,118),(.a 210 111,0)] rfl this)) fun H3 x3=>?_
   refine hR2 _ _ ⟨?_,xq.trans x3⟩
   rw[D7,hyj,DO,DO];rfl
  ·refine az hQ fun hr323_0 xq=>?_
   try clear hQ
   subst hr323_0
   exact af (xq _ _ hf')
  refine az hQ fun hr325_0 xq=>?_
  try clear hQ
  subst hr325_0
  rw[show (f.map bH).length=f.length from Dt ..,Ec]
  refine ⟨by simp;(clear hm hp2 hne hone;omega),fun r hr=>?_⟩
  have x4:=xq.more (o:=.lst ((f.map fun l=>kT l one).map .bool)) hr
  refine ah ?_
  refine zQ rfl (aj ..) ?_
  rw[List.any_map]
  generalize an H'' r (.lst ((f.map fun l=>kT l one).map .bool))=H4 at x4
  refine ai ?_
  have x04:=hx'.trans x4
  have e0:(id ∘ fun l=>kT l one)=fun l=>kT l one:=rfl
  rw[e0]
  cases h1:f.any fun l=>kT l one with
  | true=>
   have es:cG w LL f one=f:=by unfold cG;rw[h1,if_neg (fun q=>DP q.1)]
   refine bR (bf (aL ?_))
   refine aR (hR _ _ ⟨_,rfl,x04,x4 _ _ hs',?_⟩)
   rw[es];exact x4 _ _ hf'
  | false=>
   refine pc (eE (bP ?_))
   refine bw W.h.fn ?_
   refine mH rfl rfl rfl ?_
   refine rE (n:=n) (br:=one) W hw hm (x04 _ _ hp) (x04 _ _ hk) hL fun H5 x5=>?_
   have x05:=x04.trans x5
   refine ai ?_
   cases h2:room w LL one with
   | true=>
    have es:cG w LL f one=f ++ [one]:=by unfold cG;rw[h1,h2,if_pos ⟨rfl,rfl⟩]
    rw[if_pos rfl]
    refine iJ (bC (bg (cD (bG (ag rfl ?_)))))
    refine ⟨_,cL (x5 _ _ (x4 _ _ hf')),ak,?_⟩
    refine a9 rfl ?_
    refine du (x5 _ _ (x4 _ _ hf')) (by rw[Dt];(clear hm hp2 hne hone;omega)) (aR (hR _ _ ⟨_,rfl,x05.mut hfo,(aP (E9 hne)).trans (x5 _ _ (x4 _ _ hs')),?_⟩))
    rw[aj,es,DO];rfl
   | false=>
    have es:cG w LL f one=f:=by unfold cG;rw[h2,if_neg (fun q=>DP q.2)]
    rw[if_neg (by decide)]
    refine bf (aL ?_)
    refine aR (hR _ _ ⟨_,rfl,x05,x5 _ _ (x4 _ _ hs'),?_⟩)
    rw[es];exact x5 _ _ (x4 _ _ hf')
 ·refine cY hP fun on hr365_1 hx' hs' hf'=>?_
  try clear hP
  subst hr365_1
  refine ⟨af hs',?_⟩
  refine eY rfl ?_
  rw[Dt,Ec] at hf'
  exact K fo _ hx' hfo hf'
end
end
section
set_option maxHeartbeats 1000000
open PySem PyProof.Rows
noncomputable def jc:Vs:=[aq "word"]
noncomputable def gV:List St :=
  [.ife (.cmp .Eq (.nm 0) (.cs "not")) [.ret (.ci 1)] [],
  .ife (.cmp .Eq (.nm 0) (.cs "pick")) [.ret (.ci 3)] [],
  .ife (.bop .Or [(.cmp .Eq (.nm 0) (.cs "sum")),(.cmp .Eq (.nm 0) (.cs "stop"))]) [.ret (.ci 2)] [],
  .ret (.ci 0)]
noncomputable def mY:Vs:=[aq "thing",fj "ahead"]
noncomputable def kn:List St :=
  [.ife (.bop .Or [(.una .Not (.call "isinstance" [(.nm 0),(.gl "tuple")])),(.cmp .Lt (.call "len" [(.nm 0)]) (.ci 2)),(.una .Not (.call "isinstance" [(.sub (.nm 0) (.ci 0)),(.gl "str")]))]) [.ret (.cb false)] [],
  .ret (.bop .And [(.cmp .Eq (.bin .Sub (.call "len" [(.nm 0)]) (.ci 1)) (.call "lines_of" [(.sub (.nm 0) (.ci 0))])),(.call "all" [(.comp 1 (.call "is_among" [(.nm 2),(.ci 0),(.bin .Sub (.nm 1) (.ci 1))]) (.sli (.nm 0) (.ci 1) .cn .cn) [])])])]
noncomputable def qq:Vs:=[aq "thing",aq "ring",aq "inputs",aq "parts",aq "at",aq "part"]
noncomputable def lH:List St :=
  [.ife (.bop .Or [(.una .Not (.call "isinstance" [(.nm 0),(.gl "tuple")])),(.cmp .NotEq (.call "len" [(.nm 0)]) (.ci 3))]) [.rais "BadWork" "a ring, inputs and parts are wanted"] [],
  .unp [1,2,3] (.nm 0),
  .ife (.bop .Or [(.una .Not (.call "is_among" [(.nm 1),(.ci 2),(.gl "MOST_RING")])),(.una .Not (.call "is_among" [(.nm 2),(.ci 1),(.gl "MOST_INPUTS")]))]) [.rais "BadWork" "no such ring, or no such inputs"] [],
  .ife (.bop .Or [(.una .Not (.call "isinstance" [(.nm 3),(.gl "list")])),(.una .Not (.cmp2 .LtE .LtE (.ci 1) (.call "len" [(.nm 3)]) (.gl "MOST_PARTS")))]) [.rais "BadWork" "one to ten parts are wanted"] [],
  .for [4,5] (.en (.nm 3)) [.ife (.una .Not (.call "is_part" [(.nm 5),(.bin .Add (.nm 2) (.nm 4))])) [.rais "BadWork" "no part"] []],
  .ret (.cb true)]
noncomputable def tI:Vs:=[aq "work",aq "look",aq "sets",aq "line",aq "counts",aq "one",aq "digit"]
noncomputable def oF:List St :=
  [.asg 4 (.comp 1 (.ci 0) (.call "range" [(.sub (.nm 0) (.ci 0))]) []),
  .for [5] (.pl (.nm 2)) [.for [6] (.pl (.call "shown_by" [(.nm 0),(.nm 1),(.nm 5),(.nm 3)])) [.seti (.nm 4) (.nm 6) (.bin .Add (.sub (.nm 4) (.nm 6)) (.ci 1))]],
  .ret (.call "max" [(.nm 4)])]
noncomputable def xH (C:Cx) (x:String) (i:Int):Prop:=∃ t,C.G x (.int i t)
theorem rY:∀ {l:List V} {k i:Nat} {x:V},(e8 k l)[i]? = some x -> ∃ y,l[i]? = some y/\x = .tup [.int ((k+i:Nat):Int),y]
 | [],_,_,_,h=>by simp[e8] at h
 | y::l,k,0,x,h=>by simp[e8] at h;exact ⟨y,rfl,by rw[<- h];simp⟩
 | y::l,k,i+1,x,h=>by
  simp[e8] at h
  refine ad (rY h) fun z h1 h2=>?_
  exact ⟨z,by simpa using h1,by rw[h2];congr 3;exact eV (am [k,i] [(.a (.a 11 1) 111,.a 0 21)] rfl) (am [k,i] [(.a (.a 0 21) 111,.a 11 1)] rfl)⟩
theorem Bv {n:Nat}(h:1<=n):ET (some 1) none 1 (n:Int)=(((1:Nat):Int),((n:Nat):Int)):=by
 unfold ET
 simp only[show ¬ ((1:Int)<0) by decide,if_false]
 congr 1
 lia
section
variable {C:Cx}{X:XP}{n:Nat}{H:MH}{Q:V->MH->Prop}{w:Wk}{pa lk:Addr}{br:List Nat}{LL:List Lk}{most:Nat}{d:Md}{ρ:Lo}{q:Bool}
theorem sW {x:String}{i:Int}(h:xH C x i)(K:Q (.int i) H):aU C d (.gl x) ρ H Q X:=by
 refine aF h fun t hG=>?_
 try clear h
 exact ⟨.int i,_,hG,by dsimp only[VR];exact ⟨t,rfl⟩,K⟩
theorem wy {wd:Wd}(G:C.Good)(D:bq C "lines_of" jc 1 gV)(K:Q (.int wd.ar) H):bB C ⟨n+1,q⟩ "lines_of" [.str (Dn wd.name)] H Q X:=by
 refine D.call G rfl ?_
 unfold gV
 cases wd with
 | sum=>unfold Wd.name;refine aI (aK (ag rfl (aZ (bU false (by decide +kernel) (ai (bf (aL (aI (aK (ag rfl (aZ (bU false (by decide +kernel) (ai (bf (aL (aI (cO (cC (aK (ag rfl (aZ (bU true (by decide +kernel) (ai (bC (bC (bg (aX (aO ?_))))))))))))))))))))))))))));exact K
 | stop=>unfold Wd.name;refine aI (aK (ag rfl (aZ (bU false (by decide +kernel) (ai (bf (aL (aI (aK (ag rfl (aZ (bU false (by decide +kernel) (ai (bf (aL (aI (cO (cC (aK (ag rfl (aZ (bU false (by decide +kernel) (ai (bf (cC (aK (ag rfl (aZ (bU true (by decide +kernel) (ai (bC (bC (bg (aX (aO ?_)))))))))))))))))))))))))))))))))));exact K
 | pick=>unfold Wd.name;refine aI (aK (ag rfl (aZ (bU false (by decide +kernel) (ai (bf (aL (aI (aK (ag rfl (aZ (bU true (by decide +kernel) (ai (bC (bg (aX (aO ?_)))))))))))))))));exact K
 | nt=>unfold Wd.name;refine aI (aK (ag rfl (aZ (bU true (by decide +kernel) (ai (bC (bg (aX (aO ?_)))))))));exact K
theorem tE {p:Pt}{ahead:Nat}(G:C.Good)(S:Std C)(Da:bq C "is_among" fp 3 e9)(Dl:bq C "lines_of" jc 1 gV)(D:bq C "is_part" mY 2 kn)(hp:p.ok ahead)
  (K:∀ H',ay H H'->Q (.bool true) H'):bB C ⟨n+2,true⟩ "is_part" [p.v,.int ahead] H Q X:=by
 have hz:1000<Dz:=by decide
 refine az hp fun hl hr=>?_
 try clear hp
 have har:1<=p.w.ar/\p.w.ar<=3:=by cases p.w <;> decide
 have hvl:(V.str (Dn p.w.name)::p.ls.map fun (l:Nat)=>V.int l).length=p.ls.length+1:=by simp
 refine D.call G rfl ?_
 unfold kn
 refine aI (cO (cC (b8 (bP (aA (Std.n_isinstance (by assumption)) ak (a8 rfl (ac (fF (Std.n_tuple (by assumption)) (ah ?_)))))))))
 refine eq (k:=true) S.n_tuple (by rfl) ?_
 refine ai (bR (cC (aK (aA (Std.n_len (by assumption)) ak (a9 rfl ?_)))))
 refine eZ (by rw[hvl];exact aB (au (ae [p.ls.length,p.w.ar] [(0,1),(1,113),(.a 16777326 111,11)] rfl (me hl) har.2))) ?_
 rw[hvl]
 refine aO (jh (ai ?_))
 rw[show decide (((p.ls.length+1:Nat):Int)<2)=false from decide_eq_false (by exact Gq.mpr (aY (am [p.w.ar,p.ls.length] [(0,1),(111,0),(.a 21 111,112)] rfl (qf hl) (ql har.1))))]
 refine bf (cC (b8 (bP (aA (Std.n_isinstance (by assumption)) ak (ac (ao rfl ?_))))))
 refine bi (Nat.ble_eq_true_of_le (by simp;exact au (ae [p.ls.length,p.w.ar] [(0,1),(1,113),(.a 1010 111,0)] rfl (me hl) har.2))) ?_
 refine ac (fF (Std.n_str (by assumption)) (ah ?_))
 refine eq (k:=true) S.n_str (by rfl) ?_
 refine ai (bR (cM (bf (aL (aX (mB (ju (c6 (aE (aA (Std.n_len (by assumption)) ak (a9 rfl ?_)))))))))))
 refine eZ (by rw[hvl];exact aB (au (ae [p.ls.length,p.w.ar] [(0,1),(1,113),(.a 16777326 111,11)] rfl (me hl) har.2))) ?_
 rw[hvl]
 refine aO (bZ ?_)
 refine bw Dl.fn ?_
 refine ac (ao rfl ?_)
 refine bi (Nat.ble_eq_true_of_le (by simp;exact au (ae [p.ls.length,p.w.ar] [(0,1),(1,113),(.a 1010 111,0)] rfl (me hl) har.2))) ?_
 refine ah ?_
 refine wy G Dl ?_
 refine bx (ai ?_)
 rw[show (((p.ls.length+1:Nat):Int)-1==(p.w.ar:Int))=true by rw[beq_iff_eq];exact eV (am [p.w.ar,p.ls.length] [(0,1),(.a (.s 21 111) 111,0)] rfl (qf hl)) (am [p.ls.length,p.w.ar] [(0,1),(21,.s 11 111)] rfl (qe hl))]
 refine bC (mA (aA (Std.n_all (by assumption)) ak (ac ?_)))
 refine cU ?_
 refine gQ (ag rfl (aO (cH (cH ?_))))
 refine sP (lo:=some 1) (hi:=none) (a:=1) (b:=(V.str (Dn p.w.name)::p.ls.map fun (l:Nat)=>V.int l).length) (.int 1) .none (Bv (by simp)) (Ea _) (by rw[hvl];exact aB (au (ae [p.ls.length,p.w.ar] [(0,1),(1,113),(.a 16777326 111,11)] rfl (me hl) har.2))) ?_
 have e2:((V.str (Dn p.w.name)::p.ls.map fun (l:Nat)=>V.int l).drop 1).take ((V.str (Dn p.w.name)::p.ls.map fun (l:Nat)=>V.int l).length-1)=p.ls.map fun (l:Nat)=>V.int l:=by rw[hvl];exact ED (by simp)
 rw[e2]
 refine ⟨_,⟨.inl rfl,fun zz zz zz e=>by cases e⟩,rfl,by rw[Dt];exact aB (au (ae [p.ls.length,p.w.ar] [(0,1),(1,113),(.a 16777326 111,0)] rfl (me hl) har.2)),?_⟩
 refine cq (P:=fun i acc H'=>acc=((p.ls.take i).map fun zz=>true).map .bool/\H'=H) ⟨rfl,rfl⟩ (fun i x acc H' R hP hx hR=>?_) fun acc H' hP=>⟨rfl,?_⟩
 ·refine az hP fun hr100_0 hr100_1=>?_
  try clear hP
  subst hr100_0
  subst hr100_1
  rw[DC,DE] at hx
  refine ad hx fun y hyi hr102_2=>?_
  try clear hx
  subst hr102_2
  have hy:=hr y (DQ hyi)
  refine ⟨rfl,_,rfl,?_⟩
  refine dR (bC ?_)
  refine bw Da.fn ?_
  refine a8 rfl (ck (ac (aV rfl (bZ (ah ?_)))))
  refine dh G S Da (hR _ _ ⟨?_,rfl⟩)
  rw[D7,hyi,DO,DO]
  rw[show (decide ((0:Int)<=(y:Int))&&decide ((y:Int)<=(ahead:Int)-1))=true by simp;exact aY (am [y,ahead] [(11,1),(.a (.s 1 111) 111,0)] rfl (ql hy))]
  rfl
 refine az hP fun hr112_0 hr112_1=>?_
 try clear hP
 subst hr112_0
 subst hr112_1
 rw[show (p.ls.map fun (l:Nat)=>V.int l).length=p.ls.length from Dt ..,Ec]
 refine ⟨by simp;exact aB (au (ae [p.ls.length,p.w.ar] [(0,1),(1,113),(.a 16777326 111,0)] rfl (me hl) har.2)),fun r hr=>?_⟩
 refine ah ?_
 refine mP rfl (aj ..) ?_
 rw[List.all_map]
 rw[show p.ls.all (id ∘ fun zz=>true)=true by simp]
 exact K _ (.new hr)
structure NwD (C:Cx):Prop where
 r:xH C "MOST_RING" 5
 i:xH C "MOST_INPUTS" 6
 p:xH C "MOST_PARTS" 10
 a:bq C "is_among" fp 3 e9
 l:bq C "lines_of" jc 1 gV
 t:bq C "is_part" mY 2 kn
 w:bq C "need_work" qq 1 lH
theorem qo (G:C.Good)(S:Std C)(N:NwD C)(hw:w.Ok most)(hm:most<=10)(hp:H pa=some (.lst (w.ps.map Pt.v)))
  (K:∀ H',ay H H'->Q (.bool true) H'):bB C ⟨n+3,true⟩ "need_work" [w.v pa] H Q X:=by
 have hz:1000<Dz:=by decide
 have hr1:=hw.r1;have hr2:=hw.r2;have hi1:=hw.i1;have hi2:=hw.i2;have hp1:=hw.p1;have hp2:=hw.p2
 refine N.w.call G rfl ?_
 unfold lH
 refine aI (cO (cC (b8 (bP (aA (Std.n_isinstance (by assumption)) ak (a8 rfl (ac (fF (Std.n_tuple (by assumption)) (ah ?_)))))))))
 refine eq (k:=true) S.n_tuple (by rfl) ?_
 refine ai (bR (cC (aK (aA (Std.n_len (by assumption)) ak (a9 rfl ?_)))))
 refine eZ (show 3<=Dz by decide) ?_
 refine aO (gS (ai ?_))
 rw[show ([V.int w.ring,.int w.inp,.ref pa].length:Int)=3 from rfl,beq_self_eq_true]
 refine bR (cM (bf (aL (hW (ag rfl ?_)))))
 refine ⟨_,rfl,⟨.inl rfl,fun zz zz zz e=>by cases e⟩,rfl,?_⟩
 refine aI (cO (cC (b8 (bP ?_))))
 refine bw N.a.fn ?_
 refine a8 rfl (ck (ac ?_))
 refine sW N.r ?_
 refine ah ?_
 refine dh G S N.a ?_
 rw[show (decide ((2:Int)<=w.ring)&&decide (w.ring<=5))=true by simp;exact ⟨aY (am [w.ring] [(112,0),(11,112)] rfl hr1),aY (am [w.ring] [(0,115),(.a 115 111,0)] rfl hr2)⟩]
 refine ai (bR (cC (b8 (bP ?_))))
 refine bw N.a.fn ?_
 refine a8 rfl (ck (ac ?_))
 refine sW N.i ?_
 refine ah ?_
 refine dh G S N.a ?_
 rw[show (decide ((1:Int)<=(w.inp:Int))&&decide ((w.inp:Int)<=6))=true by simp;exact ⟨aY (am [w.inp] [(111,0),(11,111)] rfl (ql hi1)),aY (am [w.inp] [(0,116),(.a 116 111,0)] rfl (ql hi2))⟩]
 refine ai (bR (cM (bf (aL (aI (cO (cC (b8 (bP (aA (Std.n_isinstance (by assumption)) ak (a8 rfl (ac (fF (Std.n_list (by assumption)) (ah ?_))))))))))))))
 refine lD (k:=true) S.n_list (af hp) (by simp) ?_
 refine ai (bR (cC (b8 (zE (aO (aA (Std.n_len (by assumption)) ak (a9 rfl ?_)))))))
 refine bp (af hp) (by rw[Dt];exact aB (au (ae [most,w.ps.length] [(0,120),(1,0),(.a 16777326 111,1)] rfl hm hp2))) ?_
 rw[Dt]
 refine mM (ai ?_)
 rw[show decide ((1:Int)<=(w.ps.length:Int))=true from decide_eq_true (by exact aY (am [w.ps.length] [(111,0),(11,111)] rfl (ql hp1)))]
 refine bC ?_
 refine sW N.p ?_
 refine mM (ai ?_)
 rw[show decide ((w.ps.length:Int)<=10)=true from decide_eq_true (by exact aY (am [most,w.ps.length] [(0,120),(1,0),(.a 120 111,1)] rfl (ql hm) (ql hp2)))]
 refine bR (cM (bf (aL ?_)))
 refine xY S.n_enumerate ?_
 refine ag rfl ?_
 refine ⟨e8 0 (w.ps.map Pt.v),⟨rfl,.inl rfl,fun zz zz zz e=>by cases e⟩,by simp only[cz,af hp];rfl,?_⟩
 refine ch (P:=fun i ρ' H'=>(∃ u u',ρ' = [some (w.v pa),some (.int w.ring),some (.int w.inp),some (.ref pa),u,u'])/\ay H H') ⟨⟨_,_,rfl⟩,.refl _⟩ (fun i z ρ' H' R hP hz' hRR=>?_) fun ρ' H' hP=>?_
 ·refine az hP fun ho174_0 hx=>?_
  try clear hP
  obtain ⟨u,u',rfl⟩:=ho174_0
  refine ad (rY hz') fun yv hy hr175_2=>?_
  subst hr175_2
  rw[DC,DE] at hy
  refine ad hy fun p hpi hr177_2=>?_
  try clear hy
  subst hr177_2
  refine ⟨by simp only[cz,af (hx _ _ hp)];rfl,_,rfl,?_⟩
  rw[Nat.zero_add]
  show aM C _ _ [some (w.v pa),some (.int w.ring),some (.int w.inp),some (.ref pa),some (.int i),some p.v] _ _ _
  refine aI (b8 (bP ?_))
  refine bw N.t.fn ?_
  refine a8 rfl (ac (jw rfl rfl (bA (ah ?_))))
  rw[show (w.inp:Int)+(i:Int)=((w.inp+i:Nat):Int) by exact eV (am [w.inp,i] [(.a (.a 0 1) 111,.a 0 1)] rfl) (am [w.inp,i] [(.a (.a 0 1) 111,.a 0 1)] rfl)]
  refine tE G S N.a N.l N.t (hw.pt i p hpi) fun H2 x2=>?_
  refine ai (bR (aL ?_))
  exact aR (hRR _ _ ⟨⟨_,_,rfl⟩,hx.trans x2⟩)
 ·refine az hP fun ho188_0 hx=>?_
  try clear hP
  obtain ⟨u,u',rfl⟩:=ho188_0
  refine ⟨by simp only[cz,af (hx _ _ hp)];rfl,?_⟩
  refine nO ?_
  exact K _ hx
end
end
section
set_option maxHeartbeats 1000000
open PySem PyProof.Rows
noncomputable def gI (c:List Int) (x:Int):List Int:=c.set x.toNat (c.getD x.toNat 0+1)
theorem v8 {c:List Int}{x:Int}:(gI c x).length=c.length:=by unfold gI;simp
theorem iQ:∀ {l:List Int} {c:List Int},(l.foldl gI c).length=c.length
 | [],_=>rfl
 | _::l,c=>by rw[F5,iQ,v8]
noncomputable def BZ (w:Wk) (g:List Int) (sn:List (Int × Int)) (sets:List (List Nat)) (line:Nat):List Int:=(sets.flatMap fun one=>d8 w g sn one line).foldl gI (DN w.ring.toNat 0)
noncomputable def j2:List Int->Int
 | []=>0
 | [x]=>x
 | x::y::r=>max x (j2 (y::r))
theorem uV:∀ {l:List Int},∀ x∈l,x<=j2 l
 | [],_,h=>by cases h
 | [y],x,h=>by simp at h;subst h;exact G3 _
 | y::z::r,x,h=>by
  rw[j2]
  rcases EW.mp h with rfl | h
  ·lia
  ·have:=uV x h;lia
theorem sy:∀ {l:List Int},l ≠ []->j2 l∈l
 | [],h=>(h rfl).elim
 | [y],_=>by simp[j2]
 | y::z::r,_=>by
  have:=sy (l:=z::r) (by simp)
  rw[j2]
  by_cases q:j2 (z::r)<=y
  ·rw[Int.max_eq_left q];simp
  ·rw[Int.max_eq_right (by exact aY (am [y,j2 (z::r)] [(11,1),(21,0)] rfl (zk q)))];exact List.mem_cons_of_mem _ this
theorem wD {l:List Int}{M:Int}(h1:M∈l)(h2:∀ x∈l,x<=M):M=j2 l:=by
 have a:=uV M h1
 have b:=h2 _ (sy (l:=l) (by rintro rfl;cases h1))
 exact eV (am [j2 l,M] [(0,1),(21,0)] rfl b) (am [M,j2 l] [(0,1),(21,0)] rfl a)
noncomputable def fY (w:Wk) (g:List Int) (sn:List (Int × Int)) (sets:List (List Nat)) (line:Nat):Int:=j2 (BZ w g sn sets line)
structure ShD (C:Cx):Prop extends WlD C where
 sb:bq C "shown_by" lJ 4 jQ
 lo:bq C "load_of" tI 4 oF
section
variable {C:Cx}{X:XP}{n:Nat}{H:MH}{Q:V->MH->Prop}{w:Wk}{pa sa:Addr}{g:List Int}{sn:List (Int × Int)}{sets:List (List Nat)}{line:Nat}{most:Nat}
theorem vw {br:List Nat}(hw:w.Ok most)(L:LkOk w g sn)(hline:line<w.inp+w.ps.length):∀ x∈d8 w g sn br line,0<=x/\x<w.ring:=fun x hx=>uT hw L x ((tU hw L hline x).mp hx)
theorem yf {d:Md}{ρ:Lo}{K:KP}{X:XS}{ca:Addr}{c:List Int}{j k:Nat}(h4:Internal.lk ρ 4=some (.ref ca))(hj:Internal.lk ρ j=some (.int k))(hc:H ca=some (.lst (c.map .int)))(hk:k<c.length)(hl:c.length<=1000)(q:K .next ρ (an H ca (.lst ((gI c k).map .int)))) :
  aM C d [.seti (.nm 4) (.nm j) (.bin .Add (.sub (.nm 4) (.nm j)) (.ci 1))] ρ H K X:=by
 have hz:1000<Dz:=by decide
 refine eu (aE (aQ (ag h4 (ag hj ?_))))
 refine aN (i:=k) (af hc) (by rw[Dt];exact aB (au (ae [c.length] [(0,1110),(.a 16777326 111,0)] rfl hl))) (cj hk) ?_
 refine aO (bA (ag h4 (ag hj ?_)))
 refine iw hc (by rw[Dt];exact hk) (by rw[Dt];exact aB (au (ae [c.length] [(0,1110),(.a 16777326 111,0)] rfl hl))) (aR ?_)
 have e:(c.map V.int).set k (.int (c.getD k 0+1))=(gI c k).map .int:=by
  unfold gI;rw[List.map_set];rfl
 rw[e];exact q
theorem tH (D:ShD C)(hw:w.Ok most)(hm:most<=7)(hp:H pa=some (.lst (w.ps.map Pt.v)))(L:LkOk w g sn)(hs:H sa=some (.lst (sets.map bH)))(hline:line<w.inp+w.ps.length)
  (K:∀ H',ay H H'->Q (.int (fY w g sn sets line)) H'):bB C ⟨n+17,true⟩ "load_of" [w.v pa,eG g sn,.ref sa,.int line] H Q X:=by
 have hz:10000<Dz:=by decide
 have hr1:=hw.r1;have hr2:=hw.r2
 have G:=D.G;have S:=D.S
 refine D.lo.call G rfl ?_
 unfold oF
 refine aC ?_
 refine cU ?_
 refine aA (Std.n_range (by assumption)) aH (ac (ao rfl ?_))
 refine bi rfl ?_
 refine ah ?_
 refine cV ?_
 refine ⟨_,d7 rfl (by decide) (by decide) (by exact aY (am [w.ring] [(112,0),(11,.g 1000000)] rfl hr1)) (by exact aY (am [w.ring] [(0,115),(.a 1000110 111,0)] rfl hr2)),rfl,by rw[c9];(clear hm hline hr1;lia),?_⟩
 refine cq (P:=fun i acc H'=>acc=(DN i (0:Int)).map .int/\H'=H) ⟨rfl,rfl⟩ (fun i x acc H' R hP hx hR=>?_) fun acc H' hP=>⟨rfl,?_⟩
 ·refine az hP fun hr84_0 hr84_1=>?_
  try clear hP
  subst hr84_0
  subst hr84_1
  refine ⟨rfl,_,rfl,?_⟩
  refine dR (bC (aO ?_))
  refine hR _ _ ⟨?_,rfl⟩
  rw[List.replicate_succ',DO];rfl
 refine az hP fun hr89_0 hr89_1=>?_
 try clear hP
 subst hr89_0
 subst hr89_1
 rw[c9,show (w.ring-0).toNat=w.ring.toNat by (clear hm hline hz hr1 hr2;lia)]
 refine ⟨by rw[Dt,FE];lia,fun ca hca=>?_⟩
 have x0:ay H' (an H' ca (.lst ((DN w.ring.toNat (0:Int)).map .int))):=.new hca
 have c0:=aj H' ca (.lst ((DN w.ring.toNat (0:Int)).map .int))
 generalize an H' ca (.lst ((DN w.ring.toNat (0:Int)).map .int))=H1 at x0 c0
 refine cA ?_
 refine ag rfl ?_
 refine ⟨_,⟨.inl rfl,fun zz zz zz e=>by cases e⟩,af (x0 _ _ hs),?_⟩
 refine ch (P:=fun i ρ H2=>∃ on di,ρ = [some (w.v pa),some (eG g sn),some (.ref sa),some (.int line),some (.ref ca),on,di]/\ay H' H2/\H2 ca=some (.lst ((((sets.take i).flatMap fun one=>d8 w g sn one line).foldl gI (DN w.ring.toNat 0)).map .int)))
  (kY none none rfl x0 c0) (fun i x ρ H2 R hP hx hR=>?_) fun ρ H2 hP=>?_
 ·refine aG hP fun on di hr101_2 x2 c2=>?_
  try clear hP
  subst hr101_2
  rw[DC,DE] at hx
  refine ad hx fun one hoi hr103_2=>?_
  try clear hx
  subst hr103_2
  have hrange:=vw (br:=one) hw L hline
  refine ⟨af (x2 _ _ hs),_,rfl,?_⟩
  show aM C _ _ [some (w.v pa),some (eG g sn),some (.ref sa),some (.int line),some (.ref ca),some (bH one),di] _ _ _
  rw[oB hoi,Gi] at hR
  have hlen:(((sets.take i).flatMap fun one=>d8 w g sn one line).foldl gI (DN w.ring.toNat 0)).length=w.ring.toNat:=by rw[iQ,FE]
  generalize ((sets.take i).flatMap fun one=>d8 w g sn one line).foldl gI (DN w.ring.toNat 0)=c at c2 hR hlen
  refine cA ?_
  refine bw D.sb.fn ?_
  refine Bw rfl rfl rfl rfl ?_
  refine rJ (n:=n) (w:=w) (pa:=pa) (br:=one) G S D.N D.o D.w D.c D.mc D.mg D.l D.sb hw hm (x2 _ _ hp) L hline fun r H3 x3 hr3 r3=>?_
  have hne:r≠ca:=fun e=>by rw[e,c2] at hr3;cases hr3
  generalize d8 w g sn one line=sh at hrange r3 hR
  refine ⟨_,⟨.inl rfl,fun zz zz zz e=>by cases e⟩,af r3,?_⟩
  refine ch (P:=fun j ρ H4=>∃ di,ρ = [some (w.v pa),some (eG g sn),some (.ref sa),some (.int line),some (.ref ca),some (bH one),di]/\ay H' H4/\H4 r=some (.lst (sh.map .int))/\H4 ca=some (.lst (((sh.take j).foldl gI c).map .int)))
   ⟨di,rfl,x2.trans x3,r3,x3 _ _ c2⟩ (fun j y ρ H4 R' hQ hy hR'=>?_) fun ρ H4 hQ=>?_
  ·refine cY hQ fun di hr119_1 x4 r4 c4=>?_
   try clear hQ
   subst hr119_1
   rw[DC,DE] at hy
   refine ad hy fun z hzj hr121_2=>?_
   try clear hy
   subst hr121_2
   refine az (hrange z (DQ hzj)) fun z0 z1=>?_
   refine aF (Ft z0) fun k hr123_1=>?_
   subst hr123_1
   refine ⟨af r4,_,rfl,?_⟩
   have hl2:((sh.take j).foldl gI c).length=w.ring.toNat:=by rw[iQ,hlen]
   refine yf (k:=k) rfl rfl c4 (by rw[hl2];exact im (am [k,w.ring,w.ring.toNat] [(11,1),(1,2),(2,0)] rfl z1 (qt w.ring))) (by rw[hl2];(clear hm hline hz hr1 hlen hne z0 z1 hl2;lia)) (hR' _ _ ⟨_,rfl,x4.mut hca,(aP hne).trans r4,?_⟩)
   rw[aj,D7,hzj,Gi];rfl
  ·refine cY hQ fun di hr128_1 x4 r4 c4=>?_
   try clear hQ
   subst hr128_1
   refine ⟨af r4,?_⟩
   rw[Dt,Ec] at c4
   exact aR (hR _ _ (kY _ _ rfl x4 c4))
 ·refine aG hP fun on di hr132_2 x2 c2=>?_
  try clear hP
  subst hr132_2
  refine ⟨af (x2 _ _ hs),?_⟩
  rw[Dt,Ec] at c2
  refine aX (aA (Std.n_max (by assumption)) ak (a9 rfl ?_))
  refine yl rfl (af c2) (by rw[iQ,FE];exact im (am [w.ring,w.ring.toNat] [(112,0),(0,1),(1,110)] rfl hr1 (qt w.ring))) fun M h1 h2=>?_
  rw[wD h1 h2]
  exact K _ x2
end
end
section
set_option maxHeartbeats 1000000
open PySem PyProof.Rows
noncomputable def qS:Vs:=[aq "self",aq "work"]
noncomputable def lL:List St :=
  [.exp (.call "need_work" [(.nm 1)]),
  .seta (.nm 0) "work" (.tup [(.sub (.nm 1) (.ci 0)),(.sub (.nm 1) (.ci 1)),(.call "list" [(.sub (.nm 1) (.ci 2))])]),
  .seta (.nm 0) "rows" (.lst []),
  .seta (.nm 0) "least" .cn]
noncomputable def kN:Vs:=[aq "self",aq "given",aq "seen"]
noncomputable def jf:List St :=
  [.exp (.call "need_look" [(.att (.nm 0) "work"),(.tup [(.nm 1),(.nm 2)])]),
  .exp (.meth (.att (.nm 0) "rows") "append" [(.tup [(.nm 1),(.nm 2)])]),
  .seta (.nm 0) "least" .cn]
noncomputable def iC:Vs:=[aq "self",aq "number"]
noncomputable def fx:List St :=
  [.ife (.una .Not (.call "is_among" [(.nm 1),(.ci 0),(.bin .Sub (.call "len" [(.att (.nm 0) "rows")]) (.ci 1))])) [.rais "NoLook" "no such look"] []]
noncomputable def gz:Vs:=[aq "self",aq "number",aq "line",aq "digit",aq "ring",aq "inputs",aq "parts",aq "given",aq "seen"]
noncomputable def eh:List St :=
  [.exp (.meth (.nm 0) "need_number" [(.nm 1)]),
  .unp [4,5,6] (.att (.nm 0) "work"),
  .unp [7,8] (.sub (.att (.nm 0) "rows") (.nm 1)),
  .ife (.bop .Or [(.una .Not (.call "is_among" [(.nm 2),(.nm 5),(.bin .Sub (.bin .Add (.nm 5) (.call "len" [(.nm 6)])) (.ci 1))])),(.una .Not (.call "is_among" [(.nm 3),(.ci 0),(.bin .Sub (.nm 4) (.ci 1))]))]) [.rais "BadLook" "no line of a part, or no digit"] [],
  .ife (.cmp .In (.nm 2) (.comp 1 (.sub (.nm 9) (.ci 0)) (.nm 8) [])) [.rais "BadLook" "that line is seen already"] [],
  .seti (.att (.nm 0) "rows") (.nm 1) (.tup [(.nm 7),(.call "tuple" [(.call "sorted" [(.bin .Add (.call "list" [(.nm 8)]) (.lst [(.tup [(.nm 2),(.nm 3)])]))])])]),
  .seta (.nm 0) "least" .cn]
noncomputable def j6:Vs:=[aq "self"]
noncomputable def iB:List St :=
  [.ret (.call "list" [(.att (.nm 0) "rows")])]
noncomputable def j5:Vs:=[aq "self"]
noncomputable def iA:List St :=
  [.ife (.cmp .Is (.att (.nm 0) "least") .cn) [.seta (.nm 0) "least" (.call "least_sets" [(.att (.nm 0) "work"),(.att (.nm 0) "rows")])] [],
  .ret (.att (.nm 0) "least")]
noncomputable def kP:Vs:=[aq "self"]
noncomputable def jg:List St :=
  [.ret (.call "list" [(.meth (.nm 0) "known" [])])]
noncomputable def kO:Vs:=[aq "self",aq "number",aq "inputs",aq "best",aq "line",aq "load"]
noncomputable def gy:List St :=
  [.exp (.meth (.nm 0) "need_number" [(.nm 1)]),
  .asg 2 (.sub (.att (.nm 0) "work") (.ci 1)),
  .asg 3 .cn,
  .for [4] (.pl (.call "range" [(.nm 2),(.bin .Add (.nm 2) (.call "len" [(.sub (.att (.nm 0) "work") (.ci 2))]))])) [.asg 5 (.call "load_of" [(.att (.nm 0) "work"),(.sub (.att (.nm 0) "rows") (.nm 1)),(.meth (.nm 0) "known" []),(.nm 4)]),
  .ife (.bop .Or [(.cmp .Is (.nm 3) .cn),(.cmp .Lt (.nm 5) (.sub (.nm 3) (.ci 1)))]) [.asg 3 (.tup [(.nm 4),(.nm 5)])] []],
  .ret (.nm 3)]
noncomputable def eH (w:Wk) (pa ra:Addr) (lv:V):List (String × V):=[("work",w.v pa),("rows",.ref ra),("least",lv)]
noncomputable def lO (P:Addr->Prop) (w:Wk) (LL:List Lk) (H:MH) (lv:V):Prop:=lv = .none ∨ ∃ la,lv = .ref la/\P la/\H la=some (.lst ((bV w LL).map bH))
structure Srch (P:Addr->Prop)(H:MH)(a dx pa ra:Addr)(w:Wk)(LL:List Lk):Prop where
 ins:H a=some (.ins "Search" dx)
 nsd:∃ lv,H dx=some (.nsd (eH w pa ra lv))/\lO P w LL H lv
 parts:H pa=some (.lst (w.ps.map Pt.v))
 rows:H ra=some (.lst (LL.map bh))
 apt:pa≠ra
noncomputable def gH (dx ra:Addr) (H H':MH):Prop:=∀ b o,b≠dx->b≠ra->H b=some o->H' b=some o
structure SrD (C:Cx):Prop extends ShD C where
 nw:NwD C
 ig:bq C "is_given" jb 2 gT
 nl:bq C "need_look" kE 2 je
 so:bq C "sets_of" jP 1 iV
 wi:bq C "is_within" ie 2 gn
 le:bq C "least_sets" j0 2 ij
 cl:Cls C "Search" qS 2 lL
 ml:Mth C "Search" "look" kN 3 jf
 mn:Mth C "Search" "need_number" iC 2 fx
 mo:Mth C "Search" "looks" j6 1 iB
 mq:Mth C "Search" "known" j5 1 iA
 ms:Mth C "Search" "sets" kP 1 jg
 mx:Mth C "Search" "next_line" kO 2 gy
 me:Mth C "Search" "see" gz 4 eh
 aw:At C "Search" "work"
 ar:At C "Search" "rows"
 al:At C "Search" "least"
section
variable {P:Addr->Prop}{w:Wk}{pa ra a dx:Addr}{H H':MH}{LL:List Lk}{lv:V}
theorem gk:cW (eH w pa ra lv) "work" = some (w.v pa):=by kernel_rfl
theorem dN:cW (eH w pa ra lv) "rows" = some (.ref ra):=by kernel_rfl
theorem mt:cW (eH w pa ra lv) "least" = some lv:=by kernel_rfl
theorem jo:cW (eH w pa ra lv) "need_number" = none:=by kernel_rfl
theorem sM:cW (eH w pa ra lv) "look" = none:=by kernel_rfl
theorem qO:cW (eH w pa ra lv) "looks" = none:=by kernel_rfl
theorem qK:cW (eH w pa ra lv) "known" = none:=by kernel_rfl
theorem sO:cW (eH w pa ra lv) "sets" = none:=by kernel_rfl
theorem sN:cW (eH w pa ra lv) "next_line" = none:=by kernel_rfl
theorem Bb:cW (eH w pa ra lv) "see" = none:=by kernel_rfl
theorem jS {v:V}:bF (eH w pa ra lv) "least" v=eH w pa ra v:=by kernel_rfl
theorem lO.ext (h:lO P w LL H lv)(y:ay H H'):lO P w LL H' lv:=h.imp id fun hq1=>bN hq1 fun la e p q=>⟨la,e,p,y _ _ q⟩
theorem lO.glb (h:lO P w LL H lv):∀ y,lv ≠ .glb y:=fun y e=>by
 rcases h with h | ⟨la,h,_,_⟩ <;> rw[h] at e <;> cases e
theorem Srch.ext (x:Srch P H a dx pa ra w LL)(y:ay H H'):Srch P H' a dx pa ra w LL :=
 let ⟨lv,h1,h2⟩:=x.nsd
 ⟨y _ _ x.ins,⟨lv,y _ _ h1,h2.ext y⟩,y _ _ x.parts,y _ _ x.rows,x.apt⟩
theorem Srch.ne (x:Srch P H a dx pa ra w LL){b:Addr}{o:O}(h:H b=some o)(ho:∀ l,o ≠ .nsd l):b≠dx:=fun e=>by
 refine ad x.nsd fun lv h1 zz=>?_
 rw[e,h1] at h;cases h;exact ho _ rfl
theorem xO (y:ay H H'){dx ra:Addr}:gH dx ra H H':=fun b o zz zz h=>y b o h
theorem pR {dx ra:Addr}(y:cm dx H H'):gH dx ra H H':=fun b o n zz h=>y b o n h
theorem gH.trans {dx ra:Addr}{H'':MH}(x:gH dx ra H H')(y:gH dx ra H' H''):gH dx ra H H'':=fun b o n n' e=>y b o n n' (x b o n n' e)
theorem bz {dx:Addr}{o:O}:cm dx H (an H dx o):=fun b o' n e=>by rw[aP n];exact e
theorem cm.gone (y:cm dx H H')(x:Srch P H' a dx pa ra w LL){b:Addr}(h:H' b=none):H b=none:=by
 refine ad x.nsd fun lv h1 zz=>?_
 cases e:H b with
 | none=>rfl
 | some o=>
  by_cases q:b=dx
  ·rw[q,h1] at h;cases h
  ·rw[y b o q e] at h;cases h
theorem Srch.mono {P':Addr->Prop}(x:Srch P H a dx pa ra w LL)(k:∀ b l,H b=some (.lst l)->P b->P' b):Srch P' H a dx pa ra w LL:=by
 refine ad x.nsd fun lv h1 h2=>?_
 exact ⟨x.ins,⟨lv,h1,h2.imp id fun hq2=>bN hq2 fun la e p q=>⟨la,e,k _ _ q p,q⟩⟩,x.parts,x.rows,x.apt⟩
theorem Srch.set {v:V}(x:Srch P H a dx pa ra w LL)(hv:lO P w LL H v):Srch P (an H dx (.nsd (eH w pa ra v))) a dx pa ra w LL:=by
 refine ⟨bz _ _ (x.ne x.ins fun zz=>nofun) x.ins,⟨v,aj ..,hv.imp id fun ⟨la,e,p,q⟩=>⟨la,e,p,bz _ _ (x.ne q fun zz=>nofun) q⟩⟩,bz _ _ (x.ne x.parts fun zz=>nofun) x.parts,bz _ _ (x.ne x.rows fun zz=>nofun) x.rows,x.apt⟩
end
section
variable {P:Addr->Prop}{C:Cx}{X:XP}{n:Nat}{H:MH}{Q:V->MH->Prop}{w:Wk}{pa ra a dx:Addr}{LL:List Lk}{most:Nat}{d:Md}{ρ:Lo}
theorem Mth.go {cn m:String}{vs:Vs}{np:Nat}{body:List St}{l:List (String × V)}{es:List Ex}(M:Mth C cn m vs np body)(h1:H a=some (.ins cn dx))(h2:H dx=some (.nsd l))(h3:cW l m=none)
  (k:∀ f,hV C vs np body f->dq C d es ρ H (BP C d (.ref f) (.ref a) Q X) X):BO C d m es ρ Q X (.ref a) H:=by
 refine bN M.ex fun f mg cg F=>?_
 exact ⟨_,mg h1 h2 h3,cg,k f F⟩
theorem n7 {f:Addr}{i:Nat}(D:SrD C)(F:hV C iC 2 fx f)(x:Srch P H a dx pa ra w LL)(hL:LksOk w LL)(hi:i<LL.length)(K:Q .none H):bn C ⟨n+2,true⟩ (.ref f) [.ref a,.int i] H Q X:=by
 have hz:10000<Dz:=by decide
 have hll:=hL.len
 refine ad x.nsd fun lv h1 h2=>?_
 have G:=D.G;have S:=D.S
 refine F rfl ?_
 unfold fx
 refine aI (b8 (bP ?_))
 refine bw D.nw.a.fn ?_
 refine a8 rfl (ck (ac (aE (aA (Std.n_len (by assumption)) ak (ac (b7 (ag rfl ?_)))))))
 refine bD D.ar x.ins h1 dN (fun y=>nofun) ?_
 refine ah ?_
 refine bp (af x.rows) (by rw[Dt];exact aB (au (ae [LL.length] [(0,210),(.a 16777326 111,0)] rfl hll))) ?_
 rw[Dt]
 refine aO (bZ (ah ?_))
 refine dh D.G D.S D.nw.a ?_
 rw[show (decide ((0:Int)<=(i:Int))&&decide ((i:Int)<=(LL.length:Int)-1))=true by simp;exact aY (am [i,LL.length] [(11,1),(.a (.s 1 111) 111,0)] rfl (ql hi))]
 refine ai (bR (aL ?_))
 exact K
theorem m7 {f:Addr}(D:SrD C)(F:hV C j6 1 iB f)(x:Srch P H a dx pa ra w LL)(hL:LksOk w LL)(K:∀ r H',ay H H'->H r=none->H' r=some (.lst (LL.map bh))->Q (.ref r) H'):bn C ⟨n+1,true⟩ (.ref f) [.ref a] H Q X:=by
 have hz:10000<Dz:=by decide
 have hll:=hL.len
 refine ad x.nsd fun lv h1 h2=>?_
 have G:=D.G;have S:=D.S
 refine F rfl ?_
 unfold iB
 refine aX (aA (Std.n_list (by assumption)) aH (ac (b7 (ag rfl ?_))))
 refine bD D.ar x.ins h1 dN (fun y=>nofun) ?_
 refine ah ?_
 exact dK (.inl ⟨_,rfl⟩) (af x.rows) (by rw[Dt];exact aB (au (ae [LL.length] [(0,210),(.a 16777326 111,0)] rfl hll))) fun r hr=>K r _ (.new hr) hr (aj ..)
theorem pZ {f:Addr}(D:SrD C)(F:hV C j5 1 iA f)(hw:w.Ok most)(hm:most<=7)(x:Srch P H a dx pa ra w LL)(hL:LksOk w LL)(hP:∀ b,H b=none->P b)
  (K:∀ la H',cm dx H H'->Srch P H' a dx pa ra w LL->H' la=some (.lst ((bV w LL).map bH))->Q (.ref la) H'):bn C ⟨n+18,true⟩ (.ref f) [.ref a] H Q X:=by
 refine ad x.nsd fun lv h1 h2=>?_
 have G:=D.G;have S:=D.S
 refine F rfl ?_
 unfold iA
 refine aI (aK (b7 (ag rfl ?_)))
 refine bD D.al x.ins h1 mt h2.glb ?_
 refine cH ?_
 rcases id h2 with rfl | ⟨la,rfl,_,hla⟩
 ·refine fB ?_
  refine ai (bC (bg (dJ ?_)))
  refine bw D.le.fn ?_
  refine ac (b7 (ag rfl ?_))
  refine bD D.aw x.ins h1 gk (fun y=>nofun) ?_
  refine ac (b7 (ag rfl ?_))
  refine bD D.ar x.ins h1 dN (fun y=>nofun) ?_
  refine ah ?_
  refine jZ (n:=n) D.toWlD D.so D.wi D.le hw hm x.parts x.rows hL fun r H1 x1 hr1 r1=>?_
  have s1:=x.ext x1
  refine ag rfl ?_
  refine dj D.al s1.ins (x1 _ _ h1) (show 3<=900 by decide) ?_
  rw[jS]
  have s2:=s1.set (.inr ⟨r,rfl,hP r hr1,r1⟩)
  have y2:cm dx H (an H1 dx (.nsd (eH w pa ra (.ref r)))):=(x1.b dx).trans bz
  have n2:=aj H1 dx (.nsd (eH w pa ra (.ref r)))
  have r2:=bz (dx:=dx) (o:=.nsd (eH w pa ra (.ref r))) _ _ (s1.ne r1 fun zz=>nofun) r1
  generalize an H1 dx (.nsd (eH w pa ra (.ref r)))=H2 at s2 y2 n2 r2
  refine aL (aX (b7 (ag rfl ?_)))
  refine bD D.al s2.ins n2 mt (fun y=>nofun) ?_
  exact K r H2 y2 s2 r2
 ·refine lF ?_
  refine ai (bf (aL (aX (b7 (ag rfl ?_)))))
  refine bD D.al x.ins h1 mt (fun y=>nofun) ?_
  exact K la H ((ay.refl H).b dx) x hla
theorem sL {f:Addr}(D:SrD C)(F:hV C kP 1 jg f)(hw:w.Ok most)(hm:most<=7)(x:Srch P H a dx pa ra w LL)(hL:LksOk w LL)(hP:∀ b,H b=none->P b)
  (K:∀ r H',cm dx H H'->Srch (fun b=>P b/\b≠r) H' a dx pa ra w LL->H r=none->H' r=some (.lst ((bV w LL).map bH))->Q (.ref r) H'):bn C ⟨n+19,true⟩ (.ref f) [.ref a] H Q X:=by
 have hz:10000<Dz:=by decide
 have hp2:=hw.p2
 refine ad x.nsd fun lv h1 h2=>?_
 have G:=D.G;have S:=D.S
 have hln:=(jk w.ps.length (by exact be (ae [most,w.ps.length] [(0,117),(1,0),(118,1)] rfl hm hp2))).2
 have hfl:=gE w LL (cK w.ps.length w.ps.length) []
 refine F rfl ?_
 unfold jg
 refine aX (aA (Std.n_list (by assumption)) aH (ac (bG (ag rfl ?_))))
 refine D.mq.go x.ins h1 qK fun f' F'=>?_
 refine ah ?_
 refine pZ (n:=n) D F' hw hm x hL hP fun la H1 y1 s1 l1=>?_
 refine ah ?_
 refine dK (.inl ⟨_,rfl⟩) (af l1) (by rw[Dt];unfold bV;simp only[F3] at hfl;exact aB (au (ae [(cK w.ps.length w.ps.length).length,(Gp (cG w LL) [] (cK w.ps.length w.ps.length)).length] [(0,310),(1,.a 110 0),(.a 16777326 111,1)] rfl hln hfl))) fun r hr=>?_
 exact K r _ (y1.trans ((ay.new hr).b dx)) ((s1.mono fun b l e p=>⟨p,fun z=>by rw[z,hr] at e;cases e⟩).ext (.new hr)) (y1.gone s1 hr) (aj ..)
end
end
section
set_option maxHeartbeats 1000000
open PySem PyProof.Rows
structure Fst (f:Nat->Int)(m j:Nat):Prop where
 lt:j<m
 le:∀ i,i<m->f j<=f i
 fst:∀ i,i<j->f j<f i
section
variable {P:Addr->Prop}{C:Cx}{X:XP}{n:Nat}{H:MH}{Q:V->MH->Prop}{w:Wk}{pa ra a dx:Addr}{LL:List Lk}{most:Nat}{d:Md}{ρ:Lo}{g:List Int}{sn:List (Int × Int)}
theorem rG {l:List V}(q:Q (.bool false) H):bX C d .Is (.tup l) .none H Q X:=fun A s ca cb ok ra rb=>by
 dsimp only[VR] at ra;dsimp only[VR] at rb;obtain ⟨a,items,⟨rfl,_⟩,_⟩:=ra;subst rb
 exact is_none_ne (by simp) (qp ok.refl .bool_ q)
theorem Fst.one {f:Nat->Int}:Fst f 1 0:=⟨by decide,fun i hi=>by rw[show i=0 by exact cy (ae [i] [(11,110)] rfl) (ae [i] [(11,111),(.a 110 111,0)] rfl hi)];exact G3 _,fun i hi=>by lia⟩
theorem Fst.less {f:Nat->Int}{m j:Nat}(x:Fst f m j)(h:f m<f j):Fst f (m+1) m:=by
 refine ⟨by exact be (ae [m] [(11,0)] rfl),fun i hi=>?_,fun i hi=>by have:=x.le i hi;exact bE (am [f m,f j,f i] [(11,1),(1,2),(2,0)] rfl h this)⟩
 by_cases q:i=m
 ·subst q;exact G3 _
 ·have:=x.le i (by (clear h;lia));exact aY (am [f m,f j,f i] [(11,1),(1,2),(31,0)] rfl h this)
theorem Fst.more {f:Nat->Int}{m j:Nat}(x:Fst f m j)(h:¬ f m<f j):Fst f (m+1) j:=by
 refine ⟨by have:=x.lt;exact be (ae [j,m] [(11,1),(21,0)] rfl this),fun i hi=>?_,x.fst⟩
 by_cases q:i=m
 ·subst q;exact aY (am [f j,f i] [(0,1),(21,0)] rfl (zn h))
 ·exact x.le i (by (clear h;omega))
theorem si (D:SrD C)(hw:w.Ok most)(hm:most<=7)(hp:H pa=some (.lst (w.ps.map Pt.v)))
  (K:∀ a dx pb ra H',ay H H'->H dx=none->H ra=none->H pb=none->H a=none->Srch P H' a dx pb ra w []->Q (.ref a) H'):bB C ⟨n+5,true⟩ "Search" [w.v pa] H Q X:=by
 have hz:10000<Dz:=by decide
 have hp2:=hw.p2
 have G:=D.G;have S:=D.S
 refine D.cl.call rfl fun a dx ha hdx hne=>?_
 unfold lL
 have i0:an (an H dx (.nsd [])) a (.ins "Search" dx) a=some (.ins "Search" dx):=aj ..
 have d0:an (an H dx (.nsd [])) a (.ins "Search" dx) dx=some (.nsd []):=by rw[aP hne.symm,aj]
 have x0:cm dx H (an (an H dx (.nsd [])) a (.ins "Search" dx)):=fun b o hb h=>by
  rw[aP (fun z=>by rw[z,ha] at h;cases h),aP hb];exact h
 generalize an (an H dx (.nsd [])) a (.ins "Search" dx)=H0 at i0 d0 x0
 have ndx:∀ {H1:MH} {b:Addr} {o:O},H1 b=some o->H1 dx=some (.nsd [])->(∀ l,o ≠ .nsd l)->b≠dx:=fun h h' q z=>by rw[z,h'] at h;cases h;exact q _ rfl
 have hpd:pa≠dx:=fun z=>by rw[z,hdx] at hp;cases hp
 have p0:=x0 _ _ hpd hp
 refine cD ?_
 refine bw D.nw.w.fn ?_
 refine a9 rfl ?_
 refine qo (n:=n) (w:=w) (pa:=pa) G S D.nw hw (by exact au (ae [most] [(0,117),(.a 120 111,0)] rfl hm)) p0 fun H1 x1=>?_
 have i1:=x1 _ _ i0
 have d1:=x1 _ _ d0
 have p1:=x1 _ _ p0
 have x01:=x0.trans (x1.b dx)
 refine dJ (bJ (ac (ao rfl ?_)))
 refine bi rfl ?_
 refine ac (ao rfl ?_)
 refine bM rfl ?_
 refine ac (aA (Std.n_list (by assumption)) aH (ac (ao rfl ?_)))
 refine cS rfl ?_
 refine ah ?_
 refine dK (.inl ⟨_,rfl⟩) (af p1) (by rw[Dt];exact aB (au (ae [most,w.ps.length] [(0,117),(1,0),(.a 16777326 111,1)] rfl hm hp2))) fun pb hpb=>?_
 have i2:=(ay.new (o:=.lst (w.ps.map Pt.v)) hpb) _ _ i1
 have d2:=(ay.new (o:=.lst (w.ps.map Pt.v)) hpb) _ _ d1
 have b2:=aj H1 pb (.lst (w.ps.map Pt.v))
 have x02:=x01.trans ((ay.new (o:=.lst (w.ps.map Pt.v)) hpb).b dx)
 have hbd:pb≠dx:=fun z=>by rw[z,d1] at hpb;cases hpb
 have hpbH:H pb=none:=by
  cases e:H pb with
  | none=>rfl
  | some o=>have:=x01 _ _ hbd e;rw[hpb] at this;cases this
 generalize an H1 pb (.lst (w.ps.map Pt.v))=H2 at i2 d2 b2 x02
 refine ah ?_
 refine ⟨show 3<=Dz by decide,?_⟩
 refine ag rfl ?_
 refine dj D.aw i2 d2 (show 0<=900 by decide) ?_
 have hn1:bF [] "work" (V.tup [.int w.ring,.int w.inp,.ref pb]) = [("work",w.v pb)]:=by kernel_rfl
 rw[hn1]
 have i3:=bz (dx:=dx) (o:=.nsd [("work",w.v pb)]) _ _ hne i2
 have d3:=aj H2 dx (.nsd [("work",w.v pb)])
 have b3:=bz (dx:=dx) (o:=.nsd [("work",w.v pb)]) _ _ hbd b2
 have x03:=x02.trans (bz (dx:=dx) (o:=.nsd [("work",w.v pb)]))
 generalize an H2 dx (.nsd [("work",w.v pb)])=H3 at i3 d3 b3 x03
 refine dJ (bu (ah ?_))
 refine ⟨by decide,fun ra hra=>?_⟩
 have i4:=(ay.new (o:=.lst []) hra) _ _ i3
 have d4:=(ay.new (o:=.lst []) hra) _ _ d3
 have b4:=(ay.new (o:=.lst []) hra) _ _ b3
 have r4:=aj H3 ra (.lst [])
 have x04:=x03.trans ((ay.new (o:=.lst []) hra).b dx)
 have hrd:ra≠dx:=fun z=>by rw[z,d3] at hra;cases hra
 have hraH:H ra=none:=by
  cases e:H ra with
  | none=>rfl
  | some o=>have:=x03 _ _ hrd e;rw[hra] at this;cases this
 generalize an H3 ra (.lst [])=H4 at i4 d4 b4 r4 x04
 refine ag rfl ?_
 refine dj D.ar i4 d4 (show 1<=900 by decide) ?_
 have hn2:bF [("work",w.v pb)] "rows" (.ref ra) = [("work",w.v pb),("rows",.ref ra)]:=by kernel_rfl
 rw[hn2]
 have i5:=bz (dx:=dx) (o:=.nsd [("work",w.v pb),("rows",.ref ra)]) _ _ hne i4
 have d5:=aj H4 dx (.nsd [("work",w.v pb),("rows",.ref ra)])
 have b5:=bz (dx:=dx) (o:=.nsd [("work",w.v pb),("rows",.ref ra)]) _ _ hbd b4
 have r5:=bz (dx:=dx) (o:=.nsd [("work",w.v pb),("rows",.ref ra)]) _ _ hrd r4
 have x05:=x04.trans (bz (dx:=dx) (o:=.nsd [("work",w.v pb),("rows",.ref ra)]))
 generalize an H4 dx (.nsd [("work",w.v pb),("rows",.ref ra)])=H5 at i5 d5 b5 r5 x05
 refine dJ (cH (ag rfl ?_))
 refine dj D.al i5 d5 (show 2<=900 by decide) ?_
 have hn3:bF [("work",w.v pb),("rows",.ref ra)] "least" .none=eH w pb ra .none:=by kernel_rfl
 rw[hn3]
 refine aR ⟨rfl,K a dx pb ra _ (fun b o h=>?_) hdx hraH hpbH ha ⟨bz _ _ hne i5,⟨.none,aj ..,.inl rfl⟩,bz _ _ hbd b5,bz _ _ hrd r5,fun z=>by rw[<- z,b3] at hra;cases hra⟩⟩
 have hb:b≠dx:=fun z=>by rw[z,hdx] at h;cases h
 exact bz _ _ hb (x05 _ _ hb h)
theorem oG {f:Addr}(D:SrD C)(F:hV C kN 3 jf f)(hw:w.Ok most)(hm:most<=7)(x:Srch P H a dx pa ra w LL)(hL:LksOk w LL)(hl:LL.length<100)(L:LkOk w g sn)
  (K:∀ H',gH dx ra H H'->Srch P H' a dx pa ra w (LL ++ [(g,sn)])->Q .none H'):bn C ⟨n+4,true⟩ (.ref f) [.ref a,.tup (g.map .int),.tup (prs (bW sn))] H Q X:=by
 have hz:10000<Dz:=by decide
 refine ad x.nsd fun lv h1 h2=>?_
 have G:=D.G;have S:=D.S
 refine F rfl ?_
 unfold jf
 refine cD ?_
 refine bw D.nl.fn ?_
 refine ac (b7 (ag rfl ?_))
 refine bD D.aw x.ins h1 gk (fun y=>nofun) ?_
 refine ac (bJ (dX rfl rfl ?_))
 refine ⟨show 2<=Dz by decide,?_⟩
 refine ah ?_
 refine qj (n:=n) (w:=w) (pa:=pa) G S D.nw.a D.ig D.nl hw (by exact au (ae [most] [(0,117),(.a 120 111,0)] rfl hm)) x.parts L fun H1 x1=>?_
 have s1:=x.ext x1
 refine cD (bG (b7 (ag rfl ?_)))
 refine bD D.ar s1.ins (x1 _ _ h1) dN (fun y=>nofun) ?_
 refine ⟨_,cL s1.rows,ak,?_⟩
 refine ac (bJ (dX rfl rfl ?_))
 refine ⟨show 2<=Dz by decide,?_⟩
 refine ah ?_
 refine du s1.rows (by rw[Dt];exact aB (au (ae [LL.length] [(11,210),(.a 16777326 111,0)] rfl hl))) ?_
 have hrd:dx≠ra:=(s1.ne s1.rows fun zz=>nofun).symm
 have har:a≠ra:=fun z=>by have:=s1.ins;rw[z,s1.rows] at this;cases this
 have x2:cm ra H1 (an H1 ra (.lst (LL.map bh ++ [bh (g,sn)]))):=bz
 have r2:an H1 ra (.lst (LL.map bh ++ [bh (g,sn)])) ra=some (.lst ((LL ++ [(g,sn)]).map bh)):=by rw[aj,DO];rfl
 have y2:gH dx ra H (an H1 ra (.lst (LL.map bh ++ [bh (g,sn)]))):=fun b o zz n h=>x2 b o n (x1 b o h)
 show BM C _ _ _ _ _ V.none (an H1 ra (.lst (LL.map bh ++ [bh (g,sn)])))
 generalize an H1 ra (.lst (LL.map bh ++ [bh (g,sn)]))=H2 at x2 r2 y2
 refine dJ (cH (ag rfl ?_))
 refine dj D.al (x2 _ _ har s1.ins) (x2 _ _ hrd (x1 _ _ h1)) (show 3<=900 by decide) ?_
 rw[jS]
 refine aR (K _ (y2.trans (pR bz)) ⟨bz _ _ (s1.ne s1.ins fun zz=>nofun) (x2 _ _ har s1.ins),⟨.none,aj ..,.inl rfl⟩,bz _ _ (s1.ne s1.parts fun zz=>nofun) (x2 _ _ s1.apt s1.parts),bz _ _ hrd.symm r2,s1.apt⟩)
theorem sD {f:Addr}{i:Nat}(D:SrD C)(F:hV C kO 2 gy f)(hw:w.Ok most)(hm:most<=7)(x:Srch P H a dx pa ra w LL)(hL:LksOk w LL)(hi:LL[i]? = some (g,sn))(hP:∀ b,H b=none->P b)
  (K:∀ j H',cm dx H H'->Srch P H' a dx pa ra w LL->Fst (fun k=>fY w g sn (bV w LL) (w.inp+k)) w.ps.length j->Q (.tup [.int ((w.inp+j:Nat):Int),.int (fY w g sn (bV w LL) (w.inp+j))]) H'):bn C ⟨n+20,true⟩ (.ref f) [.ref a,.int i] H Q X:=by
 have hz:10000<Dz:=by decide
 have hp1:=hw.p1;have hp2:=hw.p2;have hi2:=hw.i2;have hll:=hL.len
 have hil:i<LL.length:=(DD.mp hi).1
 have L:LkOk w g sn:=hL.ok _ (DQ hi)
 refine ad x.nsd fun lv h1 h2=>?_
 have G:=D.G;have S:=D.S
 refine F rfl ?_
 unfold gy
 refine cD (bG (ag rfl ?_))
 refine D.mn.go x.ins h1 jo fun f' F'=>?_
 refine a9 rfl ?_
 refine n7 (n:=n+17) D F' x hL hil ?_
 refine aC (aQ (b7 (ag rfl ?_)))
 refine bD D.aw x.ins h1 gk (fun y=>nofun) ?_
 refine aO ?_
 refine bM rfl ?_
 refine aC (cH ?_)
 refine cA ?_
 refine aA (Std.n_range (by assumption)) aH (a8 rfl (ac (aE (ag rfl (aA (Std.n_len (by assumption)) ak (ac (aQ (b7 (ag rfl ?_)))))))))
 refine bD D.aw x.ins h1 gk (fun y=>nofun) ?_
 refine aO ?_
 refine cS rfl ?_
 refine ah ?_
 refine bp (af x.parts) (by rw[Dt];exact aB (au (ae [most,w.ps.length] [(0,117),(1,0),(.a 16777326 111,1)] rfl hm hp2))) ?_
 rw[Dt]
 refine bA (ah ?_)
 refine oz ?_
 refine ⟨_,d7 rfl (by exact aY (am [w.inp] [(110,0),(11,.g 1000000)] rfl (q0 w.inp))) (by exact aY (am [w.inp] [(0,116),(.a 1000110 111,0)] rfl (ql hi2))) (by exact aY (am [w.inp,w.ps.length] [(110,0),(110,1),(.a (.a 0 1) 111,.g 1000000)] rfl (q0 w.inp) (q0 w.ps.length))) (by exact aY (am [most,w.ps.length,w.inp] [(0,117),(1,0),(2,116),(.a 1000110 111,.a 2 1)] rfl (ql hm) (ql hp2) (ql hi2))),rfl,?_⟩
 have hrl:(dB (w.inp:Int) ((w.inp:Int)+(w.ps.length:Int)) 1).length=w.ps.length:=by rw[c9];lia
 refine ch (P:=fun k ρ H'=>∃ bv li lo,ρ = [some (.ref a),some (.int i),some (.int w.inp),some bv,li,lo]/\cm dx H H'/\Srch P H' a dx pa ra w LL/\((k=0/\bv = .none) ∨ ∃ j,bv = .tup [.int ((w.inp+j:Nat):Int),.int (fY w g sn (bV w LL) (w.inp+j))]/\Fst (fun k=>fY w g sn (bV w LL) (w.inp+k)) k j))
  ⟨.none,none,none,rfl,(ay.refl H).b dx,x,.inl ⟨rfl,rfl⟩⟩ (fun k y ρ H' R hP hy hR=>?_) fun ρ H' hP=>?_
 ·refine cZ hP fun bv li lo hr196_3 y' s' hb=>?_
  try clear hP
  subst hr196_3
  refine az (eA hy) fun hr197_0 hk=>?_
  subst hr197_0
  have hkp:k<w.ps.length:=by exact im (am [k,w.inp,w.ps.length] [(11,.s (.a 1 2) 1),(2,0)] rfl hk)
  refine ad s'.nsd fun lv' h1' h2'=>?_
  refine ⟨rfl,_,rfl,?_⟩
  rw[show (w.inp:Int)+(k:Int)=((w.inp+k:Nat):Int) by exact eV (am [w.inp,k] [(.a (.a 0 1) 111,.a 0 1)] rfl) (am [w.inp,k] [(.a (.a 0 1) 111,.a 0 1)] rfl)]
  refine aC ?_
  refine bw D.lo.fn ?_
  refine ac (b7 (ag rfl ?_))
  refine bD D.aw s'.ins h1' gk (fun y=>nofun) ?_
  refine ac (aQ (b7 (ag rfl ?_)))
  refine bD D.ar s'.ins h1' dN (fun y=>nofun) ?_
  refine ag rfl ?_
  refine aN (i:=i) (af s'.rows) (by rw[Dt];exact aB (au (ae [LL.length] [(0,210),(.a 16777326 111,0)] rfl hll))) (x:=bh (g,sn)) (by rw[DC,hi];rfl) ?_
  refine ac (bG (ag rfl ?_))
  refine D.mq.go s'.ins h1' qK fun f2 F2=>?_
  refine ah ?_
  refine pZ (n:=n+1) D F2 hw hm s' hL (fun b e=>hP b (y'.gone s' e)) fun la H1 y1 s1 l1=>?_
  refine a9 rfl ?_
  refine tH (n:=n+2) (w:=w) (pa:=pa) (g:=g) (sn:=sn) (line:=w.inp+k) D.toShD hw hm s1.parts L l1 (by exact be (ae [k,w.ps.length,w.inp] [(11,1),(.a 2 1,.a 2 0)] rfl hkp)) fun H2 x2=>?_
  have s2:=s1.ext x2
  have y2:=(y'.trans y1).trans (x2.b dx)
  generalize hF:(fun k=>fY w g sn (bV w LL) (w.inp+k))=F0 at hb hR
  have hFk:∀ k,fY w g sn (bV w LL) (w.inp+k)=F0 k:=fun k=>by rw[<- hF]
  simp -iota only[hFk] at hb hR ⊢
  rcases hb with ⟨rfl,rfl⟩ | ⟨j,rfl,hj⟩
  ·refine aI (cO (cC (aK (ag rfl (cH ?_)))))
   refine fB ?_
   refine ai (bC (bC (bg (aC (bJ (dX rfl rfl ?_))))))
   refine ⟨show 2<=Dz by decide,?_⟩
   exact aR (hR _ _ (rq _ _ _ rfl y2 s2 (.inr ⟨0,rfl,.one⟩)))
  ·refine aI (cO (cC (aK (ag rfl (cH ?_)))))
   refine rG ?_
   refine ai (bf (cC (aK (ag rfl (ao rfl ?_)))))
   refine bM rfl ?_
   refine jh (ai ?_)
   by_cases hlt:F0 k<F0 j
   ·rw[decide_eq_true hlt]
    refine bC (bC (bg (aC (bJ (dX rfl rfl ?_)))))
    refine ⟨show 2<=Dz by decide,?_⟩
    exact aR (hR _ _ (rq _ _ _ rfl y2 s2 (.inr ⟨k,rfl,hj.less hlt⟩)))
   ·rw[decide_eq_false hlt]
    refine bf (cM (bf (aL ?_)))
    exact aR (hR _ _ (rq _ _ _ rfl y2 s2 (.inr ⟨j,rfl,hj.more hlt⟩)))
 ·refine cZ hP fun bv li lo hr240_3 y' s' hb=>?_
  try clear hP
  subst hr240_3
  refine ⟨rfl,?_⟩
  rw[hrl] at hb
  rcases hb with ⟨e,_⟩ | ⟨j,rfl,hj⟩
  ·(clear hm hz hp2 hi2 hll hil hrl;omega)
  ·refine eY rfl ?_
   exact K j H' y' s' hj
end
end
section
set_option maxRecDepth 100000
open PySem PySem.W PyProof.Rows
noncomputable def wu {α:Type} (c:Nat->Nat->Bool):KasT α->α
 | .ret a=>a
 | .ask i j k=>wu c (k (c i j))
noncomputable def pe {α:Type} (n:Nat) (c:Nat->Nat->Bool):KasT α->Bool
 | .ret _=>true
 | .ask i j k=>decide (i<n)&&decide (j<n) && !decide (i=j)&&pe n c (k (c i j))
theorem sq {α:Type}{cmp:Nat->Nat->(Bool->Shared->Prop)->Shared->Prop}{n:Nat}{c:Nat->Nat->Bool}{Q:α->Shared->Prop}{s:Shared}(hc:∀ i j,i<n->j<n->i≠j -> ∀ C:Bool->Shared->Prop,C (c i j) s->cmp i j C s) :
  ∀ t:KasT α,pe n c t=true->Q (wu c t) s->t.kasWp cmp Q s
 | .ret a,_,h=>h
 | .ask i j k,g,h=>by
  have g:(decide (i<n)&&decide (j<n) && !decide (i=j)&&pe n c (k (c i j)))=true:=g
  simp only[Ev,decide_eq_true_eq,Gk,decide_eq_false_iff_not] at g
  exact hc i j g.1.1.1 g.1.1.2 g.1.2 _ (sq hc (k (c i j)) g.2 h)
noncomputable def gG (n r i:Nat):Nat:=if i+1=n then r else if i<r then i else i+1
theorem xi:∀ n,n<9 -> ∀ r,r<n->2<=n->pe n (fun i j=>decide (gG n r i<gG n r j)) (kas_sort n)=true /\
  (wu (fun i j=>decide (gG n r i<gG n r j)) (kas_sort n)).toList=DU r++(n-1)::(DU (n-1-r)).map (· + r):=by decide +kernel
section
variable {prog:Ee}{w:Fq}{A:D4}{E:Value->Shared->Prop}{s:Shared}
noncomputable def ph (h:Heap) (p:Int × Int) (v:Value):Prop:=∃ a o xs n t u,v = .ref a/\h.get? a=some o/\o.cls = .type "tuple" /\ o.data = .seq xs n/\xs = #[.int p.1 t,.int p.2 u]
theorem yJ {p q:Int × Int}{v v':Value}{Q:Bool->Shared->Prop}(hv:ph s.heap p v)(hv':ph s.heap q v')(hne:p.1≠q.1)(h:Q (decide (p.1<q.1)) s):wpAny (Er prog w) A (keyLt' (tuples' true) v v') Q E s:=by
 refine rp hv fun a o xs n t u hr35_6 ho hc hd hr35_10=>?_
 try clear hv
 subst hr35_6
 subst hr35_10
 refine rp hv' fun a' o' xs' n' t' u' hr36_6 ho' hc' hd' hr36_10=>?_
 try clear hv'
 subst hr36_6
 subst hr36_10
 refine kat_lt ho hd ho' hd' (kat_cons (wpAny_eqBool_int ?_))
 rw[beq_eq_false_iff_ne.mpr hne]
 exact kat_no (oneLt_int h)
theorem zm {l:List (Int × Int)}{vs:List Value}(hl:l.length=vs.length)(h:∀ (i:Nat) p v,l[i]? = some p->vs[i]? = some v->ph s.heap p v):∃ fs,KatTups s.heap vs fs/\fs.length=vs.length /\ ∀ v∈fs,∃ i t,v = .int i t:=by
 induction vs generalizing l with
 | nil=>exact ⟨[],.nil,rfl,fun zz h=>by cases h⟩
 | cons v vs ih=>
  cases l with
  | nil=>cases hl
  | cons p l=>
   refine bN (ih (l:=l) (Nat.succ.inj hl) fun i p v e e'=>h (i+1) p v e e') fun fs h1 h2 h3=>?_
   refine rp (h 0 p v rfl rfl) fun a o xs n t u hr48_6 ho hc hd hr48_10=>?_
   subst hr48_6
   subst hr48_10
   refine ⟨.int p.1 t::fs,.cons ho hc hd rfl h1,by simp[h2],fun v hv=>?_⟩
   rcases EW.mp hv with rfl | hv
   ·exact ⟨_,_,rfl⟩
   ·exact h3 v hv
theorem tN {r:Nat}:∀ {vs:List Value},vs.length<2->r<vs.length->Array.map (fun x=>x.2) (vs.toArray.zip vs.toArray)=((DU r++(vs.length-1)::(DU (vs.length-1-r)).map (· + r)).map fun i=>vs.getD i DJ).toArray
 | [],_,hr=>absurd hr (Hw _)
 | [v],_,hr=>by
  cases Nat.lt_one_iff.mp hr
  apply Array.toList_inj.mp
  simp
 | _::_::l,h2,_=>absurd h2 (GT.mpr (Nat.le_add_left 2 l.length))
theorem tZ {a:Addr}{vs:List Value}{l:List (Int × Int)}{n r:Nat}{P:PySem.Fin->Shared->Prop}(ho:s.heap.get? a=some (seqObj "list" vs.toArray n))(hl:l.length=vs.length)(h8:vs.length<9)(hr:r<vs.length)
  (hI:∀ h':Heap,(∀ b o,b≠a->s.heap.get? b=some o->h'.get? b=some o) -> ∀ (i:Nat) p v,l[i]? = some p->vs[i]? = some v->ph h' p v)
  (hc:∀ i j p q,l[i]? = some p->l[j]? = some q->i≠j->p.1≠q.1/\decide (p.1<q.1)=decide (gG vs.length r i<gG vs.length r j))
  (h:P (.done (.ret .none)) { s with heap:=sortedHeap s.heap a vs ((DU r++(vs.length-1)::(DU (vs.length-1-r)).map (· + r)).map fun i=>vs.getD i DJ).toArray }) :
  wpAny (Er prog w) A (DX.«list.sort» ⟨[.ref a],[]⟩) P E s:=by
 rw[list_sort_plain]
 have ha:a<s.heap.objs.size:=D_ ho
 have hz:1000<Dz:=by decide
 refine Dq (listItems_at ho rfl ?_)
 refine Dq (listUpdate_at ho rfl ?_ (by rw[FJ];exact aB (au (ae [vs.length] [(11,119),(.a 16777326 111,0)] rfl h8))) (EP _))
 obtain ⟨e1,ho1⟩:∃ e1,(s.heap.update a (EM fun zz=>#[])).get? a=some (seqObj "list" #[] e1):=⟨_,get?_update_seq ho (fun zz=>#[])⟩
 refine Dq (seqEpoch_at ho1 rfl ?_)
 refine Dq (wpAny_newTuple ?_ (by show vs.length<=_;exact aB (au (ae [vs.length] [(11,119),(.a 16777326 111,0)] rfl h8))))
 refine Dq (wpAny_newList ?_ (EP _))
 refine DT ?_
 have keep:∀ b o,b≠a->s.heap.get? b=some o->(((s.heap.update a (EM fun zz=>#[])).push (seqObj "tuple" vs.toArray 0)).push (seqObj "list" #[] 0)).get? b=some o:=fun b o nb e=>
  Dv _ (Dv _ ((EN _ _ (E9 nb)).trans e))
 have ho6:(((s.heap.update a (EM fun zz=>#[])).push (seqObj "tuple" vs.toArray 0)).push (seqObj "list" #[] 0)).get? a=some (seqObj "list" #[] e1):=Dv _ (Dv _ ho1)
 have hI':=hI _ keep
 show wpAny (Er prog w) A _ P E { s with heap:=((s.heap.update a (EM fun zz=>#[])).push (seqObj "tuple" vs.toArray 0)).push (seqObj "list" #[] 0) }
 unfold sortedHeap at h
 generalize ((s.heap.update a (EM fun zz=>#[])).push (seqObj "tuple" vs.toArray 0)).push (seqObj "list" #[] 0)=h6 at h ho6 hI' 
 dsimp only
 have hout:∀ (st:SortSt) (out:Array Value),(arrOf st).map (·.2)=out->failedOf st=none->out=((DU r++(vs.length-1)::(DU (vs.length-1-r)).map (· + r)).map fun i=>vs.getD i DJ).toArray->wpAny (Er prog w) A (do
   let touched:=(<- seqEpoch a) != e1
   DX.List.listUpdate (.ref a) fun zz=>(arrOf st).map (·.2)
   if let some e:=failedOf st then rule "list.sort.comparison-raised";throw e
   if touched then rule "list.sort.modified";raiseError "ValueError" "list modified during sort"
   ret .none) P E { s with heap:=h6 }:=fun st out e1' e2 e3=>by
  rw[e1',e2]
  have hsz:out.size<=vs.length:=by rw[e3];simp;(clear hl h8 ha hz;omega)
  refine Dq (seqEpoch_at ho6 rfl ?_)
  refine Dq (listUpdate_at ho6 rfl ?_ (EP _) (by (clear hl hr ha;lia)))
  simp only[bne_self_eq_false,D2,if_false]
  rw[e3]
  exact wpAny_pure h
 by_cases h2:vs.toArray.size<2
 ·rw[if_pos h2,if_pos h2]
  refine Dq (wpAny_pure ?_)
  rw[StateT.run_pure]
  refine Dq (wpAny_pure ?_)
  refine hout (SortSt.mk' general' (vs.toArray.zip vs.toArray) #[] 7 none) _ rfl rfl ?_
  rw[FJ] at h2
  exact tN h2 hr
 ·rw[if_neg h2,if_neg h2]
  rw[FJ] at h2
  refine bN (zm (s:={ s with heap:=h6 }) hl hI') fun fs t1 t2 t3=>?_
  refine Dq (kat_kind (s:={ s with heap:=h6 }) (T:=.type "int") t1 (by exact be (ae [vs.length,fs.length] [(112,0),(0,1),(1,110)] rfl (mn h2) (mf t2))) (fun v hv=>by obtain ⟨i,t,rfl⟩:=t3 v hv;exact Looks.of_pure rfl) (by decide) ?_)
  refine az (xi vs.length h8 r hr (by exact au (ae [vs.length] [(112,0),(11,112)] rfl (mn h2)))) fun g1 g2=>?_
  refine Dq (Dy (kat_run (ks:=vs) (G:=fun p s'=>p.toList=DU r++(vs.length-1)::(DU (vs.length-1-r)).map (· + r)/\s'={ s with heap:=h6 })
   (Q:=fun st' s'=>∃ p:Array Nat,arrOf st'=p.map (kas_item (vs.toArray.zip vs.toArray))/\failedOf st'=none/\p.toList=DU r++(vs.length-1)::(DU (vs.length-1-r)).map (· + r)/\s'={ s with heap:=h6 }) rfl (by exact au (ae [vs.length] [(112,0),(11,112)] rfl (mn h2))) (by exact be (ae [vs.length] [(11,119),(174,0)] rfl h8))
   (fun p st' s' a1 a2 a3 a4=>⟨p,a2,a3,a4⟩) (sq (c:=fun i j=>decide (gG vs.length r i<gG vs.length r j)) (fun i j hi hj hij Cn hC=>?_) (kas_sort vs.length) g1 ⟨g2,rfl⟩)) ?_ fun zz zz e=>e)
  ·unfold kas_ask
   have e1:l[i]? = some l[i]:=DA (by exact be (ae [vs.length,l.length,i] [(0,1),(31,0),(1,2)] rfl (mf hl) hi))
   have e2:l[j]? = some l[j]:=DA (by exact be (ae [vs.length,l.length,j] [(0,1),(31,0),(1,2)] rfl (mf hl) hj))
   have f1:vs[i]? = some (vs.getD i DJ):=by rw[DL,DA hi];rfl
   have f2:vs[j]? = some (vs.getD j DJ):=by rw[DL,DA hj];rfl
   refine az (hc i j _ _ e1 e2 hij) fun k1 k2=>?_
   refine yJ (s:={ s with heap:=h6 }) (hI' i _ _ e1 f1) (hI' j _ _ e2 f2) k1 ?_
   rw[k2];exact hC
  ·rintro ⟨⟨⟩,st'⟩ s' ⟨p,har,hf,hp,rfl⟩
   exact hout st' _ rfl hf (by rw[kat_snds rfl har,hp])
end
section
variable {C:Cx}{d:Md}{H:MH}{A:D4}{s:Shared}{Q:V->MH->Prop}{X:XP}
noncomputable def cB (l:List (Int × Int)):List V:=l.map fun p=>.tup [.int p.1,.int p.2]
theorem A6 {h:Heap}{l:List (Int × Int)}{vs:List Value}(r:aJ C h (cB l) vs){i:Nat}{p:Int × Int}{v:Value}(e:l[i]? = some p)(e':vs[i]? = some v):ph h p v:=by
 have e2:(cB l)[i]? = some (.tup [.int p.1,.int p.2]):=by unfold cB;rw[DC,e];rfl
 refine ad (r.get e2) fun v' h1 h2=>?_
 rw[e'] at h1;cases h1
 dsimp only[VR] at h2
 refine aG h2 fun a items ho134_2 ho134_3 rs=>?_
 try clear h2
 obtain ⟨rfl,_⟩:=ho134_2
 obtain ⟨o,ho,hc,n,hd⟩:=ho134_3
 refine aG rs.inv_cons fun v1 vs1 q1 r1 rs=>?_
 refine aG rs.inv_cons fun v2 vs2 q2 r2 rs=>?_
 have q3:=rs.inv_nil
 dsimp only[VR] at r1;dsimp only[VR] at r2
 refine aF r1 fun t hr139_1=>?_
 try clear r1
 subst hr139_1
 refine aF r2 fun u hr140_1=>?_
 try clear r2
 subst hr140_1
 refine ⟨a,o,items,n,t,u,rfl,ho,hc,hd,Array.toList_inj.mp ?_⟩
 rw[q1,q2,q3]
theorem c8 {l:List (Int × Int)}:(cB l).length=l.length:=by unfold cB;exact Dt ..
theorem qW {h:Heap}{l:List V}{vs:List Value}(r:aJ C h l vs):∀ (is:List Nat),(∀ i∈is,i<l.length)->aJ C h (is.map fun i=>l.getD i .none) (is.map fun i=>vs.getD i DJ)
 | [],_=>aJ.nil
 | i::is,hi=>by
  have hl:=hi i (by simp)
  refine ad (r.get (DA hl)) fun v h1 h2=>?_
  refine aJ.cons ?_ (qW r is fun j hj=>hi j (by simp[hj]))
  dsimp only
  rw[DL,DL,DA hl,h1];exact h2
theorem tR {α:Type}(l m:List α)(x:α):(DU l.length).map (fun i=>(l++m).getD i x)=l:=by
 refine Hg (by simp) fun i h1 h2=>?_
 rw[List.getElem_map,List.getElem_range,DL,EE h2,DA h2];rfl
theorem wK {α:Type}(l1 l2:List α)(y x:α):(DU l1.length++(l1.length+l2.length)::(DU l2.length).map (· + l1.length)).map (fun i=>(l1++l2 ++ [y]).getD i x)=l1++y::l2:=by
 rw[DO,D3,FR]
 congr 1
 ·rw[FK];exact tR l1 _ x
 ·congr 1
  ·rw[DL,D1 (by simp)];simp
  ·refine Hg (by simp) fun i h1 h2=>?_
   rw[List.getElem_map,List.getElem_range]
   show (l1++l2 ++ [y]).getD (i+l1.length) x=_
   rw[FK,DL,D1 (by exact au (ae [i,l1.length] [(.a (.a 0 1) 111,1)] rfl)),GU,EE h2,DA h2];rfl
theorem vv {α:Type}{l1 l2:List α}{y x:α}{i:Nat}(h:(l1++l2 ++ [y])[i]? = some x):(l1++y::l2)[gG (l1.length+l2.length+1) l1.length i]? = some x:=by
 have hi:i<l1.length+l2.length+1:=by have:=(DD.mp h).1;simp at this;exact be (ae [i,l1.length,l2.length] [(11,.a 1 31),(.a (.a 1 2) 111,0)] rfl this)
 unfold gG
 by_cases h1:i+1=l1.length+l2.length+1
 ·rw[if_pos h1]
  obtain rfl:i=l1.length+l2.length:=by exact cy (ae [l1.length,l2.length,i] [(.a (.a 0 1) 111,31),(31,.a 0 1)] rfl (mf h1)) (ae [i,l1.length,l2.length] [(11,.a (.a 1 2) 111),(.a (.a 1 2) 111,0)] rfl (me h1))
  rw[D1 (by simp)] at h
  simp at h
  subst h
  rw[D1 (Ea _)];simp
 ·rw[if_neg h1]
  rw[FK] at h
  by_cases h2:i<l1.length
  ·rw[if_pos h2]
   rw[EE h2] at h ⊢;exact h
  ·rw[if_neg h2]
   rw[D1 (by exact au (ae [l1.length,i] [(0,1),(21,0)] rfl (mn h2))),EE (by lia)] at h
   rw[D1 (by exact au (ae [l1.length,i] [(0,1),(.a 21 111,0)] rfl (mn h2))),show i+1-l1.length=(i-l1.length)+1 by exact cy (ae [i,i+1-l1.length,l1.length,i-l1.length] [(11,.a 1 2),(.a 3 2,0),(21,41)] rfl (ms (i+1) l1.length) (md (ae [l1.length,i] [(0,1),(21,0)] rfl (mn h2)))) (ae [i+1-l1.length,l1.length,i,i-l1.length] [(.a 0 1,31),(2,.a 3 1),(.a 41 111,0)] rfl (md (ae [l1.length,i] [(0,1),(.a 21 111,0)] rfl (mn h2))) (ms i l1.length)),List.getElem?_cons_succ];exact h
theorem yN {n r i j:Nat}(hr:r<n)(hi:i<n)(hj:j<n)(h:gG n r i=gG n r j):i=j:=by
 unfold gG at h
 split at h <;> split at h <;> (try split at h) <;> (try split at h) <;> lia
theorem pJ {a:Addr}{l1 l2:List (Int × Int)}{p:Int × Int}(h:H a=some (.lst (cB (l1++l2 ++ [p]))))(hl:l1.length+l2.length<8)(hs:(l1++p::l2).Pairwise fun x y=>x.1<y.1)
  (q:∀ r,H r=none->Q (.ref r) (an H r (.lst (cB (l1++p::l2))))):bn C d (.builtin "sorted") [.ref a] H Q X:=fun A s cs ok rs=>by
 refine ad (dS rs) fun c hr190_1 r=>?_
 subst hr190_1
 dsimp only[VR] at r;subst r
 obtain ⟨h0,items,⟨n,hL⟩,rs⟩:=ok.rel _ _ h
 have hz:1000<Dz:=by decide
 have hn:=rs.length
 rw[c8] at hn
 simp only[DZ,E7,F3] at hn
 obtain ⟨vs,rfl⟩:∃ vs:List Value,items=vs.toArray:=⟨items.toList,by rw[Array.toArray_toList]⟩
 simp only[GF] at rs hn
 refine Calls.call_function_entry kind_sorted plain_sorted entry_sorted (args_sorted1 _) ?_
 unfold DX.«sorted»
 refine Dq (m:=checkCount "sorted" 1 1 _) (wpAny_pure ?_)
 refine Dq (collect_list (IsL.isList (n:=n) hL) ?_ (by exact aB (au (ae [l1.length,l2.length,vs.length] [(.a (.a 0 1) 111,118),(2,.a (.a 0 1) (.a 110 111)),(.a 16777326 111,2)] rfl hl (mf hn)))))
 refine Dq (wpAny_newList ?_ (by exact aB (au (ae [l1.length,l2.length,vs.length] [(.a (.a 0 1) 111,118),(2,.a (.a 0 1) (.a 110 111)),(.a 16777326 111,2)] rfl hl (mf hn)))))
 have keep:∀ b o,s.heap.get? b=some o->((s.heap.push (seqObj "list" #[] 0)).update s.heap.objs.size (EM (· ++ vs.toArray))).get? b=some o:=fun b o e=>
  (EN _ _ (E9 (GK (D_ e)))).trans (Dv _ e)
 have hsz:((s.heap.push (seqObj "list" #[] 0)).update s.heap.objs.size (EM (· ++ vs.toArray))).objs.size=s.heap.objs.size+1:=by rw[Heap.size_update,size_push']
 generalize (s.heap.push (seqObj "list" #[] 0)).update s.heap.objs.size (EM (· ++ vs.toArray))=h1 at keep hsz
 have hoL:(h1.push (seqObj "list" vs.toArray 0)).get? h1.objs.size=some (seqObj "list" vs.toArray 0):=DG _ rfl
 have hlt:∀ b o,s.heap.get? b=some o->b≠h1.objs.size:=fun b o e=>GK (Nat.lt_of_lt_of_le (D_ e) (by rw[hsz];exact HJ _))
 have hnone:s.heap.get? h1.objs.size=none:=by
  cases e:s.heap.get? h1.objs.size with
  | none=>rfl
  | some o=>exact (hlt _ _ e rfl).elim
 have hlv:(l1++l2 ++ [p]).length=vs.length:=by simp;exact cy (ae [vs.length,l1.length,l2.length] [(0,.a (.a 1 2) (.a 110 111)),(.a (.a 1 31) 111,0)] rfl (mf hn)) (ae [l1.length,l2.length,vs.length] [(.a (.a 0 1) (.a 110 111),2),(31,.a 0 21)] rfl (me hn))
 have hvl:vs.length=l1.length+l2.length+1:=by exact cy (ae [l1.length,l2.length,vs.length] [(.a (.a 0 1) (.a 110 111),2),(31,.a (.a 0 1) 111)] rfl (me hn)) (ae [vs.length,l1.length,l2.length] [(0,.a (.a 1 2) (.a 110 111)),(.a (.a (.a 1 2) 111) 111,0)] rfl (mf hn))
 refine Dq (DT (EC slot_list_sort ⟨_,hoL,rfl⟩ entry_list_sort (tZ (s:={ s with heap:=h1.push (seqObj "list" vs.toArray 0) }) (l:=l1++l2 ++ [p]) (r:=l1.length) hoL hlv (by exact be (ae [l1.length,l2.length,vs.length] [(.a (.a 0 1) 111,118),(2,.a (.a 0 1) 111),(119,2)] rfl hl (me hvl))) (by exact be (ae [l1.length,l2.length,vs.length] [(.a (.a 0 1) 111,2),(2,0)] rfl (mf hvl))) (fun h' k i x v e e'=>?_) (fun i j x y e e' hij=>?_) ⟨_,rfl,?_⟩) (args_list_sort _)))
 ·refine Bs (A6 rs e e') fun b o xs m t u hr217_6 ho r2=>?_
  subst hr217_6
  exact ⟨b,o,xs,m,t,u,rfl,k b o (hlt b o ho) (Dv _ (keep b o ho)),r2⟩
 ·rw[hvl]
  have z1:=vv e
  have z2:=vv e'
  have hi:i<l1.length+l2.length+1:=by have:=(DD.mp e).1;simp at this;exact be (ae [i,l1.length,l2.length] [(11,.a 1 31),(.a (.a 1 2) 111,0)] rfl this)
  have hj:j<l1.length+l2.length+1:=by have:=(DD.mp e').1;simp at this;exact be (ae [j,l1.length,l2.length] [(11,.a 1 31),(.a (.a 1 2) 111,0)] rfl this)
  have hne:gG (l1.length+l2.length+1) l1.length i≠gG (l1.length+l2.length+1) l1.length j:=fun z=>hij (yN (by exact be (ae [l1.length,l2.length] [(.a (.a 0 1) 111,0)] rfl)) hi hj z)
  generalize gG (l1.length+l2.length+1) l1.length i=a1 at z1 hne
  generalize gG (l1.length+l2.length+1) l1.length j=a2 at z2 hne
  refine aF (DD.mp z1) fun b1 c1=>?_
  refine aF (DD.mp z2) fun b2 c2=>?_
  rcases Nat.lt_or_gt_of_ne hne with g | g
  ·have:=ER.mp hs a1 a2 b1 b2 g
   rw[c1,c2] at this
   exact ⟨by exact f9 (am [x.fst,y.fst] [(11,1),(.w 0 0,1),(1,0)] rfl this),by rw[decide_eq_true this,decide_eq_true g]⟩
  ·have:=ER.mp hs a2 a1 b2 b1 g
   rw[c1,c2] at this
   exact ⟨by exact f9 (am [y.fst,x.fst] [(11,1),(1,0),(.w 0 0,1)] rfl this),by rw[decide_eq_false (by exact Gq.mpr (aY (am [y.fst,x.fst] [(11,1),(21,0)] rfl this))),decide_eq_false (by exact GT.mpr (au (ae [a2,a1] [(11,1),(21,0)] rfl g)))]⟩
 ·rw[show vs.length-1=l1.length+l2.length by exact cy (ae [l1.length,l2.length,vs.length,vs.length-1] [(.a (.a 0 1) 111,2),(2,.a 3 111),(41,.a 0 1)] rfl (mf hvl) (ms vs.length 1)) (ae [vs.length,l1.length,l2.length,vs.length-1] [(0,.a (.a 1 2) 111),(.a 3 111,0),(.a (.a 1 2) 111,3)] rfl (me hvl) (md (ae [l1.length,l2.length,vs.length] [(.a (.a 0 1) 111,2),(31,111)] rfl (mf hvl)))),show l1.length+l2.length-l1.length=l2.length by exact cy (ae [l1.length,l2.length,l1.length+l2.length-l1.length] [(.a 0 1,.a 2 0),(31,1)] rfl (ms (l1.length+l2.length) l1.length)) (ae [l1.length+l2.length-l1.length,l1.length,l2.length] [(.a 0 1,.a 1 2),(31,0)] rfl (md (ae [l1.length,l2.length] [(.a (.a 0 1) 111,0)] rfl)))]
  have key:aJ C s.heap (cB (l1++p::l2)) ((DU l1.length++(l1.length+l2.length)::(DU l2.length).map (· + l1.length)).map fun i=>vs.getD i DJ):=by
   have e0:=qW rs (DU l1.length++(l1.length+l2.length)::(DU l2.length).map (· + l1.length)) (fun i hi=>by
    rw[c8,hlv,hvl]
    rcases El.mp hi with q | q
    ·have:=Fs.mp q;exact be (ae [i,l1.length,l2.length] [(11,1),(.a (.a 1 2) 111,0)] rfl this)
    ·rcases EW.mp q with q | q
     ·exact be (ae [i,l1.length,l2.length] [(0,.a 1 2),(.a (.a 1 2) 111,0)] rfl (me q))
     ·refine ad (Ef.mp q) fun k hk hr244_2=>?_
      subst hr244_2
      have:=Fs.mp hk;exact be (ae [k,l2.length,l1.length] [(11,1),(.a (.a 2 1) 111,.a 0 2)] rfl this))
   have e1:cB (l1++l2 ++ [p])=cB l1++cB l2 ++ [.tup [.int p.1,.int p.2]]:=by unfold cB;rw[DO,DO];rfl
   have e2:cB (l1++p::l2)=cB l1 ++ .tup [.int p.1,.int p.2]::cB l2:=by unfold cB;rw[DO];rfl
   rw[e1] at e0
   have e3:=wK (cB l1) (cB l2) (V.tup [.int p.1,.int p.2]) V.none
   rw[c8,c8] at e3
   rw[e3,<- e2] at e0
   exact e0
  generalize (DU l1.length++(l1.length+l2.length)::(DU l2.length).map (· + l1.length)).map (fun i=>vs.getD i DJ)=out at key
  refine aF (sortedHeap_at (h:=h1.push (seqObj "list" vs.toArray 0)) (a:=h1.objs.size) (vs:=vs) (out:=out.toArray) hoL) fun e he=>?_
  have k2:∀ b o,s.heap.get? b=some o->(sortedHeap (h1.push (seqObj "list" vs.toArray 0)) h1.objs.size vs out.toArray).get? b=some o:=fun b o q=>by
   have q2:=Dv (seqObj "list" vs.toArray 0) (keep b o q)
   rw[sortedHeap_old (hlt b o q) (D_ q2)];exact q2
  have h0r:C.h0.get? h1.objs.size=EK:=bY ok.top hnone
  exact wpAny_pure ⟨_,rfl,jn ((Step.keeps (s':={ s with heap:=sortedHeap (h1.push (seqObj "list" vs.toArray 0)) h1.objs.size vs out.toArray }) ok.rel ok.top k2 rfl rfl).adopt (o:=.lst (cB (l1++p::l2))) hnone ⟨h0r,out.toArray,⟨e,he⟩,key.keep (.of_keeps k2)⟩) .ref_ (q _ (ok.rel.fresh hnone))⟩
end
end
section
set_option maxHeartbeats 1000000
open PySem PyProof.Rows
theorem jm (l:List (Int × Int)):prs (bW l)=cB l:=by unfold prs bW cB;rw[FR];rfl
noncomputable def cI (sn:List (Int × Int)) (p:Int × Int):List (Int × Int):=sn.filter (fun x=>decide (x.1<p.1))++p::sn.filter (fun x=>decide (p.1<x.1))
theorem fO {p:Int × Int}:∀ {sn:List (Int × Int)},sn.Pairwise (fun x y=>x.1<y.1)->(∀ x∈sn,x.1≠p.1)->sn=sn.filter (fun x=>decide (x.1<p.1))++sn.filter (fun x=>decide (p.1<x.1))
 | [],_,_=>rfl
 | x::sn,hp,hn=>by
  have ih:=fO (F7.mp hp).2 fun y hy=>hn y (by simp[hy])
  have hx:=hn x (by simp)
  rw[FT,FT]
  by_cases h:x.1<p.1
  ·rw[if_pos (decide_eq_true h),if_neg (by simp;exact aY (am [x.fst,p.fst] [(11,1),(21,0)] rfl h)),List.cons_append,<- ih]
  ·have hgt:p.1<x.1:=by lia
   have e1:sn.filter (fun x=>decide (x.1<p.1)) = []:=Hr.mpr fun y hy=>by
    have:=(F7.mp hp).1 y hy
    simp;exact aY (am [p.fst,x.fst,y.fst] [(11,1),(21,2),(31,0)] rfl hgt this)
   rw[if_neg (by simpa using h),if_pos (decide_eq_true hgt),e1,GC]
   rw[e1,GC] at ih
   rw[<- ih]
theorem lV {sn:List (Int × Int)}{p:Int × Int}(hp:sn.Pairwise (fun x y=>x.1<y.1)):(cI sn p).Pairwise (fun x y=>x.1<y.1):=by
 unfold cI
 refine HL.mpr ⟨hp.filter _,F7.mpr ⟨fun y hy=>by simpa using (Ep.mp hy).2,hp.filter _⟩,fun x hx y hy=>?_⟩
 have h1:x.1<p.1:=by simpa using (Ep.mp hx).2
 rcases EW.mp hy with rfl | hy
 ·exact h1
 ·have h2:p.1<y.1:=by simpa using (Ep.mp hy).2
  exact bE (am [x.fst,p.fst,y.fst] [(11,1),(21,2),(2,0)] rfl h1 h2)
theorem yq {sn:List (Int × Int)}{p x:Int × Int}(h:x∈cI sn p):x=p ∨ x∈sn:=by
 unfold cI at h
 rcases El.mp h with q | q
 ·exact .inr (Ep.mp q).1
 ·rcases EW.mp q with q | q
  ·exact .inl q
  ·exact .inr (Ep.mp q).1
theorem z7 {w:Wk}{g:List Int}{sn:List (Int × Int)}{line dig:Int}(L:LkOk w g sn)(hn:∀ x∈sn,x.1≠line)(hsl:sn.length<100)(h1:(w.inp:Int)<=line/\line<(w.inp:Int)+(w.ps.length:Int))(h2:0<=dig/\dig<w.ring):LkOk w g (cI sn (line,dig)):=by
 refine ⟨L.gl,L.gr,lV L.inc,fun x hx=>?_,?_⟩
 ·rcases yq hx with rfl | hx
  ·exact ⟨h1.1,h1.2,h2.1,h2.2⟩
  ·exact L.rng x hx
 ·have:=congrArg D0 (fO (p:=(line,dig)) L.inc hn)
  rw[DZ] at this
  unfold cI
  rw[DZ,E7];(clear h1 h2;omega)
theorem jO {w:Wk}{g:List Int}{sn:List (Int × Int)}(L:LkOk w g sn):sn.length<=w.ps.length:=by
 have h:=gv w.ps.length (sn.map fun p=>p.1-(w.inp:Int)) ?_ fun k hk=>?_
 ·simpa using h
 ·refine List.Pairwise.map _ (fun a b (h:a.1<b.1)=>?_) L.inc
  exact f9 (am [a.fst,b.fst,w.inp] [(11,1),(.w 0 (.s 0 2),.s 1 2),(.s 1 2,.s 0 2)] rfl h)
 ·refine ad (Ef.mp hk) fun p hp hr55_2=>?_
  subst hr55_2
  have:=L.rng p hp;exact ⟨aY (am [w.inp,p.fst] [(0,1),(.a (.s 1 0) 111,110)] rfl this.1),bE (am [p.fst,w.inp,w.ps.length] [(11,.a 1 2),(2,.s 0 1)] rfl this.2.1)⟩
section
variable {P:Addr->Prop}{C:Cx}{X:XP}{n:Nat}{H:MH}{Q:V->MH->Prop}{w:Wk}{pa ra a dx:Addr}{LL:List Lk}{most:Nat}{d:Md}{ρ:Lo}{g:List Int}{sn:List (Int × Int)}
theorem A_ {f:Addr}{i:Nat}{line dig:Int}(D:SrD C)(F:hV C gz 4 eh f)(hw:w.Ok most)(hm:most<=7)(x:Srch P H a dx pa ra w LL)(hL:LksOk w LL)(hi:LL[i]? = some (g,sn))
  (hline:(w.inp:Int)<=line/\line<(w.inp:Int)+(w.ps.length:Int)) (hdig:0<=dig/\dig<w.ring) (hn:∀ x∈sn,x.1≠line)
  (K:∀ H',gH dx ra H H'->Srch P H' a dx pa ra w (LL.set i (g,cI sn (line,dig)))->LkOk w g (cI sn (line,dig))->Q .none H'):bn C ⟨n+3,true⟩ (.ref f) [.ref a,.int i,.int line,.int dig] H Q X:=by
 have hz:10000<Dz:=by decide
 have hp2:=hw.p2;have hll:=hL.len
 have hil:i<LL.length:=(DD.mp hi).1
 have L:LkOk w g sn:=hL.ok _ (DQ hi)
 have hsn:=jO L
 refine ad x.nsd fun lv h1 h2=>?_
 have G:=D.G;have S:=D.S
 refine F rfl ?_
 unfold eh
 refine cD (bG (ag rfl ?_))
 refine D.mn.go x.ins h1 jo fun f' F'=>?_
 refine a9 rfl ?_
 refine n7 (n:=n) D F' x hL hil ?_
 refine hW (b7 (ag rfl ?_))
 refine bD D.aw x.ins h1 gk (fun y=>nofun) ?_
 refine ⟨[.int w.ring,.int w.inp,.ref pa],rfl,⟨.inl rfl,fun zz zz zz e=>by cases e⟩,rfl,?_⟩
 refine hW (aQ (b7 (ag rfl ?_)))
 refine bD D.ar x.ins h1 dN (fun y=>nofun) ?_
 refine ag rfl ?_
 refine aN (i:=i) (af x.rows) (by rw[Dt];exact aB (au (ae [LL.length] [(0,210),(.a 16777326 111,0)] rfl hll))) (x:=bh (g,sn)) (by rw[DC,hi];rfl) ?_
 refine ⟨[.tup (g.map .int),.tup (prs (bW sn))],rfl,⟨.inl rfl,fun zz zz zz e=>by cases e⟩,rfl,?_⟩
 refine aI (cO (cC (b8 (bP ?_))))
 refine bw D.nw.a.fn ?_
 refine a8 rfl (a8 rfl (ac (aE (aE (ag rfl (aA (Std.n_len (by assumption)) ak (a9 rfl ?_)))))))
 refine bp (af x.parts) (by rw[Dt];exact aB (au (ae [most,w.ps.length] [(0,117),(1,0),(.a 16777326 111,1)] rfl hm hp2))) ?_
 rw[Dt]
 refine bA (aO (bZ (ah ?_)))
 refine dh G S D.nw.a ?_
 rw[show (decide ((w.inp:Int)<=line)&&decide (line<=(w.inp:Int)+(w.ps.length:Int)-1))=true by simp;exact ⟨aY (am [w.inp,line] [(0,1),(21,0)] rfl hline.1),aY (am [line,w.inp,w.ps.length] [(11,.a 1 2),(.a (.s (.a 1 2) 111) 111,0)] rfl hline.2)⟩]
 refine ai (bR (cC (b8 (bP ?_))))
 refine bw D.nw.a.fn ?_
 refine a8 rfl (ck (ac (aV rfl (bZ (ah ?_)))))
 refine dh G S D.nw.a ?_
 rw[show (decide ((0:Int)<=dig)&&decide (dig<=w.ring-1))=true by simp;exact ⟨aY (am [dig] [(110,0),(11,110)] rfl hdig.1),aY (am [dig,w.ring] [(11,1),(.a (.s 1 111) 111,0)] rfl hdig.2)⟩]
 refine ai (bR (cM (bf (aL (aI (aK (ag rfl ?_)))))))
 refine cU ?_
 refine ag rfl ?_
 rw[jm]
 refine ⟨_,⟨.inl rfl,fun zz zz zz e=>by cases e⟩,rfl,by rw[c8];exact aB (au (ae [most,w.ps.length,sn.length] [(0,117),(1,0),(2,1),(.a 16777326 111,2)] rfl hm hp2 hsn)),?_⟩
 refine cq (P:=fun j acc H'=>acc=((sn.take j).map (·.1)).map .int/\H'=H) ⟨rfl,rfl⟩ (fun j y acc H' R hP hy hR=>?_) fun acc H' hP=>⟨rfl,?_⟩
 ·refine az hP fun hr104_0 hr104_1=>?_
  try clear hP
  subst hr104_0
  subst hr104_1
  unfold cB at hy
  rw[DC,DE] at hy
  refine ad hy fun q hqj hr107_2=>?_
  try clear hy
  subst hr107_2
  refine ⟨rfl,_,rfl,?_⟩
  refine dR (bC (ao rfl ?_))
  refine bi rfl (hR _ _ ⟨?_,rfl⟩)
  rw[D7,hqj,DO,DO];rfl
 refine az hP fun hr112_0 hr112_1=>?_
 try clear hP
 subst hr112_0
 subst hr112_1
 rw[c8,Ec]
 refine ⟨by rw[Dt,Dt];exact aB (au (ae [most,w.ps.length,sn.length] [(0,117),(1,0),(2,1),(.a 16777326 111,2)] rfl hm hp2 hsn)),fun c hc=>?_⟩
 have s1:=x.ext (.new (o:=.lst ((sn.map (·.1)).map .int)) hc)
 have n1:=(ay.new (o:=.lst ((sn.map (·.1)).map .int)) hc) _ _ h1
 have x1:ay H' (an H' c (.lst ((sn.map (·.1)).map .int))):=.new hc
 refine mL (da:=.int line) (db:=.list ((sn.map (·.1)).map .int)) (.int _) (.lst (aj ..) (iG _)) (.inl rfl) rfl (ii _) (by rw[jx];lia) ?_
 rw[show (((sn.map (·.1)).map E8).any fun y=>Em y (.int line))=false by
  rw[List.any_eq_false]
  intro y hy
  refine ad (Ef.mp hy) fun k hk hr122_2=>?_
  subst hr122_2
  refine ad (Ef.mp hk) fun q hq hr123_2=>?_
  subst hr123_2
  simp[Em]
  exact hn q hq]
 generalize an H' c (.lst ((sn.map (·.1)).map .int))=H1 at s1 n1 x1
 refine ai (bf (aL (eu (bJ (a8 rfl (ac (aA (Std.n_tuple (by assumption)) aH (ac (aA (Std.n_sorted (by assumption)) ak (ac (aE (aA (Std.n_list (by assumption)) aH (a9 rfl ?_)))))))))))))
 refine dK (.inr ⟨_,rfl⟩) rfl (by rw[c8];exact aB (au (ae [most,w.ps.length,sn.length] [(0,117),(1,0),(2,1),(.a 16777326 111,2)] rfl hm hp2 hsn))) fun la hla=>?_
 refine bu (ac (bJ (dX rfl rfl ?_)))
 refine ⟨show 2<=Dz by decide,?_⟩
 refine ah ?_
 refine ⟨show 1<=Dz by decide,fun lb hlb=>?_⟩
 refine dz ((ay.new hlb).items aW) aW (by rw[c8];simp;exact aB (au (ae [most,w.ps.length,sn.length] [(0,117),(1,0),(2,1),(.a 16777326 111,31)] rfl hm hp2 hsn))) fun lc hlc=>?_
 have x2:ay H1 (an (an (an H1 la (.lst (cB sn))) lb (.lst [.tup [.int line,.int dig]])) lc (.lst (cB sn ++ [.tup [.int line,.int dig]]))):=((ay.new hla).more hlb).more hlc
 have c2:an (an (an H1 la (.lst (cB sn))) lb (.lst [.tup [.int line,.int dig]])) lc (.lst (cB sn ++ [.tup [.int line,.int dig]])) lc=some (.lst (cB (sn.filter (fun x=>decide (x.1<line))++sn.filter (fun x=>decide (line<x.1)) ++ [(line,dig)]))):=by
  rw[aj,<- fO (p:=(line,dig)) L.inc hn];unfold cB;rw[DO];rfl
 generalize an (an (an H1 la (.lst (cB sn))) lb (.lst [.tup [.int line,.int dig]])) lc (.lst (cB sn ++ [.tup [.int line,.int dig]]))=H2 at x2 c2
 refine ah ?_
 have hlen:=congrArg D0 (fO (p:=(line,dig)) L.inc hn)
 rw[DZ] at hlen
 refine pJ c2 (by dsimp only at hlen;(clear hline hdig hz hll hil;omega)) (lV (p:=(line,dig)) L.inc) fun lr hlr=>?_
 have x3:=x2.more (o:=.lst (cB (cI sn (line,dig)))) hlr
 have L':=z7 (dig:=dig) L hn (by exact be (ae [most,w.ps.length,sn.length] [(0,117),(1,0),(2,1),(210,2)] rfl hm hp2 hsn)) hline hdig
 have hl':=L'.len
 refine ah ?_
 refine fH aW (by rw[c8];exact EI hl' (by decide)) ?_
 have s3:=s1.ext x3
 have n3:=x3 _ _ n1
 rw[show sn.filter (fun x=>decide (x.1<line))++(line,dig)::sn.filter (fun x=>decide (line<x.1))=cI sn (line,dig) from rfl]
 generalize an H2 lr (.lst (cB (cI sn (line,dig))))=H3 at x3 s3 n3
 refine ah ?_
 refine ⟨show 2<=Dz by decide,?_⟩
 refine b7 (ag rfl ?_)
 refine bD D.ar s3.ins n3 dN (fun y=>nofun) ?_
 refine ag rfl ?_
 refine iw s3.rows (by rw[Dt];exact be (ae [i,LL.length] [(11,1),(1,0)] rfl hil)) (by rw[Dt];exact aB (au (ae [LL.length] [(0,210),(.a 16777326 111,0)] rfl hll))) ?_
 have hrd:dx≠ra:=(s3.ne s3.rows fun zz=>nofun).symm
 have har:a≠ra:=fun z=>by have:=s3.ins;rw[z,s3.rows] at this;cases this
 have e4:(LL.map bh).set i (.tup [.tup (g.map .int),.tup (cB (cI sn (line,dig)))])=(LL.set i (g,cI sn (line,dig))).map bh:=by
  rw[List.map_set,<- jm];rfl
 rw[e4]
 have x4:cm ra H3 (an H3 ra (.lst ((LL.set i (g,cI sn (line,dig))).map bh))):=bz
 have r4:=aj H3 ra (.lst ((LL.set i (g,cI sn (line,dig))).map bh))
 have y4:gH dx ra H' (an H3 ra (.lst ((LL.set i (g,cI sn (line,dig))).map bh))):=fun b o zz n h=>x4 b o n (x3 b o (x1 b o h))
 generalize an H3 ra (.lst ((LL.set i (g,cI sn (line,dig))).map bh))=H4 at x4 r4 y4
 refine dJ (cH (ag rfl ?_))
 refine dj D.al (x4 _ _ har s3.ins) (x4 _ _ hrd n3) (show 3<=900 by decide) ?_
 rw[jS]
 refine aR (K _ (y4.trans (pR bz)) ⟨bz _ _ (s3.ne s3.ins fun zz=>nofun) (x4 _ _ har s3.ins),⟨.none,aj ..,.inl rfl⟩,bz _ _ (s3.ne s3.parts fun zz=>nofun) (x4 _ _ s3.apt s3.parts),bz _ _ hrd.symm r4,s3.apt⟩ L')
end
end
section
set_option maxHeartbeats 1000000
open PySem PyProof.Rows
noncomputable def ix:Vs:=[aq "self"]
noncomputable def fw:List St :=
  [.ife (.cmp .Eq (.att (.nm 0) "rows") (.lst [])) [.rais "NoLook" "no look is left"] [],
  .seta (.nm 0) "least" .cn,
  .ret (.meth (.att (.nm 0) "rows") "pop" [])]
noncomputable def lM:Vs:=[aq "_law_e",aq "_law_names",aq "_law_found"]
noncomputable def jW:List St :=
  [.asg 1 (.lst [(.tup [(.cs "work"),(.call "isinstance" [(.nm 0),(.gl "BadWork")])]),(.tup [(.cs "given"),(.call "isinstance" [(.nm 0),(.gl "BadGiven")])]),(.tup [(.cs "look"),(.call "isinstance" [(.nm 0),(.gl "BadLook")])])]),
  .asg 1 (.bin .Add (.nm 1) (.lst [(.tup [(.cs "set"),(.call "isinstance" [(.nm 0),(.gl "BadSet")])]),(.tup [(.cs "room"),(.call "isinstance" [(.nm 0),(.gl "HasRoom")])]),(.tup [(.cs "line"),(.call "isinstance" [(.nm 0),(.gl "NoLine")])])])),
  .asg 1 (.bin .Add (.nm 1) (.lst [(.tup [(.cs "none"),(.call "isinstance" [(.nm 0),(.gl "NoLook")])]),(.tup [(.cs "text"),(.call "isinstance" [(.nm 0),(.gl "BadText")])])])),
  .asg 2 (.comp 2 (.nm 3) (.nm 1) [(.nm 4)]),
  .ife (.una .Not (.call "isinstance" [(.nm 0),(.gl "ValueError")])) [.exp (.meth (.nm 2) "append" [(.cs "bare")])] [],
  .ret (.call "tuple" [(.nm 2)])]
noncomputable def rS:Vs:=[aq "_law_search",aq "_law_number",aq "_law_e"]
noncomputable def nF:List St :=
  [.tre [.ret (.meth (.nm 0) "next_line" [(.nm 1)])] "WorkError" (some 2) [.ret (.call "list" [(.call "_law_word" [(.nm 2)])])] []]
noncomputable def rP:Vs:=[aq "_law_search",aq "_law_looks_here",aq "_law_found",aq "_law_e"]
noncomputable def nC:List St :=
  [.tre [.asg 2 (.meth (.nm 0) "back" [])] "WorkError" (some 3) [.ret (.bop .And [(.cmp .Eq (.call "_law_word" [(.nm 3)]) (.tup [(.cs "none")])),(.cmp .Eq (.nm 1) (.lst []))])] [],
  .ret (.bop .And [(.cmp .NotEq (.nm 1) (.lst [])),(.call "isinstance" [(.nm 2),(.gl "tuple")]),(.cmp .Eq (.nm 2) (.sub (.nm 1) (.una .USub (.ci 1))))])]
noncomputable def hU (C:Cx) (e x:String) (b:Bool):Prop:=(∃ cv,C.G x cv) /\ ∀ {d:Md} {H:MH} {Q:V->MH->Prop} {X:XP},Q (.bool b) H->bn C d (.builtin "isinstance") [.exc e,.glb x] H Q X
structure WdK (C:Cx)(e:String)(b1 b2:Bool):Prop where
 work:hU C e "BadWork" false
 given:hU C e "BadGiven" false
 look:hU C e "BadLook" b1
 set:hU C e "BadSet" false
 room:hU C e "HasRoom" false
 line:hU C e "NoLine" false
 no:hU C e "NoLook" b2
 text:hU C e "BadText" false
 val:hU C e "ValueError" true
noncomputable def re (b1 b2:Bool):List V:=(if b1=true then [.str (Dn "look")] else [])++(if b2=true then [.str (Dn "none")] else [])
section
variable {C:Cx}{d:Md}{ρ:Lo}{H:MH}{Q:V->MH->Prop}{X:XP}{n:Nat}{q b1 b2:Bool}{e:String}
theorem gP {x:String}{b:Bool}{i:Nat}(S:Std C)(h:hU C e x b)(hl:lk ρ i=some (.exc e))(K:Q (.bool b) H):aU C d (.call "isinstance" [.nm i,.gl x]) ρ H Q X:=by
 refine aA (Std.n_isinstance S) ak (ac (ag hl (ac ?_)))
 refine az h fun ho46_0 h2=>?_
 try clear h
 obtain ⟨cv,hG⟩:=ho46_0
 exact fF hG (ah (h2 K))
theorem Bu {x:String}{b:Bool}{i:Nat}{P:Bool->MH->Prop}(S:Std C)(h:hU C e x b)(hl:lk ρ i=some (.exc e))(K:P b H):dH C d (.call "isinstance" [.nm i,.gl x]) ρ H P X :=
 bP (gP S h hl (ai K))
theorem pj {K:KP}{X:XS}{body hb el ts:List St}{c:String}{as:Option Nat}(h:aM C d body ρ H (fun f ρ' H'=>match f with | .next=>aM C d el ρ' H' (fun f ρ' H'=>match f with | .next=>aM C d ts ρ' H' K X | .ret v=>K (.ret v) ρ' H') X | .ret v=>K (.ret v) ρ' H')
   (fun c' ρ' H'=>∃ b,pg C c' c b/\if b=true then aM C d.in hb (zI as ρ' c') H' (fun f ρ2 H2=>match f with | .next=>aM C d ts (xJ as ρ2) H2 K X | .ret v=>K (.ret v) (xJ as ρ2) H2) (fun zz zz zz=>False) else X c' ρ' H')):aM C d (.tre body c as hb el::ts) ρ H K X:=by
 dsimp only[aM,dG];exact h
theorem xZ {K:KP}{X:XS}{ts:List St}{c m:String}(h:nM C d c H (fun c H1=>X c ρ H1)):aM C d (.rais c m::ts) ρ H K X:=by dsimp only[aM,dG];exact h
theorem lP {K:KP}{X:XS}{ts:List St}{c m:String}(h:nM C d c H (fun c H1=>X c ρ H1)):aM C d ([.rais c m]++ts) ρ H K X:=xZ h
noncomputable def wl (b1 b2:Bool):List (String × Bool):=[("work",false),("given",false),("look",b1),("set",false),("room",false),("line",false),("none",b2),("text",false)]
noncomputable def wv (p:String × Bool):V:=.tup [.str (Dn p.1),.bool p.2]
noncomputable def jX (l:List (String × Bool)):List V:=(l.filter (·.2)).map fun p=>.str (Dn p.1)
theorem xz (l l':List (String × Bool)):jX (l++l')=jX l++jX l':=by unfold jX;rw[Fx,DO]
theorem q_:∀ b1 b2:Bool,jX ((wl b1 b2).take ((wl b1 b2).map wv).length)=re b1 b2/\(re b1 b2).length<=2:=by intro b1 b2;cases b1 <;> cases b2 <;> exact ⟨rfl,by decide⟩
theorem lx (G:C.Good)(S:Std C)(W:WdK C e b1 b2)(D:bq C "_law_word" lM 1 jW)(K:∀ H',ay H H'->Q (.tup (re b1 b2)) H'):bB C ⟨n+1,q⟩ "_law_word" [.exc e] H Q X:=by
 have hz:1000<Dz:=by decide
 refine D.call G rfl ?_
 unfold jW
 refine aC (bu (ac (bJ (ac (aZ (ac (gP S W.work rfl (ah ⟨DY rfl,?_⟩))))))))
 refine ac (bJ (ac (aZ (ac (gP S W.given rfl (ah ⟨DY rfl,?_⟩))))))
 refine ac (bJ (ac (aZ (ac (gP S W.look rfl (ah ⟨DY rfl,ah ⟨DY rfl,fun a ha=>?_⟩⟩))))))
 refine aC (aE (ag rfl (bu (ac (bJ (ac (aZ (ac (gP S W.set rfl (ah ⟨DY rfl,?_⟩))))))))))
 refine ac (bJ (ac (aZ (ac (gP S W.room rfl (ah ⟨DY rfl,?_⟩))))))
 refine ac (bJ (ac (aZ (ac (gP S W.line rfl (ah ⟨DY rfl,ah ⟨DY rfl,fun b hb=>?_⟩⟩))))))
 refine dz ((ay.new hb).items aW) aW (DY rfl) fun c hc=>?_
 refine aC (aE (ag rfl (bu (ac (bJ (ac (aZ (ac (gP S W.no rfl (ah ⟨DY rfl,?_⟩))))))))))
 refine ac (bJ (ac (aZ (ac (gP S W.text rfl (ah ⟨DY rfl,ah ⟨DY rfl,fun e he=>?_⟩⟩))))))
 refine dz ((ay.new he).items aW) aW (DY rfl) fun f hf=>?_
 generalize hH:an _ f _=H6
 have x6:ay H H6:=by rw[<- hH];exact (((((ay.refl H).more ha).more hb).more hc).more he).more hf
 have hit:aS H6 (.ref f)=some ((wl b1 b2).map wv):=by rw[<- hH];exact aW
 refine aC (cU (ag rfl ?_))
 refine ⟨_,⟨.inr (.inl ⟨f,rfl⟩),fun zz zz zz e=>by cases e⟩,hit,DY rfl,?_⟩
 refine cq (P:=fun i acc H'=>H'=H6/\acc=jX ((wl b1 b2).take i)) ⟨rfl,rfl⟩ (fun i z acc H' R hP hxi hR=>?_) fun acc H' hP=>⟨by rw[hP.1];exact hit,?_⟩
 ·rw[hP.1]
  refine ⟨hit,?_⟩
  rw[DC] at hxi
  refine ad (DE.mp hxi) fun p hp hz=>?_
  have ht:jX ((wl b1 b2).take (i+1))=jX ((wl b1 b2).take i)++jX [p]:=by rw[D7,hp];exact xz _ _
  rw[<- hz,hP.2]
  clear hxi hp hz hP
  cases p with | mk s b=>
  refine ⟨_,rfl,?_⟩
  refine gY (zF (ag rfl (ai ?_)))
  cases b
  ·refine bf (bf ?_)
   exact hR _ _ ⟨rfl,ht.symm ▸ (GE _).symm⟩
  ·refine bC (dR (bC (ag rfl ?_)))
   exact hR _ _ ⟨rfl,ht.symm⟩
 rw[hP.1,hP.2,(q_ b1 b2).1]
 have ll:=(q_ b1 b2).2
 refine ⟨aB (au (ae [(re b1 b2).length] [(0,112),(.a 16777326 111,0)] rfl ll)),fun g hg=>?_⟩
 refine aI (b8 (Bu S W.val rfl ?_))
 refine bR (aL (aX (aA (Std.n_tuple (by assumption)) aH (a9 rfl ?_))))
 refine fH aW (by exact aB (au (ae [(re b1 b2).length] [(0,112),(.a 16777326 111,0)] rfl ll))) ?_
 exact K _ (x6.more hg)
end
end
section
set_option maxHeartbeats 1000000
open PySem PyProof.Rows
noncomputable def kA (L:Lk):DK:=.tuple [.tuple (L.1.map .int),.tuple (L.2.map fun p=>.tuple [.int p.1,.int p.2])]
theorem sU {H:MH}:∀ l:List (Int × Int),VDs H (prs (bW l)) (l.map fun p=>E2 [.int p.1,.int p.2])
 | []=>.nil
 | _::l=>.cons (.tup (.cons (.int _) (.cons (.int _) .nil))) (sU l)
theorem t9 {H:MH}(L:Lk):VD H (bh L) (kA L):=.tup (.cons (.tup (iG L.1)) (.cons (.tup (sU L.2)) .nil))
theorem hA {H:MH}:∀ LL:List Lk,VDs H (LL.map bh) (LL.map kA)
 | []=>.nil
 | L::LL=>.cons (t9 L) (hA LL)
theorem ss:∀ l:List (Int × Int),Eb (l.map fun p=>E2 [.int p.1,.int p.2])=true
 | []=>rfl
 | _::l=>by rw[D3,Eb,ss l];rfl
theorem mZ (L:Lk):(kA L).canLay0=true:=by
 unfold kA
 rw[Es,Eb,Eb,Es,Es,ii,ss];rfl
theorem jj:∀ LL:List Lk,Eb (LL.map kA)=true
 | []=>rfl
 | L::LL=>by rw[D3,Eb,jj LL,mZ];rfl
theorem rV:∀ l:List (Int × Int),DW (l.map fun p=>E2 [.int p.1,.int p.2])<=1
 | []=>EP _
 | _::l=>by have:=rV l;simp only[D3,DW,Ei];lia
theorem ux (L:Lk):(kA L).depth<=3:=by
 have h2:=jx L.1
 have h3:=rV L.2
 simp only[kA,DW,Ei,h2]
 (clear h2;lia)
theorem nR:∀ LL:List Lk,DW (LL.map kA)<=3
 | []=>EP _
 | L::LL=>by
  have h1:=nR LL
  have h2:=ux L
  simp only[D3,DW]
  lia
theorem m0 (LL:List Lk):Em (.list (LL.map kA)) (.list [])=decide (LL = []):=by
 cases LL with
 | nil=>rfl
 | cons a l=>simp[Em,G7]
section
variable {P:Addr->Prop}{C:Cx}{X:XP}{n:Nat}{H:MH}{Q:V->MH->Prop}{w:Wk}{pa ra a dx:Addr}{LL:List Lk}{most:Nat}{d:Md}{ρ:Lo}{g:List Int}{sn:List (Int × Int)}
theorem nZ {a e:Addr}(h:H a=some (.lst (LL.map bh)))(he:H e=some (.lst []))(q:Q (.bool (decide (LL = []))) H):bX C d .Eq (.ref a) (.ref e) H Q X:=by
 refine eo (.lst h (hA LL)) (.lst he .nil) (by rw[Es];exact jj LL) rfl (by simp only[Ei,DW];lia) ?_
 rw[m0];exact q
theorem wz {a e:Addr}(h:H a=some (.lst (LL.map bh)))(he:H e=some (.lst []))(q:Q (.bool (!decide (LL = []))) H):bX C d .NotEq (.ref a) (.ref e) H Q X:=by
 refine gB (.lst h (hA LL)) (.lst he .nil) (by rw[Es];exact jj LL) rfl (by simp only[Ei,DW];omega) ?_
 rw[m0];exact q
theorem wA {b c:Addr}(h:H b=some (.lst (LL.map bh)))(h':H c=some (.lst (LL.map bh)))(q:Q (.bool true) H):bX C d .Eq (.ref b) (.ref c) H Q X:=by
 have lay:(Gx (LL.map kA)).canLay0=true:=by rw[Es];exact jj LL
 refine eo (.lst h (hA LL)) (.lst h' (hA LL)) lay lay (by have:=nR LL;simp only[Ei];lia) ?_
 rw[Ez _ lay];exact q
theorem zR {a:Addr}{l:List V}{x:V}(h:H a=some (.lst (l ++ [x])))(hl:l.length+1<=Dz)(q:Q x (an H a (.lst l))):bn C d (.builtin "list.pop") [.ref a] H Q X:=fun A s cs ok rs=>by
 refine ad (dS rs) fun c hr58_1 r=>?_
 subst hr58_1
 dsimp only[VR] at r;subst r
 obtain ⟨h0,items,⟨k,hL⟩,rs⟩:=ok.rel _ _ h
 have hn:=rs.length
 simp only[DS,DZ,FD] at hn
 refine ad (rs.get (i:=l.length) (x:=x) (by rw[List.getElem?_concat_length])) fun y hy ry=>?_
 rw[FG] at hy
 refine call_meets PySem.F.slot_list_pop ⟨_,hL,rfl⟩ PySem.F.entry_list_pop (PySem.F.args_list_pop_1 _) (PySem.MeetsSeq.list_pop_last a items k y (by rw[<- hn,GU];exact hy) (by exact aB (au (ae [l.length,items.size] [(11,16777326),(1,11),(.a 16777326 111,1)] rfl (gO hl) (mf hn))))) ⟨hL,?_⟩
 have st:=lu (l':=l) (f:=fun xs=>xs.eraseIdxIfInBounds (items.size-1)) ok h h0 hL (by
  have e:(items.eraseIdxIfInBounds (items.size-1)).toList=items.toList.take l.length:=by
   rw[Array.eraseIdxIfInBounds_eq,dif_pos (by exact be (ae [items.size-1,items.size] [(.a 0 111,1),(1,0)] rfl (md (ae [l.length,items.size] [(11,1),(21,111)] rfl (me hn))))),Array.toList_eraseIdx,List.eraseIdx_eq_take_drop_succ,<- hn,GU]
   rw[List.drop_of_length_le (by rw[DS];exact au (ae [items.size,l.length] [(0,21),(.a 21 111,0)] rfl (mf hn))),GE]
  rw[e]
  have:=rs.take l.length
  rw[List.take_left'] at this
  ·exact this
  ·rfl)
 exact jn st (ry.keep st.vk) q
end
end
section
set_option maxHeartbeats 1000000
open PySem PyProof.Rows
noncomputable def vO:Vs:=[aq "_law_search",aq "_law_work_here",aq "_law_looks_here",aq "_law_cell_here",aq "_law_fresh",aq "_law_look_here",aq "_law_numbers",aq "_law_turn",aq "_law_number",aq "_law_due_here"]
noncomputable def q9:List St :=
  [.asg 4 (.call "Search" [(.nm 1)]),
  .for [5] (.pl (.nm 2)) [.exp (.meth (.nm 4) "look" [(.sub (.nm 5) (.ci 0)),(.sub (.nm 5) (.ci 1))])],
  .asg 6 (.call "list" [(.call "range" [(.bin .Add (.call "len" [(.nm 2)]) (.ci 1))])]),
  .asg 7 (.bin .Mod (.nm 3) (.call "len" [(.nm 6)])),
  .for [8] (.pl (.bin .Add (.sli (.nm 6) (.nm 7) .cn .cn) (.sli (.nm 6) .cn (.nm 7) .cn))) [.asg 9 (.lst [(.cs "none")]),
  .ife (.cmp .Lt (.nm 8) (.call "len" [(.nm 2)])) [.asg 9 (.meth (.nm 4) "next_line" [(.nm 8)])] [],
  .ife (.cmp .NotEq (.call "_law_line" [(.nm 0),(.nm 8)]) (.nm 9)) [.ret (.cb false)] []],
  .ret (.cb true)]
noncomputable def rR:Vs:=[aq "_law_search",aq "_law_work_here",aq "_law_looks_here",aq "_law_held",aq "_law_cell_here",aq "_law_told",aq "_law_k",aq "_law_one"]
noncomputable def nE:List St :=
  [.ife (.bop .And [(.cmp .Eq (.bin .Mod (.nm 4) (.ci 2)) (.ci 1)),(.una .Not (.call "_law_next_good" [(.nm 0),(.nm 1),(.nm 2),(.bin .FloorDiv (.nm 4) (.ci 4))]))]) [.ret (.cb false)] [],
  .asg 5 (.lst [(.lst []),(.lst [])]),
  .for [6] (.pl (.sub (.lst [(.lst [(.ci 0),(.ci 1)]),(.lst [(.ci 1),(.ci 0)])]) (.bin .Mod (.bin .FloorDiv (.nm 4) (.ci 2)) (.ci 2)))) [.ife (.cmp .Eq (.nm 6) (.ci 0)) [.seti (.nm 5) (.ci 0) (.meth (.nm 0) "looks" [])] [.seti (.nm 5) (.ci 1) (.meth (.nm 0) "sets" [])]],
  .ife (.bop .And [(.cmp .Eq (.bin .Mod (.nm 4) (.ci 2)) (.ci 0)),(.una .Not (.call "_law_next_good" [(.nm 0),(.nm 1),(.nm 2),(.bin .FloorDiv (.nm 4) (.ci 4))]))]) [.ret (.cb false)] [],
  .for [7] (.pl (.nm 5)) [.ife (.una .Not (.call "isinstance" [(.nm 7),(.gl "list")])) [.ret (.cb false)] [],
  .exp (.meth (.nm 3) "append" [(.tup [(.nm 7),(.call "list" [(.nm 7)])])])],
  .for [7] (.pl (.sub (.nm 5) (.ci 1))) [.ife (.bop .Or [(.una .Not (.call "isinstance" [(.nm 7),(.gl "tuple")])),(.cmp .NotEq (.comp 1 (.nm 8) (.nm 7) [(.call "isinstance" [(.nm 8),(.gl "bool")])]) (.lst []))]) [.ret (.cb false)] []],
  .ret (.bop .And [(.cmp .Eq (.sub (.nm 5) (.ci 0)) (.nm 2)),(.cmp .Eq (.sub (.nm 5) (.ci 1)) (.call "least_sets" [(.nm 1),(.nm 2)]))])]
noncomputable def ua:Vs:=[aq "_law_own",aq "_law_cell_here",aq "_law_number",aq "_law_line_here",aq "_law_digit",aq "_law_due_here",aq "_law_e",aq "_law_look_here"]
noncomputable def oQ:List St :=
  [.asg 2 (.bin .Mod (.nm 1) (.bin .Add (.call "len" [(.sub (.nm 0) (.cs "looks"))]) (.ci 1))),
  .asg 3 (.bin .Add (.sub (.sub (.nm 0) (.cs "work")) (.ci 1)) (.bin .Mod (.bin .FloorDiv (.nm 1) (.ci 7)) (.call "len" [(.sub (.sub (.nm 0) (.cs "work")) (.ci 2))]))),
  .asg 4 (.bin .Mod (.bin .FloorDiv (.nm 1) (.ci 70)) (.sub (.sub (.nm 0) (.cs "work")) (.ci 0))),
  .asg 5 (.tup []),
  .ife (.cmp .Eq (.nm 2) (.call "len" [(.sub (.nm 0) (.cs "looks"))])) [.asg 5 (.tup [(.cs "none")])] [.ife (.cmp .In (.nm 3) (.call "dict" [(.sub (.sub (.sub (.nm 0) (.cs "looks")) (.nm 2)) (.ci 1))])) [.asg 5 (.tup [(.cs "look")])] []],
  .tre [.ife (.cmp .IsNot (.meth (.sub (.nm 0) (.cs "search")) "see" [(.nm 2),(.nm 3),(.nm 4)]) .cn) [.ret (.cb false)] []] "WorkError" (some 6) [.ret (.cmp .Eq (.call "_law_word" [(.nm 6)]) (.nm 5))] [],
  .ife (.cmp .Eq (.nm 5) (.tup [])) [.asg 7 (.sub (.sub (.nm 0) (.cs "looks")) (.nm 2)),
  .asg 7 (.tup [(.sub (.nm 7) (.ci 0)),(.call "tuple" [(.call "sorted" [(.bin .Add (.call "list" [(.sub (.nm 7) (.ci 1))]) (.lst [(.tup [(.nm 3),(.nm 4)])]))])])]),
  .seti (.nm 0) (.cs "looks") (.bin .Add (.bin .Add (.sli (.sub (.nm 0) (.cs "looks")) .cn (.nm 2) .cn) (.lst [(.nm 7)])) (.sli (.sub (.nm 0) (.cs "looks")) (.bin .Add (.nm 2) (.ci 1)) .cn .cn))] [],
  .ret (.cmp .Eq (.nm 5) (.tup []))]
noncomputable def rT:Vs:=[aq "_law_script",aq "_law_work_here",aq "_law_handed",aq "_law_search"]
noncomputable def nG:List St :=
  [.asg 1 (.call "_law_work" [(.nm 0),(.ci 5)]),
  .asg 2 (.call "list" [(.sub (.nm 1) (.ci 2))]),
  .asg 3 (.call "Search" [(.tup [(.sub (.nm 1) (.ci 0)),(.sub (.nm 1) (.ci 1)),(.nm 2)])]),
  .exp (.meth (.nm 2) "append" [(.tup [(.cs "not"),(.ci 0)])]),
  .seti (.nm 2) (.ci 0) (.tup [(.cs "sum"),(.ci 0),(.ci 0)]),
  .ret (.dct ["work", "search", "looks"] [(.nm 1),(.nm 3),(.lst [])])]
noncomputable def rQ:Vs:=[aq "_law_own",aq "_law_cell_here",aq "_law_more",aq "_law_good_here",aq "_law_look_here"]
noncomputable def nD:List St :=
  [.ife (.cmp .Eq (.bin .Mod (.bin .FloorDiv (.nm 1) (.ci 2)) (.ci 4)) (.ci 1)) [.asg 3 (.call "_law_back" [(.sub (.nm 0) (.cs "search")),(.sub (.nm 0) (.cs "looks"))]),
  .seti (.nm 0) (.cs "looks") (.sli (.sub (.nm 0) (.cs "looks")) .cn (.una .USub (.ci 1)) .cn),
  .ret (.nm 3)] [],
  .ife (.cmp .Eq (.bin .Mod (.bin .FloorDiv (.nm 1) (.ci 2)) (.ci 4)) (.ci 2)) [.ret (.call "_law_see" [(.nm 0),(.bin .FloorDiv (.nm 1) (.ci 8))])] [],
  .asg 4 (.call "_law_look" [(.sub (.nm 0) (.cs "work")),(.bin .FloorDiv (.nm 1) (.ci 8)),(.nm 2)]),
  .seti (.nm 0) (.cs "looks") (.bin .Add (.sub (.nm 0) (.cs "looks")) (.lst [(.nm 4)])),
  .ret (.cmp .Is (.meth (.sub (.nm 0) (.cs "search")) "look" [(.sub (.nm 4) (.ci 0)),(.sub (.nm 4) (.ci 1))]) .cn)]
structure X11 (C:Cx):Prop where
 D:SrD C
 mb:Mth C "Search" "back" ix 1 fw
 rn:∀ {d:Md} {H:MH} {X:XP},d.q=true->X "NoLook" H->nM C d "NoLook" H X
 rb:∀ {d:Md} {H:MH} {X:XP},d.q=true->X "BadLook" H->nM C d "BadLook" H X
 xn:pg C "NoLook" "WorkError" true
 xb:pg C "BadLook" "WorkError" true
 wn:WdK C "NoLook" false true
 wb:WdK C "BadLook" true false
 wd:bq C "_law_word" lM 1 jW
 ln:bq C "_law_line" rS 2 nF
 ng:bq C "_law_next_good" vO 4 q9
 gd:bq C "_law_good" rR 5 nE
 bk:bq C "_law_back" rP 2 nC
 se:bq C "_law_see" ua 2 oQ
 md:bq C "_law_made" rT 1 nG
 de:bq C "_law_deed" rQ 3 nD
theorem yS {w:Wk}{pa ra:Addr}{lv:V}:cW (eH w pa ra lv) "back" = none:=by kernel_rfl
section
variable {P:Addr->Prop}{C:Cx}{X:XP}{n:Nat}{H:MH}{Q:V->MH->Prop}{w:Wk}{pa ra a dx lo:Addr}{LL:List Lk}{most:Nat}{d:Md}{ρ:Lo}{g:List Int}{sn:List (Int × Int)}
theorem sA {f:Addr}{i:Nat}(Y:X11 C)(F:hV C iC 2 fx f)(x:Srch P H a dx pa ra w LL)(hL:LksOk w LL)(hi:LL.length<=i)(K:X "NoLook" H):bn C ⟨n+2,true⟩ (.ref f) [.ref a,.int i] H Q X:=by
 have hz:10000<Dz:=by decide
 have D:=Y.D
 have hll:=hL.len
 refine ad x.nsd fun lv h1 h2=>?_
 have G:=D.G;have S:=D.S
 refine F rfl ?_
 unfold fx
 refine aI (b8 (bP ?_))
 refine bw D.nw.a.fn ?_
 refine a8 rfl (ck (ac (aE (aA (Std.n_len (by assumption)) ak (ac (b7 (ag rfl ?_)))))))
 refine bD D.ar x.ins h1 dN (fun y=>nofun) ?_
 refine ah ?_
 refine bp (af x.rows) (by rw[Dt];exact aB (au (ae [LL.length] [(0,210),(.a 16777326 111,0)] rfl hll))) ?_
 rw[Dt]
 refine aO (bZ (ah ?_))
 refine dh D.G D.S D.nw.a ?_
 rw[show (decide ((0:Int)<=(i:Int))&&decide ((i:Int)<=(LL.length:Int)-1))=false by simp;exact bE (am [LL.length,i] [(0,1),(1,.s 0 111)] rfl (ql hi))]
 refine ai (pc (bg ?_))
 exact lP (Y.rn rfl K)
theorem yC {i:Nat}(Y:X11 C)(hw:w.Ok most)(hm:most<=7)(x:Srch P H a dx pa ra w LL)(hL:LksOk w LL)(hP:∀ b,H b=none->P b)(hi:i<=LL.length)
  (K1:∀ g sn,LL[i]? = some (g,sn) -> ∀ j H',cm dx H H'->Srch P H' a dx pa ra w LL->Fst (fun k=>fY w g sn (bV w LL) (w.inp+k)) w.ps.length j->Q (.tup [.int ((w.inp+j:Nat):Int),.int (fY w g sn (bV w LL) (w.inp+j))]) H')
  (K2:i=LL.length -> ∀ r H',ay H H'->H' r=some (.lst [.str (Dn "none")])->Q (.ref r) H'):bB C ⟨n+21,true⟩ "_law_line" [.ref a,.int i] H Q X:=by
 have D:=Y.D
 have G:=D.G;have S:=D.S
 refine ad x.nsd fun lv h1 h2=>?_
 refine Y.ln.call G rfl ?_
 unfold nF
 refine pj (aX ?_)
 refine bG (ag rfl ?_)
 refine D.mx.go x.ins h1 sN fun f F=>?_
 refine a9 rfl ?_
 by_cases h:i=LL.length
 ·refine F rfl ?_
  unfold gy
  refine cD (bG (ag rfl ?_))
  refine D.mn.go x.ins h1 jo fun f' F'=>?_
  refine a9 rfl ?_
  refine sA (n:=n+17) Y F' x hL (by exact au (ae [LL.length,i] [(0,1),(21,0)] rfl (mf h))) ⟨true,Y.xn,?_⟩
  refine bC ?_
  refine aX ?_
  refine aA (Std.n_list (by assumption)) aH (ac ?_)
  refine bw Y.wd.fn ?_
  refine a9 rfl ?_
  refine lx (n:=n+19) (q:=false) G S Y.wn Y.wd fun H2 x2=>?_
  refine ah ?_
  exact dK (.inr ⟨_,rfl⟩) rfl (by decide) fun r hr=>K2 h r _ (x2.more hr) (aj ..)
 ·have hil:i<LL.length:=by (clear hm;lia)
  exact sD (n:=n) (g:=LL[i].1) (sn:=LL[i].2) D F hw hm x hL (DA hil) hP fun j H' y s hF=>K1 _ _ (DA hil) j H' y s hF
theorem yc {f:Addr}(Y:X11 C)(F:hV C ix 1 fw f)(x:Srch P H a dx pa ra w [])(K:∀ H',ay H H'->X "NoLook" H'):bn C ⟨n+1,true⟩ (.ref f) [.ref a] H Q X:=by
 have D:=Y.D
 refine ad x.nsd fun lv h1 h2=>?_
 have G:=D.G;have S:=D.S
 refine F rfl ?_
 unfold fw
 refine aI (aK (b7 (ag rfl ?_)))
 refine bD D.ar x.ins h1 dN (fun y=>nofun) ?_
 refine bu (ah ?_)
 refine ⟨by decide,fun c hc=>?_⟩
 refine nZ (LL:=[]) ((ay.new hc) _ _ x.rows) (aj ..) ?_
 refine ai ?_
 exact lP (Y.rn rfl (K _ (.new hc)))
theorem ya {f:Addr}{L:Lk}(Y:X11 C)(F:hV C ix 1 fw f)(x:Srch P H a dx pa ra w (LL ++ [L]))(hll:LL.length<=99)(K:∀ H',gH dx ra H H'->Srch P H' a dx pa ra w LL->Q (bh L) H'):bn C ⟨n+1,true⟩ (.ref f) [.ref a] H Q X:=by
 have hz:10000<Dz:=by decide
 have D:=Y.D
 refine ad x.nsd fun lv h1 h2=>?_
 have G:=D.G;have S:=D.S
 refine F rfl ?_
 unfold fw
 refine aI (aK (b7 (ag rfl ?_)))
 refine bD D.ar x.ins h1 dN (fun y=>nofun) ?_
 refine bu (ah ?_)
 refine ⟨by decide,fun c hc=>?_⟩
 have x1:=ay.new (o:=.lst []) hc
 have s1:=x.ext x1
 refine nZ (LL:=LL ++ [L]) s1.rows (aj ..) ?_
 rw[decide_eq_false (by simp)]
 have n1:=x1 _ _ h1
 generalize an H c (.lst [])=H1 at x1 s1 n1
 refine ai (bf (aL (dJ (cH (ag rfl ?_)))))
 refine dj D.al s1.ins n1 (show 3<=900 by decide) ?_
 rw[jS]
 have s2:=s1.set (v:=.none) (.inl rfl)
 have y2:cm dx H (an H1 dx (.nsd (eH w pa ra .none))):=(x1.b dx).trans bz
 have n2:=aj H1 dx (.nsd (eH w pa ra .none))
 generalize an H1 dx (.nsd (eH w pa ra .none))=H2 at s2 y2 n2
 refine aX (bG (b7 (ag rfl ?_)))
 refine bD D.ar s2.ins n2 dN (fun y=>nofun) ?_
 refine ⟨_,nf s2.rows PySem.F.slot_list_pop PySem.F.type_list_pop,ak,?_⟩
 refine ah ?_
 have r2:=s2.rows
 rw[DO] at r2
 refine zR (l:=LL.map bh) (x:=bh L) r2 (by rw[Dt];exact aB (au (ae [LL.length] [(0,209),(.a 16777326 111,11)] rfl hll))) ?_
 have hrd:dx≠ra:=(s2.ne s2.rows fun zz=>nofun).symm
 have har:a≠ra:=fun z=>by have:=s2.ins;rw[z,s2.rows] at this;cases this
 have x3:cm ra H2 (an H2 ra (.lst (LL.map bh))):=bz
 exact K _ ((pR y2).trans fun b o zz n h=>x3 b o n h) ⟨x3 _ _ har s2.ins,⟨.none,x3 _ _ hrd n2,.inl rfl⟩,x3 _ _ s2.apt s2.parts,aj ..,s2.apt⟩
theorem gi:(E2 [.str (Dn "none")]).canLay0=true:=by decide +kernel
theorem lX:(E2 [.str (Dn "look")]).canLay0=true:=by decide +kernel
theorem rI (Y:X11 C)(x:Srch P H a dx pa ra w LL)(hL:LksOk w LL)(hl:H lo=some (.lst (LL.map bh)))(hlo:lo≠ra)(K:∀ H',gH dx ra H H'->Srch P H' a dx pa ra w LL.dropLast->Q (.bool true) H'):bB C ⟨n+2,true⟩ "_law_back" [.ref a,.ref lo] H Q X:=by
 have hz:10000<Dz:=by decide
 have D:=Y.D
 have G:=D.G;have S:=D.S
 have hll:=hL.len
 refine ad x.nsd fun lv h1 h2=>?_
 refine Y.bk.call G rfl ?_
 unfold nC
 refine pj (aC ?_)
 refine bG (ag rfl ?_)
 refine Y.mb.go x.ins h1 yS fun f F=>?_
 refine ah ?_
 rcases List.eq_nil_or_concat LL with rfl | ⟨L0,L,hL0⟩
 ·refine yc (n:=n) Y F x fun H1 x1=>⟨true,Y.xn,?_⟩
  refine bC (aX ?_)
  refine mB (ju (c6 ?_))
  refine bw Y.wd.fn ?_
  refine a9 rfl ?_
  refine lx (n:=n) (q:=false) G S Y.wn Y.wd fun H2 x2=>?_
  refine bJ (ac (aZ (ah ?_)))
  refine ⟨show 1<=Dz by decide,?_⟩
  refine eo (.tup (.cons (.str _) .nil)) (.tup (.cons (.str _) .nil)) gi gi (by simp[Ei,DW]) ?_
  rw[Ez _ gi]
  refine ai (bC (mA (c6 (ag rfl (bu (ah ?_))))))
  refine ⟨by decide,fun c hc=>?_⟩
  have x3:=(x1.trans x2).more (o:=.lst []) hc
  refine nZ (LL:=[]) (x3 _ _ hl) (aj ..) ?_
  exact K _ (xO x3) (x.ext x3)
 ·rw[List.concat_eq_append] at hL0
  subst hL0
  rw[DZ,FD] at hll
  rw[List.dropLast_concat] at K
  have hld:lo≠dx:=x.ne hl fun zz=>nofun
  refine ya (n:=n) Y F x (by exact au (ae [L0.length] [(11,210),(.a 209 111,0)] rfl hll)) fun H1 y1 s1=>?_
  have l1:=y1 _ _ hld hlo hl
  refine aR ?_
  dsimp only
  refine aR ?_
  dsimp only
  refine aX ?_
  refine mB (ju (c6 (ag rfl (bu (ah ?_)))))
  refine ⟨by decide,fun c hc=>?_⟩
  have x2:=ay.new (o:=.lst []) hc
  refine wz (LL:=L0 ++ [L]) (x2 _ _ l1) (aj ..) ?_
  rw[decide_eq_false (p:=L0 ++ [L] = []) (by simp)]
  have l2:=x2 _ _ l1
  generalize an H1 c (.lst [])=H2 at x2 l2
  refine ai (pc (ju (aA (Std.n_isinstance (by assumption)) ak (a8 rfl (ac (fF (Std.n_tuple (by assumption)) (ah ?_)))))))
  refine eq (k:=true) S.n_tuple (by rfl) ?_
  refine ai (bC (mA (c6 (ag rfl (aQ (ag rfl (kZ (aO (jp ?_)))))))))
  refine jU (af l2) (by rw[Dt,DZ,FD];exact aB (au (ae [L0.length] [(11,210),(.a 16777326 111,11)] rfl hll))) (j:=L0.length) (x:=bh L) (by rw[Dt,DZ,FD,qJ (by exact be (ae [L0.length] [(11,110)] rfl))];congr 1) (by rw[DC,List.getElem?_concat_length];rfl) ?_
  refine eo (t9 L) (t9 L) (mZ L) (mZ L) (by have:=ux L;(clear hlo hz hll hld;lia)) ?_
  rw[Ez _ (mZ L)]
  exact K _ (y1.trans (xO x2)) (s1.ext x2)
end
end
section
set_option maxHeartbeats 1000000
open PySem PyProof.Rows
noncomputable def gN (w:Wk) (pw a lo:Addr):List (Str × V):=[(Dn "work",w.v pw),(Dn "search",.ref a),(Dn "looks",.ref lo)]
section
variable {w:Wk}{pw a lo lo':Addr}
theorem gZ:eD (gN w pw a lo) (Dn "work")=some (w.v pw):=by kernel_rfl
theorem eQ:eD (gN w pw a lo) (Dn "search")=some (.ref a):=by kernel_rfl
theorem dA:eD (gN w pw a lo) (Dn "looks")=some (.ref lo):=by kernel_rfl
theorem l8:fS (gN w pw a lo) (Dn "looks") (.ref lo')=gN w pw a lo':=by kernel_rfl
end
theorem qZ {l:List V}{i:Nat}(h:i<=l.length):f_ l none (some (i:Int))=l.take i:=by
 unfold f_
 simp only[HI]
 rw[clipAt_nat,GB h];simp
theorem qY {l:List V}{i:Nat}(h:i<=l.length):f_ l (some (i:Int)) none=l.drop i:=by
 unfold f_
 simp only[HI]
 rw[clipAt_nat,GB h,ED]
 rw[Go];exact Ea _
theorem yP {sn:List (Int × Int)}{k:Int}(h:(eD (bW (cF sn)) k).isSome=true):∃ x∈sn,x.1=k:=by
 rw[jy,iX k _ sn rfl] at h
 cases g:(dI sn k).getLast? with
 | none=>rw[g] at h;cases h
 | some y=>
  have:=List.mem_of_getLast? g
  unfold dI at this
  refine ad (Ef.mp this) fun x hx zz=>?_
  have hx:=Ep.mp hx
  exact ⟨x,hx.1,of_decide_eq_true hx.2⟩
theorem wQ {sn:List (Int × Int)}{k:Int}(h:(eD (bW (cF sn)) k).isSome=false):∀ x∈sn,x.1≠k:=fun x hx e=>by
 rw[jy,iX k _ sn rfl] at h
 have h1:dI sn k ≠ []:=by
  unfold dI
  intro z
  have:=List.map_eq_nil_iff.mp z
  have:=Hr.mp this x hx
  simp[e] at this
 cases g:(dI sn k).getLast? with
 | none=>exact h1 (List.getLast?_eq_none_iff.mp g)
 | some y=>rw[g] at h;cases h
section
variable {P:Addr->Prop}{C:Cx}{X:XP}{n:Nat}{H:MH}{Q:V->MH->Prop}{w:Wk}{pa ra a dx lo o pw:Addr}{LL:List Lk}{most:Nat}{d:Md}{ρ:Lo}{g:List Int}{sn:List (Int × Int)}
theorem mr {a:Addr}{l:List (Str × V)}{k:Str}{x:V}{Q:MH->Prop}(h:H a=some (.dcs l))(hl:l.length<=Dz)(q:Q (an H a (.dcs (fS l k x)))):k6 C d (.ref a) (.str k) x H Q X:=fun A s co ci cv ok ro ri rx=>by
 dsimp only[VR] at ro;dsimp only[VR] at ri;subst ro;obtain ⟨t,rfl⟩:=ri
 obtain ⟨h0,hs,kvs,hD,hm,rs⟩:=ok.rel _ _ h
 have hlen:kvs.length=l.length:=by rw[<- Dt (f:=(·.1)),hm,Dt]
 refine wpAny_setItem_pairs (knd:=PySem.strKind C.prog C.w) (k:=k) (by simp[PySem.strKind,Value.isStrOf]) hD (fun h' hD' hsb=>?_) (by exact aB (au (ae [l.length,kvs.length] [(0,16777326),(1,0),(.a 16777326 111,1)] rfl (gO hl) (me hlen))))
 refine ⟨_,Step.mut (o:=.dcs (fS l k x)) (s':={ s with heap:=h',toks:=s.toks+1 }) ok.rel ok.top (by rw[h];rfl) h0 hsb (fun ob hob=>?_) (fun ob es ep hob hd=>?_) (fun vk=>?_) rfl rfl,q⟩
 ·refine cZ hD fun o es ep ho ho55_4 hd zz=>?_
  try clear hD
  obtain ⟨hc,_⟩:=ho55_4
  rw[ho] at hob;cases hob
  exact .inl ⟨es,ep,hd⟩
 ·refine cZ hD' fun o' es' ep' ho' ho58_4 hd' zz=>?_
  try clear hD'
  obtain ⟨hc',_⟩:=ho58_4
  exact ⟨o',es',ep',ho',hd'⟩
 ·have:=jT (k:=k) (rx.keep vk) hm (rs.keep vk)
  exact ⟨h0,hs,_,hD',this.1,this.2⟩
theorem Ba {f:Addr}{i:Nat}{line dig:Int}(Y:X11 C)(F:hV C gz 4 eh f)(x:Srch P H a dx pa ra w LL)(hL:LksOk w LL)(hi:LL.length<=i)(K:X "NoLook" H):bn C ⟨n+3,true⟩ (.ref f) [.ref a,.int i,.int line,.int dig] H Q X:=by
 refine ad x.nsd fun lv h1 h2=>?_
 have D:=Y.D
 have G:=D.G;have S:=D.S
 refine F rfl ?_
 unfold eh
 refine cD (bG (ag rfl ?_))
 refine D.mn.go x.ins h1 jo fun f' F'=>?_
 refine a9 rfl ?_
 exact sA (n:=n) Y F' x hL hi K
theorem yO {f:Addr}{i:Nat}{line dig:Int}(Y:X11 C)(F:hV C gz 4 eh f)(hw:w.Ok most)(hm:most<=7)(x:Srch P H a dx pa ra w LL)(hL:LksOk w LL)(hi:LL[i]? = some (g,sn))
  (hline:(w.inp:Int)<=line/\line<(w.inp:Int)+(w.ps.length:Int)) (hdig:0<=dig/\dig<w.ring) (hn:∃ x∈sn,x.1=line) (K:∀ H',ay H H'->X "BadLook" H'):bn C ⟨n+3,true⟩ (.ref f) [.ref a,.int i,.int line,.int dig] H Q X:=by
 have hz:10000<Dz:=by decide
 have hp2:=hw.p2;have hll:=hL.len
 have hil:i<LL.length:=(DD.mp hi).1
 have L:LkOk w g sn:=hL.ok _ (DQ hi)
 have hsn:=jO L
 refine ad x.nsd fun lv h1 h2=>?_
 have D:=Y.D
 have G:=D.G;have S:=D.S
 refine F rfl ?_
 unfold eh
 refine cD (bG (ag rfl ?_))
 refine D.mn.go x.ins h1 jo fun f' F'=>?_
 refine a9 rfl ?_
 refine n7 (n:=n) D F' x hL hil ?_
 refine hW (b7 (ag rfl ?_))
 refine bD D.aw x.ins h1 gk (fun y=>nofun) ?_
 refine ⟨[.int w.ring,.int w.inp,.ref pa],rfl,⟨.inl rfl,fun zz zz zz e=>by cases e⟩,rfl,?_⟩
 refine hW (aQ (b7 (ag rfl ?_)))
 refine bD D.ar x.ins h1 dN (fun y=>nofun) ?_
 refine ag rfl ?_
 refine aN (i:=i) (af x.rows) (by rw[Dt];exact aB (au (ae [LL.length] [(0,210),(.a 16777326 111,0)] rfl hll))) (x:=bh (g,sn)) (by rw[DC,hi];rfl) ?_
 refine ⟨[.tup (g.map .int),.tup (prs (bW sn))],rfl,⟨.inl rfl,fun zz zz zz e=>by cases e⟩,rfl,?_⟩
 refine aI (cO (cC (b8 (bP ?_))))
 refine bw D.nw.a.fn ?_
 refine a8 rfl (a8 rfl (ac (aE (aE (ag rfl (aA (Std.n_len (by assumption)) ak (a9 rfl ?_)))))))
 refine bp (af x.parts) (by rw[Dt];exact aB (au (ae [most,w.ps.length] [(0,117),(1,0),(.a 16777326 111,1)] rfl hm hp2))) ?_
 rw[Dt]
 refine bA (aO (bZ (ah ?_)))
 refine dh G S D.nw.a ?_
 rw[show (decide ((w.inp:Int)<=line)&&decide (line<=(w.inp:Int)+(w.ps.length:Int)-1))=true by simp;exact ⟨aY (am [w.inp,line] [(0,1),(21,0)] rfl hline.1),aY (am [line,w.inp,w.ps.length] [(11,.a 1 2),(.a (.s (.a 1 2) 111) 111,0)] rfl hline.2)⟩]
 refine ai (bR (cC (b8 (bP ?_))))
 refine bw D.nw.a.fn ?_
 refine a8 rfl (ck (ac (aV rfl (bZ (ah ?_)))))
 refine dh G S D.nw.a ?_
 rw[show (decide ((0:Int)<=dig)&&decide (dig<=w.ring-1))=true by simp;exact ⟨aY (am [dig] [(110,0),(11,110)] rfl hdig.1),aY (am [dig,w.ring] [(11,1),(.a (.s 1 111) 111,0)] rfl hdig.2)⟩]
 refine ai (bR (cM (bf (aL (aI (aK (ag rfl ?_)))))))
 refine cU ?_
 refine ag rfl ?_
 rw[jm]
 refine ⟨_,⟨.inl rfl,fun zz zz zz e=>by cases e⟩,rfl,by rw[c8];exact aB (au (ae [most,w.ps.length,sn.length] [(0,117),(1,0),(2,1),(.a 16777326 111,2)] rfl hm hp2 hsn)),?_⟩
 refine cq (P:=fun j acc H'=>acc=((sn.take j).map (·.1)).map .int/\H'=H) ⟨rfl,rfl⟩ (fun j y acc H' R hP hy hR=>?_) fun acc H' hP=>⟨rfl,?_⟩
 ·refine az hP fun hr116_0 hr116_1=>?_
  try clear hP
  subst hr116_0
  subst hr116_1
  unfold cB at hy
  rw[DC,DE] at hy
  refine ad hy fun q hqj hr119_2=>?_
  try clear hy
  subst hr119_2
  refine ⟨rfl,_,rfl,?_⟩
  refine dR (bC (ao rfl ?_))
  refine bi rfl (hR _ _ ⟨?_,rfl⟩)
  rw[D7,hqj,DO,DO];rfl
 refine az hP fun hr124_0 hr124_1=>?_
 try clear hP
 subst hr124_0
 subst hr124_1
 rw[c8,Ec]
 refine ⟨by rw[Dt,Dt];exact aB (au (ae [most,w.ps.length,sn.length] [(0,117),(1,0),(2,1),(.a 16777326 111,2)] rfl hm hp2 hsn)),fun c hc=>?_⟩
 refine mL (da:=.int line) (db:=.list ((sn.map (·.1)).map .int)) (.int _) (.lst (aj ..) (iG _)) (.inl rfl) rfl (ii _) (by rw[jx];lia) ?_
 rw[show (((sn.map (·.1)).map E8).any fun y=>Em y (.int line))=true by
  rw[Hh]
  refine ad hn fun q hq e=>?_
  try clear hn
  exact ⟨.int line,Ef.mpr ⟨line,Ef.mpr ⟨q,hq,e⟩,rfl⟩,by simp[Em]⟩]
 refine ai (bC (bg ?_))
 exact lP (Y.rb rfl (K _ (.new hc)))
end
end
section
set_option maxHeartbeats 2000000
open PySem PyProof.Rows
section
variable {P:Addr->Prop}{C:Cx}{X:XP}{n:Nat}{H:MH}{Q:V->MH->Prop}{w:Wk}{pa ra a dx lo o pw:Addr}{LL:List Lk}{most:Nat}{d:Md}{ρ:Lo}{g:List Int}{sn:List (Int × Int)}
noncomputable def sY (o dx ra:Addr) (H H':MH):Prop:=∀ b v,b≠o->b≠dx->b≠ra->H b=some v->H' b=some v
theorem yR {LL:List Lk}{i:Nat}{L:Lk}(h:i<LL.length):(LL.map bh).take i ++ [bh L]++(LL.map bh).drop (i+1)=(LL.set i L).map bh:=by
 rw[List.map_set,List.set_eq_take_append_cons_drop,if_pos (by rw[Dt];exact h),FK];rfl
theorem LksOk.set {i:Nat}{L:Lk}(hL:LksOk w LL)(h:LkOk w L.1 L.2):LksOk w (LL.set i L):=⟨fun M hM=>by
 rcases List.mem_or_eq_of_mem_set hM with q | q
 ·exact hL.ok M q
 ·rw[q];exact h,by rw[List.length_set];exact hL.len⟩
theorem Srch.upo {l l':List (Str × V)}(x:Srch P H a dx pa ra w LL)(h:H o=some (.dcs l)):Srch P (an H o (.dcs l')) a dx pa ra w LL:=by
 have k:∀ {b:Addr} {v:O},H b=some v->(∀ m,v ≠ .dcs m)->an H o (.dcs l') b=some v:=fun e hv=>by
  rw[aP];exact e
  intro z;rw[z,h] at e;cases e;exact hv _ rfl
 refine ad x.nsd fun lv h1 h2=>?_
 exact ⟨k x.ins fun zz=>nofun,⟨lv,k h1 fun zz=>nofun,h2.imp id fun hq1=>bN hq1 fun la e p q=>⟨la,e,p,k q fun zz=>nofun⟩⟩,k x.parts fun zz=>nofun,k x.rows fun zz=>nofun,x.apt⟩
theorem tF {c:Int}(Y:X11 C)(hw:w.Ok most)(hm:most<=7)(x:Srch P H a dx pa ra w LL)(hL:LksOk w LL)(ho:H o=some (.dcs (gN w pw a lo)))(hpw:H pw=some (.lst (w.ps.map Pt.v)))(hlo:H lo=some (.lst (LL.map bh)))(nlo:lo≠ra)(hc:0<=c)
  (K:∀ LL' lo' H',sY o dx ra H H'->Srch P H' a dx pa ra w LL'->LksOk w LL'->LL'.length=LL.length->H' o=some (.dcs (gN w pw a lo'))->H' lo'=some (.lst (LL'.map bh))->(lo'=lo ∨ H lo'=none)->Q (.bool true) H'):bB C ⟨n+4,true⟩ "_law_see" [.ref o,.int c] H Q X:=by
 have hz:10000<Dz:=by decide
 have D:=Y.D
 have G:=D.G;have S:=D.S
 have hll:=hL.len;have hp1:=hw.p1;have hp2:=hw.p2;have hr1:=hw.r1
 have nod:o≠dx:=x.ne ho fun zz=>nofun
 have nor:o≠ra:=fun z=>by rw[z,x.rows] at ho;cases ho
 have nld:lo≠dx:=x.ne hlo fun zz=>nofun
 refine Y.se.call G rfl ?_
 unfold oQ
 refine aC (aE (ag rfl (aE (aA (Std.n_len (by assumption)) ak (ac (aQ (ag rfl (aZ ?_))))))))
 refine bT ho dA ?_
 refine ah ?_
 refine bp (af hlo) (by rw[Dt];exact aB (au (ae [LL.length] [(0,210),(.a 16777326 111,0)] rfl hll))) ?_
 rw[Dt]
 refine aO (bA ?_)
 refine bc (by exact bE (am [LL.length] [(110,0),(11,110)] rfl (q0 LL.length))) ?_
 have i0:=D9 c (show (LL.length:Int)+1≠0 by exact f9 (am [LL.length] [(110,0),(11,110),(.w 0 110,11)] rfl (q0 LL.length)))
 have i1:=D5 c (show 0<(LL.length:Int)+1 by exact bE (am [LL.length] [(110,0),(11,110)] rfl (q0 LL.length)))
 generalize c % ((LL.length:Int)+1)=iz at i0 i1
 refine aF (Ft i0) fun i hr44_1=>?_
 subst hr44_1
 refine aC (aE (aQ (aQ (ag rfl (aZ ?_)))))
 refine bT ho gZ ?_
 refine aO ?_
 refine bM rfl ?_
 refine aE (aV rfl ?_)
 refine bj (by decide) (by decide) ?_
 refine aA (Std.n_len (by assumption)) ak (ac (aQ (aQ (ag rfl (aZ ?_)))))
 refine bT ho gZ ?_
 refine aO ?_
 refine cS rfl ?_
 refine ah ?_
 refine bp (af hpw) (by rw[Dt];exact aB (au (ae [most,w.ps.length] [(0,117),(1,0),(.a 16777326 111,1)] rfl hm hp2))) ?_
 rw[Dt]
 refine bc (by exact bE (am [w.ps.length] [(111,0),(0,110)] rfl (ql hp1))) ?_
 have l0:=D9 (c / 7) (show (w.ps.length:Int)≠0 by exact f9 (am [w.ps.length] [(111,0),(0,110),(.w 0 110,0)] rfl (ql hp1)))
 have l1:=D5 (c / 7) (show 0<(w.ps.length:Int) by exact bE (am [w.ps.length] [(111,0),(0,110)] rfl (ql hp1)))
 generalize c / 7 % (w.ps.length:Int)=lz at l0 l1
 refine bA (aC (aE (aV rfl ?_)))
 refine bj (by decide) (by decide) ?_
 refine aQ (aQ (ag rfl (aZ ?_)))
 refine bT ho gZ ?_
 refine aO ?_
 refine bi rfl ?_
 refine bc (by exact bE (am [w.ring] [(112,0),(0,110)] rfl hr1)) ?_
 have d0:=D9 (c / 70) (show w.ring≠0 by exact f9 (am [w.ring] [(112,0),(0,110),(.w 0 110,0)] rfl hr1))
 have d1:=D5 (c / 70) (show 0<w.ring by exact bE (am [w.ring] [(112,0),(0,110)] rfl hr1))
 generalize c / 70 % w.ring=dig at d0 d1
 have hline:(w.inp:Int)<=(w.inp:Int)+lz/\(w.inp:Int)+lz<(w.inp:Int)+(w.ps.length:Int):=by exact ⟨aY (am [lz,w.inp] [(110,0),(.a (.a 1 0) 111,1)] rfl l0),bE (am [lz,w.ps.length,w.inp] [(11,1),(.a 2 1,.a 2 0)] rfl l1)⟩
 generalize (w.inp:Int)+lz=line at hline
 refine aC (bJ (ah ?_))
 refine ⟨by decide,?_⟩
 refine eX (J:=fun ρ' H'=>∃ due:List V,ρ' = [some (.ref o),some (.int c),some (.int (i:Int)),some (.int line),some (.int dig),some (.tup due),none,none]/\ay H H'/\((i=LL.length/\due = [.str (Dn "none")]) ∨ ∃ g sn,LL[i]? = some (g,sn)/\(((∃ x∈sn,x.1=line)/\due = [.str (Dn "look")]) ∨ ((∀ x∈sn,x.1≠line)/\due = [])))) (fun ρ' H' hJ=>?_) fun R hR=>?_
 rotate_left
 ·refine aK (ag rfl (aA (Std.n_len (by assumption)) ak (ac (aQ (ag rfl (aZ ?_))))))
  refine bT ho dA ?_
  refine ah ?_
  refine bp (af hlo) (by rw[Dt];exact aB (au (ae [LL.length] [(0,210),(.a 16777326 111,0)] rfl hll))) ?_
  rw[Dt]
  refine bx (ai ?_)
  by_cases h:i=LL.length
  ·rw[show ((i:Int)==(LL.length:Int))=true by rw[h];exact beq_self_eq_true _]
   refine bC (aC (bJ (ac (aZ (ah ?_)))))
   refine ⟨show 1<=Dz by decide,?_⟩
   exact aR (hR _ _ ⟨_,rfl,.refl _,.inl ⟨h,rfl⟩⟩)
  ·rw[show ((i:Int)==(LL.length:Int))=false by simp;(clear hm nlo hc hz hll hp1 hp2 hr1 nod nor nld i0 i1 l0 l1 d0 d1 hline;lia)]
   have hil:i<LL.length:=by lia
   obtain ⟨⟨g,sn⟩,hi⟩:∃ L,LL[i]? = some L:=⟨_,DA hil⟩
   have L:LkOk w g sn:=hL.ok _ (DQ hi)
   have hsn:=jO L
   refine bf (aI (aK (ag rfl (aA (Std.n_dict (by assumption)) aH (ac (aQ (aQ (aQ (ag rfl (aZ ?_))))))))))
   refine bT ho dA ?_
   refine ag rfl ?_
   refine aN (i:=i) (af hlo) (by rw[Dt];exact aB (au (ae [LL.length] [(0,210),(.a 16777326 111,0)] rfl hll))) (x:=bh (g,sn)) (by rw[DC,hi];rfl) ?_
   refine aO ?_
   refine bM rfl ?_
   refine ah ?_
   refine jY G rfl (by simp[bW];exact aB (au (ae [most,w.ps.length,sn.length] [(0,117),(1,0),(2,1),(.a 16777326 111,2)] rfl hm hp2 hsn))) fun b hb=>?_
   rw[rW]
   refine zZ (aj ..) ?_
   cases hd:(eD (bW (cF sn)) line).isSome with
   | true=>
    refine ai (bC (bg (aC (bJ (ac (aZ (ah ?_)))))))
    refine ⟨show 1<=Dz by decide,?_⟩
    refine aL ?_
    exact aR (hR _ _ ⟨_,rfl,.new hb,.inr ⟨g,sn,hi,.inl ⟨yP hd,rfl⟩⟩⟩)
   | false=>
    refine ai (bf (aL ?_))
    exact aR (hR _ _ ⟨_,rfl,.new hb,.inr ⟨g,sn,hi,.inr ⟨wQ hd,rfl⟩⟩⟩)
 refine bN hJ fun due hr115_1 x1 hdue=>?_
 try clear hJ
 subst hr115_1
 have s1:=x.ext x1
 have o1:=x1 _ _ ho
 have lo1:=x1 _ _ hlo
 refine ad s1.nsd fun lv n1 h2=>?_
 have e1:∀ {H2:MH},ay H' H2->sY o dx ra H H2:=fun y b v zz zz zz h=>y _ _ (x1 _ _ h)
 refine pj ?_
 refine aI (aK (bG (aQ (ag rfl (aZ ?_)))))
 refine bT o1 eQ ?_
 refine D.me.go s1.ins n1 Bb fun f F=>?_
 refine mH rfl rfl rfl ?_
 rcases hdue with ⟨h,rfl⟩ | ⟨g,sn,hi,⟨hs,rfl⟩ | ⟨hs,rfl⟩⟩
 ·refine Ba (n:=n) Y F s1 hL (by exact au (ae [LL.length,i] [(0,1),(21,0)] rfl (mf h))) ⟨true,Y.xn,bC (aX ?_)⟩
  refine c6 ?_
  refine bw Y.wd.fn ?_
  refine a9 rfl ?_
  refine lx (n:=n+2) (q:=false) G S Y.wn Y.wd fun H2 x2=>?_
  refine ag rfl ?_
  refine eo (.tup (.cons (.str _) .nil)) (.tup (.cons (.str _) .nil)) gi gi (by simp[Ei,DW]) ?_
  rw[Ez _ gi]
  exact K LL lo _ (e1 x2) (s1.ext x2) hL rfl (x2 _ _ o1) (x2 _ _ lo1) (.inl rfl)
 ·refine yO (n:=n) Y F hw hm s1 hL hi hline ⟨d0,d1⟩ hs fun H3 x3=>⟨true,Y.xb,bC (aX ?_)⟩
  refine c6 ?_
  refine bw Y.wd.fn ?_
  refine a9 rfl ?_
  refine lx (n:=n+2) (q:=false) G S Y.wb Y.wd fun H2 x2=>?_
  have x2:=x3.trans x2
  refine ag rfl ?_
  refine eo (.tup (.cons (.str _) .nil)) (.tup (.cons (.str _) .nil)) lX lX (by simp[Ei,DW]) ?_
  rw[Ez _ lX]
  exact K LL lo _ (e1 x2) (s1.ext x2) hL rfl (x2 _ _ o1) (x2 _ _ lo1) (.inl rfl)
 ·have hil:i<LL.length:=(DD.mp hi).1
  have L:LkOk w g sn:=hL.ok _ (DQ hi)
  have hsn:=jO L
  refine A_ (n:=n) D F hw hm s1 hL hi hline ⟨d0,d1⟩ hs fun H2 y2 s2 L'=>?_
  have o2:=y2 _ _ nod nor o1
  have lo2:=y2 _ _ nld nlo lo1
  have e2:sY o dx ra H H2:=fun b v zz n1 n2 h=>y2 _ _ n1 n2 (x1 _ _ h)
  refine cH ?_
  refine ee ?_
  refine ai (bf (aL ?_))
  refine aR ?_
  dsimp only
  refine aR ?_
  dsimp only
  refine aI (aK (ag rfl (bJ (ah ?_))))
  refine ⟨by decide,?_⟩
  refine eo (.tup .nil) (.tup .nil) rfl rfl (by decide) ?_
  rw[Ez _ rfl]
  refine ai (bC (bg (aC (aQ (aQ (ag rfl (aZ ?_)))))))
  refine bT o2 dA ?_
  refine ag rfl ?_
  refine aN (i:=i) (af lo2) (by rw[Dt];exact aB (au (ae [LL.length] [(0,210),(.a 16777326 111,0)] rfl hll))) (x:=bh (g,sn)) (by rw[DC,hi];rfl) ?_
  refine bg (aC (bJ (ac (ao rfl ?_))))
  refine bi rfl ?_
  refine ac (aA (Std.n_tuple (by assumption)) aH (ac (aA (Std.n_sorted (by assumption)) ak (ac (aE (aA (Std.n_list (by assumption)) aH (ac (ao rfl ?_))))))))
  refine bM rfl ?_
  refine ah ?_
  dsimp only
  rw[jm]
  refine dK (.inr ⟨_,rfl⟩) rfl (by rw[c8];exact aB (au (ae [most,w.ps.length,sn.length] [(0,117),(1,0),(2,1),(.a 16777326 111,2)] rfl hm hp2 hsn))) fun la hla=>?_
  refine bu (ac (bJ (dX rfl rfl ?_)))
  refine ⟨show 2<=Dz by decide,?_⟩
  refine ah ?_
  refine ⟨show 1<=Dz by decide,fun lb hlb=>?_⟩
  refine dz ((ay.new hlb).items aW) aW (by rw[c8];simp;exact aB (au (ae [most,w.ps.length,sn.length] [(0,117),(1,0),(2,1),(.a 16777326 111,31)] rfl hm hp2 hsn))) fun lc hlc=>?_
  have x3:ay H2 (an (an (an H2 la (.lst (cB sn))) lb (.lst [.tup [.int line,.int dig]])) lc (.lst (cB sn ++ [.tup [.int line,.int dig]]))):=((ay.new hla).more hlb).more hlc
  have c3:an (an (an H2 la (.lst (cB sn))) lb (.lst [.tup [.int line,.int dig]])) lc (.lst (cB sn ++ [.tup [.int line,.int dig]])) lc=some (.lst (cB (sn.filter (fun x=>decide (x.1<line))++sn.filter (fun x=>decide (line<x.1)) ++ [(line,dig)]))):=by
   rw[aj,<- fO (p:=(line,dig)) L.inc hs];unfold cB;rw[DO];rfl
  generalize an (an (an H2 la (.lst (cB sn))) lb (.lst [.tup [.int line,.int dig]])) lc (.lst (cB sn ++ [.tup [.int line,.int dig]]))=H3 at x3 c3
  refine ah ?_
  have hlen:=congrArg D0 (fO (p:=(line,dig)) L.inc hs)
  rw[DZ] at hlen
  refine pJ c3 (by dsimp only at hlen;(clear nlo hc hz hll hp1 hr1 nod nor nld i0 i1 l0 l1 d0 d1 hline hil;omega)) (lV (p:=(line,dig)) L.inc) fun lr hlr=>?_
  have x4:=x3.more (o:=.lst (cB (cI sn (line,dig)))) hlr
  have hl':=L'.len
  refine ah ?_
  refine fH aW (by rw[c8];exact EI hl' (by decide)) ?_
  rw[show sn.filter (fun x=>decide (x.1<line))++(line,dig)::sn.filter (fun x=>decide (line<x.1))=cI sn (line,dig) from rfl]
  generalize an H3 lr (.lst (cB (cI sn (line,dig))))=H4 at x4
  refine ah ?_
  refine ⟨show 2<=Dz by decide,?_⟩
  rw[<- jm,show V.tup [.tup (g.map .int),.tup (prs (bW (cI sn (line,dig))))]=bh (g,cI sn (line,dig)) from rfl]
  refine bg (eu (aE (aE (gQ (aQ (ag rfl (aZ ?_)))))))
  refine bT (x4 _ _ o2) dA ?_
  refine cH (ag rfl (cH ?_))
  refine fK (af (x4 _ _ lo2)) (by rw[Dt];exact aB (au (ae [LL.length] [(0,210),(.a 16777326 111,0)] rfl hll))) .none (.int _) fun c1 hc1=>?_
  rw[qZ (by rw[Dt];exact au (ae [i,LL.length] [(11,1),(21,0)] rfl hil))]
  have x5:=x4.more (o:=.lst ((LL.map bh).take i)) hc1
  have i5:=aj H4 c1 (.lst ((LL.map bh).take i))
  generalize an H4 c1 (.lst ((LL.map bh).take i))=H5 at x5 i5
  refine bu (a9 rfl ?_)
  refine ⟨show 1<=Dz by decide,fun c2 hc2=>?_⟩
  refine dz ((ay.new hc2).items (af i5)) aW (by simp;(clear hm nlo hc hp1 hp2 hr1 nod nor nld i0 i1 l0 l1 d0 d1 hline hil hsn hlen hl';lia)) fun c3 hc3=>?_
  have x6:=(x5.more (o:=.lst [bh (g,cI sn (line,dig))]) hc2).more (o:=.lst ((LL.map bh).take i ++ [bh (g,cI sn (line,dig))])) hc3
  have i6:=aj (an H5 c2 (.lst [bh (g,cI sn (line,dig))])) c3 (.lst ((LL.map bh).take i ++ [bh (g,cI sn (line,dig))]))
  generalize an (an H5 c2 (.lst [bh (g,cI sn (line,dig))])) c3 (.lst ((LL.map bh).take i ++ [bh (g,cI sn (line,dig))]))=H6 at x6 i6
  refine gQ (aQ (ag rfl (aZ ?_)))
  refine bT (x6 _ _ o2) dA ?_
  refine aV rfl (bA (cH (cH ?_)))
  rw[show (i:Int)+1=((i+1:Nat):Int) by exact eV (am [i] [(.a 11 111,11)] rfl) (am [i] [(.a 11 111,11)] rfl)]
  refine fK (af (x6 _ _ lo2)) (by rw[Dt];exact aB (au (ae [LL.length] [(0,210),(.a 16777326 111,0)] rfl hll))) (.int _) .none fun c4 hc4=>?_
  rw[qY (by rw[Dt];exact au (ae [i,LL.length] [(11,1),(21,11)] rfl hil))]
  refine dz ((ay.new hc4).items (af i6)) aW (by simp;(clear hm nlo hc hp1 hp2 hr1 nod nor nld i0 i1 l0 l1 d0 d1 hline hil hsn hlen hl';omega)) fun c5 hc5=>?_
  rw[yR hil]
  have x7:=(x6.more (o:=.lst ((LL.map bh).drop (i+1))) hc4).more (o:=.lst ((LL.set i (g,cI sn (line,dig))).map bh)) hc5
  have i7:=aj (an H6 c4 (.lst ((LL.map bh).drop (i+1)))) c5 (.lst ((LL.set i (g,cI sn (line,dig))).map bh))
  have hc5':H2 c5=none:=(x6.more (o:=.lst ((LL.map bh).drop (i+1))) hc4).gone hc5
  generalize an (an H6 c4 (.lst ((LL.map bh).drop (i+1)))) c5 (.lst ((LL.set i (g,cI sn (line,dig))).map bh))=H7 at x7 i7
  have o7:=x7 _ _ o2
  refine ag rfl (aZ ?_)
  refine mr o7 (show 3<=Dz by decide) ?_
  rw[l8]
  refine aL (aX (c6 (ag rfl (bJ (ah ?_)))))
  refine ⟨by decide,?_⟩
  refine eo (.tup .nil) (.tup .nil) rfl rfl (by decide) ?_
  rw[Ez _ rfl]
  have n5:c5≠o:=fun z=>by rw[z,o2] at hc5';cases hc5'
  have hc5H:H c5=none:=by
   cases e:H c5 with
   | none=>rfl
   | some v=>
    by_cases q1:c5=dx
    ·refine ad s2.nsd fun lv' n' zz=>?_
     rw[q1,n'] at hc5';cases hc5'
    ·by_cases q2:c5=ra
     ·rw[q2,s2.rows] at hc5';cases hc5'
     ·rw[e2 _ _ n5 q1 q2 e] at hc5';cases hc5'
  refine K _ c5 _ (fun b v b1 b2 b3 h=>(aP b1).trans (x7 _ _ (e2 _ _ b1 b2 b3 h))) ((s2.ext x7).upo o7) (hL.set L') (List.length_set ..) (aj ..) ((aP n5).trans i7) (.inr hc5H)
end
end
section
set_option maxHeartbeats 2000000
open PySem PyProof.Rows
theorem Fst.alike {f:Nat->Int}{m j k:Nat}(x:Fst f m j)(y:Fst f m k):j=k:=by
 rcases Nat.lt_trichotomy j k with q | q | q
 ·have h1:=y.fst j q;have h2:=x.le k y.lt;exact sB (am [f k,f j,j,k] [(11,1),(1,0),(.w 0 31,3)] rfl h1 h2) (am [f k,f j,k,j] [(11,1),(1,0),(.w 0 31,3)] rfl h1 h2)
 ·exact q
 ·have h1:=x.fst k q;have h2:=y.le j x.lt;exact sB (am [f j,f k,j,k] [(11,1),(1,0),(.w 0 31,3)] rfl h1 h2) (am [f j,f k,k,j] [(11,1),(1,0),(.w 0 31,3)] rfl h1 h2)
theorem kG:(Gx [.str (Dn "none")]).canLay0=true:=by decide +kernel
section
variable {P:Addr->Prop}{C:Cx}{X:XP}{n:Nat}{H H':MH}{Q:V->MH->Prop}{w:Wk}{pa ra a dx lo o pw dy:Addr}{LL:List Lk}{most:Nat}{d:Md}{ρ:Lo}
theorem Bm {i j:Int}(q:Q (.bool false) H):bX C d .NotEq (.tup [.int i,.int j]) (.tup [.int i,.int j]) H Q X:=by
 refine gB (.tup (.cons (.int _) (.cons (.int _) .nil))) (.tup (.cons (.int _) (.cons (.int _) .nil))) rfl rfl (by simp[Ei,DW]) ?_
 rw[Ez _ rfl];exact q
theorem Srch.extb {l:List (String × V)}(x:Srch P H a dx pa ra w LL)(y:cm dy H H')(ne:dy≠dx)(h:H dy=some (.nsd l)):Srch P H' a dx pa ra w LL:=by
 have k:∀ {b:Addr} {v:O},H b=some v->(∀ m,v ≠ .nsd m)->H' b=some v:=fun e hv=>y _ _ (fun z=>by rw[z,h] at e;cases e;exact hv _ rfl) e
 refine ad x.nsd fun lv h1 h2=>?_
 exact ⟨k x.ins fun zz=>nofun,⟨lv,y _ _ ne.symm h1,h2.imp id fun hq1=>bN hq1 fun la e p q=>⟨la,e,p,k q fun zz=>nofun⟩⟩,k x.parts fun zz=>nofun,k x.rows fun zz=>nofun,x.apt⟩
theorem kF {c:Int}(Y:X11 C)(hw:w.Ok most)(hm:most<=7)(x:Srch P H a dx pa ra w LL)(hL:LksOk w LL)(hP:∀ b,H b=none->P b)(hpw:H pw=some (.lst (w.ps.map Pt.v)))(hlo:H lo=some (.lst (LL.map bh)))
  (K:∀ H',cm dx H H'->Srch P H' a dx pa ra w LL->Q (.bool true) H'):bB C ⟨n+22,true⟩ "_law_next_good" [.ref a,w.v pw,.ref lo,.int c] H Q X:=by
 have hz:10000<Dz:=by decide
 have D:=Y.D
 have G:=D.G;have S:=D.S
 have hll:=hL.len
 have nld:lo≠dx:=x.ne hlo fun zz=>nofun
 refine ad x.nsd fun lv0 n0 zz=>?_
 refine Y.ng.call G rfl ?_
 unfold q9
 refine aC ?_
 refine bw D.cl.fn ?_
 refine a9 rfl ?_
 refine si (P:=fun zz=>True) (n:=n+16) (w:=w) (pa:=pw) D hw hm hpw fun a2 dx2 pb2 ra2 H1 x1 hdx2 hra2 hpb2 ha2 f1=>?_
 have nxx:dx2≠dx:=fun z=>by rw[z,n0] at hdx2;cases hdx2
 refine cA ?_
 refine ag rfl ?_
 refine ⟨_,⟨.inl rfl,fun zz zz zz e=>by cases e⟩,af (x1 _ _ hlo),?_⟩
 refine ch (P:=fun i ρ' H'=>(∃ u,ρ' = [some (.ref a),some (w.v pw),some (.ref lo),some (.int c),some (.ref a2),u,none,none,none,none])/\ay H H'/\Srch (fun zz=>True) H' a2 dx2 pb2 ra2 w (LL.take i)) ⟨⟨_,rfl⟩,x1,f1⟩
  (fun i z ρ' H' R hPi hz' hRR=>?_) fun ρ' H' hPi=>?_
 ·refine fA hPi fun ho44_0 hx f=>?_
  try clear hPi
  obtain ⟨u,rfl⟩:=ho44_0
  rw[DC,DE] at hz'
  refine ad hz' fun ho46_0 hi hr46_2=>?_
  try clear hz'
  obtain ⟨g,sn⟩:=ho46_0
  subst hr46_2
  have L:LkOk w g sn:=hL.ok _ (DQ hi)
  have hil:=(DD.mp hi).1
  refine ad f.nsd fun lv m1 m2=>?_
  refine ⟨af (hx _ _ hlo),_,rfl,?_⟩
  show aM C _ _ [some (.ref a),some (w.v pw),some (.ref lo),some (.int c),some (.ref a2),some (bh (g,sn)),none,none,none,none] _ _ _
  refine cD (bG (ag rfl ?_))
  refine D.ml.go f.ins m1 sM fun ff F=>?_
  refine ac (ao rfl ?_)
  refine bi rfl ?_
  refine ac (ao rfl ?_)
  refine bM rfl ?_
  refine ah ?_
  refine oG (n:=n+17) D F hw hm f ⟨fun M hM=>hL.ok M (Gz hM),by rw[Gn];(clear hm hz nld nxx hil;lia)⟩ (by rw[Gn];(clear hm hz nld nxx;lia)) L fun H2 y2 f2=>?_
  refine aR (hRR _ _ ⟨⟨_,rfl⟩,fun b v h=>y2 b v (fun z=>by rw[z,hdx2] at h;cases h) (fun z=>by rw[z,hra2] at h;cases h) (hx _ _ h),?_⟩)
  rw[D7,hi];exact f2
 refine fA hPi fun ho63_0 x2 f2=>?_
 try clear hPi
 obtain ⟨u,rfl⟩:=ho63_0
 rw[Dt,Ec] at f2
 refine ⟨af (x2 _ _ hlo),?_⟩
 clear f1 x1
 refine aC (aA (Std.n_list (by assumption)) aH (ac (aA (Std.n_range (by assumption)) aH (ac (aE (aA (Std.n_len (by assumption)) ak (a9 rfl ?_)))))))
 refine bp (af (x2 _ _ hlo)) (by rw[Dt];exact aB (au (ae [LL.length] [(0,210),(.a 16777326 111,0)] rfl hll))) ?_
 rw[Dt]
 refine aO (bA (ah ?_))
 rw[show (LL.length:Int)+1=((LL.length+1:Nat):Int) by exact eV (am [LL.length] [(.a 11 111,11)] rfl) (am [LL.length] [(.a 11 111,11)] rfl)]
 refine cV ?_
 refine ah ?_
 refine lE rfl (by exact au (ae [LL.length] [(0,210),(.a 1110 111,11)] rfl hll)) fun nl hnl=>?_
 have x3:=x2.more (o:=.lst ((DU (LL.length+1)).map fun (k:Nat)=>V.int k)) hnl
 have f3:=f2.ext (ay.new (o:=.lst ((DU (LL.length+1)).map fun (k:Nat)=>V.int k)) hnl)
 have i3:=aj H' nl (.lst ((DU (LL.length+1)).map fun (k:Nat)=>V.int k))
 generalize an H' nl (.lst ((DU (LL.length+1)).map fun (k:Nat)=>V.int k))=H3 at x3 f3 i3
 have hnum:∀ z∈(DU (LL.length+1)).map (fun (k:Nat)=>V.int k),∃ k:Nat,k<=LL.length/\z = .int k:=fun z hz=>by
  refine ad (Ef.mp hz) fun k hk hr80_2=>?_
  subst hr80_2
  exact ⟨k,by have:=Fs.mp hk;exact au (ae [k,LL.length] [(11,21),(21,0)] rfl this),rfl⟩
 have hnn:((DU (LL.length+1)).map (fun (k:Nat)=>V.int k)).length=LL.length+1:=by rw[Dt,List.length_range]
 generalize (DU (LL.length+1)).map (fun (k:Nat)=>V.int k)=NL at i3 hnum hnn
 refine aC (aE (ag rfl (aA (Std.n_len (by assumption)) ak (a9 rfl ?_))))
 refine bp (af i3) (by exact aB (au (ae [LL.length,NL.length] [(0,210),(1,11),(.a 16777326 111,1)] rfl hll (me hnn)))) ?_
 rw[hnn]
 refine bc (by exact bE (am [LL.length] [(110,0),(11,110)] rfl (q0 LL.length))) ?_
 have t0:=D9 c (show ((LL.length+1:Nat):Int)≠0 by exact f9 (am [LL.length] [(110,0),(11,110),(.w 0 110,11)] rfl (q0 LL.length)))
 have t1:=D5 c (show 0<((LL.length+1:Nat):Int) by exact bE (am [LL.length] [(110,0),(11,110)] rfl (q0 LL.length)))
 generalize c % ((LL.length+1:Nat):Int)=tz at t0 t1
 refine aF (Ft t0) fun t hr91_1=>?_
 subst hr91_1
 refine cA ?_
 refine aE (gQ (ag rfl (ag rfl (cH (cH ?_)))))
 refine fK (af i3) (by exact aB (au (ae [LL.length,NL.length] [(0,210),(1,11),(.a 16777326 111,1)] rfl hll (me hnn)))) (.int _) .none fun c1 hc1=>?_
 rw[qY (by exact dF (am [LL.length,NL.length,t] [(11,1),(31,11),(21,2)] rfl (qf hnn) t1))]
 have x4:=x3.more (o:=.lst (NL.drop t)) hc1
 have f4:=f3.ext (ay.new (o:=.lst (NL.drop t)) hc1)
 have i4:=(ay.new (o:=.lst (NL.drop t)) hc1) _ _ i3
 have j4:=aj H3 c1 (.lst (NL.drop t))
 generalize an H3 c1 (.lst (NL.drop t))=H4 at x4 f4 i4 j4
 refine gQ (ag rfl (cH (ag rfl (cH ?_))))
 refine fK (af i4) (by exact aB (au (ae [LL.length,NL.length] [(0,210),(1,11),(.a 16777326 111,1)] rfl hll (me hnn)))) .none (.int _) fun c2 hc2=>?_
 rw[qZ (by exact dF (am [LL.length,NL.length,t] [(11,1),(31,11),(21,2)] rfl (qf hnn) t1))]
 refine dz ((ay.new hc2).items (af j4)) aW (by rw[Go,Gn];(clear hm nld nxx t0 t1;omega)) fun c3 hc3=>?_
 have x5:=(x4.more (o:=.lst (NL.take t)) hc2).more (o:=.lst (NL.drop t++NL.take t)) hc3
 have f5:=f4.ext ((ay.new (o:=.lst (NL.take t)) hc2).more (o:=.lst (NL.drop t++NL.take t)) hc3)
 have i5:=aj (an H4 c2 (.lst (NL.take t))) c3 (.lst (NL.drop t++NL.take t))
 generalize an (an H4 c2 (.lst (NL.take t))) c3 (.lst (NL.drop t++NL.take t))=H5 at x5 f5 i5
 have hnum:∀ z∈NL.drop t++NL.take t,∃ k:Nat,k<=LL.length/\z = .int k:=fun z hz=>by
  rcases El.mp hz with q | q
  ·exact hnum z (List.mem_of_mem_drop q)
  ·exact hnum z (Gz q)
 generalize NL.drop t++NL.take t=ML at i5 hnum
 have nc3:c3≠dx:=fun z=>by rw[z,x5 _ _ n0] at i5;cases i5
 have nc3':c3≠dx2:=f5.ne i5 fun zz=>nofun
 refine ⟨_,⟨.inl rfl,fun zz zz zz e=>by cases e⟩,af i5,?_⟩
 refine ch (P:=fun i ρ' H'=>(∃ u u' u2,ρ' = [some (.ref a),some (w.v pw),some (.ref lo),some (.int c),some (.ref a2),u,some (.ref nl),some (.int (t:Int)),u',u2])/\cm dx H H'/\Srch P H' a dx pa ra w LL/\Srch (fun zz=>True) H' a2 dx2 pb2 ra2 w LL/\H' c3=some (.lst ML)) ⟨⟨_,_,_,rfl⟩,x5.b dx,x.ext x5,f5,i5⟩
  (fun i z ρ' H' R hPi hz' hRR=>?_) fun ρ' H' hPi=>?_
 ·refine js hPi fun ho120_0 y s' f' l'=>?_
  try clear hPi
  obtain ⟨u,u',u2,rfl⟩:=ho120_0
  refine ad (hnum z (DQ hz')) fun k hk hr121_2=>?_
  subst hr121_2
  refine ⟨af l',_,rfl,?_⟩
  show aM C _ _ [some (.ref a),some (w.v pw),some (.ref lo),some (.int c),some (.ref a2),u,some (.ref nl),some (.int (t:Int)),some (.int (k:Int)),u2] _ _ _
  refine aC (bu (ac (aZ (ah ?_))))
  refine ⟨show 1<=Dz by decide,fun r0 hr0=>?_⟩
  have y1:=y.trans ((ay.new (o:=.lst [.str (Dn "none")]) hr0).b dx)
  have s1:=s'.ext (ay.new (o:=.lst [.str (Dn "none")]) hr0)
  have f1:=f'.ext (ay.new (o:=.lst [.str (Dn "none")]) hr0)
  have l1:=(ay.new (o:=.lst [.str (Dn "none")]) hr0) _ _ l'
  have q1:=aj H' r0 (.lst [.str (Dn "none")])
  generalize an H' r0 (.lst [.str (Dn "none")])=H6 at y1 s1 f1 l1 q1
  refine eX (J:=fun ρ' H'=>∃ dv:V,ρ' = [some (.ref a),some (w.v pw),some (.ref lo),some (.int c),some (.ref a2),u,some (.ref nl),some (.int (t:Int)),some (.int (k:Int)),some dv]/\cm dx H H'/\Srch P H' a dx pa ra w LL/\Srch (fun zz=>True) H' a2 dx2 pb2 ra2 w LL/\H' c3=some (.lst ML) /\
    ((k=LL.length /\ ∃ r,dv = .ref r/\H' r=some (.lst [.str (Dn "none")])) ∨ ∃ g sn j,LL[k]? = some (g,sn)/\Fst (fun k=>fY w g sn (bV w LL) (w.inp+k)) w.ps.length j/\dv = .tup [.int ((w.inp+j:Nat):Int),.int (fY w g sn (bV w LL) (w.inp+j))])) (fun ρ' H' hJ=>?_) fun R' hR'=>?_
  rotate_left
  ·have lo6:=y1 _ _ nld hlo
   refine aK (ag rfl (aA (Std.n_len (by assumption)) ak (a9 rfl ?_)))
   refine bp (af lo6) (by rw[Dt];exact aB (au (ae [LL.length] [(0,210),(.a 16777326 111,0)] rfl hll))) ?_
   rw[Dt]
   refine jh (ai ?_)
   by_cases hkl:k=LL.length
   ·rw[show decide ((k:Int)<(LL.length:Int))=false from decide_eq_false (by exact Gq.mpr (aY (am [LL.length,k] [(0,1),(21,0)] rfl (qf hkl))))]
    refine bf ?_
    exact aR (hR' _ _ ⟨_,rfl,y1,s1,f1,l1,.inl ⟨hkl,r0,rfl,q1⟩⟩)
   ·rw[show decide ((k:Int)<(LL.length:Int))=true from decide_eq_true (by lia)]
    have hkl:k<LL.length:=by lia
    obtain ⟨⟨g,sn⟩,hi⟩:∃ L,LL[k]? = some L:=⟨_,DA hkl⟩
    refine ad f1.nsd fun lv m1 m2=>?_
    refine bC (aC (bG (ag rfl ?_)))
    refine D.mx.go f1.ins m1 sN fun ff F=>?_
    refine a9 rfl ?_
    refine sD (n:=n+1) D F hw hm f1 hL hi (fun zz zz=>trivial) fun j H7 y7 f7 hF=>?_
    refine aR (hR' _ _ ⟨_,rfl,fun b v nb h=>?_,s1.extb y7 nxx m1,f7,y7 _ _ nc3' l1,.inr ⟨g,sn,j,hi,hF,rfl⟩⟩)
    exact y7 _ _ (fun z=>by rw[z,hdx2] at h;cases h) (y1 _ _ nb h)
  refine Bo hJ fun dv hr156_1 y2 s2 f2' l2 hdv=>?_
  try clear hJ
  subst hr156_1
  refine ad s2.nsd fun lvs ms zz=>?_
  refine aI (aK ?_)
  refine bw Y.ln.fn ?_
  refine dX rfl rfl ?_
  refine yC (n:=n) Y hw hm s2 hL (fun b e=>hP b (y2.gone s2 e)) hk (fun g sn hi j H8 y8 s8 hF=>?_) fun hkl r H8 x8 q8=>?_
  ·rcases hdv with ⟨e,_⟩ | ⟨g',sn',j',hi',hF',rfl⟩
   ·have:=(DD.mp hi).1;(clear hm hz hll nld nxx hnn t0 t1 nc3 nc3' hk;omega)
   rw[hi] at hi';cases hi'
   cases hF.alike hF'
   refine ag rfl ?_
   refine Bm ?_
   refine ai (bf (aL ?_))
   exact hRR _ _ ⟨⟨_,_,_,rfl⟩,y2.trans y8,s8,f2'.extb y8 nxx.symm ms,y8 _ _ nc3 l2⟩
  ·rcases hdv with ⟨_,r',rfl,q'⟩ | ⟨g',sn',j',hi',_,_⟩
   ·refine ag rfl ?_
    refine gB (.lst q8 (.cons (.str _) .nil)) (.lst (x8 _ _ q') (.cons (.str _) .nil)) kG kG (by simp[Ei,DW]) ?_
    rw[Ez _ kG]
    refine ai (bR (aL ?_))
    exact hRR _ _ ⟨⟨_,_,_,rfl⟩,y2.trans (x8.b dx),s2.ext x8,f2'.ext x8,x8 _ _ l2⟩
   ·have:=(DD.mp hi').1;(clear hm hz hll nld nxx hnn t0 t1 nc3 nc3' hk;omega)
 ·refine js hPi fun ho177_0 y s' f' l'=>?_
  try clear hPi
  obtain ⟨u,u',u2,rfl⟩:=ho177_0
  refine ⟨af l',?_⟩
  refine nO ?_
  exact K _ y s'
end
end
section
set_option maxHeartbeats 2000000
open PySem PyProof.Rows
noncomputable def o8 (vs:List V):Prop:=∃ ds,(∀ H,VDs H vs ds)/\Eb ds=true/\DW ds<=6
theorem wN (LL:List Lk):o8 (LL.map bh):=⟨_,fun zz=>hA LL,jj LL,by have:=nR LL;exact au (ae [DW (GV kA LL)] [(0,113),(.a 116 111,0)] rfl this)⟩
theorem nQ:∀ l:List (List Nat),DW (l.map fun o=>E2 (o.map fun (b:Nat)=>E8 b))<=1
 | []=>EP _
 | o::l=>by
  have:=nQ l
  simp only[D3,DW,Ei,mQ]
  lia
theorem wM (l:List (List Nat)):o8 (l.map bH):=⟨_,fun zz=>jq l,lj l,by have:=nQ l;lia⟩
structure Held (P:Addr->Prop)(H:MH)(hl:Addr)(ps:List (Addr × Addr × List V)):Prop where
 l:H hl=some (.lst (ps.map fun p=>.tup [.ref p.1,.ref p.2.1]))
 p:∀ p∈ps,P p.1/\P p.2.1/\H p.1=some (.lst p.2.2)/\H p.2.1=some (.lst p.2.2)/\o8 p.2.2
section
variable {P P':Addr->Prop}{C:Cx}{X:XP}{n:Nat}{H H':MH}{Q:V->MH->Prop}{w:Wk}{pa ra a dx lo o pw dy hl:Addr}{LL:List Lk}{most:Nat}{d:Md}{ρ:Lo}{ps:List (Addr × Addr × List V)}
theorem Held.keep (h:Held P H hl ps)(k1:∀ v,H hl=some v->H' hl=some v)(k:∀ b l,P b->H b=some (.lst l)->H' b=some (.lst l)):Held P H' hl ps :=
 ⟨k1 _ h.l,fun p hp=>by obtain ⟨q1,q2,q3,q4,q5⟩:=h.p p hp;exact ⟨q1,q2,k _ _ q1 q3,k _ _ q2 q4,q5⟩⟩
theorem Held.ext (h:Held P H hl ps)(x:ay H H'):Held P H' hl ps:=h.keep (fun v e=>x _ _ e) fun b l zz e=>x _ _ e
theorem Held.mono (h:Held P H hl ps)(k:∀ b l,H b=some (.lst l)->P b->P' b):Held P' H hl ps :=
 ⟨h.l,fun p hp=>by obtain ⟨q1,q2,q3,q4,q5⟩:=h.p p hp;exact ⟨k _ _ q3 q1,k _ _ q4 q2,q3,q4,q5⟩⟩
theorem Srch.upl {m:Addr}{l l':List V}(x:Srch P H a dx pa ra w LL)(h:H m=some (.lst l))(np:pa≠m)(nr:ra≠m)(hp:∀ b,P b->b≠m):Srch P (an H m (.lst l')) a dx pa ra w LL:=by
 have k:∀ {b:Addr} {v:O},b≠m->H b=some v->an H m (.lst l') b=some v:=fun nb e=>by rw[aP nb];exact e
 refine ad x.nsd fun lv h1 h2=>?_
 exact ⟨k (fun z=>by have:=x.ins;rw[z,h] at this;cases this) x.ins,⟨lv,k (fun z=>by rw[z,h] at h1;cases h1) h1,h2.imp id fun hq1=>bN hq1 fun la e p q=>⟨la,e,p,k (hp _ p) q⟩⟩,k np x.parts,k nr x.rows,x.apt⟩
theorem zM {b c:Addr}{l:List (List Nat)}(h:H b=some (.lst (l.map bH)))(h':H c=some (.lst (l.map bH)))(q:Q (.bool true) H):bX C d .Eq (.ref b) (.ref c) H Q X:=by
 have lay:(Gx (l.map fun o=>E2 (o.map fun (b:Nat)=>E8 b))).canLay0=true:=by rw[Es];exact lj l
 refine eo (.lst h (jq l)) (.lst h' (jq l)) lay lay (by have:=nQ l;simp only[Ei];lia) ?_
 rw[Ez _ lay];exact q
end
end
section
set_option maxHeartbeats 4000000
open PySem PyProof.Rows
section
variable {P P':Addr->Prop}{C:Cx}{X:XP}{n:Nat}{H H':MH}{Q:V->MH->Prop}{w:Wk}{pa ra a dx lo o pw dy hl:Addr}{LL:List Lk}{most:Nat}{d:Md}{ρ:Lo}{ps:List (Addr × Addr × List V)}
theorem sR {m:Addr}{u v:V}{j:Int}(h:H m=some (.lst [u,v]))(h0:0<=j)(h1:j<2)(q:∀ z,z=u ∨ z=v->Q z H):fR C d (.ref m) (.int j) H Q X:=by
 refine aF (Ft h0) fun k hr10_1=>?_
 subst hr10_1
 have hk:k=0 ∨ k=1:=by (clear h0;lia)
 rcases hk with rfl | rfl
 ·exact aN (i:=0) (af h) (show 2<=Dz by decide) rfl (q _ (.inl rfl))
 ·exact aN (i:=1) (af h) (show 2<=Dz by decide) rfl (q _ (.inr rfl))
theorem yo {c:Int}(Y:X11 C)(hw:w.Ok most)(hm:most<=7)(x:Srch P H a dx pa ra w LL)(hL:LksOk w LL)(hP:∀ b,H b=none->P b)(hPl:∀ b,P b->b≠hl)(hpw:H pw=some (.lst (w.ps.map Pt.v)))(hlo:H lo=some (.lst (LL.map bh)))(npw:pw≠hl)(nlo:lo≠hl)(npa:pa≠hl)(nra:ra≠hl)
  (hh:Held P H hl ps) (hpl:ps.length<=1000)
  (K:∀ ps' H',(∀ b v,b≠dx->b≠hl->H b=some v->H' b=some v)->Srch P H' a dx pa ra w LL->Held P H' hl ps'->ps'.length=ps.length+2->Q (.bool true) H'):bB C ⟨n+23,true⟩ "_law_good" [.ref a,w.v pw,.ref lo,.ref hl,.int c] H Q X:=by
 have hz:10000<Dz:=by decide
 have D:=Y.D
 have G:=D.G;have S:=D.S
 have hll:=hL.len;have hp2:=hw.p2
 have hls:(bV w LL).length<=200:=by
  have h1:=(jk w.ps.length (by exact be (ae [most,w.ps.length] [(0,117),(1,0),(118,1)] rfl hm hp2))).2
  have h2:=gE w LL (cK w.ps.length w.ps.length) []
  unfold bV;simp only[F3] at h2;exact au (ae [(cK w.ps.length w.ps.length).length,(Gp (cG w LL) [] (cK w.ps.length w.ps.length)).length] [(0,310),(1,.a 110 0),(.a 310 111,1)] rfl h1 h2)
 have nhd:hl≠dx:=x.ne hh.l fun zz=>nofun
 have nld:lo≠dx:=x.ne hlo fun zz=>nofun
 have npd:pw≠dx:=x.ne hpw fun zz=>nofun
 refine Y.gd.call G rfl ?_
 unfold nE
 refine eX (J:=fun ρ' H'=>ρ' = [some (.ref a),some (w.v pw),some (.ref lo),some (.ref hl),some (.int c),none,none,none]/\cm dx H H'/\Srch P H' a dx pa ra w LL) (fun ρ' H1 hJ=>?_) fun R hR=>?_
 rotate_left
 ·refine cO (eE (aK (aV rfl ?_)))
  refine bc (by decide) ?_
  refine aO (bx (ai ?_))
  by_cases h:c % 2=1
  ·rw[show (c % 2==1)=true by simpa using h]
   refine bC (eE (b8 (bP ?_)))
   refine bw Y.ng.fn ?_
   refine a8 rfl (a8 rfl (a8 rfl (ac (aV rfl ?_))))
   refine bj (by decide) (by decide) ?_
   refine ah ?_
   refine kF (n:=n) Y hw hm x hL hP hpw hlo fun H1 y1 s1=>?_
   refine ai (bR (bf ?_))
   exact aR (hR _ _ ⟨rfl,y1,s1⟩)
  ·rw[show (c % 2==1)=false by simpa using h]
   refine bf (bf ?_)
   exact aR (hR _ _ ⟨rfl,(ay.refl H).b dx,x⟩)
 refine fA hJ fun hr50_0 y1 s1=>?_
 try clear hJ
 subst hr50_0
 have held1:Held P H1 hl ps:=hh.keep (fun v e=>y1 _ _ nhd e) fun b l zz e=>y1 _ _ (x.ne e fun zz=>nofun) e
 have hP1:∀ b,H1 b=none->P b:=fun b e=>hP b (y1.gone s1 e)
 have lo1:=y1 _ _ nld hlo
 have pw1:=y1 _ _ npd hpw
 refine aC (bu (ac (bu (ah ?_))))
 refine ⟨by decide,fun e1 he1=>?_⟩
 refine ac (bu (ah ?_))
 refine ⟨by decide,fun e2 he2=>?_⟩
 refine ah ?_
 refine ⟨show 2<=Dz by decide,fun tl htl=>?_⟩
 have x12:ay H1 (an (an (an H1 e1 (.lst [])) e2 (.lst [])) tl (.lst [.ref e1,.ref e2])):=((ay.new he1).more he2).more htl
 have t2:=aj (an (an H1 e1 (.lst [])) e2 (.lst [])) tl (.lst [.ref e1,.ref e2])
 have htl1:H1 tl=none:=((ay.new he1).more he2).gone htl
 have htlH:H tl=none:=y1.gone s1 htl1
 generalize an (an (an H1 e1 (.lst [])) e2 (.lst [])) tl (.lst [.ref e1,.ref e2])=H2 at x12 t2
 have ntl:∀ {b:Addr} {v:O},H1 b=some v->b≠tl:=fun e z=>by rw[z,htl1] at e;cases e
 have mo:∀ b l,H1 b=some (.lst l)->P b->P b/\b≠tl:=fun b l e p=>⟨p,ntl e⟩
 have s2:=(s1.mono (P':=fun b=>P b/\b≠tl) mo).ext x12
 have held2:=(held1.mono (P':=fun b=>P b/\b≠tl) mo).ext x12
 have nhl:=ntl held1.l
 have npt:=ntl s1.parts
 have nrt:=ntl s1.rows
 have im:=ntl lo1
 have npwt:=ntl pw1
 have y2:cm dx H H2:=y1.trans (x12.b dx)
 refine cA ?_
 refine aQ (bu (ac (bu (ck (dk ?_)))))
 refine ⟨show 2<=Dz by decide,fun k1 hk1=>?_⟩
 refine ac (bu (ck (dk ?_)))
 refine ⟨show 2<=Dz by decide,fun k2 hk2=>?_⟩
 refine ah ?_
 refine ⟨show 2<=Dz by decide,fun kk hkk=>?_⟩
 have x23:ay H2 (an (an (an H2 k1 (.lst [.int 0,.int 1])) k2 (.lst [.int 1,.int 0])) kk (.lst [.ref k1,.ref k2])):=((ay.new hk1).more hk2).more hkk
 have c1:=(ay.new (o:=.lst [.ref k1,.ref k2]) hkk) _ _ ((ay.new (o:=.lst [.int 1,.int 0]) hk2) _ _ (aj H2 k1 (.lst [.int 0,.int 1])))
 have c2:=(ay.new (o:=.lst [.ref k1,.ref k2]) hkk) _ _ (aj (an H2 k1 (.lst [.int 0,.int 1])) k2 (.lst [.int 1,.int 0]))
 have c3:=aj (an (an H2 k1 (.lst [.int 0,.int 1])) k2 (.lst [.int 1,.int 0])) kk (.lst [.ref k1,.ref k2])
 have nk1:k1≠tl:=fun z=>by rw[z,t2] at hk1;cases hk1
 have nk2:k2≠tl:=fun z=>by have:=(ay.new (o:=.lst [.int 0,.int 1]) hk1) _ _ t2;rw[z,this] at hk2;cases hk2
 generalize an (an (an H2 k1 (.lst [.int 0,.int 1])) k2 (.lst [.int 1,.int 0])) kk (.lst [.ref k1,.ref k2])=H3 at x23 c1 c2 c3
 refine aE (aV rfl ?_)
 refine bj (by decide) (by decide) ?_
 refine aO ?_
 refine bc (by decide) ?_
 refine sR c3 (D9 _ (by decide)) (D5 _ (by decide)) fun z hz'=>?_
 obtain ⟨kr,ks,rfl,hkr,hks,nkr⟩:∃ kr ks,z = .ref kr/\H3 kr=some (.lst ks)/\(ks = [.int 0,.int 1] ∨ ks = [.int 1,.int 0])/\kr≠tl:=by
  rcases hz' with rfl | rfl
  ·exact ⟨k1,_,rfl,c1,.inl rfl,nk1⟩
  ·exact ⟨k2,_,rfl,c2,.inr rfl,nk2⟩
 have nkd:kr≠dx:=(s2.ext x23).ne hkr fun zz=>nofun
 refine ⟨_,⟨.inl rfl,fun zz zz zz e=>by cases e⟩,af hkr,?_⟩
 refine ch (P:=fun i ρ' H'=>(∃ u,ρ' = [some (.ref a),some (w.v pw),some (.ref lo),some (.ref hl),some (.int c),some (.ref tl),u,none])/\(∃ v0 v1,H' tl=some (.lst [v0,v1])/\(∀ j,j<i->ks[j]? = some (.int 0) -> ∃ r,v0 = .ref r/\(P r/\r≠tl)/\H' r=some (.lst (LL.map bh)))/\(∀ j,j<i->ks[j]? = some (.int 1) -> ∃ r,v1 = .ref r/\(P r/\r≠tl)/\H' r=some (.lst ((bV w LL).map bH))))/\cm dx H H'/\Srch (fun b=>P b/\b≠tl) H' a dx pa ra w LL/\Held (fun b=>P b/\b≠tl) H' hl ps/\H' kr=some (.lst ks))
  ⟨⟨_,rfl⟩,⟨_,_,x23 _ _ t2,fun j h=>by (clear hm npw nlo npa nra hpl hz hll hp2 hls nhd nld npd nhl npt nrt im npwt nk1 nk2 hz' hks nkr nkd;lia),fun j h=>by (clear hm npw nlo npa nra hpl hz hll hp2 hls nhd nld npd nhl npt nrt im npwt nk1 nk2 hz' hks nkr nkd;lia)⟩,y2.trans (x23.b dx),s2.ext x23,held2.ext x23,hkr⟩ (fun i z ρ' H' R hPi hz' hRR=>?_) fun ρ' H4 hPi=>?_
 ·refine rg hPi fun ho104_0 ho104_1 y s' hd' k'=>?_
  try clear hPi
  obtain ⟨u,rfl⟩:=ho104_0
  obtain ⟨v0,v1,ht,f0,f1⟩:=ho104_1
  have hP':∀ b,H' b=none->P b/\b≠tl:=fun b e=>⟨hP b (y.gone s' e),fun z=>by rw[z,ht] at e;cases e⟩
  refine ad s'.nsd fun lv m1 m2=>?_
  have htd:tl≠dx:=s'.ne ht fun zz=>nofun
  have hz2:z = .int 0 ∨ z = .int 1:=by
   have:=DQ hz'
   rcases hks with rfl | rfl <;> simp at this <;> rcases this with rfl | rfl <;> simp
  refine ⟨af k',_,rfl,?_⟩
  rcases hz2 with rfl | rfl
  ·show aM C _ _ [some (.ref a),some (w.v pw),some (.ref lo),some (.ref hl),some (.int c),some (.ref tl),some (.int 0),none] _ _ _
   refine aI (eJ rfl (bx (ai ?_)))
   rw[show ((0:Int)==0)=true from rfl]
   refine bC (bg (eu (bG (ag rfl ?_))))
   refine D.mo.go s'.ins m1 qO fun f F=>?_
   refine ah ?_
   refine m7 (n:=n+21) D F s' hL fun r H7 x7 hr r7=>?_
   refine ag rfl (aO ?_)
   have nrr:r≠tl:=(hP' r hr).2
   refine iw (i:=0) (x7 _ _ ht) (show 0<2 by decide) (show 2<=Dz by decide) ?_
   refine aL ?_
   refine aR (hRR _ _ ⟨⟨_,rfl⟩,⟨.ref r,v1,aj ..,fun zz zz zz=>⟨r,rfl,hP' r hr,(aP nrr).trans r7⟩,fun j hj e=>?_⟩,fun b v nb e=>(aP fun z=>by rw[z,htlH] at e;cases e).trans (x7 _ _ (y _ _ nb e)),(s'.ext x7).upl (x7 _ _ ht) npt nrt fun b p=>p.2,(hd'.ext x7).keep (fun v e=>(aP nhl).trans e) fun b l p e=>(aP p.2).trans e,(aP nkr).trans (x7 _ _ k')⟩)
   by_cases hji:j<i
   ·refine bN (f1 j hji e) fun r1 e1 p1 q1=>?_
    exact ⟨r1,e1,p1,(aP p1.2).trans (x7 _ _ q1)⟩
   ·rw[show j=i by exact cy (ae [i,j] [(0,1),(21,0)] rfl (mn hji)) (ae [j,i] [(11,21),(21,0)] rfl hj),hz'] at e;cases e
  ·show aM C _ _ [some (.ref a),some (w.v pw),some (.ref lo),some (.ref hl),some (.int c),some (.ref tl),some (.int 1),none] _ _ _
   refine aI (eJ rfl (bx (ai ?_)))
   rw[show ((1:Int)==0)=false from rfl]
   refine bf (bg (eu (bG (ag rfl ?_))))
   refine D.ms.go s'.ins m1 sO fun f F=>?_
   refine ah ?_
   refine sL (n:=n+3) D F hw hm s' hL hP' fun r H7 y7 s7 hr r7=>?_
   have s7:=s7.mono (P':=fun b=>P b/\b≠tl) fun b l zz p=>p.1
   refine ag rfl (aO ?_)
   have nrr:r≠tl:=(hP' r hr).2
   have ht7:=y7 _ _ htd ht
   refine iw (i:=1) ht7 (show 1<2 by decide) (show 2<=Dz by decide) ?_
   refine aL ?_
   refine aR (hRR _ _ ⟨⟨_,rfl⟩,⟨v0,.ref r,aj ..,fun j hj e=>?_,fun zz zz zz=>⟨r,rfl,hP' r hr,(aP nrr).trans r7⟩⟩,fun b v nb e=>(aP fun z=>by rw[z,htlH] at e;cases e).trans (y7 _ _ nb (y _ _ nb e)),s7.upl ht7 npt nrt fun b p=>p.2,hd'.keep (fun v e=>(aP nhl).trans (y7 _ _ nhd e)) fun b l p e=>(aP p.2).trans (y7 _ _ (s'.ne e fun zz=>nofun) e),(aP nkr).trans (y7 _ _ nkd k')⟩)
   by_cases hji:j<i
   ·refine bN (f0 j hji e) fun r1 e1 p1 q1=>?_
    exact ⟨r1,e1,p1,(aP p1.2).trans (y7 _ _ (s'.ne q1 fun zz=>nofun) q1)⟩
   ·rw[show j=i by exact cy (ae [i,j] [(0,1),(21,0)] rfl (mn hji)) (ae [j,i] [(11,21),(21,0)] rfl hj),hz'] at e;cases e
 refine rg hPi fun ho147_0 ho147_1 y4 s4 held4 k4=>?_
 try clear hPi
 obtain ⟨u,rfl⟩:=ho147_0
 obtain ⟨v0,v1,t4,f0,f1⟩:=ho147_1
 refine ⟨af k4,?_⟩
 obtain ⟨⟨r0,e0,p0,q0⟩,⟨r1,e1,p1,q1⟩⟩:(∃ r,v0 = .ref r/\(P r/\r≠tl)/\H4 r=some (.lst (LL.map bh))) /\ ∃ r,v1 = .ref r/\(P r/\r≠tl)/\H4 r=some (.lst ((bV w LL).map bH)):=by
  rcases hks with rfl | rfl
  ·exact ⟨f0 0 (by decide) rfl,f1 1 (by decide) rfl⟩
  ·exact ⟨f0 1 (by decide) rfl,f1 0 (by decide) rfl⟩
 subst e0 e1
 clear f0 f1 k4 hks c1 c2 c3 hkr
 have hP4:∀ b,H4 b=none->P b/\b≠tl:=fun b e=>⟨hP b (y4.gone s4 e),fun z=>by rw[z,t4] at e;cases e⟩
 have lo4:=y4 _ _ nld hlo
 have pw4:=y4 _ _ npd hpw
 refine eX (J:=fun ρ' H'=>ρ' = [some (.ref a),some (w.v pw),some (.ref lo),some (.ref hl),some (.int c),some (.ref tl),u,none]/\cm dx H4 H'/\Srch (fun b=>P b/\b≠tl) H' a dx pa ra w LL) (fun ρ' H5 hJ=>?_) fun R hR=>?_
 rotate_left
 ·refine cO (eE (aK (aV rfl ?_)))
  refine bc (by decide) ?_
  refine aO (bx (ai ?_))
  by_cases h:c % 2=0
  ·rw[show (c % 2==0)=true by simpa using h]
   refine bC (eE (b8 (bP ?_)))
   refine bw Y.ng.fn ?_
   refine a8 rfl (a8 rfl (a8 rfl (ac (aV rfl ?_))))
   refine bj (by decide) (by decide) ?_
   refine ah ?_
   refine kF (n:=n) Y hw hm s4 hL hP4 pw4 lo4 fun H1 y1 s1=>?_
   refine ai (bR (bf ?_))
   exact aR (hR _ _ ⟨rfl,y1,s1⟩)
  ·rw[show (c % 2==0)=false by simpa using h]
   refine bf (bf ?_)
   exact aR (hR _ _ ⟨rfl,(ay.refl H4).b dx,s4⟩)
 refine fA hJ fun hr177_0 y5 s5=>?_
 try clear hJ
 subst hr177_0
 have kl:∀ {b:Addr} {l:List V},H4 b=some (.lst l)->H5 b=some (.lst l):=fun e=>y5 _ _ (s4.ne e fun zz=>nofun) e
 have held5:Held (fun b=>P b/\b≠tl) H5 hl ps:=held4.keep (fun v e=>y5 _ _ nhd e) fun b l zz e=>kl e
 have t5:=kl t4
 have q05:=kl q0
 have q15:=kl q1
 have e5:∀ b v,b≠dx->b≠hl->H b=some v->H5 b=some v:=fun b v n1 zz e=>y5 _ _ n1 (y4 _ _ n1 e)
 have n0l:=hPl _ p0.1
 have n1l:=hPl _ p1.1
 refine cA ?_
 refine ag rfl ?_
 refine ⟨_,⟨.inl rfl,fun zz zz zz e=>by cases e⟩,af t5,?_⟩
 refine ch (P:=fun i ρ' H'=>(∃ u',ρ' = [some (.ref a),some (w.v pw),some (.ref lo),some (.ref hl),some (.int c),some (.ref tl),u,u'])/\(∃ ps',ps'.length=ps.length+i/\Held (fun b=>P b/\b≠tl) H' hl ps')/\H' tl=some (.lst [.ref r0,.ref r1])/\H' r0=some (.lst (LL.map bh))/\H' r1=some (.lst ((bV w LL).map bH))/\Srch (fun b=>P b/\b≠tl) H' a dx pa ra w LL/\(∀ b v,b≠dx->b≠hl->H b=some v->H' b=some v)/\(∀ b,H' b=none->P b/\b≠tl))
  ⟨⟨_,rfl⟩,⟨ps,rfl,held5⟩,t5,q05,q15,s5,e5,fun b e=>hP4 b (y5.gone s5 e)⟩ (fun i z ρ' H' R hPi hz' hRR=>?_) fun ρ' H6 hPi=>?_
 ·refine vS hPi fun ho192_0 ho192_1 ht h0 h1 s' e' hP'=>?_
  try clear hPi
  obtain ⟨u',rfl⟩:=ho192_0
  obtain ⟨ps',hpl',hd'⟩:=ho192_1
  have hi2:i<2:=(DD.mp hz').1
  obtain ⟨r,vs,rfl,pr,hr,pv,hvl⟩:∃ r vs,z = .ref r/\(P r/\r≠tl)/\H' r=some (.lst vs)/\o8 vs/\vs.length<=1000:=by
   have:=DQ hz'
   simp only[EW,FQ,or_false] at this
   rcases this with rfl | rfl
   ·exact ⟨r0,_,rfl,p0,h0,wN _,by rw[Dt];exact au (ae [LL.length] [(0,210),(.a 1110 111,0)] rfl hll)⟩
   ·exact ⟨r1,_,rfl,p1,h1,wM _,by rw[Dt];exact au (ae [(bV w LL).length] [(0,310),(.a 1110 111,0)] rfl hls)⟩
  refine ⟨af ht,_,rfl,?_⟩
  show aM C _ _ [some (.ref a),some (w.v pw),some (.ref lo),some (.ref hl),some (.int c),some (.ref tl),u,some (.ref r)] _ _ _
  refine aI (b8 (bP (aA (Std.n_isinstance (by assumption)) ak (a8 rfl (ac (fF (Std.n_list (by assumption)) (ah ?_)))))))
  refine lD (k:=true) S.n_list (af hr) (by simp) ?_
  refine ai (bR (aL (cD (bG (ag rfl ?_)))))
  refine ⟨_,cL hd'.l,ak,?_⟩
  refine ac (bJ (a8 rfl (ac (aA (Std.n_list (by assumption)) aH (a9 rfl ?_)))))
  refine dK (.inl ⟨_,rfl⟩) (af hr) (by exact aB (au (ae [vs.length] [(0,1110),(.a 16777326 111,0)] rfl hvl))) fun y hy=>?_
  have x7:=ay.new (o:=.lst vs) hy
  have iy:=aj H' y (.lst vs)
  have nyh:y≠hl:=fun z=>by rw[z,hd'.l] at hy;cases hy
  have py:=hP' y hy
  generalize an H' y (.lst vs)=H7 at x7 iy
  refine ah ?_
  refine ⟨show 2<=Dz by decide,?_⟩
  refine ah ?_
  have hd7:=hd'.ext x7
  refine du hd7.l (by rw[Dt];exact aB (au (ae [ps.length,ps'.length,i] [(0,1110),(1,.a 0 2),(31,112),(.a 16777326 111,1)] rfl hpl (me hpl') hi2))) ?_
  have k8:∀ {b:Addr} {v:O},b≠hl->H7 b=some v->an H7 hl (.lst (ps'.map (fun p=>V.tup [.ref p.1,.ref p.2.1]) ++ [.tup [.ref r,.ref y]])) b=some v:=fun nb e=>(aP nb).trans e
  refine aR (hRR _ _ ⟨⟨_,rfl⟩,⟨ps' ++ [(r,y,vs)],by rw[DZ,hpl'];rfl,by rw[aj,DO];rfl,fun p hp=>?_⟩,k8 nhl.symm (x7 _ _ ht),k8 n0l (x7 _ _ h0),k8 n1l (x7 _ _ h1),(s'.ext x7).upl hd7.l npa nra fun b p=>hPl b p.1,fun b v b1 b2 e=>k8 b2 (x7 _ _ (e' _ _ b1 b2 e)),fun b e=>?_⟩)
  ·rcases El.mp hp with q | q
   ·refine js (hd7.p p q) fun a1 a2 a3 a4 a5=>?_
    exact ⟨a1,a2,k8 (hPl _ a1.1) a3,k8 (hPl _ a2.1) a4,a5⟩
   ·rw[EV] at q
    subst q
    exact ⟨pr,py,k8 (hPl _ pr.1) (x7 _ _ hr),k8 nyh iy,pv⟩
  ·refine hP' b (x7.gone ?_)
   by_cases q:b=hl
   ·rw[q,aj] at e;cases e
   ·rw[aP q] at e;exact e
 refine vS hPi fun ho231_0 ho231_1 t6 q06 q16 s6 e6 hP6=>?_
 try clear hPi
 obtain ⟨u',rfl⟩:=ho231_0
 obtain ⟨ps',hpl',held6⟩:=ho231_1
 replace hpl':ps'.length=ps.length+2:=hpl'
 refine ⟨af t6,?_⟩
 refine cA ?_
 refine ao rfl ?_
 refine aN (i:=1) (af t6) (show 2<=Dz by decide) rfl ?_
 refine ⟨_,⟨.inl rfl,fun zz zz zz e=>by cases e⟩,af q16,?_⟩
 refine ch (P:=fun i ρ' H'=>(∃ u',ρ' = [some (.ref a),some (w.v pw),some (.ref lo),some (.ref hl),some (.int c),some (.ref tl),u,u'])/\ay H6 H') ⟨⟨_,rfl⟩,.refl _⟩ (fun i z ρ' H' R hPi hz' hRR=>?_) fun ρ' H7 hPi=>?_
 ·refine az hPi fun ho240_0 hx=>?_
  try clear hPi
  obtain ⟨u',rfl⟩:=ho240_0
  rw[DC,DE] at hz'
  refine ad hz' fun one hi hr242_2=>?_
  try clear hz'
  subst hr242_2
  have hol:one.length<=8:=by
   have hm1:=ky w LL (cK w.ps.length w.ps.length) [] one (DQ hi)
   rcases hm1 with q | q
   ·cases q
   ·have:=Et.mp (jk w.ps.length (by exact be (ae [most,w.ps.length] [(0,117),(1,0),(118,1)] rfl hm hp2))).1 one q
    simp only[Ev,decide_eq_true_eq] at this
    exact this.2
  refine ⟨af (hx _ _ q16),_,rfl,?_⟩
  show aM C _ _ [some (.ref a),some (w.v pw),some (.ref lo),some (.ref hl),some (.int c),some (.ref tl),u,some (bH one)] _ _ _
  refine aI (cO (cC (b8 (bP (aA (Std.n_isinstance (by assumption)) ak (a8 rfl (ac (fF (Std.n_tuple (by assumption)) (ah ?_)))))))))
  refine eq (k:=true) S.n_tuple (by rfl) ?_
  refine ai (bR (cC (aK ?_)))
  refine cU ?_
  refine ag rfl ?_
  refine ⟨_,⟨.inl rfl,fun zz zz zz e=>by cases e⟩,rfl,by rw[Dt];exact aB (au (ae [one.length] [(0,118),(.a 16777326 111,0)] rfl hol)),?_⟩
  refine cq (P:=fun j acc H''=>acc = []/\H'=H'') ⟨rfl,rfl⟩ (fun j y acc H'' R' hQ hyj hR2=>?_) fun acc H'' hQ=>⟨rfl,?_⟩
  ·refine az hQ fun hr259_0 hr259_1=>?_
   try clear hQ
   subst hr259_0
   subst hr259_1
   rw[DC,DE] at hyj
   refine ad hyj fun b zz hr261_2=>?_
   try clear hyj
   subst hr261_2
   refine ⟨rfl,_,rfl,?_⟩
   refine gY (bP (aA (Std.n_isinstance (by assumption)) ak (a8 rfl (ac (fF (Std.n_bool (by assumption)) (ah ?_))))))
   refine eq (k:=false) S.n_bool (by rfl) ?_
   refine ai (bf (bf ?_))
   exact hR2 _ _ ⟨rfl,rfl⟩
  refine az hQ fun hr267_0 hr267_1=>?_
  try clear hQ
  subst hr267_0
  subst hr267_1
  refine ⟨by decide,fun r hr=>?_⟩
  refine bu (ah ?_)
  refine ⟨by decide,fun r2 hr2=>?_⟩
  refine gB (.lst ((ay.new hr2) _ _ (aj ..)) .nil) (.lst (aj ..) .nil) rfl rfl (by decide) ?_
  rw[Ez _ rfl]
  refine ai (bR (cM (bf (aL ?_))))
  exact hRR _ _ ⟨⟨_,rfl⟩,(hx.more hr).more hr2⟩
 refine az hPi fun ho275_0 x7=>?_
 try clear hPi
 obtain ⟨u',rfl⟩:=ho275_0
 refine ⟨af (x7 _ _ q16),?_⟩
 have lo7:=x7 _ _ (e6 _ _ nld nlo hlo)
 have pw7:=x7 _ _ (e6 _ _ npd npw hpw)
 refine aX (mB (ju (c6 (ao rfl ?_))))
 refine aN (i:=0) (af (x7 _ _ t6)) (show 2<=Dz by decide) rfl ?_
 refine ag rfl ?_
 refine wA (x7 _ _ q06) lo7 ?_
 refine ai (bC (mA (c6 (ao rfl ?_))))
 refine aN (i:=1) (af (x7 _ _ t6)) (show 2<=Dz by decide) rfl ?_
 refine bw D.le.fn ?_
 refine dX rfl rfl ?_
 refine jZ (n:=n+5) D.toWlD D.so D.wi D.le hw hm pw7 lo7 hL fun r H8 x8 hr8 r8=>?_
 refine zM (x8 _ _ (x7 _ _ q16)) r8 ?_
 have x68:=x7.trans x8
 exact K ps' H8 (fun b v b1 b2 e=>x68 _ _ (e6 _ _ b1 b2 e)) ((s6.mono (P':=P) fun b l zz p=>p.1).ext x68) ((held6.mono (P':=P) fun b l zz p=>p.1).ext x68) hpl'
end
end
section
set_option maxHeartbeats 2000000
open PySem PyProof.Rows
theorem rO (l:List V):f_ l none (some (-1))=l.dropLast:=by
 unfold f_
 simp only[HI]
 have:clipAt l.length (-1)=l.length-1:=by
  unfold clipAt
  rw[if_pos (by decide)]
  omega
 rw[this,List.dropLast_eq_take];simp
theorem LksOk.snoc {w:Wk}{LL:List Lk}{L:Lk}(h:LksOk w LL)(hl:LL.length<100)(hL:LkOk w L.1 L.2):LksOk w (LL ++ [L]):=⟨fun M hM=>by
 rcases El.mp hM with q | q
 ·exact h.ok M q
 ·rw[EV] at q;rw[q];exact hL,by rw[DZ];show LL.length+1<=100;exact au (ae [LL.length] [(11,210),(.a 210 111,11)] rfl hl)⟩
theorem LksOk.butl {w:Wk}{LL:List Lk}(h:LksOk w LL):LksOk w LL.dropLast:=⟨fun M hM=>h.ok M (List.dropLast_subset _ hM),by rw[List.length_dropLast];have:=h.len;omega⟩
structure DrD (C:Cx):Prop where
 c:bq C "_law_cell" fq 2 e_
 m:bq C "_law_mixed" fU 2 ft
 p:∃ vp,vp.length=6/\bq C "_law_part" vp 2 gU
 k:bq C "_law_work" lG 2 jD
 g:∃ vg,vg.length=3/\bq C "_law_given" vg 2 gq
 d:∃ vd,vd.length=4/\bq C "_law_due" vd 3 gD
 r:∃ vr,vr.length=5/\bq C "_law_run" vr 3 iS
 l:∃ vl,vl.length=12/\bq C "_law_look" vl 3 jC
section
variable {P P':Addr->Prop}{C:Cx}{X:XP}{n:Nat}{H H':MH}{Q:V->MH->Prop}{w:Wk}{pa ra a dx lo o pw dy hl:Addr}{LL:List Lk}{most:Nat}{d:Md}{ρ:Lo}{ps:List (Addr × Addr × List V)}
theorem sw {b:Addr}{ns:List Int}(Y:X11 C)(Z:DrD C)(hb:aS H (.ref b)=some (ns.map .int))(hl:ns.length<=63)
  (K:∀ (w:Wk) o a dx pa ra pw lo H',w.Ok 5->ay H H'->H o=none->H dx=none->H ra=none->H pa=none->H pw=none->H lo=none->pa≠ra->pw≠ra->lo≠ra->H' o=some (.dcs (gN w pw a lo))->Srch (fun zz=>False) H' a dx pa ra w []->H' pw=some (.lst (w.ps.map Pt.v))->H' lo=some (.lst [])->Q (.ref o) H'):bB C ⟨n+6,true⟩ "_law_made" [.ref b] H Q X:=by
 have hz:10000<Dz:=by decide
 have D:=Y.D
 have G:=D.G;have S:=D.S
 refine ad Z.p fun vp hvp Dp=>?_
 refine Y.md.call G rfl ?_
 unfold nG
 refine aC ?_
 refine bw Z.k.fn ?_
 refine a8 rfl (dk ?_)
 refine zu (n:=n+2) (most:=5) G S Z.c Z.m Dp hvp Z.k hb hl (by decide) (by decide) fun w pw H1 hw zz x1 hpw p1=>?_
 have hp1:=hw.p1;have hp2:=hw.p2
 refine aC (aA (Std.n_list (by assumption)) aH (ac (ao rfl ?_)))
 refine cS rfl ?_
 refine ah ?_
 refine dK (.inl ⟨_,rfl⟩) (af p1) (by rw[Dt];exact aB (au (ae [w.ps.length] [(0,115),(.a 16777326 111,0)] rfl hp2))) fun hd hhd=>?_
 have x2:=x1.more (o:=.lst (w.ps.map Pt.v)) hhd
 have p2:=(ay.new (o:=.lst (w.ps.map Pt.v)) hhd) _ _ p1
 have d2:=aj H1 hd (.lst (w.ps.map Pt.v))
 have npd:pw≠hd:=fun z=>by rw[z,hhd] at p1;cases p1
 have hdH:H hd=none:=x1.gone hhd
 generalize an H1 hd (.lst (w.ps.map Pt.v))=H2 at x2 p2 d2
 refine aC ?_
 refine bw D.cl.fn ?_
 refine ac (bJ (ac (ao rfl ?_)))
 refine bi rfl ?_
 refine ac (ao rfl ?_)
 refine bM rfl ?_
 refine a9 rfl ?_
 refine ⟨show 3<=Dz by decide,?_⟩
 refine si (P:=fun zz=>False) (n:=n) (w:=w) (pa:=hd) D hw (by decide) d2 fun a dx pb ra H3 x3 hdx hra hpb ha s3=>?_
 have d3:=x3 _ _ d2
 have nbd:pb≠hd:=fun z=>by rw[z,d2] at hpb;cases hpb
 have nrd:ra≠hd:=fun z=>by rw[z,d2] at hra;cases hra
 refine cD (bG (ag rfl ?_))
 refine ⟨_,cL d3,ak,?_⟩
 refine ac (bJ (ac (aZ (dk ?_))))
 refine ⟨show 2<=Dz by decide,?_⟩
 refine ah ?_
 refine du d3 (by rw[Dt];exact aB (au (ae [w.ps.length] [(0,115),(.a 16777326 111,0)] rfl hp2))) ?_
 have s4:=s3.upl (l':=w.ps.map Pt.v ++ [V.tup [.str (Dn "not"),.int 0]]) d3 nbd nrd fun zz=>False.elim
 have d4:=aj H3 hd (.lst (w.ps.map Pt.v ++ [V.tup [.str (Dn "not"),.int 0]]))
 have x4:ay H (an H3 hd (.lst (w.ps.map Pt.v ++ [V.tup [.str (Dn "not"),.int 0]]))):=(x2.trans x3).mut hdH
 have p4:=(aP (H:=H3) (o:=.lst (w.ps.map Pt.v ++ [V.tup [.str (Dn "not"),.int 0]])) npd).trans (x3 _ _ p2)
 generalize an H3 hd (.lst (w.ps.map Pt.v ++ [V.tup [.str (Dn "not"),.int 0]]))=H4 at s4 d4 x4 p4
 refine eu (bJ (ac (aZ (ck (dk ?_)))))
 refine ⟨show 3<=Dz by decide,?_⟩
 refine ag rfl (aO ?_)
 refine iw (i:=0) d4 (by rw[DZ];simp) (by rw[DZ,Dt];show _+1<=_;exact aB (au (ae [w.ps.length] [(0,115),(.a 16777326 111,11)] rfl hp2))) ?_
 have s5:=s4.upl (l':=(w.ps.map Pt.v ++ [V.tup [.str (Dn "not"),.int 0]]).set 0 (V.tup [.str (Dn "sum"),.int 0,.int 0])) d4 nbd nrd fun zz=>False.elim
 have x5:ay H (an H4 hd (.lst ((w.ps.map Pt.v ++ [V.tup [.str (Dn "not"),.int 0]]).set 0 (V.tup [.str (Dn "sum"),.int 0,.int 0])))):=x4.mut hdH
 have p5:=(aP (H:=H4) (o:=.lst ((w.ps.map Pt.v ++ [V.tup [.str (Dn "not"),.int 0]]).set 0 (V.tup [.str (Dn "sum"),.int 0,.int 0]))) npd).trans p4
 generalize an H4 hd (.lst ((w.ps.map Pt.v ++ [V.tup [.str (Dn "not"),.int 0]]).set 0 (V.tup [.str (Dn "sum"),.int 0,.int 0])))=H5 at s5 x5 p5
 refine aX (xE (a8 rfl (a8 rfl (ac (bu (ah ?_))))))
 refine ⟨by decide,fun lo hlo=>?_⟩
 have s6:=s5.ext (ay.new (o:=.lst []) hlo)
 have x6:=x5.more (o:=.lst []) hlo
 have p6:=(ay.new (o:=.lst []) hlo) _ _ p5
 have l6:=aj H5 lo (.lst [])
 have nlr:lo≠ra:=fun z=>by rw[z,s5.rows] at hlo;cases hlo
 have npr:pw≠ra:=fun z=>by rw[<- z,p2] at hra;cases hra
 have hloH:=x5.gone hlo
 generalize an H5 lo (.lst [])=H6 at s6 x6 p6 l6
 refine ah ?_
 refine ⟨rfl,show 3<=16 by decide,by decide +kernel,fun o ho=>?_⟩
 have y:=ay.new (o:=.dcs ((["work", "search", "looks"].map Dn).zip [w.v pw,.ref a,.ref lo])) ho
 exact K w o a dx pb ra pw lo _ hw (x6.trans y) (x6.gone ho) (x2.gone hdx) (x2.gone hra) (x2.gone hpb) hpw hloH s3.apt npr nlr (aj ..) (s6.ext y) (y _ _ p6) (y _ _ l6)
theorem ym {c m:Int}(Y:X11 C)(Z:DrD C)(hw:w.Ok 5)(x:Srch P H a dx pa ra w LL)(hL:LksOk w LL)(hll:LL.length<=50)(ho:H o=some (.dcs (gN w pw a lo)))(hpw:H pw=some (.lst (w.ps.map Pt.v)))(hlo:H lo=some (.lst (LL.map bh)))(nlo:lo≠ra)(hc:0<=c)
  (K:∀ LL' lo' H',sY o dx ra H H'->Srch P H' a dx pa ra w LL'->LksOk w LL'->LL'.length<=LL.length+1->H' o=some (.dcs (gN w pw a lo'))->H' lo'=some (.lst (LL'.map bh))->(lo'=lo ∨ H lo'=none)->Q (.bool true) H'):bB C ⟨n+6,true⟩ "_law_deed" [.ref o,.int c,.int m] H Q X:=by
 have hz:10000<Dz:=by decide
 have D:=Y.D
 have G:=D.G;have S:=D.S
 have nod:o≠dx:=x.ne ho fun zz=>nofun
 have nor:o≠ra:=fun z=>by rw[z,x.rows] at ho;cases ho
 have nld:lo≠dx:=x.ne hlo fun zz=>nofun
 refine Y.de.call G rfl ?_
 unfold nD
 refine aI (aK (aE (aV rfl ?_)))
 refine bj (by decide) (by decide) ?_
 refine aO ?_
 refine bc (by decide) ?_
 refine aO (bx (ai ?_))
 split
 ·refine bg (aC ?_)
  refine bw Y.bk.fn ?_
  refine ac (aQ (ag rfl (aZ ?_)))
  refine bT ho eQ ?_
  refine ac (aQ (ag rfl (aZ ?_)))
  refine bT ho dA ?_
  refine ah ?_
  refine rI (n:=n+3) Y x hL hlo nlo fun H1 y1 s1=>?_
  have o1:=y1 _ _ nod nor ho
  have lo1:=y1 _ _ nld nlo hlo
  refine bg (eu (gQ (aQ (ag rfl (aZ ?_)))))
  refine bT o1 dA ?_
  refine cH (kZ (aO (jp (cH ?_))))
  refine fK (af lo1) (by rw[Dt];exact aB (au (ae [LL.length] [(0,160),(.a 16777326 111,0)] rfl hll))) .none (.int _) fun l2 hl2=>?_
  rw[rO,<- List.map_dropLast]
  have x2:=ay.new (o:=.lst (LL.dropLast.map bh)) hl2
  have i2:=aj H1 l2 (.lst (LL.dropLast.map bh))
  generalize an H1 l2 (.lst (LL.dropLast.map bh))=H2 at x2 i2
  refine ag rfl (aZ ?_)
  refine mr (x2 _ _ o1) (show 3<=Dz by decide) ?_
  rw[l8]
  have n2:l2≠o:=fun z=>by rw[z,o1] at hl2;cases hl2
  refine bg (eY rfl ?_)
  refine K LL.dropLast l2 _ (fun b v b1 b2 b3 h=>(aP b1).trans (x2 _ _ (y1 _ _ b2 b3 h))) ((s1.ext x2).upo (x2 _ _ o1)) hL.butl (by rw[List.length_dropLast];(clear hll nlo hc hz nod nor nld n2;omega)) (aj ..) ((aP n2).trans i2) (.inr ?_)
  cases e:H l2 with
  | none=>rfl
  | some v=>
   by_cases q1:l2=dx
   ·refine ad s1.nsd fun lv' n' zz=>?_
    rw[q1,n'] at hl2;cases hl2
   ·by_cases q2:l2=ra
    ·rw[q2,s1.rows] at hl2;cases hl2
    ·rw[y1 _ _ q1 q2 e] at hl2;cases hl2
 refine aL (aI (aK (aE (aV rfl ?_))))
 refine bj (by decide) (by decide) ?_
 refine aO ?_
 refine bc (by decide) ?_
 refine aO (bx (ai ?_))
 split
 ·refine bg (aX ?_)
  refine bw Y.se.fn ?_
  refine a8 rfl (ac (aV rfl ?_))
  refine bj (by decide) (by decide) ?_
  refine ah ?_
  exact tF (n:=n+1) Y hw (by decide) x hL ho hpw hlo nlo (by exact aY (am [c,c / 8] [(110,0),(11,.a (.m 8 1) 118),(.w 8 21,110)] rfl hc (zV c 8 rfl))) fun LL' lo' H' e s l h1 h2 h3 h4=>K LL' lo' H' e s l (by exact au (ae [LL'.length,LL.length] [(0,1),(.a 21 111,0)] rfl (me h1))) h2 h3 h4
 refine ad Z.g fun vg hvg Dg=>?_
 refine ad Z.d fun vd hvd Dd=>?_
 refine ad Z.r fun vr hvr Dr=>?_
 refine ad Z.l fun vl hvl Dl=>?_
 refine aL (aC ?_)
 refine bw Dl.fn ?_
 refine ac (aQ (ag rfl (aZ ?_)))
 refine bT ho gZ ?_
 refine ac (aV rfl ?_)
 refine bj (by decide) (by decide) ?_
 refine a9 rfl ?_
 refine wB (n:=n+2) (w:=w) (pa:=pw) G S Dg hvg Dd hvd Dr hvr Dl hvl hw (by decide) hpw fun g sn H1 x1 L=>?_
 rw[show eG g sn=bh (g,sn) from rfl]
 have s1:=x.ext x1
 have o1:=x1 _ _ ho
 have lo1:=x1 _ _ hlo
 refine eu (aE (aQ (ag rfl (aZ ?_))))
 refine bT o1 dA ?_
 refine bu (a9 rfl ?_)
 refine ⟨show 1<=Dz by decide,fun l2 hl2=>?_⟩
 refine dz ((ay.new hl2).items (af lo1)) aW (by rw[Dt];show _+1<=_;exact aB (au (ae [LL.length] [(0,160),(.a 16777326 111,11)] rfl hll))) fun l3 hl3=>?_
 have e3:LL.map bh ++ [bh (g,sn)]=(LL ++ [(g,sn)]).map bh:=by rw[DO];rfl
 rw[e3]
 have x3:=((ay.new (o:=.lst [bh (g,sn)]) hl2)).more (o:=.lst ((LL ++ [(g,sn)]).map bh)) hl3
 have i3:=aj (an H1 l2 (.lst [bh (g,sn)])) l3 (.lst ((LL ++ [(g,sn)]).map bh))
 have hl3':=(ay.new (o:=.lst [bh (g,sn)]) hl2).gone hl3
 generalize an (an H1 l2 (.lst [bh (g,sn)])) l3 (.lst ((LL ++ [(g,sn)]).map bh))=H3 at x3 i3
 have o3:=x3 _ _ o1
 refine ag rfl (aZ ?_)
 refine mr o3 (show 3<=Dz by decide) ?_
 rw[l8]
 have n3:l3≠o:=fun z=>by rw[z,o1] at hl3';cases hl3'
 have nr3:l3≠ra:=fun z=>by rw[z,s1.rows] at hl3';cases hl3'
 have s4:=(s1.ext x3).upo (l':=gN w pw a l3) o3
 have o4:=aj H3 o (.dcs (gN w pw a l3))
 have i4:=(aP (H:=H3) (o:=.dcs (gN w pw a l3)) n3).trans i3
 have y4:∀ b v,b≠o->H b=some v->an H3 o (.dcs (gN w pw a l3)) b=some v:=fun b v nb h=>(aP nb).trans (x3 _ _ (x1 _ _ h))
 generalize an H3 o (.dcs (gN w pw a l3))=H4 at s4 o4 i4 y4
 refine aX (c6 (bG (aQ (ag rfl (aZ ?_)))))
 refine bT o4 eQ ?_
 refine ad s4.nsd fun lv m1 m2=>?_
 refine D.ml.go s4.ins m1 sM fun f F=>?_
 refine ac (ao rfl ?_)
 refine bi rfl ?_
 refine ac (ao rfl ?_)
 refine bM rfl ?_
 refine ah ?_
 refine oG (n:=n+1) D F hw (by decide) s4 hL (by exact be (ae [LL.length] [(0,160),(210,0)] rfl hll)) L fun H5 y5 s5=>?_
 refine cH ?_
 refine fB ?_
 have nd3:l3≠dx:=s4.ne i4 fun zz=>nofun
 exact K (LL ++ [(g,sn)]) l3 _ (fun b v b1 b2 b3 h=>y5 _ _ b2 b3 (y4 _ _ b1 h)) s5 (hL.snoc (by exact be (ae [LL.length] [(0,160),(210,0)] rfl hll)) L) (by rw[DZ];exact Ea _) (y5 _ _ nod nor o4) (y5 _ _ nd3 nr3 i4) (.inr (x1.gone hl3'))
end
end
section
set_option maxHeartbeats 2000000
open PySem PyProof.Rows
structure Of where
 o:Addr
 a:Addr
 dx:Addr
 pa:Addr
 ra:Addr
 pw:Addr
 w:Wk
structure Own (P:Addr->Prop)(H:MH)(F:Of)(lo:Addr)(LL:List Lk):Prop where
 d:H F.o=some (.dcs (gN F.w F.pw F.a lo))
 s:Srch P H F.a F.dx F.pa F.ra F.w LL
 p:H F.pw=some (.lst (F.w.ps.map Pt.v))
 l:H lo=some (.lst (LL.map bh))
 k:LksOk F.w LL
 pl:P lo
structure Two (P:Addr->Prop)(hl:Addr)(F:Bool->Of):Prop where
 w:∀ b,(F b).w.Ok 5
 p:∀ x,P x->x≠hl /\ ∀ b,x≠(F b).ra
 q:∀ b,P (F b).pa/\P (F b).pw
 o:∀ b c,b≠c->(F b).o≠(F c).o
 x:∀ b c,b≠c->(F b).dx≠(F c).dx
 r:∀ b c,b≠c->(F b).ra≠(F c).ra
 h:∀ b,hl≠(F b).ra
structure Stt (P:Addr->Prop)(H:MH)(hl:Addr)(F:Bool->Of)(L:Bool->Addr × List Lk)(ps:List (Addr × Addr × List V)):Prop where
 own:∀ b,Own P H (F b) (L b).1 (L b).2
 held:Held P H hl ps
 new:∀ x,H x=none->P x
noncomputable def Mf (hl:Addr) (F:Bool->Of) (x:Addr):Prop:=x≠hl /\ ∀ b,x≠(F b).o/\x≠(F b).dx/\x≠(F b).ra
noncomputable def om (hl:Addr) (F:Bool->Of) (H H':MH):Prop:=∀ x v,Mf hl F x->H x=some v->H' x=some v
section
variable {P:Addr->Prop}{C:Cx}{X:XP}{n:Nat}{H H' H'':MH}{Q:V->MH->Prop}{hl:Addr}{F:Bool->Of}{L:Bool->Addr × List Lk}{ps:List (Addr × Addr × List V)}{G:Of}{lo:Addr}{LL:List Lk}
theorem om.trans (x:om hl F H H')(y:om hl F H' H''):om hl F H H'':=fun a v m e=>y a v m (x a v m e)
theorem Own.keep (x:Own P H G lo LL)(pq:P G.pa/\P G.pw)(k1:∀ l,H G.o=some (.dcs l)->H' G.o=some (.dcs l))(k2:∀ l,H G.dx=some (.nsd l)->H' G.dx=some (.nsd l))(k3:∀ l,H G.ra=some (.lst l)->H' G.ra=some (.lst l))
  (k4:∀ y l,P y->H y=some (.lst l)->H' y=some (.lst l)) (k5:∀ c d,H G.a=some (.ins c d)->H' G.a=some (.ins c d)):Own P H' G lo LL:=by
 refine ad x.s.nsd fun lv h1 h2=>?_
 exact ⟨k1 _ x.d,⟨k5 _ _ x.s.ins,⟨lv,k2 _ h1,h2.imp id fun hq1=>bN hq1 fun la e p q=>⟨la,e,p,k4 _ _ p q⟩⟩,k4 _ _ pq.1 x.s.parts,k3 _ x.s.rows,x.s.apt⟩,k4 _ _ pq.2 x.p,k4 _ _ x.pl x.l,x.k,x.pl⟩
theorem Own.ext (x:Own P H G lo LL)(y:ay H H'):Own P H' G lo LL:=⟨y _ _ x.d,x.s.ext y,y _ _ x.p,y _ _ x.l,x.k,x.pl⟩
theorem Stt.ext (s:Stt P H hl F L ps)(y:ay H H'):Stt P H' hl F L ps:=⟨fun b=>(s.own b).ext y,s.held.ext y,fun x e=>s.new x (y.gone e)⟩
theorem Stt.turn {b:Bool}{L':Bool->Addr × List Lk}{ps':List (Addr × Addr × List V)}(T:Two P hl F)(s:Stt P H hl F L ps)(k:∀ x v,x≠(F b).o->x≠(F b).dx->x≠(F b).ra->x≠hl->H x=some v->H' x=some v)
  (hb:Own P H' (F b) (L' b).1 (L' b).2) (hL:∀ c,c≠b->L' c=L c) (hh:Held P H' hl ps'):Stt P H' hl F L' ps':=by
 refine ad ((s.own b).s.nsd) fun lv n1 zz=>?_
 have ho:=(s.own b).d
 have hr:=(s.own b).s.rows
 have hl0:=s.held.l
 refine ⟨fun c=>?_,hh,fun x e=>s.new x ?_⟩
 ·by_cases hc:c=b
  ·subst hc;exact hb
  ·rw[hL c hc]
   have t:∀ {x y:Addr} {v u:O},H x=some v->H y=some u->v≠u->x≠y:=fun e f g z=>by rw[z,f] at e;exact g (Eh e).symm
   refine (s.own c).keep (T.q c) (fun l e=>k _ _ (T.o c b hc) (t e n1 nofun) (t e hr nofun) (t e hl0 nofun) e) (fun l e=>k _ _ (t e ho nofun) (T.x c b hc) (t e hr nofun) (t e hl0 nofun) e) (fun l e=>k _ _ (t e ho nofun) (t e n1 nofun) (T.r c b hc) (T.h c).symm e)
    (fun y l p e=>k _ _ (t e ho nofun) (t e n1 nofun) ((T.p y p).2 b) (T.p y p).1 e) fun c' d' e=>k _ _ (t e ho nofun) (t e n1 nofun) (t e hr nofun) (t e hl0 nofun) e
 ·cases e2:H x with
  | none=>rfl
  | some v=>
   by_cases q1:x=(F b).o
   ·rw[q1,hb.d] at e;cases e
   ·by_cases q2:x=(F b).dx
    ·refine ad hb.s.nsd fun lv' n' zz=>?_
     rw[q2,n'] at e;cases e
    ·by_cases q3:x=(F b).ra
     ·rw[q3,hb.s.rows] at e;cases e
     ·by_cases q4:x=hl
      ·rw[q4,hh.l] at e;cases e
      ·rw[k x v q1 q2 q3 q4 e2] at e;cases e
theorem sf {c:Int}(Y:X11 C)(T:Two P hl F)(s:Stt P H hl F L ps)(b:Bool)(hps:ps.length<=1000)(K:∀ ps' H',om hl F H H'->Stt P H' hl F L ps'->ps'.length=ps.length+2->Q (.bool true) H'):bB C ⟨n+23,true⟩ "_law_good" [.ref (F b).a,(F b).w.v (F b).pw,.ref (L b).1,.ref hl,.int c] H Q X:=by
 have ob:=s.own b
 refine yo Y (T.w b) (by decide) ob.s ob.k s.new (fun x p=>(T.p x p).1) ob.p ob.l (T.p _ (T.q b).2).1 (T.p _ ob.pl).1 (T.p _ (T.q b).1).1 (T.h b).symm s.held hps fun ps' H' k s' h e=>K ps' H' (fun x v m e=>k x v (m.2 b).2.1 m.1 e) (s.turn (b:=b) T (fun x v zz n2 zz n4 e=>k x v n2 n4 e) ?_ (fun zz zz=>rfl) h) e
 have nh:(F b).o≠hl:=fun z=>by have:=ob.d;rw[z,s.held.l] at this;cases this
 exact ⟨k _ _ (ob.s.ne ob.d fun zz=>nofun) nh ob.d,s',k _ _ (ob.s.ne ob.p fun zz=>nofun) (T.p _ (T.q b).2).1 ob.p,k _ _ (ob.s.ne ob.l fun zz=>nofun) (T.p _ ob.pl).1 ob.l,ob.k,ob.pl⟩
theorem yn {c m:Int}(Y:X11 C)(Z:DrD C)(T:Two P hl F)(s:Stt P H hl F L ps)(b:Bool)(hll:(L b).2.length<=50)(hc:0<=c)(K:∀ L' H',om hl F H H'->Stt P H' hl F L' ps->(∀ d,(L' d).2.length<=(L d).2.length+1)->Q (.bool true) H'):bB C ⟨n+6,true⟩ "_law_deed" [.ref (F b).o,.int c,.int m] H Q X:=by
 have ob:=s.own b
 refine ym Y Z (T.w b) ob.s ob.k hll ob.d ob.p ob.l ((T.p _ ob.pl).2 b) hc fun LL' lo' H' e s' k' hlen d' l' hlo=>?_
 have nph:(F b).pw≠(F b).o:=fun z=>by have:=ob.p;rw[z,ob.d] at this;cases this
 have hh:Held P H' hl ps:=s.held.keep (fun v q=>e _ _ (fun z=>by have:=s.held.l;rw[z,ob.d] at this;cases this) (ob.s.ne s.held.l fun zz=>nofun) (T.h b) q)
  fun y l p q=>e _ _ (fun z=>by rw[z,ob.d] at q;cases q) (ob.s.ne q fun zz=>nofun) ((T.p y p).2 b) q
 refine K (fun d=>if d=b then (lo',LL') else L d) H' (fun x v m q=>e x v (m.2 b).1 (m.2 b).2.1 (m.2 b).2.2 q) (s.turn (b:=b) T (fun x v n1 n2 n3 zz q=>e x v n1 n2 n3 q) ?_ (fun d hd=>if_neg hd) hh) fun d=>?_
 ·rw[if_pos rfl]
  exact ⟨d',s',e _ _ nph (ob.s.ne ob.p fun zz=>nofun) ((T.p _ (T.q b).2).2 b) ob.p,l',k',hlo.elim (fun z=>z ▸ ob.pl) fun z=>s.new _ z⟩
 ·by_cases hd:d=b
  ·subst hd;rw[if_pos rfl];exact hlen
  ·rw[if_neg hd];exact au (ae [(L d).snd.length] [(.a 11 111,0)] rfl)
end
end
section
set_option maxHeartbeats 4000000
open PySem PyProof.Rows
noncomputable def ww:Vs:=[aq "_law_script",aq "_law_both",aq "_law_held",aq "_law_k",aq "_law_cell_here",aq "_law_own",aq "_law_one"]
noncomputable def sr:List St :=
  [.asg 1 (.lst [(.call "_law_made" [(.nm 0)]),(.call "_law_made" [(.sli (.nm 0) (.ci 13) .cn .cn)])]),
  .asg 2 (.lst []),
  .for [3] (.pl (.call "range" [(.bin .Add (.ci 1) (.bin .Mod (.call "_law_mixed" [(.nm 0),(.ci 30)]) (.ci 6)))])) [.asg 4 (.call "_law_mixed" [(.nm 0),(.bin .Add (.ci 31) (.bin .Mult (.ci 2) (.nm 3)))]),
  .asg 5 (.sub (.nm 1) (.bin .Mod (.nm 4) (.ci 2))),
  .for [6] (.pl (.bin .Mult (.lst [(.nm 5)]) (.call "int" [(.cmp .Eq (.bin .Mod (.bin .FloorDiv (.nm 4) (.ci 7)) (.ci 2)) (.ci 1))]))) [.ife (.una .Not (.call "_law_good" [(.sub (.nm 6) (.cs "search")),(.sub (.nm 6) (.cs "work")),(.sub (.nm 6) (.cs "looks")),(.nm 2),(.bin .FloorDiv (.nm 4) (.ci 16))])) [.ret (.cb false)] []],
  .ife (.una .Not (.call "_law_deed" [(.nm 5),(.nm 4),(.call "_law_mixed" [(.nm 0),(.bin .Add (.ci 32) (.bin .Mult (.ci 2) (.nm 3)))])])) [.ret (.cb false)] [],
  .for [6] (.pl (.bin .Mult (.nm 1) (.call "int" [(.cmp .Gt (.bin .Mod (.bin .FloorDiv (.nm 4) (.ci 5)) (.ci 3)) (.ci 0))]))) [.ife (.una .Not (.call "_law_good" [(.sub (.nm 6) (.cs "search")),(.sub (.nm 6) (.cs "work")),(.sub (.nm 6) (.cs "looks")),(.nm 2),(.bin .FloorDiv (.nm 4) (.ci 64))])) [.ret (.cb false)] []]],
  .for [6] (.pl (.nm 1)) [.ife (.una .Not (.call "_law_good" [(.sub (.nm 6) (.cs "search")),(.sub (.nm 6) (.cs "work")),(.sub (.nm 6) (.cs "looks")),(.nm 2),(.ci 1)])) [.ret (.cb false)] []],
  .exp (.meth (.meth (.sub (.sub (.nm 1) (.ci 0)) (.cs "search")) "sets" []) "append" [(.tup [(.ci 0)])]),
  .exp (.meth (.meth (.sub (.sub (.nm 1) (.ci 0)) (.cs "search")) "looks" []) "clear" []),
  .ife (.una .Not (.call "_law_good" [(.sub (.sub (.nm 1) (.ci 0)) (.cs "search")),(.sub (.sub (.nm 1) (.ci 0)) (.cs "work")),(.sub (.sub (.nm 1) (.ci 0)) (.cs "looks")),(.nm 2),(.ci 0)])) [.ret (.cb false)] [],
  .ret (.cmp .Eq (.comp 1 (.nm 7) (.nm 2) [(.cmp .NotEq (.sub (.nm 7) (.ci 0)) (.sub (.nm 7) (.ci 1)))]) (.lst []))]
theorem xy (l:List V)(k:Nat):f_ l (some (k:Int)) none=l.drop k:=by
 unfold f_
 simp only[HI]
 rw[clipAt_nat]
 by_cases h:k<=l.length
 ·rw[GB h,ED]
  rw[Go];exact Ea _
 ·rw[Nat.min_eq_right (by exact au (ae [l.length,k] [(11,1),(21,0)] rfl (mo h))),List.drop_length,List.take_nil,List.drop_of_length_le (by exact au (ae [l.length,k] [(11,1),(21,0)] rfl (mo h)))]
theorem sK {z:V}{l:List V}{k:Nat}(h:z∈(DN k l).flatten):z∈l:=by
 refine ad (List.mem_flatten.mp h) fun m h1 h2=>?_
 rw[(List.mem_replicate.mp h1).2] at h2;exact h2
theorem sJ {l:List V}{b:Bool}:(DN ((if b=true then (1:Int) else 0)).toNat l).flatten.length<=l.length:=by
 cases b <;> simp
noncomputable abbrev Cj (e:Ex):List St:=[.ife (.una .Not (.call "_law_good" [(.sub (.nm 6) (.cs "search")),(.sub (.nm 6) (.cs "work")),(.sub (.nm 6) (.cs "looks")),(.nm 2),e])) [.ret (.cb false)] []]
section
variable {P:Addr->Prop}{C:Cx}{n:Nat}{H:MH}{hl a bl gl:Addr}{F:Bool->Of}{L:Bool->Addr × List Lk}{ps:List (Addr × Addr × List V)}
theorem lU {e:Ex}{ML:List V}{u3 u4 u5 u6:Option V}{K:KP}{X:XS}(Y:X11 C)(T:Two P hl F)(s:Stt P H hl F L ps)(hps:ps.length+2*ML.length<=1000)(hg:H gl=some (.lst ML))(mg:Mf hl F gl)(hM:∀ z∈ML,∃ b,z = .ref (F b).o)
  (he:∀ {u:Option V} {H:MH} {Q:V->MH->Prop} {X:XP},(∀ i,Q (.int i) H)->aU C ⟨n+23,true⟩ e [some (.ref a),some (.ref bl),some (.ref hl),u3,u4,u5,u] H Q X)
  (fin:∀ u ps' H',om hl F H H'->Stt P H' hl F L ps'->ps'.length<=ps.length+2*ML.length->K .next [some (.ref a),some (.ref bl),some (.ref hl),u3,u4,u5,u] H') :
  iY [6] (.pl (.ref gl)) ML (BR C ⟨n+23,true⟩ (Cj e) X) ML [some (.ref a),some (.ref bl),some (.ref hl),u3,u4,u5,u6] H K:=by
 refine ch (P:=fun i ρ' H'=>(∃ u,ρ' = [some (.ref a),some (.ref bl),some (.ref hl),u3,u4,u5,u])/\om hl F H H' /\ ∃ ps',Stt P H' hl F L ps'/\ps'.length<=ps.length+2*i) ⟨⟨_,rfl⟩,fun zz zz zz e=>e,ps,s,by exact au (ae [ps.length] [(.a (.a 0 (.m 2 110)) 111,0)] rfl)⟩
  (fun i z ρ' H' R hPi hz' hRR=>?_) fun ρ' H' hPi=>?_
 ·obtain ⟨⟨u,rfl⟩,k,ps',s',hl'⟩:=hPi
  have hil:=(DD.mp hz').1
  refine aF (hM z (DQ hz')) fun b hr47_1=>?_
  subst hr47_1
  have ob:=s'.own b
  refine ⟨af (k _ _ mg hg),_,rfl,?_⟩
  show aM C _ _ [some (.ref a),some (.ref bl),some (.ref hl),u3,u4,u5,some (.ref (F b).o)] _ _ _
  refine aI (b8 (bP ?_))
  refine bw Y.gd.fn ?_
  refine ac (aQ (ag rfl (aZ ?_)))
  refine bT ob.d eQ ?_
  refine ac (aQ (ag rfl (aZ ?_)))
  refine bT ob.d gZ ?_
  refine ac (aQ (ag rfl (aZ ?_)))
  refine bT ob.d dA ?_
  refine a8 rfl (ac ?_)
  refine he fun c=>?_
  refine ah ?_
  refine sf (n:=n) Y T s' b (by exact au (ae [ps.length,ML.length,ps'.length,i] [(.a 0 (.m 2 1),1110),(2,.a 0 (.m 2 3)),(.w 2 41,1),(.a 1110 111,2)] rfl hps hl' hil)) fun ps2 H2 k2 s2 e2=>?_
  refine ai (bR (aL ?_))
  exact hRR _ _ ⟨⟨_,rfl⟩,k.trans k2,ps2,s2,by exact au (ae [ps'.length,ps.length,i,ps2.length] [(0,.a 1 (.m 2 2)),(3,12),(.a (.a 1 (.m 2 31)) 111,3)] rfl hl' (me e2))⟩
 ·obtain ⟨⟨u,rfl⟩,k,ps',s',hl'⟩:=hPi
  exact ⟨af (k _ _ mg hg),fin u ps' H' k s' hl'⟩
end
section
variable {C:Cx}{X:XP}{a:Addr}{ns:List Int}
theorem BB (Y:X11 C)(Z:DrD C)(D:bq C "law" ww 1 sr)(hl:ns.length<=63):bB C ⟨60,true⟩ "law" [.ref a] (H0 a ns) (fun v zz=>v = .bool true) X:=by
 have hz:10000<Dz:=by decide
 have G:=Y.D.G;have S:=Y.D.S
 refine D.call G rfl ?_
 unfold sr
 have h0:H0 a ns a=some (.fro (ns.map .int)):=if_pos rfl
 generalize H0 a ns=H at h0
 refine aC (bu (ac ?_))
 refine bw Y.md.fn ?_
 refine a9 rfl ?_
 refine sw (n:=53) Y Z (kt h0) hl fun w0 o0 a0 dx0 pa0 ra0 pw0 lo0 H1 hw0 x1 ho0 hdx0 hra0 hpa0 hpw0 hlo0 n01 n02 n03 d1 s1 p1 l1=>?_
 refine ac ?_
 refine bw Y.md.fn ?_
 refine ac (gQ (ag rfl (aO (cH (cH ?_)))))
 refine fK (kt (x1 _ _ h0)) (by rw[Dt];exact aB (au (ae [ns.length] [(0,173),(.a 16777326 111,0)] rfl hl))) (.int 13) .none fun sb hsb=>?_
 rw[show f_ (ns.map V.int) (some 13) none=(ns.drop 13).map V.int by rw[show (13:Int)=((13:Nat):Int) from rfl,xy,List.map_drop]]
 have x2:ay H1 (an H1 sb (.lst ((ns.drop 13).map .int))):=.new hsb
 have i2:=aW (H:=H1) (a:=sb) (l:=(ns.drop 13).map .int)
 generalize an H1 sb (.lst ((ns.drop 13).map .int))=H2 at x2 i2
 refine sw (n:=53) Y Z i2 (by rw[Go];(clear hz n01 n02 n03;omega)) fun w1 o1 a1 dx1 pa1 ra1 pw1 lo1 H3 hw1 x3 ho1 hdx1 hra1 hpa1 hpw1 hlo1 n11 n12 n13 d3 s3 p3 l3=>?_
 have f1:∀ {b c:Addr} {v:O},H1 b=some v->H2 c=none->b≠c:=fun e f z=>by rw[<- z,x2 _ _ e] at f;cases f
 refine ah ?_
 refine ⟨show 2<=Dz by decide,fun bl hbl=>?_⟩
 have x4:ay H3 (an H3 bl (.lst [.ref o0,.ref o1])):=.new hbl
 have b4:=aj H3 bl (.lst [.ref o0,.ref o1])
 generalize an H3 bl (.lst [.ref o0,.ref o1])=H4 at x4 b4
 refine aC (bu (ah ?_))
 refine ⟨by decide,fun hd hhd=>?_⟩
 have x5:ay H4 (an H4 hd (.lst [])):=.new hhd
 have e5:=aj H4 hd (.lst [])
 generalize an H4 hd (.lst [])=H5 at x5 e5
 have f5:∀ {b:Addr} {v:O},H4 b=some v->b≠hd:=fun e z=>by rw[z,hhd] at e;cases e
 have x14:=(x2.trans x3).trans x4
 have x15:=x14.trans x5
 have x35:=x4.trans x5
 have a5:=x15 _ _ (x1 _ _ h0)
 have b5:=x5 _ _ b4
 obtain ⟨F,hF⟩:∃ F:Bool->Of,F=fun b=>bif b then ⟨o0,a0,dx0,pa0,ra0,pw0,w0⟩ else ⟨o1,a1,dx1,pa1,ra1,pw1,w1⟩:=⟨_,rfl⟩
 have hT:F true=⟨o0,a0,dx0,pa0,ra0,pw0,w0⟩:=by rw[hF];rfl
 have hN:F false=⟨o1,a1,dx1,pa1,ra1,pw1,w1⟩:=by rw[hF];rfl
 clear hF
 refine ad s1.nsd fun lv0 m1 zz=>?_
 refine ad s3.nsd fun lv1 m3 zz=>?_
 have bb:∀ {Q:Bool->Prop},Q true->Q false -> ∀ b,Q b:=fun h1 h2 b=>by cases b;exact h2;exact h1
 have b2:∀ {Q:Bool->Bool->Prop},Q true false->Q false true -> ∀ b c,b≠c->Q b c:=fun h1 h2 b c h=>by
  cases b <;> cases c <;> first | exact (h rfl).elim | exact h1 | exact h2
 obtain ⟨P,hPd⟩:∃ P:Addr->Prop,P=fun x=>x≠hd /\ ∀ b,x≠(F b).ra:=⟨_,rfl⟩
 have mkP:∀ {x:Addr},x≠hd->x≠ra0->x≠ra1->P x:=fun h1 h2 h3=>by rw[hPd];exact ⟨h1,bb (by rw[hT];exact h2) (by rw[hN];exact h3)⟩
 have T:Two P hd F:=by
  refine ⟨bb (by rw[hT];exact hw0) (by rw[hN];exact hw1),fun x h=>by rw[hPd] at h;exact h,bb ?_ ?_,b2 ?_ ?_,b2 ?_ ?_,b2 ?_ ?_,bb ?_ ?_⟩
  ·rw[hT];exact ⟨mkP (f5 (x14 _ _ s1.parts)) n01 (f1 s1.parts hra1),mkP (f5 (x14 _ _ p1)) n02 (f1 p1 hra1)⟩
  ·rw[hN];exact ⟨mkP (f5 (x4 _ _ s3.parts)) (f1 s1.rows hpa1).symm n11,mkP (f5 (x4 _ _ p3)) (f1 s1.rows hpw1).symm n12⟩
  ·rw[hT,hN];exact f1 d1 ho1
  ·rw[hT,hN];exact (f1 d1 ho1).symm
  ·rw[hT,hN];exact f1 m1 hdx1
  ·rw[hT,hN];exact (f1 m1 hdx1).symm
  ·rw[hT,hN];exact f1 s1.rows hra1
  ·rw[hT,hN];exact (f1 s1.rows hra1).symm
  ·rw[hT];exact (f5 (x14 _ _ s1.rows)).symm
  ·rw[hN];exact (f5 (x4 _ _ s3.rows)).symm
 have st5:Stt P H5 hd F (fun b=>bif b then (lo0,[]) else (lo1,[])) []:=by
  refine ⟨bb ?_ ?_,⟨e5,fun p hp=>by cases hp⟩,fun x e=>?_⟩
  ·rw[hT];exact ⟨x15 _ _ d1,(s1.mono fun zz zz zz p=>p.elim).ext x15,x15 _ _ p1,x15 _ _ l1,⟨fun zz h=>(by cases h),EP 100⟩,mkP (f5 (x14 _ _ l1)) n03 (f1 l1 hra1)⟩
  ·rw[hN];exact ⟨x35 _ _ d3,(s3.mono fun zz zz zz p=>p.elim).ext x35,x35 _ _ p3,x35 _ _ l3,⟨fun zz h=>(by cases h),EP 100⟩,mkP (f5 (x4 _ _ l3)) (f1 s1.rows hlo1).symm n13⟩
  ·exact mkP (fun z=>by rw[z,e5] at e;cases e) (fun z=>by rw[z,x15 _ _ s1.rows] at e;cases e) (fun z=>by rw[z,x35 _ _ s3.rows] at e;cases e)
 have tt:∀ {x y:Addr} {v u:O},H5 x=some v->H5 y=some u->v≠u->x≠y:=fun e f g z=>by rw[z,f] at e;exact g (Eh e).symm
 have ma:Mf hd F a:=⟨tt a5 e5 nofun,bb (by rw[hT];exact ⟨tt a5 (x15 _ _ d1) nofun,tt a5 (x15 _ _ m1) nofun,tt a5 (x15 _ _ s1.rows) nofun⟩) (by rw[hN];exact ⟨tt a5 (x35 _ _ d3) nofun,tt a5 (x35 _ _ m3) nofun,tt a5 (x35 _ _ s3.rows) nofun⟩)⟩
 have fb:∀ {b:Addr} {v:O},H3 b=some v->bl≠b:=fun e z=>by rw[z,e] at hbl;cases hbl
 have mb:Mf hd F bl:=⟨f5 b4,bb (by rw[hT];exact ⟨fb ((x2.trans x3) _ _ d1),fb ((x2.trans x3) _ _ m1),fb ((x2.trans x3) _ _ s1.rows)⟩) (by rw[hN];exact ⟨fb d3,fb m3,fb s3.rows⟩)⟩
 rw[show ([V.ref o0,.ref o1]:List V) = [.ref (F true).o,.ref (F false).o] by rw[hT,hN]] at b5
 have new:∀ {L:Bool->Addr × List Lk} {ps:List (Addr × Addr × List V)} {H':MH} {x:Addr},Stt P H' hd F L ps->H' x=none->Mf hd F x:=fun s e=>by
  refine ⟨fun z=>(by rw[z,s.held.l] at e;cases e),fun b=>⟨fun z=>(by rw[z,(s.own b).d] at e;cases e),fun z=>?_,fun z=>(by rw[z,(s.own b).s.rows] at e;cases e)⟩⟩
  refine ad ((s.own b).s.nsd) fun lv h1 zz=>?_
  rw[z,h1] at e;cases e
 clear hT hN x15 x14 x35 d1 s1 p1 l1 d3 s3 p3 l3 m1 m3 hPd mkP tt fb f1 f5 x1 x2 x3 x4 x5
 refine cA ?_
 refine aA (Std.n_range (by assumption)) aH (ac (aE (aO (aE ?_))))
 refine bw Z.m.fn ?_
 refine a8 rfl (dk ?_)
 refine lY (n:=57) G Z.c Z.m a5 hl (by decide) fun H6 x6=>?_
 refine aO ?_
 refine bc (by decide) ?_
 have g0:=D9 (dE ns 30) (show (6:Int)≠0 by decide)
 have g1:=D5 (dE ns 30) (show (0:Int)<6 by decide)
 generalize dE ns 30 % 6=cnt at g0 g1
 refine bA (ah ?_)
 refine cV ?_
 refine ⟨_,d7 rfl (by decide) (by decide) (by exact aY (am [cnt] [(110,0),(.a (.a 111 0) 111,.g 1000000)] rfl g0)) (by exact aY (am [cnt] [(11,116),(.a 1000110 111,.a 111 0)] rfl g1)),rfl,?_⟩
 refine ch (P:=fun i ρ' H'=>(∃ u3 u4 u5 u6,ρ' = [some (.ref a),some (.ref bl),some (.ref hd),u3,u4,u5,u6])/\H' a=some (.fro (ns.map .int))/\H' bl=some (.lst [.ref (F true).o,.ref (F false).o]) /\ ∃ L ps,Stt P H' hd F L ps/\(∀ b,(L b).2.length<=i)/\ps.length<=6*i)
  ⟨⟨_,_,_,_,rfl⟩,x6 _ _ a5,x6 _ _ b5,_,_,st5.ext x6,bb (Ea _) (Ea _),Ea _⟩ (fun i z ρ' H' R hPi hz' hRR=>?_) fun ρ' H' hPi=>⟨rfl,?_⟩
 ·obtain ⟨⟨u3,u4,u5,u6,rfl⟩,ha,hb,L,ps,s,hll,hpl⟩:=hPi
  refine az (eA hz') fun hr162_0 hi'=>?_
  subst hr162_0
  refine ⟨rfl,_,rfl,?_⟩
  show aM C _ _ [some (.ref a),some (.ref bl),some (.ref hd),some (.int (0+i)),u4,u5,u6] _ _ _
  rw[Fe]
  refine aC ?_
  refine bw Z.m.fn ?_
  refine a8 rfl (ac (aE (aO (aE (aO (ag rfl ?_))))))
  refine ga ?_ (.of_left (by decide))
  refine bA (ah ?_)
  refine lY (n:=57) G Z.c Z.m ha hl (by exact aY (am [i] [(.w 2 110,0),(.a (.a 141 (.m 2 0)) 111,110)] rfl (q0 i))) fun H1 x1=>?_
  have hcell:=qh ns (31+2*(i:Int))
  generalize dE ns (31+2*(i:Int))=cell at hcell
  refine aC (aQ (ag rfl (aV rfl ?_)))
  refine bc (by decide) ?_
  refine sR (x1 _ _ hb) (D9 _ (by decide)) (D5 _ (by decide)) fun z hz=>?_
  obtain ⟨b,rfl⟩:∃ b,z = .ref (F b).o:=by
   rcases hz with rfl | rfl
   ·exact ⟨true,rfl⟩
   ·exact ⟨false,rfl⟩
  refine cA ?_
  refine aE (bu (a9 rfl ?_))
  refine ⟨show 1<=Dz by decide,fun c1 hc1=>?_⟩
  refine aA (Std.n_int (by assumption)) aH (ac (c6 (aE (aV rfl ?_))))
  refine bj (by decide) (by decide) ?_
  refine aO ?_
  refine bc (by decide) ?_
  refine aO (bx (ah ?_))
  refine ja ?_
  refine pB (aj ..) (by simp) (by split <;> decide) (by split <;> decide) (show 1<=1000 by decide) fun c2 hc2=>?_
  have x2:=(x1.more (o:=.lst [.ref (F b).o]) hc1).more (o:=.lst (DN (if (cell / 7 % 2==1)=true then (1:Int) else 0).toNat [V.ref (F b).o]).flatten) hc2
  have i2:=aj (an H1 c1 (.lst [.ref (F b).o])) c2 (.lst (DN (if (cell / 7 % 2==1)=true then (1:Int) else 0).toNat [V.ref (F b).o]).flatten)
  have m2:=new (s.ext (x1.more (o:=.lst [.ref (F b).o]) hc1)) hc2
  have hM1:=sJ (l:=[V.ref (F b).o]) (b:=cell / 7 % 2==1)
  have hM2:∀ z∈(DN (if (cell / 7 % 2==1)=true then (1:Int) else 0).toNat [V.ref (F b).o]).flatten,∃ b,z = .ref (F b).o:=fun z h=>⟨b,by simpa using sK h⟩
  generalize an (an H1 c1 (.lst [.ref (F b).o])) c2 (.lst (DN (if (cell / 7 % 2==1)=true then (1:Int) else 0).toNat [V.ref (F b).o]).flatten)=H2 at x2 i2
  generalize (DN (if (cell / 7 % 2==1)=true then (1:Int) else 0).toNat [V.ref (F b).o]).flatten=ML at i2 hM1 hM2
  replace hM1:ML.length<=1:=hM1
  refine ⟨_,⟨.inl rfl,fun zz zz zz e=>by cases e⟩,af i2,?_⟩
  refine lU (n:=36) (e:=.bin .FloorDiv (.nm 4) (.ci 16)) Y T (s.ext x2) (by exact dF (am [cnt,ps.length,i,ML.length] [(.w 6 11,116),(1,.m 6 2),(.w 6 31,.s (.a 111 0) 110),(.w 2 3,111),(.a 1110 111,.a 1 (.m 2 3))] rfl g1 (ql hpl) hi' (ql hM1))) i2 m2 hM2 (fun h=>aE (ag rfl (aO (bj (by decide) (by decide) (h _))))) fun u ps3 H3 k3 s3 hl3=>?_
  refine aI (b8 (bP ?_))
  refine bw Y.de.fn ?_
  refine a8 rfl (a8 rfl (ac ?_))
  refine bw Z.m.fn ?_
  refine a8 rfl (ac (aE (aO (aE (aO (ag rfl ?_))))))
  refine ga ?_ (.of_left (by decide))
  refine bA (ah ?_)
  refine lY (n:=57) G Z.c Z.m (k3 _ _ ma (x2 _ _ ha)) hl (by exact aY (am [i] [(.w 2 110,0),(.a (.a 142 (.m 2 0)) 111,110)] rfl (q0 i))) fun H4 x4=>?_
  refine ah ?_
  refine yn (n:=53) Y Z T (s3.ext x4) b (by have:=hll b;exact dF (am [cnt,i,(L b).snd.length] [(11,116),(21,.s (.a 111 0) 110),(2,1),(.a 160 111,2)] rfl g1 hi' (ql this))) hcell fun L' H5 k5 s5 hL'=>?_
  have a5:=k5 _ _ ma (x4 _ _ (k3 _ _ ma (x2 _ _ ha)))
  have b5:=k5 _ _ mb (x4 _ _ (k3 _ _ mb (x2 _ _ hb)))
  refine ai (bR (aL ?_))
  refine cA ?_
  refine aE (ag rfl (aA (Std.n_int (by assumption)) aH (ac (c6 (aE (aV rfl ?_))))))
  refine bj (by decide) (by decide) ?_
  refine aO ?_
  refine bc (by decide) ?_
  refine aO (mK (ah ?_))
  refine ja ?_
  refine pB b5 (by simp) (by split <;> decide) (by split <;> decide) (show 2<=1000 by decide) fun c3 hc3=>?_
  have x6:=ay.new (o:=.lst (DN (if decide (cell / 5 % 3>0)=true then (1:Int) else 0).toNat [V.ref (F true).o,.ref (F false).o]).flatten) hc3
  have i6:=aj H5 c3 (.lst (DN (if decide (cell / 5 % 3>0)=true then (1:Int) else 0).toNat [V.ref (F true).o,.ref (F false).o]).flatten)
  have m6:=new s5 hc3
  have hN1:=sJ (l:=[V.ref (F true).o,.ref (F false).o]) (b:=decide (cell / 5 % 3>0))
  have hN2:∀ z∈(DN (if decide (cell / 5 % 3>0)=true then (1:Int) else 0).toNat [V.ref (F true).o,.ref (F false).o]).flatten,∃ b,z = .ref (F b).o:=fun z h=>by
   have:=sK h
   simp only[EW,FQ,or_false] at this
   rcases this with rfl | rfl
   ·exact ⟨true,rfl⟩
   ·exact ⟨false,rfl⟩
  generalize an H5 c3 (.lst (DN (if decide (cell / 5 % 3>0)=true then (1:Int) else 0).toNat [V.ref (F true).o,.ref (F false).o]).flatten)=H6 at x6 i6
  generalize (DN (if decide (cell / 5 % 3>0)=true then (1:Int) else 0).toNat [V.ref (F true).o,.ref (F false).o]).flatten=NL at i6 hN1 hN2
  replace hN1:NL.length<=2:=hN1
  refine ⟨_,⟨.inl rfl,fun zz zz zz e=>by cases e⟩,af i6,?_⟩
  refine lU (n:=36) (e:=.bin .FloorDiv (.nm 4) (.ci 64)) Y T (s5.ext x6) (by exact dF (am [cnt,ps.length,i,ML.length,ps3.length,NL.length] [(.w 6 11,116),(1,.m 6 2),(.w 6 31,.s (.a 111 0) 110),(.w 2 3,111),(4,.a 1 (.m 2 3)),(.w 2 5,112),(.a 1110 111,.a 4 (.m 2 5))] rfl g1 (ql hpl) hi' (ql hM1) (ql hl3) (ql hN1))) i6 m6 hN2 (fun h=>aE (ag rfl (aO (bj (by decide) (by decide) (h _))))) fun u ps7 H7 k7 s7 hl7=>?_
  exact aR (hRR _ _ ⟨⟨_,_,_,_,rfl⟩,k7 _ _ ma (x6 _ _ a5),k7 _ _ mb (x6 _ _ b5),L',ps7,s7,fun d=>by have:=hL' d;have:=hll d;(clear hl n01 n02 n03 n11 n12 n13 g0 g1 hpl hi' hcell hz hM1 hl3 hN1 hl7;lia),by exact au (ae [ps.length,i,ML.length,ps3.length,NL.length,ps7.length] [(0,.m 6 1),(.w 2 2,111),(3,.a 0 (.m 2 2)),(.w 2 4,112),(5,.a 3 (.m 2 4)),(.a (.m 6 21) 111,5)] rfl hpl hM1 hl3 hN1 hl7)⟩)
 obtain ⟨⟨u3,u4,u5,u6,rfl⟩,ha,hb,L,ps,s,hll,hpl⟩:=hPi
 rw[c9] at hll hpl
 refine cA ?_
 refine ag rfl ?_
 refine ⟨_,⟨.inl rfl,fun zz zz zz e=>by cases e⟩,af hb,?_⟩
 refine lU (n:=36) (e:=.ci 1) Y T s (show ps.length+2*2<=1000 by (clear hl hz n01 n02 n03 n11 n12 n13 g0;lia)) hb mb (fun z h=>by
   simp only[EW,FQ,or_false] at h
   rcases h with rfl | rfl
   ·exact ⟨true,rfl⟩
   ·exact ⟨false,rfl⟩) (fun h=>aO (h _)) fun u ps2 H2 k2 s2 hl2=>?_
 replace hl2:ps2.length<=ps.length+2*2:=hl2
 have b2':=k2 _ _ mb hb
 have ow:=s2.own true
 refine cD (bG (bG (aQ (ao rfl ?_))))
 refine aN (i:=0) (af b2') (show 2<=Dz by decide) rfl ?_
 refine aZ ?_
 refine bT ow.d eQ ?_
 refine ad ow.s.nsd fun lv m1 zz=>?_
 refine Y.D.ms.go ow.s.ins m1 sO fun f Ff=>?_
 refine ah ?_
 refine sL (n:=40) Y.D Ff (T.w true) (by decide) ow.s ow.k s2.new fun r H3 y3 s3 hr r3=>?_
 have hp2:=(T.w true).p2
 have hls:(bV (F true).w (L true).2).length<=200:=by
  have h1:=(jk (F true).w.ps.length (by exact be (ae [(F true).w.ps.length] [(0,115),(118,0)] rfl hp2))).2
  have h2:=gE (F true).w (L true).2 (cK (F true).w.ps.length (F true).w.ps.length) []
  unfold bV;simp only[F3] at h2;exact au (ae [(cK (F true).w.ps.length (F true).w.ps.length).length,(Gp (cG (F true).w (L true).snd) [] (cK (F true).w.ps.length (F true).w.ps.length)).length] [(0,310),(1,.a 110 0),(.a 310 111,1)] rfl h1 h2)
 refine ⟨_,cL r3,ak,?_⟩
 refine ac (bJ (dk ?_))
 refine ⟨show 1<=Dz by decide,?_⟩
 refine ah ?_
 refine du r3 (by rw[Dt];exact aB (au (ae [(bV (F true).w (L true).snd).length] [(0,310),(.a 16777326 111,0)] rfl hls))) ?_
 have nr:∀ {x:Addr} {v:O},H2 x=some v->x≠r:=fun e z=>by rw[z,hr] at e;cases e
 have s4:Stt P (an H3 r (.lst ((bV (F true).w (L true).2).map bH ++ [.tup [.int 0]]))) hd F L ps2:=by
  have k:∀ x v,x≠(F true).dx->H2 x=some v->an H3 r (.lst ((bV (F true).w (L true).2).map bH ++ [.tup [.int 0]])) x=some v:=fun x v nx e=>(aP (nr e)).trans (y3 _ _ nx e)
  refine s2.turn (b:=true) T (fun x v zz n2 zz zz e=>k x v n2 e) ⟨k _ _ (ow.s.ne ow.d fun zz=>nofun) ow.d,(s3.upl r3 (nr ow.s.parts) (nr ow.s.rows) fun b p=>p.2).mono fun zz zz zz p=>p.1,k _ _ (ow.s.ne ow.p fun zz=>nofun) ow.p,k _ _ (ow.s.ne ow.l fun zz=>nofun) ow.l,ow.k,ow.pl⟩ (fun zz zz=>rfl) ?_
  exact s2.held.keep (fun v e=>k _ _ (ow.s.ne s2.held.l fun zz=>nofun) e) fun b l zz e=>k _ _ (ow.s.ne e fun zz=>nofun) e
 have b4':an H3 r (.lst ((bV (F true).w (L true).2).map bH ++ [.tup [.int 0]])) bl=some (.lst [.ref (F true).o,.ref (F false).o]):=(aP (nr b2')).trans (y3 _ _ (mb.2 true).2.1 b2')
 generalize an H3 r (.lst ((bV (F true).w (L true).2).map bH ++ [.tup [.int 0]]))=H4 at s4 b4'
 clear r3 s3 y3 s2 ow m1 b2'
 have ow:=s4.own true
 refine cD (bG (bG (aQ (ao rfl ?_))))
 refine aN (i:=0) (af b4') (show 2<=Dz by decide) rfl ?_
 refine aZ ?_
 refine bT ow.d eQ ?_
 refine ad ow.s.nsd fun lv m1 zz=>?_
 refine Y.D.mo.go ow.s.ins m1 qO fun f Ff=>?_
 refine ah ?_
 refine m7 (n:=58) Y.D Ff ow.s ow.k fun r2 H5 x5 hr2 r5=>?_
 have hlk:=ow.k.len
 refine ⟨_,nf r5 PySem.F.slot_list_clear PySem.F.type_list_clear,ak,?_⟩
 refine ah ?_
 refine wc r5 (by rw[Dt];exact aB (au (ae [(L true).snd.length] [(0,210),(.a 16777326 111,0)] rfl hlk))) ?_
 have x6:ay H4 (an H5 r2 (.lst [])):=x5.mut hr2
 generalize an H5 r2 (.lst [])=H6 at x6
 have s6:=s4.ext x6
 have b6:=x6 _ _ b4'
 have ow:=s6.own true
 refine aI (b8 (bP ?_))
 refine bw Y.gd.fn ?_
 refine ac (aQ (ao rfl ?_))
 refine aN (i:=0) (af b6) (show 2<=Dz by decide) rfl ?_
 refine aZ ?_
 refine bT ow.d eQ ?_
 refine ac (aQ (ao rfl ?_))
 refine aN (i:=0) (af b6) (show 2<=Dz by decide) rfl ?_
 refine aZ ?_
 refine bT ow.d gZ ?_
 refine ac (aQ (ao rfl ?_))
 refine aN (i:=0) (af b6) (show 2<=Dz by decide) rfl ?_
 refine aZ ?_
 refine bT ow.d dA ?_
 refine a8 rfl (dk ?_)
 refine sf (n:=36) Y T s6 true (by (clear hl hz n01 n02 n03 n11 n12 n13 g0 hp2 hls hlk;lia)) fun ps7 H7 k7 s7 hl7=>?_
 refine ai (bR (aL (aX (c6 ?_))))
 refine cU ?_
 refine ag rfl ?_
 refine ⟨_,⟨.inl rfl,fun zz zz zz e=>by cases e⟩,af s7.held.l,by rw[Dt];(clear hl n01 n02 n03 n11 n12 n13 g0 hp2 hls hlk;lia),?_⟩
 refine cq (P:=fun j acc H''=>acc = []/\H7=H'') ⟨rfl,rfl⟩ (fun j y acc H'' R' hQ hyj hR2=>?_) fun acc H'' hQ=>?_
 ·refine az hQ fun hr318_0 hr318_1=>?_
  try clear hQ
  subst hr318_0
  subst hr318_1
  rw[DC,DE] at hyj
  refine ad hyj fun p hp hr320_2=>?_
  try clear hyj
  subst hr320_2
  obtain ⟨_,_,q3,q4,ds,q5,q6,q7⟩:=s7.held.p p (DQ hp)
  have lay:(Gx ds).canLay0=true:=by rw[Es];exact q6
  refine ⟨af s7.held.l,_,rfl,?_⟩
  refine gY (aK (ao rfl ?_))
  refine bi rfl ?_
  refine ao rfl ?_
  refine bM rfl ?_
  refine gB (.lst q3 (q5 _)) (.lst q4 (q5 _)) lay lay (by simp only[Ei];(clear hl hz n01 n02 n03 n11 n12 n13 g0 g1 hpl hl2 hp2 hls hlk hl7;lia)) ?_
  rw[Ez _ lay]
  refine ai (bR (bf ?_))
  exact hR2 _ _ ⟨rfl,rfl⟩
 refine az hQ fun hr332_0 hr332_1=>?_
 try clear hQ
 subst hr332_0
 subst hr332_1
 refine ⟨af s7.held.l,by decide,fun r hr=>?_⟩
 refine bu (ah ?_)
 refine ⟨by decide,fun r2 hr2=>?_⟩
 refine eo (.lst ((ay.new hr2) _ _ (aj ..)) .nil) (.lst (aj ..) .nil) rfl rfl (by decide) ?_
 rw[Ez _ rfl]
end
end
end Vc.Internal
open PySem PySem.W PyProof.Rows
set_option Elab.async false
set_option maxRecDepth 100000
set_option maxHeartbeats 8000000
namespace Vc.Internal
noncomputable def oX:Vs:=[aq "_law_cell_here",aq "_law_lines",aq "_law_word_here",aq "_law_taken",aq "_law_k",aq "_law_near"]
noncomputable def qa:Vs:=[aq "_law_part_here",aq "_law_digits",aq "_law_ring",aq "_law_first"]
noncomputable def qb:Vs:=[aq "_law_work_here",aq "_law_given_here",aq "_law_told",aq "_law_digits",aq "_law_k"]
noncomputable def nX:Vs:=[fj "_law_work_here",fj "_law_cell_here",fj "_law_some"]
noncomputable def oW:Vs:=[aq "_law_work_here",aq "_law_cell_here",aq "_law_more",aq "_law_given_here",aq "_law_many",aq "_law_told",aq "_law_k",aq "_law_place",aq "_law_digits",aq "_law_seen",aq "_law_is_seen",aq "_law_digit"]
end Vc.Internal
namespace Mine
section
variable {C:Vc.Internal.Cx}{P:Params}{mean:G5->Option Value}(G:C.Good)(S:Vc.Internal.Std C)(T:Top (Vc.Internal.mz PySem.Challenge.pw_uf020014_11) [] mean C.mg C.mb C.h0)(KX:(oj P).In C.h0)
include G KX
theorem C2:Vc.Internal.WkA C where
 task:=Vc.Internal.iP G KX (by kernel_rfl)
 eyes:=Vc.Internal.iP G KX (by kernel_rfl)
 free:=Vc.Internal.iP G KX (by kernel_rfl)
 takes:=Vc.Internal.iP G KX (by kernel_rfl)
 dead:=Vc.Internal.iP G KX (by kernel_rfl)
theorem BY:Vc.Internal.Cls C "Walk" Vc.Internal.eS 4 Vc.Internal.eB:=Vc.Internal.uo G KX (by kernel_rfl)
theorem B4:Vc.Internal.Mth C "Walk" "choices" Vc.Internal.dc 3 Vc.Internal.cT:=Vc.Internal.fu G KX (by kernel_rfl)
theorem B5:Vc.Internal.Mth C "Walk" "grown" Vc.Internal.dO 2 Vc.Internal.cX:=Vc.Internal.fu G KX (by kernel_rfl)
theorem nU:C.G "NoLook" (.ref 109):=Vc.Internal.fZ G KX (by kernel_rfl)
theorem lS:C.G "BadLook" (.ref 61):=Vc.Internal.fZ G KX (by kernel_rfl)
theorem eO {x:String}{r:Addr}{b:Bool}(g:nsIn (oj P) E4 (Dn x)=some (some (.ref r)))(k:kitOne (oj P) (.ref 109) (.ref r)=some b):Vc.Internal.hU C "NoLook" x b :=
 ⟨⟨_,Vc.Internal.fZ G KX g⟩,fun q=>Vc.Internal.xR KX (nU G KX) (Vc.Internal.fZ G KX g) (by kernel_rfl) k q⟩
theorem d_ {x:String}{r:Addr}{b:Bool}(g:nsIn (oj P) E4 (Dn x)=some (some (.ref r)))(k:kitOne (oj P) (.ref 61) (.ref r)=some b):Vc.Internal.hU C "BadLook" x b :=
 ⟨⟨_,Vc.Internal.fZ G KX g⟩,fun q=>Vc.Internal.xR KX (lS G KX) (Vc.Internal.fZ G KX g) (by kernel_rfl) k q⟩
theorem C6:Vc.Internal.pg C "NoLook" "WorkError" true:=Vc.Internal.uB KX (nU G KX) (Vc.Internal.fZ G KX (D:=24) (by kernel_rfl)) (by kernel_rfl)
theorem Ce:Vc.Internal.pg C "BadLook" "WorkError" true:=Vc.Internal.uB KX (lS G KX) (Vc.Internal.fZ G KX (D:=24) (by kernel_rfl)) (by kernel_rfl)
include T
theorem zr:Vc.Internal.hU C "NoLook" "ValueError" true :=
 have g:C.G "ValueError" (.type "ValueError"):=Vc.Internal.xQ T (by kernel_rfl)
 ⟨⟨_,g⟩,fun q=>Vc.Internal.xR KX (nU G KX) g (by kernel_rfl) (by kernel_rfl) q⟩
theorem C1:Vc.Internal.WdK C "NoLook" false true where
 work:=eO G KX (r:=37) (by kernel_rfl) (by kernel_rfl)
 given:=eO G KX (r:=49) (by kernel_rfl) (by kernel_rfl)
 look:=eO G KX (r:=61) (by kernel_rfl) (by kernel_rfl)
 set:=eO G KX (r:=73) (by kernel_rfl) (by kernel_rfl)
 room:=eO G KX (r:=85) (by kernel_rfl) (by kernel_rfl)
 line:=eO G KX (r:=97) (by kernel_rfl) (by kernel_rfl)
 no:=eO G KX (r:=109) (by kernel_rfl) (by kernel_rfl)
 text:=eO G KX (r:=121) (by kernel_rfl) (by kernel_rfl)
 val:=zr G T KX
theorem xw:Vc.Internal.hU C "BadLook" "ValueError" true :=
 have g:C.G "ValueError" (.type "ValueError"):=Vc.Internal.xQ T (by kernel_rfl)
 ⟨⟨_,g⟩,fun q=>Vc.Internal.xR KX (lS G KX) g (by kernel_rfl) (by kernel_rfl) q⟩
theorem C0:Vc.Internal.WdK C "BadLook" true false where
 work:=d_ G KX (r:=37) (by kernel_rfl) (by kernel_rfl)
 given:=d_ G KX (r:=49) (by kernel_rfl) (by kernel_rfl)
 look:=d_ G KX (r:=61) (by kernel_rfl) (by kernel_rfl)
 set:=d_ G KX (r:=73) (by kernel_rfl) (by kernel_rfl)
 room:=d_ G KX (r:=85) (by kernel_rfl) (by kernel_rfl)
 line:=d_ G KX (r:=97) (by kernel_rfl) (by kernel_rfl)
 no:=d_ G KX (r:=109) (by kernel_rfl) (by kernel_rfl)
 text:=d_ G KX (r:=121) (by kernel_rfl) (by kernel_rfl)
 val:=xw G T KX
include S
theorem C3:Vc.Internal.WlD C:=⟨G,S,C2 G KX,Vc.Internal.bL T (by kernel_rfl),Vc.Internal.bL T (by kernel_rfl),BY G KX,B4 G KX,B5 G KX,Vc.Internal.bL T (by kernel_rfl),Vc.Internal.bL T (by kernel_rfl)⟩
theorem CV:Vc.Internal.NwD C:=⟨Vc.Internal.lT T (by kernel_rfl),Vc.Internal.lT T (by kernel_rfl),Vc.Internal.lT T (by kernel_rfl),Vc.Internal.bL T (by kernel_rfl),Vc.Internal.bL T (by kernel_rfl),Vc.Internal.bL T (by kernel_rfl),Vc.Internal.bL T (by kernel_rfl)⟩
theorem CY:Vc.Internal.SrD C where
 toWlD:=C3 G S T KX
 sb:=Vc.Internal.bL T (by kernel_rfl)
 lo:=Vc.Internal.bL T (by kernel_rfl)
 nw:=CV G S T KX
 ig:=Vc.Internal.bL T (by kernel_rfl)
 nl:=Vc.Internal.bL T (by kernel_rfl)
 so:=Vc.Internal.bL T (by kernel_rfl)
 wi:=Vc.Internal.bL T (by kernel_rfl)
 le:=Vc.Internal.bL T (by kernel_rfl)
 cl:=Vc.Internal.uo G KX (by kernel_rfl)
 ml:=Vc.Internal.fu G KX (by kernel_rfl)
 mn:=Vc.Internal.fu G KX (by kernel_rfl)
 mo:=Vc.Internal.fu G KX (by kernel_rfl)
 mq:=Vc.Internal.fu G KX (by kernel_rfl)
 ms:=Vc.Internal.fu G KX (by kernel_rfl)
 mx:=Vc.Internal.fu G KX (by kernel_rfl)
 me:=Vc.Internal.fu G KX (by kernel_rfl)
 aw:=Vc.Internal.iP G KX (by kernel_rfl)
 ar:=Vc.Internal.iP G KX (by kernel_rfl)
 al:=Vc.Internal.iP G KX (by kernel_rfl)
theorem C5:Vc.Internal.X11 C where
 D:=CY G S T KX
 mb:=Vc.Internal.fu G KX (by kernel_rfl)
 rn:=fun hq hX=>Vc.Internal.vt G T (by kernel_rfl) (by decide +kernel) hq hX
 rb:=fun hq hX=>Vc.Internal.vt G T (by kernel_rfl) (by decide +kernel) hq hX
 xn:=C6 G KX
 xb:=Ce G KX
 wn:=C1 G T KX
 wb:=C0 G T KX
 wd:=Vc.Internal.bL T (by kernel_rfl)
 ln:=Vc.Internal.bL T (by kernel_rfl)
 ng:=Vc.Internal.bL T (by kernel_rfl)
 gd:=Vc.Internal.bL T (by kernel_rfl)
 bk:=Vc.Internal.bL T (by kernel_rfl)
 se:=Vc.Internal.bL T (by kernel_rfl)
 md:=Vc.Internal.bL T (by kernel_rfl)
 de:=Vc.Internal.bL T (by kernel_rfl)
omit G S KX in
theorem Ci:Vc.Internal.DrD C:=⟨Vc.Internal.bL T (by kernel_rfl),Vc.Internal.bL T (by kernel_rfl),⟨Vc.Internal.oX,rfl,Vc.Internal.bL T (by kernel_rfl)⟩,Vc.Internal.bL T (by kernel_rfl),⟨Vc.Internal.nX,rfl,Vc.Internal.bL T (by kernel_rfl)⟩,⟨Vc.Internal.qa,rfl,Vc.Internal.bL T (by kernel_rfl)⟩,⟨Vc.Internal.qb,rfl,Vc.Internal.bL T (by kernel_rfl)⟩,⟨Vc.Internal.oW,rfl,Vc.Internal.bL T (by kernel_rfl)⟩⟩
end
theorem main {w:Fq}{s₁:Shared}{mg mb:Str->Option Value}{mean:G5->Option Value}{fa a:Addr}{vs:List Value}{ns:List Int}(T:Top (Vc.Internal.mz PySem.Challenge.pw_uf020014_11) [] mean mg mb s₁.heap)(KX:(oj w.params).In s₁.heap)
  (hL:s₁.heap.IsList a vs.toArray) (hI:Gw vs ns) (hg:s₁.gens = #[]) (hmg:mg "law" = some (.ref fa)) (hlen:ns.length<=63) :
  wpAny (Vc.Internal.Cx.M ⟨PySem.Challenge.pw_uf020014_11,w,s₁.heap,mg,mb⟩) callerA (call (.ref fa) [.ref a]) (fun v s'=>v = .bool true/\(∀ b o,s₁.heap.get? b=some o->s'.heap.get? b=some o)/\s'.gens = #[]/\s'.os=s₁.os) (fun zz zz=>False) s₁:=by
 have GD:Vc.Internal.Cx.Good ⟨PySem.Challenge.pw_uf020014_11,w,s₁.heap,mg,mb⟩:=Vc.Internal.yp T
 have SD:Vc.Internal.Std ⟨PySem.Challenge.pw_uf020014_11,w,s₁.heap,mg,mb⟩:=Vc.Internal.Bg T (by kernel_rfl)
 exact Vc.Internal.BG (p:=PySem.Challenge.pw_uf020014_11) (w:=w) (mb:=mb) hL hI hg hmg (Vc.Internal.BB (C5 GD SD T KX) (Ci T) (Vc.Internal.bL T (by kernel_rfl)) hlen)
end Mine
theorem PySem.Challenge.cw_uf020014_11_holds : PySem.Challenge.rw_uf020014_11.Holds := by
 w_on
 refine holds_law Mine.said fun said=>?_
 refine holds_open (q:=Vc.Internal.mz PySem.Challenge.pw_uf020014_11) (loose:=[]) (Xt:=Mine.xC) (XP:=XL (Vc.Internal.mz PySem.Challenge.pw_uf020014_11) []) (Yf:=Hook.obs Mine.jA) (Ya:=Hook.val Mine.jA) (YP:=Hook.says Mine.jA) (N:=7588) Mine.left (Hook.of Mine.jA) (Hook.keeps Mine.jA) (fun s e=>xl_of s (DH.mp e).1) XL.keeps (by rfl) (by rfl) (by rfl) (fun s e=>recFacts_of (DH.mp e).2) (by rfl) said (by kernel_rfl) ⟨rfl,rfl,rfl,rfl,rfl,by decide +kernel⟩ ?hw ?hc
 case hw=>w_witness2
 intro w s₀ s₁ mg mb G Y fa o pm cd doc dV kV ho hd hcd hD hmg hg args vals as hpre hlay hrd hwl hlo
 have KX:=kIn_of Y
 refine Ground.open G ?_
 intro T B D TE TW
 wrow_args hpre hlay hrd hwl hlo
 clear ho hd hcd hD
 rename_i ns _ _ _ _ _ _ _ a vs _ hL _ _ _ hI _ hlen _
 refine Dy (Mine.main T KX hL hI hg hmg (by omega)) (fun v s' h=>?_) fun zz zz h=>h.elim
 refine Vc.Internal.kU h fun hr168_0 k g os=>?_
 try clear h
 subst hr168_0
 exact Vc.Internal.uI k g os (by intro cls;rfl) (by first | rfl | wrow_post)
