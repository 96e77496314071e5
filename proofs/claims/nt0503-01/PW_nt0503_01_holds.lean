import PyProof.Rows.All
import Wide.All
import OpenK.AllK
import Wide.FinOn
import PySem.Challenge.RW_nt0503_01
set_option Elab.async false
set_option linter.all false
set_option tactic.hygienic false
set_option genSizeOf false
set_option maxRecDepth 100000
set_option maxHeartbeats 8000000
open PySem renaming wpAny_bind → aa, wpAny_pure → af, Shared → aj, Value → ak, model → aq, wpAny → aw, Addr → ay, Expr → aC, wpAny_mono → aP, Str → aU, wpAny_holding → bc, wpAny_call_entry → bo, Around → bw, Heap → bM, isSubtype_type → bQ, builtinLookup_eq_fast → bS, wpAny_dictEntries → cb, Stmt → cg, wpAny_callSpecial?_slot → ck, wpAny_standAt → cr, DictEntry → cz, mainGlobals → cJ, wpAny_specialOf → cM, wpAny_of_eq → cO, Pos → cP, wpAny_rule → cS, cLine → cT, typeLookup_type → cV, wpAny_isInstance → cW, wpAny_newObj_type → cX, wpAny_field → dp, wpAny_typeNameOfWhole_keyiter → dK, swappedStores → dN, wpAny_dictEpoch → dP, rawInt → dV, starEach → dY, Scope → d9, swapsWithSole → ef, sizeLine → ek, FuncData → ew, typeLookup → eB, eval → eM, wpAny_notOrdered_dict → eN, cellsFrom → eR, wpAny_truthy_bool → fb, bm_if_false → fC, isSubtype → fG, NameKind → fM, sysModules → gi, codeAny → gk, wpAny_setField → gq, execs → gw, wpAny_typeNameOfWhole_valiter → gx, wpAny_load → gD, behindInMarks → gN, wpAny_attempt → gP, wpAny_loadPart_at → gW, typeIs_int → ia, typeIs_str → ic, wpAny_seqItems → ii, swapsWith → iu, Sem → iR, backTo → iU, list_getitem_lookup → iV, Program → i7, letOwnedTupleGo → i9, wpAny_execs_nil → ja, call_isinstance → jb, builtinsNs → jj, Result → jk, assignEach → jl, call_gives → jm, isInstance → jo, wpAny_setField_rec → jq, World → jt, BoolOp → jD, placesWithHash → jG, getMethod_builtin → jH, wpAny_isOneOf_keyiter → jS, wpAny_storeName_local → jT, checkBuiltinCall → j8, treeTable → kf, wpAny_call → kl, entryFor_of_tree → km, Comprehension → kz, richCompare → kG, wpAny_loadName_local → kH, pyNext → k9, wpAny_isSubtype_exc → lf, holding → lx, wpAny_typeOf → ly, Model → l4, Operator → l6, entryFor → l7, wpAny_fieldsOf → ma, spliced → mA, wpAny_assign_Name → mG, excClassObj → mH, wpAny_getItem_list_slice → ng, compareOp → nC, Tok → ow, cameBackBy → oz, OsState → oA, codeAny_mono → oB, wpAny_mkText → oC, wpAny_isOneOf_valiter → pJ, wpAny_point → qx, recursionLimit → qz, wpAny_letTemporaryGo → qC, wpAny_loadPart → qE, wpAny_newFunctionEnv → qF, keywordEach → qH, firstArgMember → qI, codeAny_call_builtin → qJ, Arguments → q9, notedBy → rh, getItem → rj, mem_of_lookup → rG, ExceptHandler → rW, wpAny_onRaise → rZ, isTrue → tI, wpAny_Name → tM, slot_dict_contains → tN, bootBuiltins → uk, CmpOp → ul, table → un, foundByValue → uo, wpAny_sequenceKey → ur, slot_dict_getitem → ut, setField → uu, wpAny_pyIter_list → uz, ExcBaseFacts → uA, Ctx → vf, noteFrame → wJ, codeAmong → wL, wpAny_forIn_list → wM, dictEpoch → wN, wpAny_lookBehind → wP, wpAny_execs_cons → wQ, wpAny_letGo → wX, theTreesLotGoes → yX, importedModules → yZ, codeAny_builtin → zc, codeAny_of_tree → zd, dictGet → zf, wpAny_richCompare_same_room → zg, callWith → Ba, IsTupleKey → Bf, backToKw → Bk, wpAny_tryCompare_declines → Ck, Code → D9, Flow → Ea, wpAny_assignInOrder_none → Ee, wpAny_assignInOrder_more → Ef, wpAny_release → Eg, plainId_quiet → Eh, ClassData → Em, IsZip → Eu, Params → H9, callerA → Ic, keyPart → Ie, aRefKeyMayBeTheName_at → Ik, wpAny_pyNext_list_item → Il, wpAny_update → Io, wpAny_pyNext_list_end → Iw, wpAny_updateDictKeys → KP, subscripted → KQ, wpAny_mkInt → KW, wpAny_throw → KY, isinstance_false_int → K5, wpAt_of_wpAny → Mb, wpAny_Assign_stores → Mc, pyIter → Ou, call → Ow, wpAny_missed_other → Oy, newEnv → OA, arm_eval_Attribute → OC, argsOk → OD, wpAny_assign_Tuple → OE, call_meets → OF, refuseLoop → OH, Keyword → OT, foldedSetIterable → OU, field → OW, standAt → OY, slot_dict_setitem → O6, setAttr → O8, wpAny_pyIter_slot → Pa, list_append → Pb, TriplesOk → Rk, wpAny_askSetting → Rt, wpAny_updatePart → Ru, pastItsLine_dict → Rv, wpAny_madeBy_exc → RA, leftWithCleanup → RU, shortFactorBits → RW, slicePick_upto' → R8, isinstance_true → R9, wpAt_bind → Sa, Const → S4, newTuple → S5, evalArgs → S7, denote → S9, GenState → Te, Gives → Ti, letTemporaryGo → Tj, raiseNew → Tk, entry_typeCall → Tl, typeOf → Tm, methodCallForm → Tn, isSubtype_stop → To, wpAny_Expr_any → Tp, wpAny_bindName → Tq, ZipApart → Ts, storeAll → Tt, callType_codes → Tu, boundAndCalled → TC, wpAny_UnaryOp → Ud, attributeBase → Uf, methodCallPos → Ug, wpAny_handled → Uh, assignInOrder → Ui, Data → US, UnaryOp → UW, leaving → UY, Args → UZ, ExcName → U2, classAt → U3, Slot → U5, cmpInfo → U6, tableMayTell → U7, dictSet → U8, plainId → Ve, dictEntries → Vt, bindSpecial → Vw, sliceBounds → Vx, interactive → Vy
open Option renaming some → ac, bind_eq_some_iff → ai, none → al, map_eq_some_iff → aF, isSome_iff_exists → bd, casesOn → cw, bind_some → ku, isNone_iff_eq_none → my, map → tJ, some → wZ, isSome_some → OG, map_map → Th
open Bool renaming false → am, true → au, and_eq_true_iff → aD, false_ne_true → aZ, and_eq_true → bq, not_eq_true' → dJ, false_and → ig, true_and → iX, false_eq_true → jp, noConfusion → nB, or_true → oF, or_eq_true_iff → rJ, eq_iff_iff → y9, or_eq_true → za, and_false → S8
open List renaming getElem?_eq_some_iff → ao, length_map → ar, getElem?_append_left → ax, mem_cons_self → aA, mem_cons_of_mem → aE, length_append → aJ, mem_of_getElem? → aN, map_cons → aT, mem_singleton → aV, casesOn → aX, mem_append → bb, length_cons → bf, mem_cons → bj, getElem?_set_ne → bn, range' → bt, map_map → bx, getElem?_append_right → bA, append_assoc → bI, length_singleton → bK, getElem?_set_self → bL, append_nil → bW, all_eq_true → co, getElem?_eq_getElem → cB, nodup_cons → cD, nil_append → cE, mem_map → cU, zip_cons_cons → dz, length_nil → dA, map_append → dQ, range → dU, reverse_cons → eE, contains_cons → fN, forIn_cons → fU, length_set → fW, nodup_append → fZ, mem_append_left → f5, length_range → f6, map_nil → gI, not_mem_nil → iw, drop_eq_getElem_cons → iz, all_cons → iZ, getElem?_map → jF, take_append_drop → jR, cons_append → kg, range'_succ → kj, mem_reverse → kx, getElem_of_mem → lb, toList_toArray → lc, length_reverse → lg, mem_filterMap → l8, forIn_nil → l9, pairwise_cons → me, getElem?_inj → mC, size_toArray → mD, zip_append → oK, getElem?_eq_none → pI, cons_lt_cons_iff → pK, mem_range → qB, not_lt → qK, range_eq_range' → qL, take_nil → r5, zip_nil_right → tO, length_range' → tR, ext_getElem? → uq, pairwise_map → uC, isEmpty_iff → wO, eq_nil_of_length_eq_zero → w4, replicate → Bi, lt_irrefl → Bm, getLast?_eq_getElem? → Cn, sublist_cons_self → Ig, drop_eq_nil_of_le → Im, mem_append_right → Iy, filterMap_cons → L8, map_congr_left → L9, mem_map_of_mem → Me, findIdx?_cons → OB, take_sublist → O7, mapM_toArray → Pd, foldl_append → Pe, map_inj_left → Ph, nodup_range → Rl, any_eq_true → Ro, getElem_mem → Rr, le_antisymm → Ry, map_fst_zip → Rz, map_reverse → RD, of_mem_zip → R5, find?_cons → R6, nodup_nil → Tg, map → Tr, mapM_cons → Tv, any_cons → Ue, lt_trans → Uj, all_map → Vf
open PySem.Heap renaming get?_push_of_some → az, get?_push_size → aM, get?_none_of_le → aS, get?_update_self → bh, get?_update_other → dG, SameBut → eA, ExtBut → ij, lt_size → lA, size_push → qG
open Nat renaming le_refl → aG, ble → aH, eq_of_beq_eq_true → bC, blt → bU, beq → b9, le_of_lt → cj, le_of_ble_eq_true → cI, le_trans → df, lt_of_lt_of_le → dh, lt_of_le_of_lt → dy, le_add_right → dD, le_succ → dZ, lt_succ_self → eQ, casesOn → eX, sub_self → fx, lt_irrefl → gO, succ_le_succ → ix, beq_refl → jJ, zero_le → kE, lt_or_ge → lz, add_right_comm → l5, le_of_succ_le → mz, lt_succ_of_lt → mF, ne_of_lt → oD, le_antisymm → oH, not_lt_zero → oI, add_sub_cancel' → rF, le_succ_of_le → uB, zero_lt_succ → wR, succ_sub → H6, add_comm → Ih, ne_of_gt → Ii, le_of_eq → Ij, lt_trans → Ip, sub_eq_zero_of_le → Ir, sub_le_iff_le_add → Iu, ble_eq_true_of_le → Ix, not_succ_le_zero → K6, add_le_add_left → L7, lt_of_succ_lt → Pf, le_of_not_lt → Rq, sub_sub_self → Rs, min_le_left → RZ, add_assoc → Um, log2_lt → Vs, le_zero → VB
open Int renaming ofNat → aL, le_trans → cA, natCast_nonneg → dW, fmod_nonneg_of_pos → eF, le_refl → fD, fmod_lt_of_pos → fO, le_of_lt → gd, toNat_natCast → jI, ofNat_lt → lw, eq_ofNat_of_zero_le → nE, toNat_of_nonneg → rH, not_le → Bp, sub_nonneg_of_le → K7, ofNat_le → UR, ne_of_gt → U4, ediv_one → Vc, lt_toNat → Vh
open Or renaming elim → bk
open Array renaming length_toList → bu, getElem?_toList → cH, getElem?_eq_none_iff → eD, getElem?_eq_getElem → iy, eraseIdxIfInBounds → nc, toList_inj → wK, getElem?_eq_some_iff → Bg, toArray_toList → K4, toList_push → OZ, any_toList → Rm
open PySem.Heap.SameBut renaming update → bN
open Prod.mk renaming inj → ci
open PySem.Value renaming ref → cy, none → dg, isStr → fB, type → gG, isStrOf → kA, notImplemented → kF, int → Es, isInt → KO, casesOn → Uc
open PySem.Obj renaming data_mapFields → cG, mapFields → dk, isFreed_of_fields → fP, cls_mapFields → mE, mapSeq → tQ, putName → wY, mapBytearray → RC, mapDictKeys → RX
open PySem.F renaming slot_dict_keyiterator_next → dj, slot_dict_valueiterator_next → eU, slot_list_getattribute → i3, args_dict_keyiterator_next_1 → kq, entry_dict_keyiterator_next → kK, slot_tuple_eq → oJ, slot_zip_next → oM, slot_tuple_eq_refl → qA, slot_int_eq → rX, slot_str_eq → rY, slot_int_eq_refl → tK, slot_str_eq_refl → tL, slot_list_append → tP, plainAttrs_dict → uw, args_dict_valueiterator_next_1 → uy, entry_dict_valueiterator_next → vg, args_int_eq_2 → y7, args_str_eq_2 → y8, slot_dict_get → zb, entry_int_eq → Bc, entry_str_eq → Be, attrBase_Exception → Bo, slot_dict_values_iter → Et, sub_dict_dict → It, slot_dict_eq → KR, slot_dict_ne → KS, args_list_append_2 → KZ, bm_called → K3, entry_list_append → Ma, slot_dict_values → Oz, plainAttrs_list → O9, args_zip_next_1 → Pc, entry_dict_get → Rp, slot_dict_iter → Rw, entry_zip_next → Rx, slot_dict_pop → RY, slot_list_pop → R7
open PySem.W.FB renaming slot_bytes_eq → dF, args_bytes_eq_2 → jn, entry_bytes_eq → jE
open PySem.Expr renaming casesOn → ey
open PySem.Str renaming ofString → eC
open PySem.Challenge renaming rw_nt0503_01 → fk, pw_nt0503_01 → yY
open Ne renaming symm → fw
open PySem.EqNone renaming wpAny_richCompare_eq_decline → fA
open ForInStep renaming yield → fV
open PySem.W renaming typeIs_bytes → gb, findIn → gC, boot_heap → j9, any_some → kJ, emptyDict → lC, looks_findIn → oE, plainGet_of → qD, Looks → um, instObj → ux, hasDictIn → wI, SharedT → ze, boot_drawn → Bb, check_slot → Bj, same → Ec, boot_toks → En, isBytes → Eo, Frag → H8, topStub → Ib, plainGet → KJ, isFn → KL, codeHdIn → KN, looks_clsIn → KT, keepIn → Ot, namesBound → Ov, tabObj → Ox, absHeap → OX, staticsOk → Ri, ReadsAllW → Rj, gensDone → Tc, laidKept → Td, openGood → Tf, nsIn → UT, takerIn → UU, makesIn → UV, topFrom → U1, handedOut_of → Vb, abs_get → Vi, WData → Vr, codeHd_of_K → Vu, findObj_own → Vv, callWith_of → Vz, looks_mroIn → VA
open PySem.Code renaming quiet_builtin → gH, builtin → U0
open PySem.Builtin.Bytes renaming buffer? → gV, order → rI, slotIsOwn → Ew, payload → Iv
open PySem.Builtin.Dict renaming takeOut → ie, missedRemoval → Bh, dictSlotArgs → Cm
open Option.some renaming inj → i8
open UInt8 renaming lt_iff_toNat_lt → jU, ofNat → wW
open PySem.NameKind renaming cell → kB, casesOn → Rh
open PySem.Around renaming under_plainId → kM
open PySem.Builtin.Range renaming rangeSize → nD
open PySem.Stmt renaming casesOn → oy
open PySem.Sem renaming wp_mono → qw
open PySem.Builtin.Int renaming intBits → rE
open PyProof.Rows renaming arrOf → r6, subscriptTail → Ed, firstOfTuple' → Ei, pairsOf_toList → Tw, mem_zip_self → Vg
open PySem.Calls renaming loadGlobal_builtin → Eb, loadGlobal_global → Ep
open PySem.Data renaming casesOn → H7
open PySem.W.RowW renaming records → Ia
open PySem.W.Looks renaming ld → KU
open PySem.Keeper renaming boundFrame → OV, machine → S6, frame → UX
open List.Pairwise renaming nil → Pg
open PySem.UnaryOp renaming casesOn → RT
open PySem.Value.type renaming inj → Tz
open PySem.Manifest renaming find? → TE
open PySem.Shared renaming TypeIs → Uk
open Int.ofNat renaming inj → Ul
open Eq renaming symm → U9
open PySem.SeqAt renaming RcNeAt → Va
open Nat.succ renaming inj → Vd
open PySem PySem.W PyProof.Rows
open Sem (wp)
namespace Mine.Internal
section
theorem ah {I:Prop} {J:Prop} {G:Prop} (h:I∧J) (k:I->J->G):G:=h.elim k
theorem aI {J:Sort _} {I:J->Prop} {G:Prop} (h:∃x0,I x0) (k:∀x0,I x0->G):G:=h.elim λx0 h=>k x0 h
theorem eg {I:Prop} {J:Prop} {W:Prop} {G:Prop} (h:I∧J∧W) (k:I->J->W->G):G:=h.elim λO h=>ah h (k O)
theorem ae {J:Sort _} {I:J->Prop} {O:J->Prop} {G:Prop} (h:∃x0,I x0∧O x0) (k:∀x0,I x0->O x0->G):G:=h.elim λx0 h=>ah h (k x0)
theorem cN {J:Sort _} {I:Sort _} {O:J->I->Prop} {G:Prop} (h:∃x0,∃x1,O x0 x1) (k:∀x0 x1,O x0 x1->G):G:=h.elim λx0 h=>aI h (k x0)
theorem gQ {I:Prop} {J:Prop} {W:Prop} {O:Prop} {G:Prop} (h:I∧J∧W∧O) (k:I->J->W->O->G):G:=h.elim λP h=>eg h (k P)
theorem bP {J:Sort _} {I:J->Prop} {O:J->Prop} {W:J->Prop} {G:Prop} (h:∃x0,I x0∧O x0∧W x0) (k:∀x0,I x0->O x0->W x0->G):G:=h.elim λx0 h=>eg h (k x0)
theorem cK {J:Sort _} {I:Sort _} {O:J->I->Prop} {P:J->I->Prop} {G:Prop} (h:∃x0,∃x1,O x0 x1∧P x0 x1) (k:∀x0 x1,O x0 x1->P x0 x1->G):G:=h.elim λx0 h=>ae h (k x0)
theorem fH {J:Sort _} {I:Sort _} {S:Sort _} {O:J->I->S->Prop} {G:Prop} (h:∃x0,∃x1,∃x2,O x0 x1 x2) (k:∀x0 x1 x2,O x0 x1 x2->G):G:=h.elim λx0 h=>cN h (k x0)
theorem pL {I:Prop} {J:Prop} {W:Prop} {O:Prop} {l:Prop} {G:Prop} (h:I∧J∧W∧O∧l) (k:I->J->W->O->l->G):G:=h.elim λP h=>gQ h (k P)
theorem nL {J:Sort _} {I:J->Prop} {O:J->Prop} {W:J->Prop} {P:J->Prop} {G:Prop} (h:∃x0,I x0∧O x0∧W x0∧P x0) (k:∀x0,I x0->O x0->W x0->P x0->G):G:=h.elim λx0 h=>gQ h (k x0)
theorem bz {J:Sort _} {I:Sort _} {O:J->I->Prop} {P:J->I->Prop} {W:J->I->Prop} {G:Prop} (h:∃x0,∃x1,O x0 x1∧P x0 x1∧W x0 x1) (k:∀x0 x1,O x0 x1->P x0 x1->W x0 x1->G):G:=h.elim λx0 h=>bP h (k x0)
theorem gy {J:Sort _} {I:Sort _} {S:Sort _} {O:J->I->S->Prop} {P:J->I->S->Prop} {G:Prop} (h:∃x0,∃x1,∃x2,O x0 x1 x2∧P x0 x1 x2) (k:∀x0 x1 x2,O x0 x1 x2->P x0 x1 x2->G):G:=h.elim λx0 h=>cK h (k x0)
theorem nM {J:Sort _} {I:Sort _} {S:Sort _} {O:Sort _} {P:J->I->S->O->Prop} {G:Prop} (h:∃x0,∃x1,∃x2,∃x3,P x0 x1 x2 x3) (k:∀x0 x1 x2 x3,P x0 x1 x2 x3->G):G:=h.elim λx0 h=>fH h (k x0)
theorem vh {I:Prop} {J:Prop} {W:Prop} {O:Prop} {l:Prop} {P:Prop} {G:Prop} (h:I∧J∧W∧O∧l∧P) (k:I->J->W->O->l->P->G):G:=h.elim λS h=>pL h (k S)
theorem zh {J:Sort _} {I:J->Prop} {O:J->Prop} {W:J->Prop} {P:J->Prop} {l:J->Prop} {G:Prop} (h:∃x0,I x0∧O x0∧W x0∧P x0∧l x0) (k:∀x0,I x0->O x0->W x0->P x0->l x0->G):G:=h.elim λx0 h=>pL h (k x0)
theorem d6 {J:Sort _} {I:Sort _} {O:J->I->Prop} {P:J->I->Prop} {W:J->I->Prop} {S:J->I->Prop} {G:Prop} (h:∃x0,∃x1,O x0 x1∧P x0 x1∧W x0 x1∧S x0 x1) (k:∀x0 x1,O x0 x1->P x0 x1->W x0 x1->S x0 x1->G):G:=h.elim λx0 h=>nL h (k x0)
theorem gz {J:Sort _} {I:Sort _} {S:Sort _} {O:J->I->S->Prop} {P:J->I->S->Prop} {W:J->I->S->Prop} {G:Prop} (h:∃x0,∃x1,∃x2,O x0 x1 x2∧P x0 x1 x2∧W x0 x1 x2) (k:∀x0 x1 x2,O x0 x1 x2->P x0 x1 x2->W x0 x1 x2->G):G:=h.elim λx0 h=>bz h (k x0)
theorem r9 {J:Sort _} {I:Sort _} {S:Sort _} {O:Sort _} {P:J->I->S->O->Prop} {V:J->I->S->O->Prop} {G:Prop} (h:∃x0,∃x1,∃x2,∃x3,P x0 x1 x2 x3∧V x0 x1 x2 x3) (k:∀x0 x1 x2 x3,P x0 x1 x2 x3->V x0 x1 x2 x3->G):G:=h.elim λx0 h=>gy h (k x0)
theorem jV {J:Sort _} {I:Sort _} {S:Sort _} {O:Sort _} {P:Sort _} {V:J->I->S->O->P->Prop} {G:Prop} (h:∃x0,∃x1,∃x2,∃x3,∃W,V x0 x1 x2 x3 W) (k:∀x0 x1 x2 x3 W,V x0 x1 x2 x3 W->G):G:=h.elim λx0 h=>nM h (k x0)
theorem kT {I:Prop} {J:Prop} {W:Prop} {O:Prop} {l:Prop} {P:Prop} {S:Prop} {G:Prop} (h:I∧J∧W∧O∧l∧P∧S) (k:I->J->W->O->l->P->S->G):G:=h.elim λV h=>vh h (k V)
theorem zi {J:Sort _} {I:J->Prop} {O:J->Prop} {W:J->Prop} {P:J->Prop} {l:J->Prop} {S:J->Prop} {G:Prop} (h:∃x0,I x0∧O x0∧W x0∧P x0∧l x0∧S x0) (k:∀x0,I x0->O x0->W x0->P x0->l x0->S x0->G):G:=h.elim λx0 h=>vh h (k x0)
theorem zj {J:Sort _} {I:Sort _} {O:J->I->Prop} {P:J->I->Prop} {W:J->I->Prop} {S:J->I->Prop} {l:J->I->Prop} {G:Prop} (h:∃x0,∃x1,O x0 x1∧P x0 x1∧W x0 x1∧S x0 x1∧l x0 x1) (k:∀x0 x1,O x0 x1->P x0 x1->W x0 x1->S x0 x1->l x0 x1->G):G:=h.elim λx0 h=>zh h (k x0)
theorem gR {J:Sort _} {I:Sort _} {S:Sort _} {O:J->I->S->Prop} {P:J->I->S->Prop} {W:J->I->S->Prop} {V:J->I->S->Prop} {G:Prop} (h:∃x0,∃x1,∃x2,O x0 x1 x2∧P x0 x1 x2∧W x0 x1 x2∧V x0 x1 x2) (k:∀x0 x1 x2,O x0 x1 x2->P x0 x1 x2->W x0 x1 x2->V x0 x1 x2->G):G:=h.elim λx0 h=>d6 h (k x0)
theorem gS {J:Sort _} {I:Sort _} {S:Sort _} {O:Sort _} {P:J->I->S->O->Prop} {V:J->I->S->O->Prop} {W:J->I->S->O->Prop} {G:Prop} (h:∃x0,∃x1,∃x2,∃x3,P x0 x1 x2 x3∧V x0 x1 x2 x3∧W x0 x1 x2 x3) (k:∀x0 x1 x2 x3,P x0 x1 x2 x3->V x0 x1 x2 x3->W x0 x1 x2 x3->G):G:=h.elim λx0 h=>gz h (k x0)
theorem Ex {J:Sort _} {I:Sort _} {S:Sort _} {O:Sort _} {P:Sort _} {V:J->I->S->O->P->Prop} {f:J->I->S->O->P->Prop} {G:Prop} (h:∃x0,∃x1,∃x2,∃x3,∃W,V x0 x1 x2 x3 W∧f x0 x1 x2 x3 W) (k:∀x0 x1 x2 x3 W,V x0 x1 x2 x3 W->f x0 x1 x2 x3 W->G):G:=h.elim λx0 h=>r9 h (k x0)
theorem kU {J:Sort _} {O:Sort _} {S:Sort _} {P:Sort _} {V:Sort _} {f:Sort _} {l:J->O->S->P->V->f->Prop} {G:Prop} (h:∃x0,∃x1,∃x2,∃x3,∃W,∃I,l x0 x1 x2 x3 W I) (k:∀x0 x1 x2 x3 W I,l x0 x1 x2 x3 W I->G):G:=h.elim λx0 h=>jV h (k x0)
theorem vi {I:Prop} {J:Prop} {W:Prop} {O:Prop} {l:Prop} {P:Prop} {S:Prop} {V:Prop} {G:Prop} (h:I∧J∧W∧O∧l∧P∧S∧V) (k:I->J->W->O->l->P->S->V->G):G:=h.elim λf h=>kT h (k f)
theorem mI {J:Sort _} {I:J->Prop} {O:J->Prop} {W:J->Prop} {P:J->Prop} {l:J->Prop} {S:J->Prop} {V:J->Prop} {G:Prop} (h:∃x0,I x0∧O x0∧W x0∧P x0∧l x0∧S x0∧V x0) (k:∀x0,I x0->O x0->W x0->P x0->l x0->S x0->V x0->G):G:=h.elim λx0 h=>kT h (k x0)
theorem sb {J:Sort _} {I:Sort _} {O:J->I->Prop} {P:J->I->Prop} {W:J->I->Prop} {S:J->I->Prop} {l:J->I->Prop} {V:J->I->Prop} {G:Prop} (h:∃x0,∃x1,O x0 x1∧P x0 x1∧W x0 x1∧S x0 x1∧l x0 x1∧V x0 x1) (k:∀x0 x1,O x0 x1->P x0 x1->W x0 x1->S x0 x1->l x0 x1->V x0 x1->G):G:=h.elim λx0 h=>zi h (k x0)
theorem jW {J:Sort _} {I:Sort _} {S:Sort _} {O:J->I->S->Prop} {P:J->I->S->Prop} {W:J->I->S->Prop} {V:J->I->S->Prop} {l:J->I->S->Prop} {G:Prop} (h:∃x0,∃x1,∃x2,O x0 x1 x2∧P x0 x1 x2∧W x0 x1 x2∧V x0 x1 x2∧l x0 x1 x2) (k:∀x0 x1 x2,O x0 x1 x2->P x0 x1 x2->W x0 x1 x2->V x0 x1 x2->l x0 x1 x2->G):G:=h.elim λx0 h=>zj h (k x0)
theorem fI {J:Sort _} {I:Sort _} {S:Sort _} {O:Sort _} {P:J->I->S->O->Prop} {V:J->I->S->O->Prop} {W:J->I->S->O->Prop} {f:J->I->S->O->Prop} {G:Prop} (h:∃x0,∃x1,∃x2,∃x3,P x0 x1 x2 x3∧V x0 x1 x2 x3∧W x0 x1 x2 x3∧f x0 x1 x2 x3) (k:∀x0 x1 x2 x3,P x0 x1 x2 x3->V x0 x1 x2 x3->W x0 x1 x2 x3->f x0 x1 x2 x3->G):G:=h.elim λx0 h=>gR h (k x0)
theorem vj {J:Sort _} {I:Sort _} {S:Sort _} {O:Sort _} {P:Sort _} {V:J->I->S->O->P->Prop} {f:J->I->S->O->P->Prop} {l:J->I->S->O->P->Prop} {G:Prop} (h:∃x0,∃x1,∃x2,∃x3,∃W,V x0 x1 x2 x3 W∧f x0 x1 x2 x3 W∧l x0 x1 x2 x3 W) (k:∀x0 x1 x2 x3 W,V x0 x1 x2 x3 W->f x0 x1 x2 x3 W->l x0 x1 x2 x3 W->G):G:=h.elim λx0 h=>gS h (k x0)
theorem pM {J:Sort _} {O:Sort _} {S:Sort _} {P:Sort _} {V:Sort _} {f:Sort _} {l:J->O->S->P->V->f->Prop} {p:J->O->S->P->V->f->Prop} {G:Prop} (h:∃x0,∃x1,∃x2,∃x3,∃W,∃I,l x0 x1 x2 x3 W I∧p x0 x1 x2 x3 W I) (k:∀x0 x1 x2 x3 W I,l x0 x1 x2 x3 W I->p x0 x1 x2 x3 W I->G):G:=h.elim λx0 h=>Ex h (k x0)
theorem zk {O:Sort _} {P:Sort _} {S:Sort _} {V:Sort _} {f:Sort _} {l:Sort _} {p:Sort _} {y:O->P->S->V->f->l->p->Prop} {G:Prop} (h:∃x0,∃x1,∃x2,∃x3,∃W,∃I,∃J,y x0 x1 x2 x3 W I J) (k:∀x0 x1 x2 x3 W I J,y x0 x1 x2 x3 W I J->G):G:=h.elim λx0 h=>kU h (k x0)
theorem Ey {I:Prop} {J:Prop} {W:Prop} {O:Prop} {l:Prop} {P:Prop} {S:Prop} {V:Prop} {f:Prop} {G:Prop} (h:I∧J∧W∧O∧l∧P∧S∧V∧f) (k:I->J->W->O->l->P->S->V->f->G):G:=h.elim λp h=>vi h (k p)
theorem Mf {J:Sort _} {I:J->Prop} {O:J->Prop} {W:J->Prop} {P:J->Prop} {l:J->Prop} {S:J->Prop} {V:J->Prop} {f:J->Prop} {G:Prop} (h:∃x0,I x0∧O x0∧W x0∧P x0∧l x0∧S x0∧V x0∧f x0) (k:∀x0,I x0->O x0->W x0->P x0->l x0->S x0->V x0->f x0->G):G:=h.elim λx0 h=>vi h (k x0)
theorem Mg {J:Sort _} {I:Sort _} {O:J->I->Prop} {P:J->I->Prop} {W:J->I->Prop} {S:J->I->Prop} {l:J->I->Prop} {V:J->I->Prop} {f:J->I->Prop} {G:Prop} (h:∃x0,∃x1,O x0 x1∧P x0 x1∧W x0 x1∧S x0 x1∧l x0 x1∧V x0 x1∧f x0 x1) (k:∀x0 x1,O x0 x1->P x0 x1->W x0 x1->S x0 x1->l x0 x1->V x0 x1->f x0 x1->G):G:=h.elim λx0 h=>mI h (k x0)
theorem vk {J:Sort _} {I:Sort _} {S:Sort _} {O:J->I->S->Prop} {P:J->I->S->Prop} {W:J->I->S->Prop} {V:J->I->S->Prop} {l:J->I->S->Prop} {f:J->I->S->Prop} {G:Prop} (h:∃x0,∃x1,∃x2,O x0 x1 x2∧P x0 x1 x2∧W x0 x1 x2∧V x0 x1 x2∧l x0 x1 x2∧f x0 x1 x2) (k:∀x0 x1 x2,O x0 x1 x2->P x0 x1 x2->W x0 x1 x2->V x0 x1 x2->l x0 x1 x2->f x0 x1 x2->G):G:=h.elim λx0 h=>sb h (k x0)
theorem nN {J:Sort _} {I:Sort _} {S:Sort _} {O:Sort _} {P:J->I->S->O->Prop} {V:J->I->S->O->Prop} {W:J->I->S->O->Prop} {f:J->I->S->O->Prop} {l:J->I->S->O->Prop} {G:Prop} (h:∃x0,∃x1,∃x2,∃x3,P x0 x1 x2 x3∧V x0 x1 x2 x3∧W x0 x1 x2 x3∧f x0 x1 x2 x3∧l x0 x1 x2 x3) (k:∀x0 x1 x2 x3,P x0 x1 x2 x3->V x0 x1 x2 x3->W x0 x1 x2 x3->f x0 x1 x2 x3->l x0 x1 x2 x3->G):G:=h.elim λx0 h=>jW h (k x0)
theorem cY {J:Sort _} {I:Sort _} {S:Sort _} {O:Sort _} {P:Sort _} {V:J->I->S->O->P->Prop} {f:J->I->S->O->P->Prop} {l:J->I->S->O->P->Prop} {p:J->I->S->O->P->Prop} {G:Prop} (h:∃x0,∃x1,∃x2,∃x3,∃W,V x0 x1 x2 x3 W∧f x0 x1 x2 x3 W∧l x0 x1 x2 x3 W∧p x0 x1 x2 x3 W) (k:∀x0 x1 x2 x3 W,V x0 x1 x2 x3 W->f x0 x1 x2 x3 W->l x0 x1 x2 x3 W->p x0 x1 x2 x3 W->G):G:=h.elim λx0 h=>fI h (k x0)
theorem Ez {J:Sort _} {O:Sort _} {S:Sort _} {P:Sort _} {V:Sort _} {f:Sort _} {l:J->O->S->P->V->f->Prop} {p:J->O->S->P->V->f->Prop} {y:J->O->S->P->V->f->Prop} {G:Prop} (h:∃x0,∃x1,∃x2,∃x3,∃W,∃I,l x0 x1 x2 x3 W I∧p x0 x1 x2 x3 W I∧y x0 x1 x2 x3 W I) (k:∀x0 x1 x2 x3 W I,l x0 x1 x2 x3 W I->p x0 x1 x2 x3 W I->y x0 x1 x2 x3 W I->G):G:=h.elim λx0 h=>vj h (k x0)
theorem Mh {O:Sort _} {P:Sort _} {S:Sort _} {V:Sort _} {f:Sort _} {l:Sort _} {p:Sort _} {y:O->P->S->V->f->l->p->Prop} {r:O->P->S->V->f->l->p->Prop} {G:Prop} (h:∃x0,∃x1,∃x2,∃x3,∃W,∃I,∃J,y x0 x1 x2 x3 W I J∧r x0 x1 x2 x3 W I J) (k:∀x0 x1 x2 x3 W I J,y x0 x1 x2 x3 W I J->r x0 x1 x2 x3 W I J->G):G:=h.elim λx0 h=>pM h (k x0)
theorem Mi {P:Sort _} {S:Sort _} {V:Sort _} {f:Sort _} {l:Sort _} {p:Sort _} {y:Sort _} {r:Sort _} {z:P->S->V->f->l->p->y->r->Prop} {G:Prop} (h:∃x0,∃x1,∃x2,∃x3,∃W,∃I,∃J,∃O,z x0 x1 x2 x3 W I J O) (k:∀x0 x1 x2 x3 W I J O,z x0 x1 x2 x3 W I J O->G):G:=h.elim λx0 h=>zk h (k x0)
theorem vn {I:Prop} {J:Prop} {W:Prop} {O:Prop} {l:Prop} {P:Prop} {S:Prop} {V:Prop} {f:Prop} {p:Prop} {G:Prop} (h:I∧J∧W∧O∧l∧P∧S∧V∧f∧p) (k:I->J->W->O->l->P->S->V->f->p->G):G:=h.elim λy h=>Ey h (k y)
theorem EA {J:Sort _} {I:J->Prop} {O:J->Prop} {W:J->Prop} {P:J->Prop} {l:J->Prop} {S:J->Prop} {V:J->Prop} {f:J->Prop} {p:J->Prop} {G:Prop} (h:∃x0,I x0∧O x0∧W x0∧P x0∧l x0∧S x0∧V x0∧f x0∧p x0) (k:∀x0,I x0->O x0->W x0->P x0->l x0->S x0->V x0->f x0->p x0->G):G:=h.elim λx0 h=>Ey h (k x0)
theorem EB {J:Sort _} {I:Sort _} {O:J->I->Prop} {P:J->I->Prop} {W:J->I->Prop} {S:J->I->Prop} {l:J->I->Prop} {V:J->I->Prop} {f:J->I->Prop} {p:J->I->Prop} {G:Prop} (h:∃x0,∃x1,O x0 x1∧P x0 x1∧W x0 x1∧S x0 x1∧l x0 x1∧V x0 x1∧f x0 x1∧p x0 x1) (k:∀x0 x1,O x0 x1->P x0 x1->W x0 x1->S x0 x1->l x0 x1->V x0 x1->f x0 x1->p x0 x1->G):G:=h.elim λx0 h=>Mf h (k x0)
theorem vo {J:Sort _} {I:Sort _} {S:Sort _} {O:J->I->S->Prop} {P:J->I->S->Prop} {W:J->I->S->Prop} {V:J->I->S->Prop} {l:J->I->S->Prop} {f:J->I->S->Prop} {p:J->I->S->Prop} {G:Prop} (h:∃x0,∃x1,∃x2,O x0 x1 x2∧P x0 x1 x2∧W x0 x1 x2∧V x0 x1 x2∧l x0 x1 x2∧f x0 x1 x2∧p x0 x1 x2) (k:∀x0 x1 x2,O x0 x1 x2->P x0 x1 x2->W x0 x1 x2->V x0 x1 x2->l x0 x1 x2->f x0 x1 x2->p x0 x1 x2->G):G:=h.elim λx0 h=>Mg h (k x0)
theorem zl {J:Sort _} {I:Sort _} {S:Sort _} {O:Sort _} {P:J->I->S->O->Prop} {V:J->I->S->O->Prop} {W:J->I->S->O->Prop} {f:J->I->S->O->Prop} {l:J->I->S->O->Prop} {p:J->I->S->O->Prop} {G:Prop} (h:∃x0,∃x1,∃x2,∃x3,P x0 x1 x2 x3∧V x0 x1 x2 x3∧W x0 x1 x2 x3∧f x0 x1 x2 x3∧l x0 x1 x2 x3∧p x0 x1 x2 x3) (k:∀x0 x1 x2 x3,P x0 x1 x2 x3->V x0 x1 x2 x3->W x0 x1 x2 x3->f x0 x1 x2 x3->l x0 x1 x2 x3->p x0 x1 x2 x3->G):G:=h.elim λx0 h=>vk h (k x0)
theorem iA {J:Sort _} {I:Sort _} {S:Sort _} {O:Sort _} {P:Sort _} {V:J->I->S->O->P->Prop} {f:J->I->S->O->P->Prop} {l:J->I->S->O->P->Prop} {p:J->I->S->O->P->Prop} {y:J->I->S->O->P->Prop} {G:Prop} (h:∃x0,∃x1,∃x2,∃x3,∃W,V x0 x1 x2 x3 W∧f x0 x1 x2 x3 W∧l x0 x1 x2 x3 W∧p x0 x1 x2 x3 W∧y x0 x1 x2 x3 W) (k:∀x0 x1 x2 x3 W,V x0 x1 x2 x3 W->f x0 x1 x2 x3 W->l x0 x1 x2 x3 W->p x0 x1 x2 x3 W->y x0 x1 x2 x3 W->G):G:=h.elim λx0 h=>nN h (k x0)
theorem EC {J:Sort _} {O:Sort _} {S:Sort _} {P:Sort _} {V:Sort _} {f:Sort _} {l:J->O->S->P->V->f->Prop} {p:J->O->S->P->V->f->Prop} {y:J->O->S->P->V->f->Prop} {r:J->O->S->P->V->f->Prop} {G:Prop} (h:∃x0,∃x1,∃x2,∃x3,∃W,∃I,l x0 x1 x2 x3 W I∧p x0 x1 x2 x3 W I∧y x0 x1 x2 x3 W I∧r x0 x1 x2 x3 W I) (k:∀x0 x1 x2 x3 W I,l x0 x1 x2 x3 W I->p x0 x1 x2 x3 W I->y x0 x1 x2 x3 W I->r x0 x1 x2 x3 W I->G):G:=h.elim λx0 h=>cY h (k x0)
theorem ED {O:Sort _} {P:Sort _} {S:Sort _} {V:Sort _} {f:Sort _} {l:Sort _} {p:Sort _} {y:O->P->S->V->f->l->p->Prop} {r:O->P->S->V->f->l->p->Prop} {z:O->P->S->V->f->l->p->Prop} {G:Prop} (h:∃x0,∃x1,∃x2,∃x3,∃W,∃I,∃J,y x0 x1 x2 x3 W I J∧r x0 x1 x2 x3 W I J∧z x0 x1 x2 x3 W I J) (k:∀x0 x1 x2 x3 W I J,y x0 x1 x2 x3 W I J->r x0 x1 x2 x3 W I J->z x0 x1 x2 x3 W I J->G):G:=h.elim λx0 h=>Ez h (k x0)
theorem EE {P:Sort _} {S:Sort _} {V:Sort _} {f:Sort _} {l:Sort _} {p:Sort _} {y:Sort _} {r:Sort _} {z:P->S->V->f->l->p->y->r->Prop} {Y:P->S->V->f->l->p->y->r->Prop} {G:Prop} (h:∃x0,∃x1,∃x2,∃x3,∃W,∃I,∃J,∃O,z x0 x1 x2 x3 W I J O∧Y x0 x1 x2 x3 W I J O) (k:∀x0 x1 x2 x3 W I J O,z x0 x1 x2 x3 W I J O->Y x0 x1 x2 x3 W I J O->G):G:=h.elim λx0 h=>Mh h (k x0)
theorem zm {S:Sort _} {V:Sort _} {f:Sort _} {l:Sort _} {p:Sort _} {y:Sort _} {r:Sort _} {z:Sort _} {Y:Sort _} {A0:S->V->f->l->p->y->r->z->Y->Prop} {G:Prop} (h:∃x0,∃x1,∃x2,∃x3,∃W,∃I,∃J,∃O,∃P,A0 x0 x1 x2 x3 W I J O P) (k:∀x0 x1 x2 x3 W I J O P,A0 x0 x1 x2 x3 W I J O P->G):G:=h.elim λx0 h=>Mi h (k x0)
theorem Iz {J:Prop} {O:Prop} {W:Prop} {P:Prop} {l:Prop} {S:Prop} {V:Prop} {f:Prop} {p:Prop} {y:Prop} {I:Prop} {G:Prop} (h:J∧O∧W∧P∧l∧S∧V∧f∧p∧y∧I) (k:J->O->W->P->l->S->V->f->p->y->I->G):G:=h.elim λr h=>vn h (k r)
theorem IA {J:Sort _} {I:J->Prop} {O:J->Prop} {W:J->Prop} {P:J->Prop} {l:J->Prop} {S:J->Prop} {V:J->Prop} {f:J->Prop} {p:J->Prop} {y:J->Prop} {G:Prop} (h:∃x0,I x0∧O x0∧W x0∧P x0∧l x0∧S x0∧V x0∧f x0∧p x0∧y x0) (k:∀x0,I x0->O x0->W x0->P x0->l x0->S x0->V x0->f x0->p x0->y x0->G):G:=h.elim λx0 h=>vn h (k x0)
theorem Mj {J:Sort _} {I:Sort _} {O:J->I->Prop} {P:J->I->Prop} {W:J->I->Prop} {S:J->I->Prop} {l:J->I->Prop} {V:J->I->Prop} {f:J->I->Prop} {p:J->I->Prop} {y:J->I->Prop} {G:Prop} (h:∃x0,∃x1,O x0 x1∧P x0 x1∧W x0 x1∧S x0 x1∧l x0 x1∧V x0 x1∧f x0 x1∧p x0 x1∧y x0 x1) (k:∀x0 x1,O x0 x1->P x0 x1->W x0 x1->S x0 x1->l x0 x1->V x0 x1->f x0 x1->p x0 x1->y x0 x1->G):G:=h.elim λx0 h=>EA h (k x0)
theorem sd {J:Sort _} {I:Sort _} {S:Sort _} {O:J->I->S->Prop} {P:J->I->S->Prop} {W:J->I->S->Prop} {V:J->I->S->Prop} {l:J->I->S->Prop} {f:J->I->S->Prop} {p:J->I->S->Prop} {y:J->I->S->Prop} {G:Prop} (h:∃x0,∃x1,∃x2,O x0 x1 x2∧P x0 x1 x2∧W x0 x1 x2∧V x0 x1 x2∧l x0 x1 x2∧f x0 x1 x2∧p x0 x1 x2∧y x0 x1 x2) (k:∀x0 x1 x2,O x0 x1 x2->P x0 x1 x2->W x0 x1 x2->V x0 x1 x2->l x0 x1 x2->f x0 x1 x2->p x0 x1 x2->y x0 x1 x2->G):G:=h.elim λx0 h=>EB h (k x0)
theorem Mk {J:Sort _} {I:Sort _} {S:Sort _} {O:Sort _} {P:J->I->S->O->Prop} {V:J->I->S->O->Prop} {W:J->I->S->O->Prop} {f:J->I->S->O->Prop} {l:J->I->S->O->Prop} {p:J->I->S->O->Prop} {y:J->I->S->O->Prop} {G:Prop} (h:∃x0,∃x1,∃x2,∃x3,P x0 x1 x2 x3∧V x0 x1 x2 x3∧W x0 x1 x2 x3∧f x0 x1 x2 x3∧l x0 x1 x2 x3∧p x0 x1 x2 x3∧y x0 x1 x2 x3) (k:∀x0 x1 x2 x3,P x0 x1 x2 x3->V x0 x1 x2 x3->W x0 x1 x2 x3->f x0 x1 x2 x3->l x0 x1 x2 x3->p x0 x1 x2 x3->y x0 x1 x2 x3->G):G:=h.elim λx0 h=>vo h (k x0)
theorem EF {J:Sort _} {I:Sort _} {S:Sort _} {O:Sort _} {P:Sort _} {V:J->I->S->O->P->Prop} {f:J->I->S->O->P->Prop} {l:J->I->S->O->P->Prop} {p:J->I->S->O->P->Prop} {y:J->I->S->O->P->Prop} {r:J->I->S->O->P->Prop} {G:Prop} (h:∃x0,∃x1,∃x2,∃x3,∃W,V x0 x1 x2 x3 W∧f x0 x1 x2 x3 W∧l x0 x1 x2 x3 W∧p x0 x1 x2 x3 W∧y x0 x1 x2 x3 W∧r x0 x1 x2 x3 W) (k:∀x0 x1 x2 x3 W,V x0 x1 x2 x3 W->f x0 x1 x2 x3 W->l x0 x1 x2 x3 W->p x0 x1 x2 x3 W->y x0 x1 x2 x3 W->r x0 x1 x2 x3 W->G):G:=h.elim λx0 h=>zl h (k x0)
theorem pN {J:Sort _} {O:Sort _} {S:Sort _} {P:Sort _} {V:Sort _} {f:Sort _} {l:J->O->S->P->V->f->Prop} {p:J->O->S->P->V->f->Prop} {y:J->O->S->P->V->f->Prop} {r:J->O->S->P->V->f->Prop} {z:J->O->S->P->V->f->Prop} {G:Prop} (h:∃x0,∃x1,∃x2,∃x3,∃W,∃I,l x0 x1 x2 x3 W I∧p x0 x1 x2 x3 W I∧y x0 x1 x2 x3 W I∧r x0 x1 x2 x3 W I∧z x0 x1 x2 x3 W I) (k:∀x0 x1 x2 x3 W I,l x0 x1 x2 x3 W I->p x0 x1 x2 x3 W I->y x0 x1 x2 x3 W I->r x0 x1 x2 x3 W I->z x0 x1 x2 x3 W I->G):G:=h.elim λx0 h=>iA h (k x0)
theorem Ml {O:Sort _} {P:Sort _} {S:Sort _} {V:Sort _} {f:Sort _} {l:Sort _} {p:Sort _} {y:O->P->S->V->f->l->p->Prop} {r:O->P->S->V->f->l->p->Prop} {z:O->P->S->V->f->l->p->Prop} {Y:O->P->S->V->f->l->p->Prop} {G:Prop} (h:∃x0,∃x1,∃x2,∃x3,∃W,∃I,∃J,y x0 x1 x2 x3 W I J∧r x0 x1 x2 x3 W I J∧z x0 x1 x2 x3 W I J∧Y x0 x1 x2 x3 W I J) (k:∀x0 x1 x2 x3 W I J,y x0 x1 x2 x3 W I J->r x0 x1 x2 x3 W I J->z x0 x1 x2 x3 W I J->Y x0 x1 x2 x3 W I J->G):G:=h.elim λx0 h=>EC h (k x0)
theorem Mm {P:Sort _} {S:Sort _} {V:Sort _} {f:Sort _} {l:Sort _} {p:Sort _} {y:Sort _} {r:Sort _} {z:P->S->V->f->l->p->y->r->Prop} {Y:P->S->V->f->l->p->y->r->Prop} {A2:P->S->V->f->l->p->y->r->Prop} {G:Prop} (h:∃x0,∃x1,∃x2,∃x3,∃W,∃I,∃J,∃O,z x0 x1 x2 x3 W I J O∧Y x0 x1 x2 x3 W I J O∧A2 x0 x1 x2 x3 W I J O) (k:∀x0 x1 x2 x3 W I J O,z x0 x1 x2 x3 W I J O->Y x0 x1 x2 x3 W I J O->A2 x0 x1 x2 x3 W I J O->G):G:=h.elim λx0 h=>ED h (k x0)
theorem Sb {S:Sort _} {V:Sort _} {f:Sort _} {l:Sort _} {p:Sort _} {y:Sort _} {r:Sort _} {z:Sort _} {Y:Sort _} {A0:S->V->f->l->p->y->r->z->Y->Prop} {A1:S->V->f->l->p->y->r->z->Y->Prop} {G:Prop} (h:∃x0,∃x1,∃x2,∃x3,∃W,∃I,∃J,∃O,∃P,A0 x0 x1 x2 x3 W I J O P∧A1 x0 x1 x2 x3 W I J O P) (k:∀x0 x1 x2 x3 W I J O P,A0 x0 x1 x2 x3 W I J O P->A1 x0 x1 x2 x3 W I J O P->G):G:=h.elim λx0 h=>EE h (k x0)
theorem RE {J:Sort _} {O:J->Prop} {P:J->Prop} {W:J->Prop} {S:J->Prop} {l:J->Prop} {V:J->Prop} {f:J->Prop} {p:J->Prop} {y:J->Prop} {r:J->Prop} {I:J->Prop} {G:Prop} (h:∃x0,O x0∧P x0∧W x0∧S x0∧l x0∧V x0∧f x0∧p x0∧y x0∧r x0∧I x0) (k:∀x0,O x0->P x0->W x0->S x0->l x0->V x0->f x0->p x0->y x0->r x0->I x0->G):G:=h.elim λx0 h=>Iz h (k x0)
theorem RF {J:Sort _} {I:Sort _} {O:J->I->Prop} {P:J->I->Prop} {W:J->I->Prop} {S:J->I->Prop} {l:J->I->Prop} {V:J->I->Prop} {f:J->I->Prop} {p:J->I->Prop} {y:J->I->Prop} {r:J->I->Prop} {G:Prop} (h:∃x0,∃x1,O x0 x1∧P x0 x1∧W x0 x1∧S x0 x1∧l x0 x1∧V x0 x1∧f x0 x1∧p x0 x1∧y x0 x1∧r x0 x1) (k:∀x0 x1,O x0 x1->P x0 x1->W x0 x1->S x0 x1->l x0 x1->V x0 x1->f x0 x1->p x0 x1->y x0 x1->r x0 x1->G):G:=h.elim λx0 h=>IA h (k x0)
theorem Sc {J:Sort _} {I:Sort _} {S:Sort _} {O:J->I->S->Prop} {P:J->I->S->Prop} {W:J->I->S->Prop} {V:J->I->S->Prop} {l:J->I->S->Prop} {f:J->I->S->Prop} {p:J->I->S->Prop} {y:J->I->S->Prop} {r:J->I->S->Prop} {G:Prop} (h:∃x0,∃x1,∃x2,O x0 x1 x2∧P x0 x1 x2∧W x0 x1 x2∧V x0 x1 x2∧l x0 x1 x2∧f x0 x1 x2∧p x0 x1 x2∧y x0 x1 x2∧r x0 x1 x2) (k:∀x0 x1 x2,O x0 x1 x2->P x0 x1 x2->W x0 x1 x2->V x0 x1 x2->l x0 x1 x2->f x0 x1 x2->p x0 x1 x2->y x0 x1 x2->r x0 x1 x2->G):G:=h.elim λx0 h=>Mj h (k x0)
theorem Sd {J:Sort _} {I:Sort _} {S:Sort _} {O:Sort _} {P:J->I->S->O->Prop} {V:J->I->S->O->Prop} {W:J->I->S->O->Prop} {f:J->I->S->O->Prop} {l:J->I->S->O->Prop} {p:J->I->S->O->Prop} {y:J->I->S->O->Prop} {r:J->I->S->O->Prop} {G:Prop} (h:∃x0,∃x1,∃x2,∃x3,P x0 x1 x2 x3∧V x0 x1 x2 x3∧W x0 x1 x2 x3∧f x0 x1 x2 x3∧l x0 x1 x2 x3∧p x0 x1 x2 x3∧y x0 x1 x2 x3∧r x0 x1 x2 x3) (k:∀x0 x1 x2 x3,P x0 x1 x2 x3->V x0 x1 x2 x3->W x0 x1 x2 x3->f x0 x1 x2 x3->l x0 x1 x2 x3->p x0 x1 x2 x3->y x0 x1 x2 x3->r x0 x1 x2 x3->G):G:=h.elim λx0 h=>sd h (k x0)
theorem Se {J:Sort _} {I:Sort _} {S:Sort _} {O:Sort _} {P:Sort _} {V:J->I->S->O->P->Prop} {f:J->I->S->O->P->Prop} {l:J->I->S->O->P->Prop} {p:J->I->S->O->P->Prop} {y:J->I->S->O->P->Prop} {r:J->I->S->O->P->Prop} {z:J->I->S->O->P->Prop} {G:Prop} (h:∃x0,∃x1,∃x2,∃x3,∃W,V x0 x1 x2 x3 W∧f x0 x1 x2 x3 W∧l x0 x1 x2 x3 W∧p x0 x1 x2 x3 W∧y x0 x1 x2 x3 W∧r x0 x1 x2 x3 W∧z x0 x1 x2 x3 W) (k:∀x0 x1 x2 x3 W,V x0 x1 x2 x3 W->f x0 x1 x2 x3 W->l x0 x1 x2 x3 W->p x0 x1 x2 x3 W->y x0 x1 x2 x3 W->r x0 x1 x2 x3 W->z x0 x1 x2 x3 W->G):G:=h.elim λx0 h=>Mk h (k x0)
theorem Mo {J:Sort _} {O:Sort _} {S:Sort _} {P:Sort _} {V:Sort _} {f:Sort _} {l:J->O->S->P->V->f->Prop} {p:J->O->S->P->V->f->Prop} {y:J->O->S->P->V->f->Prop} {r:J->O->S->P->V->f->Prop} {z:J->O->S->P->V->f->Prop} {Y:J->O->S->P->V->f->Prop} {G:Prop} (h:∃x0,∃x1,∃x2,∃x3,∃W,∃I,l x0 x1 x2 x3 W I∧p x0 x1 x2 x3 W I∧y x0 x1 x2 x3 W I∧r x0 x1 x2 x3 W I∧z x0 x1 x2 x3 W I∧Y x0 x1 x2 x3 W I) (k:∀x0 x1 x2 x3 W I,l x0 x1 x2 x3 W I->p x0 x1 x2 x3 W I->y x0 x1 x2 x3 W I->r x0 x1 x2 x3 W I->z x0 x1 x2 x3 W I->Y x0 x1 x2 x3 W I->G):G:=h.elim λx0 h=>EF h (k x0)
theorem EG {O:Sort _} {P:Sort _} {S:Sort _} {V:Sort _} {f:Sort _} {l:Sort _} {p:Sort _} {y:O->P->S->V->f->l->p->Prop} {r:O->P->S->V->f->l->p->Prop} {z:O->P->S->V->f->l->p->Prop} {Y:O->P->S->V->f->l->p->Prop} {A4:O->P->S->V->f->l->p->Prop} {G:Prop} (h:∃x0,∃x1,∃x2,∃x3,∃W,∃I,∃J,y x0 x1 x2 x3 W I J∧r x0 x1 x2 x3 W I J∧z x0 x1 x2 x3 W I J∧Y x0 x1 x2 x3 W I J∧A4 x0 x1 x2 x3 W I J) (k:∀x0 x1 x2 x3 W I J,y x0 x1 x2 x3 W I J->r x0 x1 x2 x3 W I J->z x0 x1 x2 x3 W I J->Y x0 x1 x2 x3 W I J->A4 x0 x1 x2 x3 W I J->G):G:=h.elim λx0 h=>pN h (k x0)
theorem Sf {P:Sort _} {S:Sort _} {V:Sort _} {f:Sort _} {l:Sort _} {p:Sort _} {y:Sort _} {r:Sort _} {z:P->S->V->f->l->p->y->r->Prop} {Y:P->S->V->f->l->p->y->r->Prop} {A2:P->S->V->f->l->p->y->r->Prop} {A3:P->S->V->f->l->p->y->r->Prop} {G:Prop} (h:∃x0,∃x1,∃x2,∃x3,∃W,∃I,∃J,∃O,z x0 x1 x2 x3 W I J O∧Y x0 x1 x2 x3 W I J O∧A2 x0 x1 x2 x3 W I J O∧A3 x0 x1 x2 x3 W I J O) (k:∀x0 x1 x2 x3 W I J O,z x0 x1 x2 x3 W I J O->Y x0 x1 x2 x3 W I J O->A2 x0 x1 x2 x3 W I J O->A3 x0 x1 x2 x3 W I J O->G):G:=h.elim λx0 h=>Ml h (k x0)
theorem Sg {S:Sort _} {V:Sort _} {f:Sort _} {l:Sort _} {p:Sort _} {y:Sort _} {r:Sort _} {z:Sort _} {Y:Sort _} {A0:S->V->f->l->p->y->r->z->Y->Prop} {A1:S->V->f->l->p->y->r->z->Y->Prop} {A2:S->V->f->l->p->y->r->z->Y->Prop} {G:Prop} (h:∃x0,∃x1,∃x2,∃x3,∃W,∃I,∃J,∃O,∃P,A0 x0 x1 x2 x3 W I J O P∧A1 x0 x1 x2 x3 W I J O P∧A2 x0 x1 x2 x3 W I J O P) (k:∀x0 x1 x2 x3 W I J O P,A0 x0 x1 x2 x3 W I J O P->A1 x0 x1 x2 x3 W I J O P->A2 x0 x1 x2 x3 W I J O P->G):G:=h.elim λx0 h=>Mm h (k x0)
instance:Nonempty PySem.World:=⟨PySem.W.aWorld 0⟩
instance:Nonempty PySem.Around:=⟨{}⟩
instance:Nonempty PySem.Shared:=⟨{}⟩
@[irreducible] noncomputable def rm {α:Type} [h:Nonempty α] (P:α->Prop):α:=@Classical.epsilon α h λa=>¬P a
theorem jX {α:Type} {P:α->Prop} [h:Nonempty α] {c:α} (e:c=rm P) (p:P c) (a:α):P a:=Classical.byContradiction λk=>by rw [e] at p;unfold rm at p;exact @Classical.epsilon_spec α (λa=>¬P a) ⟨a,k⟩ p
@[reducible] def U {α β:Type} (f:α->β->Prop) (c:α × β):Prop:=f c.1 c.2
section
variable {prog:i7} {w:jt} {A:bw} {E:ak->aj->Prop} {s:aj}
theorem Pi {α:Type} {M:l4} {t:iR α} {Q:α->aj->Prop} (h:∀(I:α->aj->Prop) (G:ak->aj->Prop),(∀a W,Q a W->I a W)->(∀e W,E e W->G e W)->aw M A t I G s):aw M A t Q E s:=h Q E (λY Y z=>z) λY Y z=>z
theorem vp {α:Type} {c:Prop} [Decidable c] {a b:iR α} {Q:α->aj->Prop} (G:c) (h:aw (aq prog w) A a Q E s):aw (aq prog w) A (if c then a else b) Q E s:=by rwa [if_pos G]
theorem mu {α:Type} {c:Prop} [Decidable c] {a b:iR α} {Q:α->aj->Prop} (G:¬c) (h:aw (aq prog w) A b Q E s):aw (aq prog w) A (if c then a else b) Q E s:=by rwa [if_neg G]
theorem TF {α β:Type} {c:Prop} [Decidable c] {a b:iR α} {f:α->iR β} {Q:β->aj->Prop} (G:c) (h:aw (aq prog w) A (a>>=f) Q E s):aw (aq prog w) A ((if c then a else b)>>=f) Q E s:=by rwa [if_pos G]
theorem K8 {α β:Type} {c:Prop} [Decidable c] {a b:iR α} {f:α->iR β} {Q:β->aj->Prop} (G:¬c) (h:aw (aq prog w) A (b>>=f) Q E s):aw (aq prog w) A ((if c then a else b)>>=f) Q E s:=by rwa [if_neg G]
theorem Vj {α:Type} {a b:iR α} {Q:α->aj->Prop} (e:a=b) (h:aw (aq prog w) A b Q E s):aw (aq prog w) A a Q E s:=by rwa [e]
theorem Un {α β:Type} {a b:iR α} {f:α->iR β} {Q:β->aj->Prop} (e:a=b) (h:aw (aq prog w) A (b>>=f) Q E s):aw (aq prog w) A (a>>=f) Q E s:=by rwa [e]
end
universe u
@[elab_as_elim] theorem ag {α:Sort u} {a b:α} {motive:α->Prop} (h:a=b) (x:motive b):motive a:=Eq.ndrec (motive:=motive) x h.symm
@[elab_as_elim] theorem bZ {α:Sort u} {a b:α} {motive:α->Prop} (h:b=a) (x:motive b):motive a:=Eq.ndrec (motive:=motive) x h
theorem n1 {α:Type u} {a:α} {P:Prop} (h:al=ac a):P:=nomatch h
theorem n2 {α:Type u} {a:α} {P:Prop} (h:ac a=al):P:=n1 h.symm
theorem n3 {P:Prop} (h:am=au):P:=nB h
theorem n4 {P:Prop} (h:au=am):P:=nB h
theorem n5 {α:Type u} {a:α} {l:List α} {P:Prop} (h:[]=a::l):P:=nomatch h
theorem n6 {α:Type u} {a:α} {l:List α} {P:Prop} (h:a::l=[]):P:=n5 h.symm
@[elab_as_elim] theorem kV {α:Sort u} {c:Prop} [Decidable c] {a b:α} {motive:α->Prop} (h1:c->motive a) (h2:¬c->motive b):motive (ite c a b):=
 if h:c then ag (if_pos h) (h1 h) else ag (if_neg h) (h2 h)
theorem Si {α:Type u} {P:Prop} (o:Option α):(o=al->P)->(∀x,o=ac x->P)->P:=
 @cw α (λo=>(o=al->P)->(∀x,o=ac x->P)->P) o (λh Y=>h rfl) λx Y h=>h x rfl
theorem Uo {P:Prop} (o:Bool):(o=au->P)->(o=am->P)->P:=
 @Bool.casesOn (λo=>(o=au->P)->(o=am->P)->P) o (λY h=>h rfl) λh Y=>h rfl
theorem RG {P:Prop} (c:Prop) [Decidable c] (h1:c->P) (h2:¬c->P):P:=if h:c then h1 h else h2 h
theorem w5 {α:Sort u} {c:Prop} [Decidable c] {a b d:α} {P:Prop} (h:(if c then a else b)=d) (h1:c->a=d->P) (h2:¬c->b=d->P):P:=
 if q:c then h1 q ((if_pos q).symm.trans h) else h2 q ((if_neg q).symm.trans h)
theorem fm {α:Type u} {a b:α} (h:ac a=ac b):a=b:=i8 h
theorem ss {α:Type u} {o:Option α} {a b:α} (h:o=ac a) (k:o=ac b):a=b:=fm (h.symm.trans k)
theorem sn {α:Type u} {o:Option α} {a:α} {P:Prop} (h:o=ac a) (k:o=al):P:=n2 (h.symm.trans k)
section
variable {u n a b c d:Nat} {m:Int}
theorem K9 (h1:(n:Int)≤m) (h2:m≤64):n≤1000:=UR.mp (cA h1 (cA h2 (by decide)))
theorem OI (e:a=n) (h1:(n:Int)≤m) (h2:m≤64):a≤1000:=ag e (K9 h1 h2)
theorem Sj (h:n≤1000):0+n≤1000:=ag (Nat.zero_add n) h
theorem Vk (h:u+10*(n+1)≤9000):u+10*n≤9000:=df (dD _ 10) h
theorem Sk (h:u+10*(n+1)≤9000) (G:c≤10):u+c+10*n≤9000:=df (ag (l5 u c _) (L7 G _)) h
theorem TH (h:u+10*n≤9000) (G:c≤800):u+c <cT:=dy (Nat.add_le_add (df (dD u _) h) G) (by decide)
theorem Sl (h:u+10*n≤9000):u+10 <cT:=TH h (by decide)
theorem Vl (h:u+10*n≤9000):u+20 <cT:=TH h (by decide)
theorem Sn (h:u+c <cT) (hd:d≤c):u+d <cT:=dy (L7 hd u) h
theorem Up (h:u+10 <cT):u+8 <cT:=Sn h (by decide)
theorem Uq (h:u+c <cT):u <cT:=Sn (d:=0) h (kE c)
theorem Ur (h:u+10*(n+1)≤9000):u+1+10*n≤9000:=Sk h (by decide)
theorem Vm (h:u+10*(n+1)≤9000):u+2+10*n≤9000:=Sk h (by decide)
theorem TJ (h:u+10*(n+1)≤9000):u+3+10*n≤9000:=Sk h (by decide)
theorem RH (h:d+(n+1)≤900):d+1+n≤900:=ag (l5 d 1 n) h
theorem TK (h:d+n≤900):d <1000:=dy (df (dD d n) h) (by decide)
theorem Vn (h:d+n≤900):d+1 <1000:=Nat.succ_lt_succ (dy (df (dD d n) h) (by decide))
theorem RI (e:a=b) (h:a≤c):b≤c:=bZ e h
theorem Vo (e:a=b) (h:b≤c):a≤c:=ag e h
theorem Us (h:a≤1000):a≤ek:=df h (by decide)
theorem TP (e:a=b) (h:a≤1000):b≤ek:=bZ e (Us h)
theorem La (h:a+b≤c):a≤c:=df (dD a b) h
theorem Vp (h:a+b≤c):b≤c:=df (Nat.le_add_left b a) h
theorem Vq (h:a+(b+1)≤c):a+b≤c:=mz h
theorem Pj (h:a+(b+1)≤c):a+1+b≤c:=ag (l5 a 1 b) h
theorem TS (h:u+c <cT) (hd:d+1≤c):u+1+d <cT:=ag (l5 u 1 d) (Sn (d:=d+1) h hd)
theorem Ut (h:u+12 <cT):u+1+8 <cT:=TS h (by decide)
theorem Uu (h:u+20 <cT):u+1+12 <cT:=TS h (by decide)
theorem Uv (h:a≤1000):(a:Int)<2 ^ 63:=lw.mpr (dy h (by decide))
theorem Uw (e:a=b) (h:a≤1000):(b:Int)<2 ^ 63:=bZ e (Uv h)
theorem Ux (h:¬a <b) (h2:a≤b):a=b:=oH h2 (Nat.not_lt.mp h)
theorem TU (h:a <b):b - a=b - (a+1)+1:=bZ (Nat.sub_sub b a 1) (Nat.sub_add_cancel (Nat.sub_pos_of_lt h)).symm
theorem Uy:(-1+(n:Int)).toNat=n - 1:=(congrArg Int.toNat (Int.add_comm (-1) n)).trans (Int.toNat_sub n 1)
theorem TW (h:a <b):b+1 - (a+1)<b+1 - a:=ag (Nat.add_sub_add_right b 1 a) (ag (H6 (cj h)) (eQ _))
end
theorem ls {P:Nat->Prop} {n:Nat} (a:P 0) (r:∀j,j <n->P (j+1)) (j:Nat) (h:j <n+1):P j:=by
 induction j with
 | zero=>exact a
 | succ j _=>exact r j (Nat.lt_of_succ_lt_succ h)
@[elab_as_elim] theorem Uz {P:Nat->Prop} (j:Nat) (h:j <3) (a0:P 0) (a1:P 1) (V:P 2):P j:=ls a0 (ls a1 (ls V (λj h=>absurd h (oI j)))) j h
@[elab_as_elim] theorem RJ {P:Nat->Prop} (j:Nat) (h:j <5) (a0:P 0) (a1:P 1) (V:P 2) (G:P 3) (O:P 4):P j:=ls a0 (ls a1 (ls V (ls G (ls O (λj h=>absurd h (oI j)))))) j h
@[elab_as_elim] theorem So {P:Nat->Prop} (j:Nat) (h:j <8) (a0:P 0) (a1:P 1) (V:P 2) (G:P 3) (O:P 4) (I:P 5) (J:P 6) (S:P 7):P j:=ls a0 (ls a1 (ls V (ls G (ls O (ls I (ls J (ls S (λj h=>absurd h (oI j))))))))) j h
@[elab_as_elim] theorem Pk {P:Nat->Prop} (j:Nat) (h:j <18) (a0:P 0) (a1:P 1) (l:P 2) (p:P 3) (y:P 4) (r:P 5) (z:P 6) (Y:P 7) (a8:P 8) (a9:P 9) (G:P 10) (I:P 11) (J:P 12) (O:P 13) (S:P 14) (V:P 15) (W:P 16) (f:P 17):P j:=ls a0 (ls a1 (ls l (ls p (ls y (ls r (ls z (ls Y (ls a8 (ls a9 (ls G (ls I (ls J (ls O (ls S (ls V (ls W (ls f (λj h=>absurd h (oI j))))))))))))))))))) j h
end
set_option genInjectivity false in
set_option genCtorIdx false in
inductive PV where
 | none | bool (b:Bool) | int (i:Int) | str (s:aU) | bytes (b:Array UInt8)
 | loc (i:Nat) | ref (a:ay) | bi (id:String) | ty (n:String)
 deriving Nonempty
noncomputable def PV.ctorIdx (x:PV):Nat:=@PV.casesOn (λY=>Nat) x 0 (λY=>1) (λY=>2) (λY=>3) (λY=>4) (λY=>5) (λY=>6) (λY=>7) (λY=>8)
set_option genInjectivity false in
structure Pm where
 body:aC
 scope:d9
 cells:List (aU × Nat)
 deriving Nonempty
set_option genCtorIdx false in
inductive AK where
 | int (i:Int) | str (s:aU) | bytes (b:Array UInt8)
noncomputable def AK.ctorIdx (x:AK):Nat:=@AK.casesOn (λY=>Nat) x (λY=>0) (λY=>1) (λY=>2)
deriving instance DecidableEq,Nonempty for AK
set_option genCtorIdx false in
inductive bJ where
 | atom (a:AK) | tup (as:List AK)
noncomputable def bJ.ctorIdx (x:bJ):Nat:=@bJ.casesOn (λY=>Nat) x (λY=>0) (λY=>1)
deriving instance DecidableEq,Nonempty for bJ
set_option genInjectivity false in
set_option genCtorIdx false in
inductive PO where
 | list (xs:List PV)
 | tup (xs:List PV)
 | dict (es:List (bJ × PV × PV)) (ep:Nat)
 | inst (C:ay) (d:Nat)
 | exc (C:ay) (d:Nat)
 | ns (fs:List (aU × PV))
 | barr (b:Array UInt8)
 | cell (v:Option PV)
 | lam (l:Pm)
 | vals (d:Nat)
 | range (n:Nat)
 | codes (P:ay) (used:List (Nat × Nat))
 | pin (xs:List PV) (o:Obj)
 deriving Nonempty
noncomputable def PO.ctorIdx (x:PO):Nat:=@PO.casesOn (λY=>Nat) x (λY=>0) (λY=>1) (λY Y=>2) (λY Y=>3) (λY Y=>4) (λY=>5) (λY=>6) (λY=>7) (λY=>8) (λY=>9) (λY=>10) (λY Y=>11) (λY Y=>12)
noncomputable abbrev St:=List PO
noncomputable def w6 (o:PO):Option (List PV):=@PO.casesOn (λY=>Option (List PV)) o (λY=>al) (λxs=>ac xs) (λY Y=>al) (λY Y=>al) (λY Y=>al) (λY=>al) (λY=>al) (λY=>al) (λY=>al) (λY=>al) (λY=>al) (λY Y=>al) λY Y=>al
noncomputable def Bq (o:PO):Option (ay × List (Nat × Nat)):=@PO.casesOn (λY=>Option (ay × List (Nat × Nat))) o (λY=>al) (λY=>al) (λY Y=>al) (λY Y=>al) (λY Y=>al) (λY=>al) (λY=>al) (λY=>al) (λY=>al) (λY=>al) (λY=>al) (λP u=>ac (P,u)) λY Y=>al
noncomputable def Lb (v:PV):Option Nat:=@PV.casesOn (λY=>Option Nat) v al (λY=>al) (λY=>al) (λY=>al) (λY=>al) (λi=>ac i) (λY=>al) (λY=>al) λY=>al
noncomputable def isNone (v:PV):Bool:=@PV.casesOn (λY=>Bool) v au (λY=>am) (λY=>am) (λY=>am) (λY=>am) (λY=>am) (λY=>am) (λY=>am) λY=>am
noncomputable def Pn (v:PV):Option String:=@PV.casesOn (λY=>Option String) v al (λY=>al) (λY=>al) (λY=>al) (λY=>al) (λY=>al) (λY=>al) (λY=>al) λn=>ac n
theorem IB {v:PV} {n:String} (h:Pn v=ac n):v=.ty n:=by induction v <;> first | exact n1 h | exact congrArg PV.ty (fm h)
noncomputable def Lc (v:PV):Option ay:=@PV.casesOn (λY=>Option ay) v al (λY=>al) (λY=>al) (λY=>al) (λY=>al) (λY=>al) (λa=>ac a) (λY=>al) λY=>al
theorem EH {v:PV} {a:ay} (h:Lc v=ac a):v=.ref a:=by induction v <;> first | exact n1 h | exact congrArg PV.ref (fm h)
theorem jM {α:Type} {c:Prop} [Decidable c] {a b:α} (h:(if c then ac a else al)=ac b):c∧a=b:=RG c (λq=>⟨q,fm ((if_pos q).symm.trans h)⟩) λq=>n1 ((if_neg q).symm.trans h)
theorem Co {p:PV} (h:isNone p=au):p=.none:=by induction p <;> first | rfl | exact n3 h
noncomputable def Le (v:PV):Option Int:=@PV.casesOn (λY=>Option Int) v al (λY=>al) (λi=>ac i) (λY=>al) (λY=>al) (λY=>al) (λY=>al) (λY=>al) λY=>al
theorem w7 {v:PV} {i:Int} (h:Le v=ac i):v=.int i:=by induction v <;> first | exact n1 h | exact congrArg PV.int (fm h)
theorem se {o:PO} {xs:List PV} (h:w6 o=ac xs):o=.tup xs:=by induction o <;> first | exact n1 h | exact congrArg PO.tup (fm h)
theorem zn {o:PO} {q:ay × List (Nat × Nat)} (h:Bq o=ac q):o=.codes q.1 q.2:=by induction o <;> first | exact n1 h | exact bZ (fm h) rfl
theorem EI {v:PV} {i:Nat} (h:Lb v=ac i):v=.loc i:=by induction v <;> first | exact n1 h | exact congrArg PV.loc (fm h)
noncomputable def TY (d:US):Option ew:=@H7 (λY=>Option ew) d al (λY=>al) (λY Y=>al) (λY Y=>al) (λY Y Y=>al) (λY Y=>al) (λY=>al) (λf=>ac f) (λY=>al) (λY=>al) al
noncomputable def Po (d:US):Option (Array ak):=@H7 (λY=>Option (Array ak)) d al (λY=>al) (λxs Y=>ac xs) (λY Y=>al) (λY Y Y=>al) (λY Y=>al) (λY=>al) (λY=>al) (λY=>al) (λY=>al) al
noncomputable def Pp (d:US):Option Em:=@H7 (λY=>Option Em) d al (λY=>al) (λY Y=>al) (λY Y=>al) (λY Y Y=>al) (λY Y=>al) (λY=>al) (λY=>al) (λc=>ac c) (λY=>al) al
theorem Mp {d:US} {f:ew} (h:TY d=ac f):d=.func f:=by induction d <;> first | exact n1 h | exact congrArg US.func (fm h)
theorem IC {d:US} {f:Array ak} (h:Po d=ac f):∃n,d=.seq f n:=by induction d <;> first | exact n1 h | exact ⟨_,congrArg (US.seq · _) (fm h)⟩
theorem ID {d:US} {f:Em} (h:Pp d=ac f):d=.cls f:=by induction d <;> first | exact n1 h | exact congrArg US.cls (fm h)
noncomputable def sf (v:ak):Option ay:=@Uc (λY=>Option ay) v al al al (λY=>al) (λY Y=>al) (λY Y=>al) (λY Y=>al) (λY Y=>al) (λY=>al) (λY=>al) λa=>ac a
theorem nh {v:ak} {a:ay} (h:sf v=ac a):v=.ref a:=by induction v <;> first | exact n1 h | exact congrArg cy (fm h)
set_option genInjectivity false in
structure bD where
 sc:d9
 loc:List (aU × PV)
 cells:List (aU × Nat)
 tab:Option Nat
 deriving Nonempty
set_option genInjectivity false in
set_option genCtorIdx false in
inductive dL where
 | next | ret (v:PV)
 deriving Nonempty
noncomputable def dL.ctorIdx (x:dL):Nat:=@dL.casesOn (λY=>Nat) x 0 (λY=>1)
noncomputable abbrev KV:=PV->St->Prop
noncomputable abbrev KX:=Nat->St->Prop
noncomputable def dn {α:Type}:List (Option α)->Option (List α)
 | []=>ac []
 | none::_=>al
 | some a::r=>(dn r).map (a::·)
noncomputable def kN:PV->Option AK
 | .int i=>ac (.int i)
 | .str s=>ac (.str s)
 | .bytes b=>ac (.bytes b)
 | _=>al
noncomputable def du (xs:List PV):Option (List AK):=dn (xs.map kN)
noncomputable def kC (st:St) (v:PV):Option bJ:=@PV.casesOn (λY=>Option bJ) v al (λY=>al) (λi=>ac (.atom (.int i))) (λs=>ac (.atom (.str s))) (λb=>ac (.atom (.bytes b)))
 (λi=>(st[i]?.bind w6).bind λxs=>(du xs).map .tup) (λY=>al) (λY=>al) λY=>al
noncomputable def nO (name:aU) (v:PV):List (aU × PV)->List (aU × PV)
 | []=>[(name,v)]
 | e::r=>if e.1=name then (name,v)::r else e::nO name v r
noncomputable def bD.set (pe:bD) (name:aU) (v:PV):bD:={pe with loc:=nO name v pe.loc}
noncomputable def dget (k:bJ) (es:List (bJ × PV × PV)):Option (PV × PV):=es.lookup k
noncomputable def lD (k:bJ) (key v:PV):List (bJ × PV × PV)->List (bJ × PV × PV)
 | []=>[(k,key,v)]
 | e::r=>if e.1=k then (e.1,e.2.1,v)::r else e::lD k key v r
noncomputable def pO (k:bJ):List (bJ × PV × PV)->List (bJ × PV × PV)
 | []=>[]
 | e::r=>if e.1=k then r else e::pO k r
def Mq (sc:d9) (e:aC) (o:Option aC) (l:Nat) (b:Bool):Prop:=∀env:Env,env.scope=sc->iu e o l env=pure b
def IE (sc:d9) (G:List aC) (e:aC) (l:Nat):Prop:=∀env:Env,env.scope=sc->ef G e l env=pure am
def IF (sc:d9) (G:List aC) (e:aC) (o:Option (List aU)):Prop:=∀env:Env,env.scope=sc->dN G e env=pure o
set_option genInjectivity false in
structure Lv where
 ev:aC->bD->St->KV->KX->Prop
 evT:aC->bD->St->(Bool->St->Prop)->KX->Prop
 exec:cg->bD->St->(dL->bD->St->Prop)->KX->Prop
 asg:aC->PV->bD->St->(bD->St->Prop)->KX->Prop
 call:PV->List PV->St->KV->KX->Prop
 deriving Nonempty
noncomputable def Lv.bot:Lv:=⟨λY Y Y Y Y=>False,λY Y Y Y Y=>False,λY Y Y Y Y=>False,λY Y Y Y Y Y=>False,λY Y Y Y Y=>False⟩
noncomputable def cx (e:aC):Bool:= !b9 e.ctorIdx 22
noncomputable def oN (e:aC):Bool:= !b9 e.ctorIdx 20
noncomputable def ju (e:aC):Bool:= !b9 e.ctorIdx 16
noncomputable def nP (e:aC):Bool:= !b9 e.ctorIdx 7
noncomputable def Br (sc:d9):Bool:=sc.names.all λp=>p.2 !=.local ||sc.names.lookup p.1==ac .local
section
variable (K:H8) (E:Lv)
def tT (pe:bD) (x:KX):List aC->St->(List PV->St->Prop)->Prop
 | [],st,k=>k [] st
 | e::r,st,k=>cx e=au∧E.ev e pe st (λv I=>tT pe x r I λvs J=>k (v::vs) J) x
def Pq (pe:bD) (x:KX):List (Option aC)->List aC->St->(List (PV × PV)->St->Prop)->Prop
 | [],vs,st,k=>vs=[]∧k [] st
 | o::kr,vs,st,k=>∃y ve f,o=ac y∧vs=ve::f∧E.ev y pe st (λkv I=>E.ev ve pe I (λvv J=>Pq pe x kr f J λr G=>k ((kv,vv)::r) G) x) x
noncomputable def sg:ak->Option PV
 | .none=>ac .none
 | .bool b=>ac (.bool b)
 | .int i _=>ac (.int i)
 | .str s _=>ac (.str s)
 | .bytes b _=>ac (.bytes b)
 | .ref a=>ac (.ref a)
 | .builtin id=>ac (.bi id)
 | .type n=>ac (.ty n)
 | _=>al
noncomputable def jy (id:aU):Option PV:=(UT K cJ id).bind λo=>@cw ak (λY=>Option PV) o (if id=("__name__":aU) then al else (uk id).bind sg) sg
theorem Bt {id:aU} {v:PV} {P:Prop} (h:jy K id=ac v) (h1:∀u,UT K cJ id=ac (ac u)->sg u=ac v->P) (h2:UT K cJ id=ac al->id≠("__name__":aU)->∀u,uk id=ac u->sg u=ac v->P):P:=
 ae (ai.mp h) λo=>@cw ak (λo=>UT K cJ id=ac o->@cw ak (λY=>Option PV) o (if id=("__name__":aU) then al else (uk id).bind sg) sg=ac v->P) o
  (λq h=>RG (id=("__name__":aU)) (λz=>n1 ((if_pos z).symm.trans h)) λz=>ae (ai.mp ((if_neg z).symm.trans h)) λu e1 e2=>h2 q z u e1 e2) λu q h=>h1 u q h
inductive si (id:aU) (pe:bD) (st:St) (k:KV):Prop
 | loc {v:PV} (hl:pe.sc.names.lookup id=ac .local) (hv:pe.loc.lookup id=ac v) (h:k v st):si id pe st k
 | cell {c:Nat} {v:PV} (hl:pe.sc.names.lookup id=ac .cell) (hc:pe.cells.lookup id=ac c) (hs:st[c]? =ac (.cell (ac v))) (h:k v st):si id pe st k
 | free {c:Nat} {v:PV} (hl:pe.sc.names.lookup id=ac .free) (hc:pe.cells.lookup id=ac c) (hs:st[c]? =ac (.cell (ac v))) (hn:id=("__classdict__":aU)->False) (h:k v st):si id pe st k
 | glob {v:PV} (hl:pe.sc.names.lookup id=ac .globalImplicit) (hg:jy K id=ac v) (h:k v st):si id pe st k
def sj (pe:bD) (x:KX) (op:jD):List aC->St->KV->Prop
 | [],_,_=>False
 | [e],st,k=>E.ev e pe st k x
 | e::r,st,k=>E.ev e pe st (λv I=>∃b,v=.bool b∧match op,b with
   | .And,am=>k v I
   | .Or,au=>k v I
   | _,_=>sj pe x op r I k) x
def Cp (pe:bD) (x:KX) (op:jD):List aC->St->(Bool->St->Prop)->Prop
 | [],st,k=>k (op==.And) st
 | e::r,st,k=>E.evT e pe st (λb I=>match op,b with
   | .And,am=>k am I
   | .Or,au=>k au I
   | _,_=>Cp pe x op r I k) x
def mJ (i:Int):Prop:=i.natAbs <2 ^ 60
inductive mK (st:St) (k:KV):l6->PV->PV->Prop
 | add {i j:Int} (h:k (.int (i+j)) st):mK st k .Add (.int i) (.int j)
 | sub {i j:Int} (h:k (.int (i - j)) st):mK st k .Sub (.int i) (.int j)
 | mul {i j:Int} (hi:mJ i) (hj:mJ j) (h:k (.int (i*j)) st):mK st k .Mult (.int i) (.int j)
 | mod {i j:Int} (hp:0 <j) (hj:mJ j) (h:k (.int (i.fmod j)) st):mK st k .Mod (.int i) (.int j)
 | div {i j:Int} (hp:0 <j) (hj:mJ j) (h:k (.int (i.fdiv j)) st):mK st k .FloorDiv (.int i) (.int j)
 | cat {i j:Nat} {xs ys:List PV} (hx:st[i]? =ac (.list xs)) (hy:st[j]? =ac (.list ys)) (hl:xs.length+ys.length≤1000) (h:k (.loc st.length) (st++[.list (xs++ys)])):mK st k .Add (.loc i) (.loc j)
inductive zo (st:St) (k:Bool->Prop):PV->PV->Prop
 | bool {p q:Bool} (h:k (p==q)):zo st k (.bool p) (.bool q)
 | int {i j:Int} (h:k (i==j)):zo st k (.int i) (.int j)
 | str {i j:aU} (h:k (i==j)):zo st k (.str i) (.str j)
 | bytes {i j:Array UInt8} (h:k (i==j)):zo st k (.bytes i) (.bytes j)
 | none (h:k au):zo st k .none .none
 | len {i j:Nat} {xs ys:List PV} (hx:st[i]? =ac (.list xs)) (hy:st[j]? =ac (.list ys)) (hn:xs.length≠ys.length) (h1:xs.length≤1000) (h2:ys.length≤1000) (h:k am):zo st k (.loc i) (.loc j)
 | list {i j:Nat} {xs ys:List PV} {as bs:List AK} (hx:st[i]? =ac (.list xs)) (hy:st[j]? =ac (.list ys)) (ha:du xs=ac as) (hb:du ys=ac bs) (h1:xs.length≤1000) (h2:ys.length≤1000) (h:k (decide (as=bs))):zo st k (.loc i) (.loc j)
 | tup {i j:Nat} {xs ys:List PV} {as bs:List AK} (hx:st[i]? =ac (.tup xs)) (hy:st[j]? =ac (.tup ys)) (ha:du xs=ac as) (hb:du ys=ac bs) (h1:xs.length≤1000) (h2:ys.length≤1000) (h:k (decide (as=bs))):zo st k (.loc i) (.loc j)
 | dict {i j:Nat} {es fs:List (bJ × PV × PV)} {ep ep':Nat} {as bs:List AK} (hx:st[i]? =ac (.dict es ep)) (hy:st[j]? =ac (.dict fs ep')) (ha:du (es.map (·.2.2))=ac as) (hb:du (fs.map (·.2.2))=ac bs) (h1:es.length≤1000) (h2:fs.length≤1000)
   (h:k (decide (es.length=fs.length)&&es.all λe=>match dget e.1 fs with | some p=>decide (kN e.2.2=kN p.2) | none=>am)):zo st k (.loc i) (.loc j)
inductive iC (a b:PV) (st:St) (k:KV):ul->Prop
 | eq (h:zo st (λt=>k (.bool t) st) a b):iC a b st k .Eq
 | ne (h:zo st (λt=>k (.bool (!t)) st) a b):iC a b st k .NotEq
 | lt {i j:Int} (ha:a=.int i) (hb:b=.int j) (h:k (.bool (decide (i <j))) st):iC a b st k .Lt
 | le {i j:Int} (ha:a=.int i) (hb:b=.int j) (h:k (.bool (decide (i≤j))) st):iC a b st k .LtE
 | gt {i j:Int} (ha:a=.int i) (hb:b=.int j) (h:k (.bool (decide (j <i))) st):iC a b st k .Gt
 | ge {i j:Int} (ha:a=.int i) (hb:b=.int j) (h:k (.bool (decide (j≤i))) st):iC a b st k .GtE
 | isNone (hb:b=.none) (h:k (.bool (isNone a)) st):iC a b st k .Is
 | isBool {p q:Bool} (ha:a=.bool p) (hb:b=.bool q) (h:k (.bool (p==q)) st):iC a b st k .Is
 | isNot (hb:b=.none) (h:k (.bool (!isNone a)) st):iC a b st k .IsNot
 | inDict {d ep:Nat} {es:List (bJ × PV × PV)} {ka:bJ} (hb:b=.loc d) (hd:st[d]? =ac (.dict es ep)) (hk:kC st a=ac ka) (h:k (.bool (dget ka es).isSome) st):iC a b st k .In
 | inTup {l:Nat} {s:aU} {ss:List aU} (hb:b=.loc l) (hl:st[l]? =ac (.tup (ss.map PV.str))) (ha:a=.str s) (h:k (.bool (decide (s∈ss))) st):iC a b st k .In
 | notIn {d ep:Nat} {es:List (bJ × PV × PV)} {ka:bJ} (hb:b=.loc d) (hd:st[d]? =ac (.dict es ep)) (hk:kC st a=ac ka) (h:k (.bool (!(dget ka es).isSome)) st):iC a b st k .NotIn
noncomputable def nQ (a:ay):Option ew:=(K.lookup a).bind λo=>TY o.data
theorem vq {a:ay} {fd:ew} (h:nQ K a=ac fd):∃o,K.lookup a=ac o∧o.data=.func fd:=ae (ai.mp h) λo e1 e2=>⟨o,e1,Mp e2⟩
noncomputable def w8 (C:ay) (name:aU):Bool:=KJ K C name&&wI K C&&(gC K (.ref C) name).any (noGet K)
noncomputable def zp (C:ay) (name:aU):Option ay:=(gC K (.ref C) name).bind λo=>o.bind λv=>(sf v).bind λp=>(recIn K p "property").bind λl=>l.head?.bind λS=>(sf S).bind λf=>
 if (KJ K C name&&wI K C&&specialIn K (.ref p) "__get__"==ac (ac (.builtin "property.__get__"))&&takesIn K (.ref p)==ac au&&(nQ K f).isSome)=au then ac f else al
noncomputable def vt (C:ay) (name:aU):Option ay:=(gC K (.ref C) name).bind λo=>o.bind λv=>(sf v).bind λf=>if (KL K (.ref f)&&KJ K C name&&(nQ K f).isSome)=au then ac f else al
noncomputable def w9 (C:ay) (name:aU):Bool:=gC K (.ref C) "__setattr__"==ac (ac (.builtin "object.__setattr__"))&&plainOver K C&&UU K C name==ac al&&wI K C
noncomputable def nR (C:ay):Option ay:=(gC K (.ref C) "__init__").bind λo=>o.bind λv=>(sf v).bind λf=>if (KL K (.ref f)&&UV K C&&(nQ K f).isSome)=au then ac f else al
theorem rK {T:ak} {name:aU} {g:ay->Option ay} {f:ay} (h:((gC K T name).bind λo=>o.bind λv=>(sf v).bind g)=ac f):∃p,gC K T name=ac (ac (.ref p))∧g p=ac f:=
 ae (ai.mp h) λY e1 h=>ae (ai.mp h) λY e2 h=>ae (ai.mp h) λp e3 h=>⟨p,by rw [e1,e2,nh e3],h⟩
def zq (st:St) (i:Nat) (C:ay) (d:Nat):Prop:=st[i]? =ac (.inst C d)∨st[i]? =ac (.exc C d)
noncomputable def uD:PV->Bool
 | .bi _=>am
 | _=>au
def attr (v:PV) (name:aU) (st:St) (k:KV):Prop:=∃i C d fs,v=.loc i∧zq st i C d∧st[d]? =ac (.ns fs)∧
 ((∃I,fs.lookup name=ac I∧w8 K C name=au∧uD I=au∧k I st)∨∃f,zp K C name=ac f∧E.call (.ref f) [v] st (λI G=>uD I=au∧k I G) (λY Y=>False))
def rL (v:PV) (name:aU) (w:PV) (st:St) (k:St->Prop):Prop:=∃i C d fs,v=.loc i∧zq st i C d∧st[d]? =ac (.ns fs)∧w9 K C name=au∧fs.length≤900∧
 k (st.set d (.ns (nO name w fs)))
inductive meth (name:aU) (st:St) (k:PV->List PV->Prop):PV->Prop
 | inst {i d:Nat} {C f:ay} {fs:List (aU × PV)} (hi:st[i]? =ac (.inst C d)) (hd:st[d]? =ac (.ns fs)) (hn:fs.lookup name=al) (hm:vt K C name=ac f) (h:k (.ref f) [.loc i]):meth name st k (.loc i)
 | append {i:Nat} {xs:List PV} (hi:st[i]? =ac (.list xs)) (hn:name=("append":aU)) (h:k (.bi "list.append") [.loc i]):meth name st k (.loc i)
 | pop {i:Nat} {xs:List PV} (hi:st[i]? =ac (.list xs)) (hn:name=("pop":aU)) (h:k (.bi "list.pop") [.loc i]):meth name st k (.loc i)
 | dget {i ep:Nat} {es:List (bJ × PV × PV)} (hi:st[i]? =ac (.dict es ep)) (hn:name=("get":aU)) (h:k (.bi "dict.get") [.loc i]):meth name st k (.loc i)
 | dpop {i ep:Nat} {es:List (bJ × PV × PV)} (hi:st[i]? =ac (.dict es ep)) (hn:name=("pop":aU)) (h:k (.bi "dict.pop") [.loc i]):meth name st k (.loc i)
 | dvals {i ep:Nat} {es:List (bJ × PV × PV)} (hi:st[i]? =ac (.dict es ep)) (hn:name=("values":aU)) (h:k (.bi "dict.values") [.loc i]):meth name st k (.loc i)
def oO (f:PV) (st:St):Prop:=match f with
 | .ref a=>Ot K (.ref a)=au
 | .bi _=>True
 | .ty _=>True
 | .loc i=>∃l,st[i]? =ac (.lam l)
 | _=>False
inductive jN (b:PV) (st:St) (k:KV):PV->Prop
 | list {i:Nat} {xs:List PV} {j:Int} {v:PV} (hi:st[i]? =ac (.list xs)) (hb:b=.int j) (hl:xs.length≤1000) (hv:(0≤j∧j <1000∧xs[j.toNat]? =ac v)∨(j=-1∧xs.getLast? =ac v)) (h:k v st):jN b st k (.loc i)
 | tup {i:Nat} {xs:List PV} {j:Int} {v:PV} (hi:st[i]? =ac (.tup xs)) (hb:b=.int j) (h0:0≤j) (h1:j <1000) (hl:xs.length≤1000) (hv:xs[j.toNat]? =ac v) (h:k v st):jN b st k (.loc i)
 | dict {i ep:Nat} {es:List (bJ × PV × PV)} {kb:bJ} {p:PV × PV} (hi:st[i]? =ac (.dict es ep)) (hk:kC st b=ac kb) (hp:dget kb es=ac p) (h:k p.2 st):jN b st k (.loc i)
def vw (a b v:PV) (st:St) (k:St->Prop):Prop:=∃i es ep I,a=.loc i∧st[i]? =ac (.dict es ep)∧kC st b=ac I∧es.length≤1000∧∀ep',k (st.set i (.dict (lD I b v es) ep'))
def oP (i:Nat):List (PV × PV)->St->(St->Prop)->Prop
 | [],st,k=>k st
 | (a,v)::r,st,k=>vw (.loc i) a v st λI=>oP i r I k
inductive sliced (st:St) (k:KV):PV->Option PV->Option PV->Option PV->Prop
 | take {i:Nat} {xs:List PV} {n:Int} (hi:st[i]? =ac (.list xs)) (h0:0≤n) (h1:n <1000) (hl:xs.length≤1000) (h:k (.loc st.length) (st++[.list (xs.take n.toNat)])):sliced st k (.loc i) al (ac (.int n)) al
 | takeP {i:Nat} {xs:List PV} {o:Obj} {n:Int} (hi:st[i]? =ac (.pin xs o)) (h0:0≤n) (h1:n <1000) (hl:xs.length≤1000) (h:k (.loc st.length) (st++[.list (xs.take n.toNat)])):sliced st k (.loc i) al (ac (.int n)) al
 | rev {i:Nat} {xs:List PV} (hi:st[i]? =ac (.list xs)) (hl:xs.length≤1000) (h:k (.loc st.length) (st++[.list xs.reverse])):sliced st k (.loc i) al al (ac (.int (-1)))
 | barr {i:Nat} {b:Array UInt8} {q:Int} (hi:st[i]? =ac (.barr b)) (hq:q=(b.size:Int)) (hl:b.size≤1000) (h:k (.loc st.length) (st++[.barr b])):sliced st k (.loc i) (ac (.int 0)) (ac (.int q)) al
def Pr (pe:bD) (x:KX):Option aC->St->(Option PV->St->Prop)->Prop
 | none,st,k=>k al st
 | some e,st,k=>E.ev e pe st (λv I=>k (ac v) I) x
noncomputable def isBytes:PV->Option (Array UInt8)
 | .bytes b=>ac b
 | _=>al
noncomputable def lE (a b:Array UInt8):Bool:=decide (a.toList.map (·.toNat)<b.toList.map (·.toNat))
inductive builtin (st:St) (k:KV):String->List PV->Prop
 | lenList {i:Nat} {xs:List PV} (hx:st[i]? =ac (.list xs)) (hl:xs.length≤1000) (h:k (.int xs.length) st):builtin st k "len" [.loc i]
 | lenDict {i ep:Nat} {es:List (bJ × PV × PV)} (hx:st[i]? =ac (.dict es ep)) (hl:es.length≤1000) (h:k (.int es.length) st):builtin st k "len" [.loc i]
 | lenBarr {i:Nat} {b:Array UInt8} (hx:st[i]? =ac (.barr b)) (hl:b.size≤1000) (h:k (.int b.size) st):builtin st k "len" [.loc i]
 | lenBytes {b:Array UInt8} (hl:b.size≤1000) (h:k (.int b.size) st):builtin st k "len" [.bytes b]
 | max {i j:Int} (h:k (.int (if i <j then j else i)) st):builtin st k "max" [.int i,.int j]
 | min {i j:Int} (h:k (.int (if j <i then j else i)) st):builtin st k "min" [.int i,.int j]
 | ord {c:Nat} (hc:c <128) (h:k (.int c) st):builtin st k "ord" [.str ⟨#[c]⟩]
 | strStr {s:aU} (h:k (.bool au) st):builtin st k "isinstance" [.str s,.ty "str"]
 | strBool {b:Bool} (h:k (.bool am) st):builtin st k "isinstance" [.bool b,.ty "str"]
 | strInt {i:Int} (h:k (.bool am) st):builtin st k "isinstance" [.int i,.ty "str"]
 | boolStr {s:aU} (h:k (.bool am) st):builtin st k "isinstance" [.str s,.ty "bool"]
 | boolBool {b:Bool} (h:k (.bool au) st):builtin st k "isinstance" [.bool b,.ty "bool"]
 | boolInt {i:Int} (h:k (.bool am) st):builtin st k "isinstance" [.int i,.ty "bool"]
 | sorted {i:Nat} {bs ys:List (Array UInt8)} (hx:st[i]? =ac (.list (bs.map .bytes))) (hl:bs.length≤3) (hp:ys.Perm bs) (hs:ys.Pairwise (λa b=>lE a b=au)) (h:k (.loc st.length) (st++[.list (ys.map .bytes)])):builtin st k "sorted" [.loc i]
 | append {i:Nat} {v:PV} {xs:List PV} (hx:st[i]? =ac (.list xs)) (hl:xs.length≤1000) (h:k .none (st.set i (.list (xs++[v])))):builtin st k "list.append" [.loc i,v]
 | pop {i:Nat} {v:PV} {xs:List PV} (hx:st[i]? =ac (.list (v::xs))) (hl:xs.length≤1000) (h:k v (st.set i (.list xs))):builtin st k "list.pop" [.loc i,.int 0]
 | dget {i ep:Nat} {a:PV} {es:List (bJ × PV × PV)} {ka:bJ} (hx:st[i]? =ac (.dict es ep)) (hk:kC st a=ac ka) (h:k (match dget ka es with | some p=>p.2 | none=>.none) st):builtin st k "dict.get" [.loc i,a]
 | dgetD {i ep:Nat} {a d:PV} {es:List (bJ × PV × PV)} {ka:bJ} (hx:st[i]? =ac (.dict es ep)) (hk:kC st a=ac ka) (h:k (match dget ka es with | some p=>p.2 | none=>d) st):builtin st k "dict.get" [.loc i,a,d]
 | dpop {i ep:Nat} {a:PV} {es:List (bJ × PV × PV)} {ka:bJ} {p:PV × PV} (hx:st[i]? =ac (.dict es ep)) (hl:es.length≤1000) (hk:kC st a=ac ka) (hp:dget ka es=ac p) (h:∀ep',k p.2 (st.set i (.dict (pO ka es) ep'))):builtin st k "dict.pop" [.loc i,a]
 | dpopD {i ep:Nat} {a d:PV} {es:List (bJ × PV × PV)} {ka:bJ} (hx:st[i]? =ac (.dict es ep)) (hl:es.length≤1000) (hk:kC st a=ac ka) (h:match dget ka es with | some p=>∀ep',k p.2 (st.set i (.dict (pO ka es) ep')) | none=>k d st):builtin st k "dict.pop" [.loc i,a,d]
 | dvals {i ep:Nat} {es:List (bJ × PV × PV)} (hx:st[i]? =ac (.dict es ep)) (h:k (.loc st.length) (st++[.vals i])):builtin st k "dict.values" [.loc i]
noncomputable def vx:List PV->Option (List UInt8)
 | []=>ac []
 | p::r=>(Le p).bind λi=>if 0≤i∧i <256 then (vx r).map (wW i.toNat::·) else al
noncomputable def Lg (l:List PV):Option (PV × PV):=@aX PV (λY=>Option (PV × PV)) l al λa r=>@aX PV (λY=>Option (PV × PV)) r al λb r=>@aX PV (λY=>Option (PV × PV)) r (ac (a,b)) λY Y=>al
noncomputable def Bu (st:St) (p:PV):Option (PV × PV):=(Lb p).bind λi=>(st[i]?.bind w6).bind Lg
theorem xa {st:St} {p:PV} {q:PV × PV} (h:Bu st p=ac q):∃i:Nat,p=.loc i∧st[i]? =ac (.tup [q.1,q.2]):=
 ae (ai.mp h) λi e1 h=>ae (ai.mp h) λl e2 h=>ae (ai.mp e2) λo e3 G=>⟨i,EI e1,by
  rw [e3,se G];induction l using aX with
  | nil=>exact n1 h
  | cons a l=>induction l using aX with
   | nil=>exact n1 h
   | cons b l=>induction l using aX with
    | nil=>exact bZ (fm h) rfl
    | cons _ _=>exact n1 h⟩
noncomputable def kW (st:St):List PV->Option (List (bJ × PV × PV))
 | []=>ac []
 | p::r=>(Bu st p).bind λq=>(kC st q.1).bind λka=>(kW st r).map ((ka,q.1,q.2)::·)
inductive jY (st:St) (k:KV):String->List PV->Prop
 | listList {i:Nat} {xs:List PV} (hx:st[i]? =ac (.list xs)) (hl:xs.length≤1000) (h:k (.loc st.length) (st++[.list xs])):jY st k "list" [.loc i]
 | listRange {i m:Nat} (hx:st[i]? =ac (.range m)) (hl:m≤1000) (h:k (.loc st.length) (st++[.list ((dU m).map λj=>PV.int (aL j))])):jY st k "list" [.loc i]
 | dict {i:Nat} {xs:List PV} {es:List (bJ × PV × PV)} (hx:st[i]? =ac (.list xs)) (hp:kW st xs=ac es) (hn:(es.map (·.1)).Nodup) (hl:es.length≤1000) (h:∀ep,k (.loc st.length) (st++[.dict es ep])):jY st k "dict" [.loc i]
 | bytesList {i:Nat} {xs:List PV} {bs:List UInt8} (hx:st[i]? =ac (.list xs)) (hb:vx xs=ac bs) (hl:xs.length≤1000) (h:k (.bytes bs.toArray) st):jY st k "bytes" [.loc i]
 | bytesBarr {i:Nat} {b:Array UInt8} (hx:st[i]? =ac (.barr b)) (hl:b.size≤1000) (h:k (.bytes b) st):jY st k "bytes" [.loc i]
 | int {i:Int} (h:k (.int i) st):jY st k "int" [.int i]
 | range {m:Int} (h0:0≤m) (h1:m≤1000) (h:k (.loc st.length) (st++[.range m.toNat])):jY st k "range" [.int m]
noncomputable def zr (fd:ew):Bool:=fd.globals==cJ&&fd.closure.isEmpty&&fd.builtins==jj&&!fd.scope.isGenerator&&!fd.scope.isCoroutine&&fd.scope.kind==.function&&
 fd.params.posonlyargs.isEmpty&&fd.params.vararg.isNone&&fd.params.kwonlyargs.isEmpty&&fd.params.kwarg.isNone&&decide ((fd.params.args.map (·.arg)).Nodup)&&codeIn K fd.code fd.qualname&&
 decide ((fd.scope.names.map (·.1)).Nodup)&&fd.params.args.all λa=>fd.scope.names.lookup a.arg==ac .local ||fd.scope.names.lookup a.arg==ac .cell
noncomputable def kO (fd:ew):Option (List PV):=if fd.defaults=.none then ac [] else (sf fd.defaults).bind λT=>((K.lookup T).bind λo=>Po o.data).bind λvs=>dn (vs.toList.map sg)
theorem sk {fd:ew} {ds:List PV} (h:kO K fd=ac ds):(fd.defaults=.none∧ds=[])∨∃T o G n,fd.defaults=.ref T∧K.lookup T=ac o∧o.data=.seq G n∧dn (G.toList.map sg)=ac ds:=
 RG (fd.defaults=.none) (λq=>.inl ⟨q,(fm ((if_pos q).symm.trans h)).symm⟩) λq=>ae (ai.mp ((if_neg q).symm.trans h)) λT e1 h=>ae (ai.mp h) λvs e2 h=>
  ae (ai.mp e2) λo e3 I=>aI (IC I) λn J=>.inr ⟨T,o,vs,n,nh e1,e3,J,h⟩
noncomputable def Bv (fd:ew) (args:List PV):Option (List (aU × PV)):=(kO K fd).bind λds=>
 if args.length≤fd.params.args.length∧fd.params.args.length - args.length≤ds.length∧ds.length≤fd.params.args.length then ac ((fd.params.args.map (·.arg)).zip (args++ds.drop (ds.length - (fd.params.args.length - args.length)))) else al
noncomputable def xb (fd:ew) (st:St):Option Nat:=(st[(0:Nat)]?.bind Bq).bind λq=>(sf fd.code).bind λc=>if KN K c q.1 then ac 0 else al
theorem EJ {fd:ew} {st:St} {i:Nat} (h:xb K fd st=ac i):∃P u c,st[(0:Nat)]? =ac (.codes P u)∧fd.code=.ref c∧KN K c P=au∧0=i:=
 ae (ai.mp h) λq e1 h=>ae (ai.mp h) λc e2 h=>ae (ai.mp e1) λo e3 G=>ah (jM h) λh1 h2=>⟨q.1,q.2,c,by rw [e3,zn G],nh e2,h1,h2⟩
noncomputable def d7 (binds:List (aU × PV)):List (aU × fM)->List (aU × Nat)->St->List (aU × Nat)× St
 | [],cs,st=>(cs,st)
 | (n,kd)::r,cs,st=>if kd=.cell then d7 binds r ((n,st.length)::cs) (st++[.cell (binds.lookup n)]) else d7 binds r cs st
def execs:List cg->bD->St->(dL->bD->St->Prop)->KX->Prop
 | [],pe,st,k,_=>k .next pe st
 | s::r,pe,st,k,x=>E.exec s pe st (λf G I=>match f with
  | .next=>execs r G I k x
  | .ret v=>k (.ret v) G I) x
def zt (a:ay) (args:List PV) (st:St) (k:KV) (x:KX):Prop:=∃fd body binds,nQ K a=ac fd∧zr K fd=au∧fd.body=.stmts body∧Bv K fd args=ac binds∧
 execs E body ⟨fd.scope,binds,(d7 binds fd.scope.names [] st).1,xb K fd st⟩ (d7 binds fd.scope.names [] st).2 (λf Y I=>match f with
  | .next=>k .none I
  | .ret v=>k v I) x
noncomputable def Bw (l:Pm):Bool:=l.scope.kind==.function&&!l.scope.isGenerator&&!l.scope.isCoroutine&&l.scope.names.all λp=>decide (p.2≠.cell)
inductive lh (args:List PV) (st:St) (k:KV) (x:KX):PV->Prop
 | fn {a:ay} (hf:(nQ K a).isSome=au) (h:zt K E a args st k x):lh args st k x (.ref a)
 | cls {a ini:ay} (hi:nR K a=ac ini) (h:E.call (.ref ini) (.loc (st.length+1)::args) (st++[.ns [],.inst a st.length]) (λv st1=>v=.none∧k (.loc (st.length+1)) st1) (λY Y=>False)):lh args st k x (.ref a)
 | bi {id:String} (h:builtin st k id args):lh args st k x (.bi id)
 | ty {n:String} (h:jY st k n args):lh args st k x (.ty n)
 | lam {i:Nat} {l:Pm} (hi:st[i]? =ac (.lam l)) (ha:args=[]) (hl:Bw l=au) (h:E.ev l.body ⟨l.scope,[],l.cells,al⟩ st k x):lh args st k x (.loc i)
noncomputable abbrev jc:=PV ⊕ (PV × PV)
set_option genCtorIdx false in
inductive wT where
 | list | tup | range | str | dict (ep:Nat) | vals (d ep:Nat) | zip (ep:Nat)
 deriving Nonempty
noncomputable def wT.ctorIdx (x:wT):Nat:=@wT.casesOn (λY=>Nat) x 0 1 2 3 (λY=>4) (λY Y=>5) (λY=>6)
inductive rn (st:St):PV->List jc × wT->Prop
 | str {s:aU} (h1:s.cps.size≤1000) (h2:s.cps.all (λc=>decide (c <128))=au):rn st (.str s) (s.cps.toList.map λc=>.inl (.str ⟨#[c]⟩),.str)
 | list {i:Nat} {xs:List PV} (hi:st[i]? =ac (.list xs)) (hl:xs.length≤1000):rn st (.loc i) (xs.map .inl,.list)
 | tup {i:Nat} {xs:List PV} (hi:st[i]? =ac (.tup xs)) (hl:xs.length≤1000):rn st (.loc i) (xs.map .inl,.tup)
 | dict {i ep:Nat} {es:List (bJ × PV × PV)} (hi:st[i]? =ac (.dict es ep)) (hl:es.length≤1000):rn st (.loc i) (es.map λe=>.inl e.2.1,.dict ep)
 | range {i n:Nat} (hi:st[i]? =ac (.range n)) (hl:n≤1000):rn st (.loc i) ((dU n).map λj=>.inl (.int (aL j)),.range)
 | vals {i d ep:Nat} {es:List (bJ × PV × PV)} (hi:st[i]? =ac (.vals d)) (hd:st[d]? =ac (.dict es ep)) (hl:es.length≤1000):rn st (.loc i) (es.map λe=>.inl e.2.2,.vals d ep)
inductive mL (l d:Nat) (st:St):List jc × wT->Prop
 | mk {xs:List PV} {es:List (bJ × PV × PV)} {ep:Nat} (hl:st[l]? =ac (.list xs)) (hd:st[d]? =ac (.dict es ep)) (h1:xs.length≤1000) (h2:xs.length=es.length):mL l d st ((xs.zip es).map λp=>.inr (p.1,p.2.2.1),.zip ep)
def EK (x:KX):List aC->List PV->bD->St->(bD->St->Prop)->Prop
 | [],[],pe,st,k=>k pe st
 | t::r,v::vr,pe,st,k=>cx t=au∧E.asg t v pe st (λG I=>EK x r vr G I k) x
 | _,_,_,_,_=>False
inductive kP (tgt:aC) (pe:bD) (st:St) (k:bD->St->Prop) (x:KX):jc->Prop
 | one {v:PV} (h:E.asg tgt v pe st k x):kP tgt pe st k x (.inl v)
 | two {ts:List aC} {c:Nat} {p:cP} {a b:PV} (ht:tgt=.Tuple ts c p) (hl:ts.length=2) (hs:ts.all cx=au) (h:EK E x ts [a,b] pe st k):kP tgt pe st k x (.inr (a,b))
def mM (O:aC) (body:List cg) (G:St->Prop):List jc->bD->St->(dL->bD->St->Prop)->KX->Prop
 | [],pe,st,k,_=>G st∧k .next pe st
 | it::r,pe,st,k,x=>G st∧kP E O pe st (λP S=>execs E body P S (λf I J=>match f with
  | .next=>mM O body G r I J k x
  | .ret v=>k (.ret v) I J) x) x it
def vy (pe:bD) (x:KX):List aC->St->(Bool->St->Prop)->Prop
 | [],st,k=>k au st
 | e::r,st,k=>E.evT e pe st (λb I=>match b with
  | true=>vy pe x r I k
  | false=>k am I) x
def pP (y I:aC) (ifs:List aC) (P:PV) (all:List jc × wT) (l:Nat):List jc->bD->St->(St->Prop)->KX->Prop
 | [],_,st,k,_=>rn st P all∧k st
 | it::r,pe,st,k,x=>rn st P all∧kP E I pe st (λG S=>vy E G x ifs S λb J=>match b with
  | true=>E.ev y G J (λv O=>∃acc,O[l]? =ac (.list acc)∧acc.length≤1000∧pP y I ifs P all l r G (O.set l (.list (acc++[v]))) k x) x
  | false=>pP y I ifs P all l r G J k x) x it
noncomputable def gX (cells:List (aU × Nat)):List (aU × fM)->List (aU × Nat)->Option (List (aU × Nat))
 | [],cs=>ac cs
 | (n,kd)::r,cs=>if kd=.free then (cells.lookup n).bind λc=>gX cells r ((n,c)::cs) else gX cells r cs
noncomputable def eO (sc scope:d9):d9:={scope with names:=scope.names.map λ(n,kd)=>if kd==.free&&sc.kind==.function&&sc.names.lookup n==ac .cell then (n,.cell) else (n,kd)}
def comp (y G iter:aC) (ifs:List aC) (scope:d9) (pe:bD) (st:St) (k:KV) (x:KX):Prop:=
 scope.kind=.function∧(scope.names.all λp=>decide (p.2≠.cell))=au∧Br scope=au∧nP iter=au∧∃cs,gX pe.cells scope.names []=ac cs∧
 E.ev iter pe st (λO I=>∃all,rn I O all∧pP E y G ifs O all I.length all.1 ⟨eO pe.sc scope,[],cs,al⟩ (I++[.list []]) (λJ=>k (.loc I.length) J) (λY Y=>False)) x
noncomputable def so:q9->Bool
 | ⟨[],[],al,[],[],al,[]⟩=>au
 | _=>am
def Bx (pe:bD) (x:KX) (a:PV) (l u s:Option aC) (st:St) (k:KV):Prop:=
 Pr E pe x l st λO I=>Pr E pe x u I λS J=>Pr E pe x s J λP G=>sliced G k a O S P
inductive mN:S4->PV->Prop
 | none:mN .none .none
 | bool (b:Bool):mN (.bool b) (.bool b)
 | int (i:Int):mN (.int i) (.int i)
 | str (s:aU):mN (.str s) (.str s)
 | bytes (b:List UInt8):mN (.bytes b) (.bytes b.toArray)
def Ps (k:KV) (vs:List PV) (I:St):Prop:=vs.length≤1000∧k (.loc I.length) (I++[.tup vs])
def Ms (k:KV) (vs:List PV) (I:St):Prop:=vs.length≤1000∧k (.loc I.length) (I++[.list vs])
def Mt (k:KV) (i:Nat) (ps:List (PV × PV)) (I:St):Prop:=oP i ps I (k (.loc i))
def Pt (k:KV) (v:PV) (I:St):Prop:=∃b,v=.bool b∧k (.bool (!b)) I
def Pu (k:KV) (v:PV) (I:St):Prop:=∃i,v=.int i∧k (.int (-i)) I
def Pv (pe:bD) (b o:aC) (k:KV) (x:KX) (c:Bool) (I:St):Prop:=match c with
 | true=>E.ev b pe I k x
 | false=>E.ev o pe I k x
def Pw (pe:bD) (op:l6) (r:aC) (k:KV) (x:KX) (a:PV) (I:St):Prop:=E.ev r pe I (λb J=>mK J k op a b) x
def Px (pe:bD) (op:ul) (r:aC) (k:KV) (x:KX) (a:PV) (I:St):Prop:=E.ev r pe I (λb J=>iC a b J k op) x
def Mu (pe:bD) (name:aU) (args:List aC) (k:KV) (x:KX) (G:PV) (I:St):Prop:=meth K name I (λf first=>tT E pe x args I λvs J=>oO K f J∧E.call f (first++vs) J k x) G
def Mw (pe:bD) (args:List aC) (k:KV) (x:KX) (S:PV) (I:St):Prop:=tT E pe x args I λvs J=>oO K S J∧E.call S vs J k x
def Mx (name:aU) (k:KV) (v:PV) (I:St):Prop:=attr K E v name I k
def IG (pe:bD) (l u s:Option aC) (k:KV) (x:KX) (v:PV) (I:St):Prop:=Bx E pe x v l u s I k
def Py (pe:bD) (i:aC) (k:KV) (x:KX) (v:PV) (I:St):Prop:=E.ev i pe I (λw J=>jN w J k v) x
inductive oQ (pe:bD) (st:St) (k:KV) (x:KX):aC->Prop
 | const {c:S4} {v:PV} {kd:ow} {p:cP} (hc:mN c v) (h:k v st):oQ pe st k x (.Constant c kd p)
 | name {id:aU} {p:cP} (hd:(id==("__debug__":aU))=am) (h:si K id pe st k):oQ pe st k x (.Name id p)
 | tuple {es:List aC} {c:ow} {p:cP} (h:tT E pe x es st (Ps k)):oQ pe st k x (.Tuple es c p)
 | list {es:List aC} {p:cP} (h:tT E pe x es st (Ms k)):oQ pe st k x (.List es p)
 | dict0 {p:cP} (h:k (.loc st.length) (st++[.dict [] 0])):oQ pe st k x (.Dict [] [] p)
 | dict {ks:List (Option aC)} {vs:List aC} {p:cP} (h0:ks≠[]) (h1:ks.all (·.isSome)=au) (h2:ks.length=vs.length) (h3:ks.length≤10) (h:Pq E pe x ks vs (st++[.dict [] 0]) (Mt k st.length)):oQ pe st k x (.Dict ks vs p)
 | bool {op:jD} {vs:List aC} {p:cP} (h:sj E pe x op vs st k):oQ pe st k x (.BoolOp op vs p)
 | not {a:aC} {p:cP} (h:E.ev a pe st (Pt k) x):oQ pe st k x (.UnaryOp .Not a p)
 | neg {a:aC} {p:cP} (h:E.ev a pe st (Pu k) x):oQ pe st k x (.UnaryOp .USub a p)
 | ife {t b o:aC} {p:cP} (h:E.evT t pe st (Pv E pe b o k x) x):oQ pe st k x (.IfExp t b o p)
 | bin {l r:aC} {op:l6} {p:cP} (h:E.ev l pe st (Pw E pe op r k x) x):oQ pe st k x (.BinOp l op r p)
 | cmp {l r:aC} {op:ul} {p:cP} (hb:gN op r=am) (h:E.ev l pe st (Px E pe op r k x) x):oQ pe st k x (.Compare l [op] [r] p)
 | mcall {o:aC} {name:aU} {apos pos:cP} {args:List aC} (ho:ju o=au) (hl:args.length <20) (hs:args.all cx=au) (hp:(apos.endLine==pos.line)=au)
   (h:E.ev o pe st (Mu K E pe name args k x) x):oQ pe st k x (.Call (.Attribute o name apos) args [] pos)
 | call {f:aC} {pos:cP} {args:List aC} (hf:oN f=au) (hl:args.length <20) (hs:args.all cx=au) (h:E.ev f pe st (Mw K E pe args k x) x):oQ pe st k x (.Call f args [] pos)
 | attr {a:aC} {name:aU} {p:cP} (ha:ju a=au) (h:E.ev a pe st (Mx K E name k) x):oQ pe st k x (.Attribute a name p)
 | slice {a:aC} {l u s:Option aC} {sp p:cP} (h:E.ev a pe st (IG E pe l u s k x) x):oQ pe st k x (.Subscript a (.Slice l u s sp) p)
 | sub {a i:aC} {p:cP} (h:E.ev a pe st (Py E pe i k x) x):oQ pe st k x (.Subscript a i p)
 | comp {elt tgt iter:aC} {ifs:List aC} {scope:d9} {p:cP} (h:comp E elt tgt iter ifs scope pe st k x):oQ pe st k x (.ListComp elt [⟨tgt,iter,ifs,0⟩] scope p)
 | lam {args:q9} {body:aC} {scope:d9} {pos:cP} {cs:List (aU × Nat)} {i:Nat} {P:ay} {used:List (Nat × Nat)} (h1:so args=au) (h2:scope.kind=.function) (h3:scope.isGenerator=am) (h4:scope.isCoroutine=am) (h5:(scope.names.all λp=>decide (p.2≠.cell))=au)
   (hc:gX pe.cells scope.names []=ac cs) (ht:pe.tab=ac i) (hi:st[i]? =ac (.codes P used)) (hu:(pos.line,pos.col)∉used)
   (h:k (.loc st.length) (st.set i (.codes P ((pos.line,pos.col)::used))++[.lam ⟨body,scope,cs⟩])):oQ pe st k x (.Lambda args body scope pos)
noncomputable def zu (e:aC):Bool:= !(b9 e.ctorIdx 0 ||b9 e.ctorIdx 3 ||b9 e.ctorIdx 5 ||b9 e.ctorIdx 15)
inductive xc (pe:bD) (st:St) (k:Bool->St->Prop) (x:KX):aC->Prop
 | not {a:aC} {p:cP} (h:E.evT a pe st (λb st1=>k (!b) st1) x):xc pe st k x (.UnaryOp .Not a p)
 | bool {op:jD} {vs:List aC} {p:cP} (h:Cp E pe x op vs st k):xc pe st k x (.BoolOp op vs p)
 | cmp {l r:aC} {op:ul} {p:cP} (hb:gN op r=am) (h:E.ev l pe st (λa st1=>E.ev r pe st1 (λb st2=>iC a b st2 (λv st3=>∃t,v=.bool t∧k t st3) op) x) x):xc pe st k x (.Compare l [op] [r] p)
 | plain {e:aC} (he:zu e=au) (h:E.ev e pe st (λv st1=>∃b,v=.bool b∧k b st1) x):xc pe st k x e
inductive vz (v:PV) (pe:bD) (st:St) (k:bD->St->Prop) (x:KX):aC->Prop
 | loc {id:aU} {p:cP} (hl:pe.sc.names.lookup id=ac .local) (h:k (pe.set id v) st):vz v pe st k x (.Name id p)
 | cell {id:aU} {p:cP} {c:Nat} {o:Option PV} (hl:pe.sc.names.lookup id=ac .cell) (hc:pe.cells.lookup id=ac c) (hs:st[c]? =ac (.cell o)) (h:k pe (st.set c (.cell (ac v)))):vz v pe st k x (.Name id p)
 | tup {ts:List aC} {c:ow} {p:cP} {i:Nat} {xs:List PV} (hv:v=.loc i) (hi:st[i]? =ac (.tup xs)) (hl:xs.length≤10) (ht:ts.length=xs.length) (hs:ts.all cx=au) (h:EK E x ts xs pe st k):vz v pe st k x (.Tuple ts c p)
 | attr {o:aC} {name:aU} {p:cP} (h:E.ev o pe st (λov st1=>rL K ov name v st1 (k pe)) x):vz v pe st k x (.Attribute o name p)
 | sub {o i:aC} {p:cP} (h:E.ev o pe st (λov st1=>E.ev i pe st1 (λiv st2=>vw ov iv v st2 (k pe)) x) x):vz v pe st k x (.Subscript o i p)
noncomputable def nF (l:List (Option ak)) (i:Nat):Option ak:=(l[i]?).bind id
noncomputable def nS (C:ay):Bool:=(K.lookup C).any λo=>(Pp o.data).any λG=>o.cls==.type "type"&&G.mro==.ref C::G.mro.tail&&o.slots.toList==[nF o.slots.toList 0,nF o.slots.toList 1,nF o.slots.toList 2,nF o.slots.toList 3,ac (.builtin "Exception.__new__"),nF o.slots.toList 5]&&
 !G.hasDel&&G.mro.tail.contains (.type "Exception")&&G.mro.tail.contains (.type "BaseException")&&!G.mro.tail.contains (.type "AttributeError")&&!G.mro.tail.contains (.type "NameError")
noncomputable def zv:List ak->Bool
 | []=>am
 | v::r=>if r==[.type "BaseException",.type "object"] then v==.type "Exception" else (sf v).isSome&&zv r
noncomputable def sq (C:ay):Bool:=(clsIn K C).any λG=>zv G.mro
noncomputable def setX (C:ay) (name:aU):Bool:=gC K (.ref C) "__setattr__"==ac (ac (.builtin "object.__setattr__"))&&sq K C&&UU K C name==ac al&&wI K C
noncomputable def EL (C:ay) (name:aU):Bool:=gC K (.ref C) "__getattribute__"==ac (ac (.builtin "BaseException.__getattribute__"))&&gC K (.ref C) "__getattr__"==ac al&&sq K C&&wI K C&&(gC K (.ref C) name).any (noGet K)
def vA (ini:ay) (fd:ew) (an G I:aU) (J P O S:cP):Prop:=nQ K ini=ac fd∧zr K fd=au∧fd.body=.stmts [.Assign [.Attribute (.Name G J) an O] (.Name I P) S]∧fd.params.args.map (·.arg)=[G,I]∧(kO K fd).isSome=au∧(∀ds,kO K fd=ac ds->ds.length≤2)∧
 fd.scope.names.lookup G=ac .local∧fd.scope.names.lookup I=ac .local∧(fd.scope.names.all λp=>decide (p.2≠.cell))=au∧(G==("__debug__":aU))=am∧(I==("__debug__":aU))=am∧
 (IE fd.scope [.Attribute (.Name G J) an O] (.Name I P) S.line)∧(IF fd.scope [.Attribute (.Name G J) an O] (.Name I P) al)
inductive i4 (pe:bD) (st:St) (k:dL->bD->St->Prop) (x:KX):cg->Prop
 | expr {e:aC} {pos:cP} (hs:Mq pe.sc e al pos.line am) (h:E.ev e pe st (λY st1=>k .next pe st1) x):i4 pe st k x (.Expr e pos)
 | assign {t e:aC} {pos:cP} (hs:IE pe.sc [t] e pos.line) (ht:cx t=au) (hw:IF pe.sc [t] e al)
   (h:E.ev e pe st (λv st1=>E.asg t v pe st1 (λpe1 st2=>k .next pe1 st2) x) x):i4 pe st k x (.Assign [t] e pos)
 | swap {e:aC} {pos tp:cP} {names:List aU} {elts:List aC} {kk:ow} (hs:IE pe.sc [.Tuple elts kk tp] e pos.line) (hw:IF pe.sc [.Tuple elts kk tp] e (ac names)) (hn:∀m∈names,pe.sc.names.lookup m=ac .local)
   (h:E.ev e pe st (λv st1=>∃i xs,v=.loc i∧st1[i]? =ac (.tup xs)∧xs.length=names.length∧k .next (((names.zip xs).reverse).foldl (λp q=>p.set q.1 q.2) pe) st1) x):i4 pe st k x (.Assign [.Tuple elts kk tp] e pos)
 | acomp {id:aU} {tp cp pos:cP} {elt tgt iter:aC} {ifs:List aC} {scope:d9} (hs:Mq pe.sc (.ListComp elt [⟨tgt,iter,ifs,0⟩] scope cp) (ac (.Name id tp)) pos.line au) (hl:pe.sc.names.lookup id=ac .local)
   (h:comp E elt tgt iter ifs scope pe st (λv st1=>k .next (pe.set id v) st1) x):i4 pe st k x (.Assign [.Name id tp] (.ListComp elt [⟨tgt,iter,ifs,0⟩] scope cp) pos)
 | ite {t:aC} {b o:List cg} {p:cP} (h:E.evT t pe st (λc st1=>match c with
  | true=>execs E b pe st1 k x
  | false=>execs E o pe st1 k x) x):i4 pe st k x (.If t b o p)
 | ret {e:aC} {p:cP} (h:E.ev e pe st (λv st1=>k (.ret v) pe st1) x):i4 pe st k x (.Return (ac e) p)
 | forZip {tgt e1 e2:aC} {f:aU} {fp cp p:cP} {body:List cg} (hf:f=("zip":aU)) (hs:([e1,e2]:List aC).all cx=au) (hl:pe.sc.names.lookup f=ac .globalImplicit) (hg:jy K f=ac (.ty "zip"))
   (h:tT E pe x [e1,e2] st λvs st2=>∃l d all,vs=[.loc l,.loc d]∧mL l d st2 all∧mM E tgt body (λst=>mL l d st all) all.1 pe st2 k x):i4 pe st k x (.For tgt (.Call (.Name f fp) [e1,e2] [] cp) body [] p)
 | loop {tgt iter:aC} {body:List cg} {p:cP} (hs:nP iter=au) (h:E.ev iter pe st (λiv st1=>∃all,rn st1 iv all∧mM E tgt body (λst=>rn st iv all) all.1 pe st1 k x) x):i4 pe st k x (.For tgt iter body [] p)
 | raise {cls:aU} {cp p1 p2:cP} {arg:aC} {C ini:ay} {fd:ew} {an p0 pp1:aU} {q0 q1 qa qs:cP} (hl:pe.sc.names.lookup cls=ac .globalImplicit) (hd:(cls==("__debug__":aU))=am) (hg:jy K cls=ac (.ref C)) (hx:nS K C=au) (hi:gC K (.ref C) "__init__"=ac (ac (.ref ini))) (hf:KL K (.ref ini)=au)
   (hs:setX K C an=au) (hn:vA K ini fd an p0 pp1 q0 q1 qa qs) (ha:cx arg=au) (hk:Ot K (.ref C)=au)
   (h:E.ev arg pe st (λv st1=>x (st1.length+1) (st1++[.ns [(an,v)],.exc C st1.length])) x):i4 pe st k x (.Raise (ac (.Call (.Name cls cp) [arg] [] p1)) al p2)
 | tri {e:aC} {ep np cp hp tp ap sp p:cP} {cn en t an:aU} {C:ay} (h2:t≠en) (h3:pe.sc.names.lookup en=ac .local) (h4:pe.sc.names.lookup t=ac .local) (h5:pe.sc.names.lookup cn=ac .globalImplicit) (h6:(cn==("__debug__":aU))=am) (h7:(en==("__debug__":aU))=am) (h8:pe.loc.lookup en=al)
   (h9:Mq pe.sc e al ep.line am)
   (h10:IE pe.sc [.Name t tp] (.Attribute (.Name en np) an ap) sp.line) (h11:IF pe.sc [.Name t tp] (.Attribute (.Name en np) an ap) al)
   (h12:jy K cn=ac (.ref C)) (h13:nS K C=au) (h14:EL K C an=au)
   (h:E.ev e pe st (λY st1=>k .next pe st1) (λi st1=>∃d fs pv,st1[i]? =ac (.exc C d)∧st1[d]? =ac (.ns fs)∧fs.lookup an=ac pv∧uD pv=au∧k .next (pe.set t pv) st1)):
   i4 pe st k x (.Try [.Expr e ep] [.ExceptHandler (ac (.Name cn cp)) (ac en) [.Assign [.Name t tp] (.Attribute (.Name en np) an ap) sp] hp] [] [] p)
noncomputable def Cq:Lv:=⟨λe pe st k x=>oQ K E pe st k x e,λe pe st k x=>xc E pe st k x e,λs pe st k x=>i4 K E pe st k x s,λt v pe st k x=>vz K E v pe st k x t,λf args st k x=>lh K E args st k x f⟩
end
noncomputable def RL (K:H8):Nat->Lv
 | 0=>.bot
 | n+1=>Cq K (RL K n)
noncomputable def eS {α:Type} (d:α) (xBoolOp:jD->List aC->cP->α:=λY Y Y=>d) (xBinOp:aC->l6->aC->cP->α:=λY Y Y Y=>d) (xUnaryOp:UW->aC->cP->α:=λY Y Y=>d) (xLambda:q9->aC->d9->cP->α:=λY Y Y Y=>d) (xIfExp:aC->aC->aC->cP->α:=λY Y Y Y=>d) (xDict:List (Option aC)->List aC->cP->α:=λY Y Y=>d) (xListComp:aC->List kz->d9->cP->α:=λY Y Y Y=>d) (xCompare:aC->List ul->List aC->cP->α:=λY Y Y Y=>d) (xCall:aC->List aC->List OT->cP->α:=λY Y Y Y=>d) (xConstant:S4->Nat->cP->α:=λY Y Y=>d) (xAttribute:aC->aU->cP->α:=λY Y Y=>d) (xSubscript:aC->aC->cP->α:=λY Y Y=>d) (xName:aU->cP->α:=λY Y=>d) (xList:List aC->cP->α:=λY Y=>d) (xTuple:List aC->Nat->cP->α:=λY Y Y=>d) (xSlice:Option aC->Option aC->Option aC->cP->α:=λY Y Y Y=>d) (v:aC):α:=@ey (λY=>α) v xBoolOp (λY Y Y=>d) xBinOp xUnaryOp xLambda xIfExp xDict (λY Y Y=>d) xListComp (λY Y Y Y=>d) (λY Y Y Y Y=>d) (λY Y Y Y=>d) (λY Y=>d) (λY Y=>d) (λY Y=>d) xCompare xCall (λY Y Y Y=>d) (λY Y=>d) xConstant xAttribute xSubscript (λY Y=>d) xName xList xTuple xSlice
noncomputable def sS {α:Type} (d:α) (xReturn:Option aC->cP->α:=λY Y=>d) (xAssign:List aC->aC->cP->α:=λY Y Y=>d) (xFor:aC->aC->List cg->List cg->cP->α:=λY Y Y Y Y=>d) (xIf:aC->List cg->List cg->cP->α:=λY Y Y Y=>d) (xRaise:Option aC->Option aC->cP->α:=λY Y Y=>d) (xTry:List cg->List rW->List cg->List cg->cP->α:=λY Y Y Y Y=>d) (xExpr:aC->cP->α:=λY Y=>d) (v:cg):α:=@oy (λY=>α) v (λY Y Y Y Y Y Y Y Y Y=>d) (λY Y Y Y Y Y Y Y Y Y=>d) (λY Y Y Y Y Y Y Y Y Y Y=>d) xReturn (λY Y=>d) xAssign (λY Y Y Y Y Y Y=>d) (λY Y Y Y=>d) (λY Y Y Y Y=>d) xFor (λY Y Y Y Y=>d) (λY Y Y Y=>d) xIf (λY Y Y=>d) (λY Y Y=>d) (λY Y Y=>d) xRaise xTry (λY Y Y Y Y=>d) (λY Y Y=>d) (λY Y=>d) (λY Y Y Y=>d) (λY Y=>d) (λY Y=>d) xExpr (λY=>d) (λY=>d) (λY=>d)
noncomputable def lS {α β:Type} (d:β) (x0:β:=d) (x1:α->β:=λY=>d) (x2:α->α->β:=λY Y=>d) (x3:α->α->α->β:=λY Y Y=>d) (v:List α):β:=
 @aX α (λY=>β) v x0 λa r=>@aX α (λY=>β) r (x1 a) λb r=>@aX α (λY=>β) r (x2 a b) λc r=>@aX α (λY=>β) r (x3 a b c) λY Y=>d
noncomputable def pR:List String:=["bytearray.__contains__", "bytearray.__mod__", "bytearray.__rmod__", "_struct.pack_into.held", "bytearray.find.held"]++Builtin.Bytes.decodersThatHold
noncomputable def hJ:D9->Bool
 | .builtin id _=>pR.contains id
 | _=>am
structure wU (N:vf->Prop):Prop where
 enter:∀{Γ:vf} {c:D9} {hd:Option ak} {p:cP},N Γ->hJ c=am->N (Γ.enter c hd p)
 goto:∀{Γ:vf} {c:D9},N Γ->hJ c=am->N (Γ.goto c)
def fq (G:vf):Prop:=hJ G.code=am∧∀c∈G.below,hJ c.1=am
theorem fq.clo:wU fq:=⟨λh G=>⟨G,λx I=>(bj.mp I).elim (λe=>e▸h.1) (h.2 x)⟩,λh G=>⟨G,h.2⟩⟩
theorem rM:wU λY=>True:=⟨λY Y=>trivial,λY Y=>trivial⟩
def fE (N:vf->Prop) {α:Type} (M:l4) (A:bw) (t:iR α) (Q:α->aj->Prop) (E:ak->aj->Prop) (s:aj):Prop:=
 ∀G p,G.In A->N G->wp M G t (λa Y W=>Q a W) (λe Y W=>E e W) p s
def fR (N:vf->Prop) (M:l4) (A:bw) (c:D9) (R:jk->aj->Prop) (s:aj):Prop:=
 ∀G p,G.code=c->G.Below A->N G->wpCode M G R p s
section
variable {N:vf->Prop} {α β:Type} {M:l4} {A:bw} {E:ak->aj->Prop} {s:aj} {env:Env}
theorem fS {t:iR α} {Q:α->aj->Prop} (h:aw M A t Q E s):fE N M A t Q E s:=λI p G Y=>h I p G
theorem sr {c:D9} {R:jk->aj->Prop} (h:gk M A c R s):fR N M A c R s:=λJ p I G Y=>h J p I G
theorem jz {t:iR α} {Q:α->aj->Prop} (h:fE (λY=>True) M A t Q E s):aw M A t Q E s:=λI p G=>h I p G trivial
theorem xd {c:D9} {R:jk->aj->Prop} (h:fR (λY=>True) M A c R s):gk M A c R s:=λJ p I G=>h J p I G trivial
theorem cQ {a:α} {Q:α->aj->Prop} (h:Q a s):fE N M A (pure a) Q E s:=λY Y Y Y=>h
theorem cf {t:iR α} {Q J:α->aj->Prop} {I:ak->aj->Prop} (h:fE N M A t Q E s)
  (V:∀a s,Q a s->J a s) (P:∀e s,E e s->I e s):fE N M A t J I s:=
 λO p G S=>qw M O t (λa Y s=>V a s) (λe Y s=>P e s) p s (h O p G S)
theorem bY {m:iR α} {f:α->iR β} {Q:β->aj->Prop} (h:fE N M A m (λa W=>fE N M A (f a) Q E W) E s):
  fE N M A (m>>=f) Q E s:=λI p G O=>by
 refine ag (iR.wp_bind' ..) (qw M I m (λa J W h'=>h' I J G O) (λY Y Y h'=>h') p s (h I p G O))
theorem cF {m:iR α} {f:α->iR β} {Q:β->aj->Prop} (h:aw M A m (λa W=>fE N M A (f a) Q E W) E s):fE N M A (m>>=f) Q E s:=bY (fS h)
theorem gf {vs:List ak} {m:iR α} {Q:α->aj->Prop} (h:fE N M A m Q E s):fE N M A (lx vs m) Q E s:=
 λI p G O=>by refine ag (iR.wp_holding ..) ?_;exact h I p G O
theorem EM {vs:List ak} {m:iR α} {Q:α->aj->Prop} (h:fE N M A m Q E s):fE N M A (m.keep vs) Q E s:=
 λI p G O=>by refine ag (iR.wp_keep ..) ?_;exact h I p G O
theorem kQ {m:iR α} {k:ak->iR Unit} {Q:α->aj->Prop}
  (h:fE N M A m Q (λe W=>aw M A (k e) (λY I=>E e I) E W) s):fE N M A (m.onRaise k) Q E s:=λJ p G O=>by
 refine ag (iR.wp_onRaise ..) (qw M J m (λY Y Y h'=>h') (λe P W h'=>h' J P G) p s (h J p G O))
theorem zw (C:wU N) {c:D9} {Q:Ea->aj->Prop} (I:hJ c=am)
  (J:fR N M A c (λr W=>match r with | .ok f=>Q f W | .error e=>oz M A env E e W) s):fE N M A (runOwn c env) Q E s:=by
 refine kQ λP p G O=>ag (iR.wp_run ..) (J _ p rfl (G.enter c al p (by intro x;exact n1 x)) (C.enter O I))
theorem li (C:wU N) {f:ak} {pos:List ak} {kw:List (aU × ak)} {Q:ak->aj->Prop}
  (I:fR N M A (.call f ⟨pos,kw⟩) (λr W=>match r with | .ok (.ret v)=>Q v W | .ok _=>False | .error e=>E e W) s):
  fE N M A (call f pos kw) Q E s:=λJ p G O=>by
 refine ag (iR.wp_runValue ..) (I _ p rfl (G.enter _ al p (by intro x;exact n1 x)) (C.enter O rfl))
theorem jd {c:D9} {R J:jk->aj->Prop} (h:fR N M A c R s) (I:∀r s,R r s->J r s):fR N M A c J s:=
 λS p P G O=>wpCode_mono I (h S p P G O)
theorem fJ (C:wU N) {c:D9} {R:jk->aj->Prop}
  (h:fE N M (A.under c) (M.den c) (λG W=>match G with | .done f=>R (.ok f) W | .again O=>O.quiet=au∧hJ O=am∧fR N M A O R W)
   (λe W=>R (.error e) W) s):fR N M A c R s:=λJ p S I P=>by
 rw [wpCode_iff_wp];refine ag (S ..) (qw M J _ (λG V W h'=>?_) (λY Y Y h'=>h') p s (h J p (S▸I.in) P));induction G with
 | done f=>exact h'
 | again O=>exact ⟨h'.1,h'.2.2 (J.goto O) V rfl (I.goto O) (C.goto P h'.2.1)⟩
theorem zx (C:wU N) {c:D9} {R:jk->aj->Prop} (p:c.quiet=au) (S:hJ c=am) (I:Nat->aj->Prop)
  (J:∀n s,I n s->fE N M (A.under c) (M.den c)
   (λG W=>match G with | .done f=>R (.ok f) W | .again O=>(O=c∧∃m,m <n∧I m W)∨(O.quiet=au∧hJ O=am∧fR N M A O R W)) (λe W=>R (.error e) W) s)
  (n:Nat) (h:I n s):fR N M A c R s:=by
 induction n using Nat.strongRecOn generalizing s with
 | ind n y=>
  refine fJ C (cf (J n s h) (λG W P=>?_) λY Y h'=>h');induction G with
  | done f=>exact P
  | again O=>
   rcases P with ⟨rfl,m,V,l⟩ | P
   ·exact ⟨p,S,y m V l⟩
   ·exact P
theorem Cr {m:iR α} {Q:α->aj->Prop} (h:fE N M A m Q (rh M A env E) s):fE N M A (m.onRaise λx=>do wJ x env;yX x) Q E s:=
 kQ (cf h (λY Y q=>q) λY Y G=>aa (aP G (λY Y e=>wpAny_theTreesLotGoes e) λY Y e=>e))
theorem su {st rest} {Q:Ea->aj->Prop} (h:fE N M A (exec st env) (λf W=>match f with | .next=>fE N M A (gw rest env) Q E W | f=>Q f W) E s):
  fE N M A (gw (st::rest) env) Q E s:=by
 refine ag (execs_cons ..) (bY (cf h (λf W h'=>?_) λY Y z=>z));induction f <;> first | exact h' | exact cQ h'
theorem My {test body orelse pos} {Q:Ea->aj->Prop}
  (h:fE N M A (tI test env (eM test env)) (λb G=>if b then fE N M A (gw body env) Q E G else fE N M A (gw orelse env) Q E G) E s):
  fE N M A (exec (.If test body orelse pos) env) Q E s:=by
 refine ag (exec_If ..) (cF (cr (bY (cf h (λb W h'=>?_) λY Y z=>z))));induction b <;> exact h'
theorem zy {e pos} {Q:Ea->aj->Prop} (h:fE N M A (eM e env) (λv=>Q (.ret v)) E s):fE N M A (exec (.Return (ac e) pos) env) Q E s:=by refine ag (exec_Return_some ..) ?_;exact cF (cr (bY (cf h (λY Y z=>cQ z) λY Y z=>z)))
theorem zz {W:List aC} {value:aC} {pos:cP} {Q:Ea->aj->Prop}
  (h:fE N M A (eM value env) (λv G=>fE N M A (assignAll v ((jl W env).map (·.2))) (λY=>Q .next) E G) E s)
  (J:ef W value pos.line env=pure am) (f:dN W value env=pure al):fE N M A (exec (.Assign W value pos) env) Q E s:=by
 refine ag (exec_Assign_arm ..) (cF (cr ?_));refine ag (J ..) (bY (cQ ?_));refine ag (if_neg (by decide) ..) (bY (cf h (λv G I=>?_) λY Y x=>x));refine ag (f ..) (bY (cQ ?_));exact bY (cf I (λY Y x=>cQ x) λY Y x=>x)
theorem IH (C:wU N) {target iter body orelse pos} {Q:Ea->aj->Prop}
  (h:fE N M A (eM iter env) (λx G=>aw M A (Ou x) (λit I=>
   fR N M A (.forLoop target it body orelse env) (λr W=>match r with | .ok f=>Q f W | .error e=>oz M A env E e W) I) E G) E s)
  (P:∀x,OU iter env x=pure x):fE N M A (exec (.For target iter body orelse pos) env) Q E s:=by
 refine ag (exec_For ..) (cF (cr (bY (cf h (λx G J=>?_) λY Y z=>z))));refine ag (P ..) (bY (cQ (cF (cr (bY (gf (fS (aP J (λit I O=>zw C rfl O) λY Y h'=>h'))))))))
theorem sw {pos:cP} {e:aC} {rest:List aC} {Q:List ak->aj->Prop}
  (h:fE N M A (eM e env) (λv G=>fE N M A (mA (iU pos (dY rest env))) (λvs I=>Q (v::vs) I) E G) E s)
  (P:dY (e::rest) env=(am,eM e env)::dY rest env):fE N M A (mA (iU pos (dY (e::rest) env))) Q E s:=by
 refine ag (P ..) ?_;show fE N M A (do
  let v ← eM e env
  let here ← (pure [v]:iR (List ak))
  return here++(← lx here (mA (iU pos (dY rest env))))) Q E s
 exact bY (cf h (λv G J=>bY (cQ (bY (gf (cf J (λvs I O=>cQ O) λY Y x=>x))))) λY Y x=>x)
theorem Cs {G:List aC} {k:Nat} {pos:cP} {Q:ak->aj->Prop}
  (h:fE N M A (mA (iU pos (dY G env))) (λvs I=>aw M A (S5 vs) Q E I) E s):fE N M A (eM (.Tuple G k pos) env) Q E s:=by
 exact cF (cr (bY (cf h (λY Y z=>fS z) λY Y z=>z)))
theorem vB {P:bM->Prop} {pos:cP} {f:ak} {first:List ak} {Q:ak->aj->Prop} {args:List (Bool × iR ak)} {G:List (Option aU × iR ak)} (O:(args.any (·.1) ||G.any (·.1.isNone))=am)
  (l:∀h,P h->∃k,(k=UX∨k=S6∨k=OV)∧um M h (keeperOf f) k)
  (h:fE N M A (S7 f au args G) (λa I=>P I.heap∧fE N M A (call f (first++a.pos) a.kw) Q E I) E s):fE N M A (Ba pos f first args G) Q E s:=by
 refine bY (gf (cf h (λa I J=>cF (cr ?_)) λY Y x=>x));refine ae (l _ J.1) λk V L=>?_;dsimp only;refine ag O (cF (L.here ?_));have tail:∀{t:iR ak},fE N M A t Q E I->fE N M A (t>>=λr=>lx [r] point>>=λY=>pure r) Q E I:=
  λy=>bY (cf y (λr W p=>fS (aa (bc (qx (af p))))) λY Y x=>x)
 have S (mk:ak):fE N M A (callMarked mk f (first++a.pos) a.kw) Q E I:=by exact EM J.2
 rcases V with rfl | rfl | rfl <;> dsimp only <;> first | exact tail J.2 | exact kV (λY=>tail J.2) λY=>tail (S _)
end
section
variable {N:vf->Prop} {prog:i7} {w:jt} {A:bw} {E:ak->aj->Prop} {R:jk->aj->Prop} {s:aj} {env:Env}
theorem zA (C:wU N) {body:List cg}
  (h:fE N (aq prog w) (A.deeper env) (gw body env) (λf W=>R (.ok (.ret (match f with | .ret v=>v | _=>.none))) W)
   (λe W=>aw (aq prog w) (A.deeper env) (UY env e) (λY G=>R (.error e) G) (λI G=>R (.error I) G) W) s):
  fR N (aq prog w) A (.func body env) R s:=by
 refine fJ C ?_;show fE N _ (A.deeper env) (do point;match ← (gw body env).onRaise (UY env) with | .ret v=>ret v | _=>ret .none) _ _ s;refine cF (qx (bY (kQ (cf h (λf W h'=>?_) λY Y h'=>h'))));induction f <;> exact cQ h'
theorem ny (C:wU N) {a:ay} {args:UZ} {o:Obj} {fd:ew} {body:List cg} (P:A.depth <qz) (ho:s.heap.get? a=ac o)
  (l:o.data=.func fd) (W:fd.scope.isCoroutine=am) (S:fd.scope.isGenerator=am) (O:fd.body=.stmts body) (y:s.heap.CodeRec fd.code fd.qualname)
  (h:aw (aq prog w) A.in1 (bindArgs fd args) (λbinds J=>
   aw (aq prog w) A.in1 (newFunctionEnv fd.scope fd.globals fd.closure binds (fd.qualname++ ".<locals>.") (ac a) fd.code al fd.builtins)
    (λenv G=>G.heap.NoLimit∧fR N (aq prog w) A (.func body env) R G) (λe r=>R (.error e) r) J) (λe r=>R (.error e) r) s):
  fR N (aq prog w) A (.call (.ref a) args) R s:=by
 refine fJ C (fS ?_);show aw _ A.in1 (callAny (.ref a) args) _ _ s;refine aa (gD ho ?_);refine fI y λc oc vs tq z p f hq=>?_;clear y;dsimp only;refine ag l ?_;unfold callFunction;dsimp only;refine ag W (ag S (ag O (ag z ?_)));dsimp only;rw [z] at h;refine aa (m:=OW (.ref c) 1) (dp p f hq (aa (af ?_)));exact aa (aP h (λbinds J V=>aa (aP V (λenv G I=>aa (wpAny_enterFrame I.1 P
  (af ⟨rfl,rfl,I.2⟩))) λY Y h'=>h')) λY Y h'=>h')
theorem kX (C:wU N) {id:String} {args:UZ} {b:Builtin} (I:l7 un id=ac b)
  (h:fE N (aq prog w) (A.under (.builtin id args)) (b args)
   (λG W=>match G with | .done f=>R (.ok f) W | .again c'=>c'.quiet=au∧hJ c'=am∧fR N (aq prog w) A c' R W) (λe W=>R (.error e) W) s):
  fR N (aq prog w) A (.builtin id args) R s:=by
 refine fJ C ?_;show fE N _ _ (match l7 un id with | some b=>b args | none=>unsupported ((withoutEnding? id "#data").getD id)) _ _ s;refine ag (I ..) h
theorem jZ (C:wU N) {id:String} {args:UZ} (V:(U0 id args).quiet=au) (J:hJ (.builtin id args)=am)
  (h:aw (aq prog w) A.in1 (j8 id args) (λY G=>fR N (aq prog w) A (.builtin id args) R G) (λe W=>R (.error e) W) s):
  fR N (aq prog w) A (.call (.builtin id) args) R s:=by
 refine fJ C (fS ?_);show aw _ A.in1 (do j8 id args;again (.builtin id args)) _ _ s;exact aa (aP h (λY G I=>af ⟨V,J,I⟩) λY Y h'=>h')
theorem tU (C:wU N) {target it body orelse} (I:Nat->aj->Prop)
  (y:∀n s,I n s->fE N (aq prog w) A (k9 it) (λr O=>match r with
   | none=>aw (aq prog w) A (gw orelse env) (λf G=>R (.ok f) G) (rh (aq prog w) A env λe W=>R (.error e) W) O
   | some v=>aw (aq prog w) A (i9 target it v) (λY P=>
     aw (aq prog w) A (assign target env v) (λY V=>fE N (aq prog w) A (gw body env) (λf G=>match f with
      | .next | .cont=>∃m,m <n∧I m G
      | .brk=>R (.ok .next) G
      | .ret v=>R (.ok (.ret v)) G) (rh (aq prog w) A env λe W=>R (.error e) W) V) (rh (aq prog w) A env λe W=>R (.error e) W) P) (rh (aq prog w) A env λe W=>R (.error e) W) O) (rh (aq prog w) A env λe W=>R (.error e) W) s)
  (n:Nat) (h:I n s):fR N (aq prog w) A (.forLoop target it body orelse env) R s:=by
 refine zx C rfl rfl I (λn s z=>?_) n h;show fE N _ A ((forTurn target it body orelse env).onRaise (λx=>do wJ x env;yX x)) _ _ s;refine Cr (cF (cr (bY (kQ (cf (y n s z) (λr O S=>?_) λY Y h'=>cr h')))));induction r with
 | none=>exact cQ (.inr ⟨rfl,rfl,sr (codeAny_block S)⟩)
 | some v=>
  refine cF (aP S (λY P l=>?_) λY Y h'=>h');refine cF (aP l (λY V p=>bY (cf p (λf G J=>?_) λY Y h'=>h')) λY Y h'=>h');induction f with
  | next=>exact cQ (.inl ⟨rfl,J⟩)
  | cont=>exact cQ (.inl ⟨rfl,J⟩)
  | brk=>exact cQ J
  | ret v=>exact cQ J
end
theorem xe {A:bw} {M:l4} {E:ak->aj->Prop} {s:aj} {a:ay} {Q:Bool->aj->Prop} (h:Q am s):fE fq M A (Builtin.Bytes.exported (.ref a)) Q E s:=λy p W P=>by
 have key:∀(f:D9 × cP->Bool),(∀c q,hJ c=am->f (c,q)=am)->∀l:List (D9 × cP),(∀c∈l,hJ c.1=am)->List.any l f=am:=by intro f S l hl;rw [List.any_eq_false];rintro ⟨c,q⟩ G;refine ag (S c q (hl _ G) ..) aZ
 have e:∀b,b=am->Q b s:=λb J=>J▸h;refine e _ (key _ (λc q J=>?_) _ (λc G=>by
  refine bk (bj.mp G) (λO=>?_) λG=>?_
  ·subst O;exact P.1
  ·exact P.2 c G))
 induction c with
 | builtin id args=>
  have G:pR.contains id=am:=J;clear J;have I:∀x,pR.contains x=au->id≠x:=λx V e=>nB ((e▸G).symm.trans V);delta Builtin.Bytes.exported.match_1;show (if h:id= "bytearray.__contains__" then _ else _)=am;refine ag (dif_neg (I "bytearray.__contains__" rfl) ..) (ag (dif_neg (I "bytearray.__mod__" rfl) ..) (ag (dif_neg (I "bytearray.__rmod__" rfl) ..) (ag (dif_neg (I "_struct.pack_into.held" rfl) ..) (ag (dif_neg (I "bytearray.find.held" rfl) ..) ?_))));obtain ⟨pos,kw⟩:=args;induction pos using aX with
  | nil=>rfl
  | cons v r=>unfold pR at G;rw [List.contains_append,Bool.or_eq_false_iff] at G;show (_&&_)=am;exact ag (G.2 ..) (ag (S8 ..) rfl)
 | _=>rfl
set_option genInjectivity false in
set_option genSizeOf false in
set_option genCtorIdx false in
inductive TV where
 | none | bool (b:Bool) | int (i:Int) | str (s:aU) | bytes (b:Array UInt8)
 | ref (a:ay) | bi (id:String) | ty (n:String)
 | barr (b:Array UInt8) | range (n:Nat) | vals (j:Nat) | loc (j:Nat)
 | scr (xs:List TV) | lst (xs:List TV) | tup (xs:List TV) | obj (C:ay) (ns:List aU) (xs:List TV)
 | dct (ks:List bJ) (xs:List TV) | opq | lam (body:aC) (scope:d9) (cells:List (aU × Nat))
 deriving Nonempty
noncomputable def TV.ctorIdx (x:TV):Nat:=@TV.casesOn (λY=>Nat) x 0 (λY=>1) (λY=>2) (λY=>3) (λY=>4) (λY=>5) (λY=>6) (λY=>7) (λY=>8) (λY=>9) (λY=>10) (λY=>11) (λY=>12) (λY=>13) (λY=>14) (λY Y Y=>15) (λY Y=>16) 17 (λY Y Y=>18)
set_option genInjectivity false in
set_option genSizeOf false in
set_option genCtorIdx false in
inductive MO where
 | inst (C:ay) (fs:List (aU × TV)) | dict (es:List (bJ × TV × TV)) (ver:Nat) (get:bJ->Option (TV × TV)) | list (xs:List TV) | cell (v:Option TV) | codes (P:ay) (used:List (Nat × Nat))
 deriving Nonempty
noncomputable def MO.ctorIdx (x:MO):Nat:=@MO.casesOn (λY=>Nat) x (λY Y=>0) (λY Y Y=>1) (λY=>2) (λY=>3) (λY Y=>4)
def br (b:Bool) (p q:Prop):Prop:=match b with
 | true=>p
 | false=>q
def aW (b:Bool) (p:Prop):Prop:=match b with
 | true=>p
 | false=>False
def bV {α:Type} (o:Option α) (n:Prop) (s:α->Prop):Prop:=match o with
 | none=>n
 | some a=>s a
noncomputable def tS {α:Type} (d:α) (xnone:α:=d) (xbool:Bool->α:=λY=>d) (xint:Int->α:=λY=>d) (xstr:aU->α:=λY=>d) (xbytes:Array UInt8->α:=λY=>d) (xref:ay->α:=λY=>d) (xbi:String->α:=λY=>d) (xty:String->α:=λY=>d) (xbarr:Array UInt8->α:=λY=>d) (xrange:Nat->α:=λY=>d) (xvals:Nat->α:=λY=>d) (xloc:Nat->α:=λY=>d) (xscr:List TV->α:=λY=>d) (xlst:List TV->α:=λY=>d) (xtup:List TV->α:=λY=>d) (xobj:ay->List aU->List TV->α:=λY Y Y=>d) (xdct:List bJ->List TV->α:=λY Y=>d) (xlam:aC->d9->List (aU × Nat)->α:=λY Y Y=>d) (v:TV):α:=@TV.casesOn (λY=>α) v xnone xbool xint xstr xbytes xref xbi xty xbarr xrange xvals xloc xscr xlst xtup xobj xdct d xlam
noncomputable def oS {α:Type} (d:α) (xinst:ay->List (aU × TV)->α:=λY Y=>d) (xdict:List (bJ × TV × TV)->Nat->(bJ->Option (TV × TV))->α:=λY Y Y=>d) (xlist:List TV->α:=λY=>d) (xcell:Option TV->α:=λY=>d) (xcodes:ay->List (Nat × Nat)->α:=λY Y=>d) (v:MO):α:=@MO.casesOn (λY=>α) v xinst xdict xlist xcell xcodes
noncomputable def iS {α:Type} (i:Int) (f g:Nat->α):α:=@Int.casesOn (λY=>α) i f g
def gT (v:TV) (f:Int->Prop):Prop:=tS False (v:=v) (xint:=f)
def lF (v:TV) (f:Bool->Prop):Prop:=tS False (v:=v) (xbool:=f)
def vC (v:TV) (f:aU->Prop):Prop:=tS False (v:=v) (xstr:=f)
def sx (v:TV) (f:Array UInt8->Prop):Prop:=tS False (v:=v) (xbytes:=f)
def pT (v:TV) (f:List TV->Prop):Prop:=tS False (v:=v) (xlst:=f)
def vD (v:TV) (f:List TV->Prop):Prop:=tS False (v:=v) (xtup:=f)
def kY (v:TV) (f:Nat->Prop):Prop:=tS False (v:=v) (xloc:=f)
def RM (v:TV) (f:Array UInt8->Prop):Prop:=tS False (v:=v) (xbarr:=f)
def Pz {α:Type} (v:List α) (p:Prop):Prop:=lS False (v:=v) (x0:=p)
def Ej {α:Type} (v:List α) (f:α->Prop):Prop:=lS False (v:=v) (x1:=f)
def II {α:Type} (v:List α) (f:α->α->Prop):Prop:=lS False (v:=v) (x2:=f)
def vE (v:MO) (f:List (bJ × TV × TV)->Nat->(bJ->Option (TV × TV))->Prop):Prop:=oS False (v:=v) (xdict:=f)
def vF (v:MO) (f:List TV->Prop):Prop:=oS False (v:=v) (xlist:=f)
def EN (v:MO) (f:Option TV->Prop):Prop:=oS False (v:=v) (xcell:=f)
def IJ (v:MO) (f:ay->List (Nat × Nat)->Prop):Prop:=oS False (v:=v) (xcodes:=f)
def EO (v:MO) (f:ay->List (aU × TV)->Prop):Prop:=oS False (v:=v) (xinst:=f)
noncomputable def Lh {α:Type} (l:List α):Option α:=lS al (v:=l) (x1:=λa=>ac a)
noncomputable def T5 {α:Type} (l:List α):Option (α × α):=lS al (v:=l) (x2:=λa b=>ac (a,b))
noncomputable def mO (e:aC):Option (aU × cP):=eS al (v:=e) (xName:=λs p=>ac (s,p))
noncomputable def zB (e:aC):Option (aC × aU × cP):=eS al (v:=e) (xAttribute:=λo s p=>ac (o,s,p))
noncomputable def zC (e:aC):Option (aC × List aC × List OT × cP):=eS al (v:=e) (xCall:=λf a k p=>ac (f,a,k,p))
noncomputable def zD (e:aC):Option (aC × List kz × d9 × cP):=eS al (v:=e) (xListComp:=λf a k p=>ac (f,a,k,p))
noncomputable def EP (s:cg):Option (aC × cP):=sS al (v:=s) (xExpr:=λe p=>ac (e,p))
noncomputable def oR (s:cg):Option (List aC × aC × cP):=sS al (v:=s) (xAssign:=λt e p=>ac (t,e,p))
noncomputable def By (s:cg):Option (aU × cP × aU × cP × aC × cP):=(oR s).bind λq=>(Lh q.1).bind λt=>(zB t).bind λa=>(mO a.1).map λy=>(y.1,y.2,a.2.1,a.2.2,q.2.1,q.2.2)
noncomputable def Bz (a b:Option aC):Option (aU × aC):=match b with
 | none=>a.bind λc=>(zC c).bind λq=>(mO q.1).bind λy=>(Lh q.2.1).bind λarg=>match q.2.2.1.isEmpty with
  | true=>ac (y.1,arg)
  | false=>al
 | some _=>al
set_option genInjectivity false in
structure zE where
 e:aC
 ep:cP
 cn:aU
 en:aU
 t:aU
 tp:cP
 en':aU
 np:cP
 an:aU
 ap:cP
 sp:cP
 deriving Nonempty
noncomputable def Mz (h:rW):Option (aU × aU × aU × cP × aU × cP × aU × cP × cP):=@rW.casesOn (λY=>Option _) h λty en G Y=>ty.bind λty=>en.bind λen=>(mO ty).bind λcn=>(Lh G).bind λs=>(oR s).bind λq=>(Lh q.1).bind λt=>(mO t).bind λt=>(zB q.2.1).bind λa=>(mO a.1).map λy=>(cn.1,en,t.1,t.2,y.1,y.2,a.2.1,a.2.2,q.2.2)
noncomputable def Li (body:List cg) (I:List rW) (f G:List cg):Option zE:=match f.isEmpty&&G.isEmpty with
 | true=>(Lh body).bind λb=>(EP b).bind λe=>(Lh I).bind λh=>(Mz h).map λq=>⟨e.1,e.2,q.1,q.2.1,q.2.2.1,q.2.2.2.1,q.2.2.2.2.1,q.2.2.2.2.2.1,q.2.2.2.2.2.2.1,q.2.2.2.2.2.2.2.1,q.2.2.2.2.2.2.2.2⟩
 | false=>al
noncomputable def EQ (v:PV):Option TV:=@PV.casesOn (λY=>Option TV) v (ac .none) (λb=>ac (.bool b)) (λi=>ac (.int i)) (λs=>ac (.str s)) (λb=>ac (.bytes b)) (λY=>al) (λa=>ac (.ref a)) (λi=>ac (.bi i)) (λn=>ac (.ty n))
noncomputable def eY (v:TV):Option AK:=tS al (v:=v) (xint:=λi=>ac (.int i)) (xstr:=λs=>ac (.str s)) (xbytes:=λb=>ac (.bytes b))
noncomputable def rp (v:TV):Option bJ:=tS ((eY v).map .atom) (v:=v) (xtup:=λxs=>(dn (xs.map eY)).map .tup)
set_option genInjectivity false in
structure aB where
 sc:d9
 loc:List (aU × TV)
 cells:List (aU × (Nat ⊕ TV))
 tab:Option Nat
 deriving Nonempty
noncomputable abbrev VX:=ay->aU->TV->List MO->Prop
set_option genCtorIdx false in
inductive aO where
 | next | ret (v:TV)
 deriving Nonempty
noncomputable def aO.ctorIdx (x:aO):Nat:=@aO.casesOn (λY=>Nat) x 0 (λY=>1)
noncomputable abbrev VK:=TV->List MO->Prop
noncomputable abbrev Ct:=List TV->List MO->Prop
set_option genInjectivity false in
structure rt where
 params:List aU
 dflts:List PV
 body:List cg
 scope:d9
 tab:Bool
 fz:Bool
 deriving Nonempty
set_option genInjectivity false in
structure lB where
 glob:aU->Option PV
 fn:ay->Option rt
 ini:ay->Option (ay × Bool)
 meth:ay->aU->Option ay
 prop:ay->aU->Option ay
 fld:ay->aU->Bool
 set:ay->aU->Bool
 keep:ay->Bool
 exn:ay->Option aU
 muts:cP->Bool
 deriving Nonempty
set_option genInjectivity false in
structure fX where
 lev:Nat
 ev:aC->aB->List MO->VK->VX->Prop
 evT:aC->aB->List MO->(Bool->List MO->Prop)->VX->Prop
 exec:cg->aB->List MO->(aO->aB->List MO->Prop)->VX->Prop
 asg:aC->TV->aB->List MO->(aB->List MO->Prop)->VX->Prop
 call:TV->List TV->List MO->VK->VX->Prop
 ini:ay->ay->List TV->List MO->(List (aU × TV)->List MO->Prop)->Prop
 fill:ay->aU->cg->aB->List (aU × TV)->List MO->(List (aU × TV)->List MO->Prop)->Prop
 deriving Nonempty
noncomputable def fX.bot:fX:=⟨0,λY Y Y Y Y=>False,λY Y Y Y Y=>False,λY Y Y Y Y=>False,λY Y Y Y Y Y=>False,λY Y Y Y Y=>False,λY Y Y Y Y=>False,λY Y Y Y Y Y Y=>False⟩
noncomputable def pU {α:Type} (t:iR α):Option α:=@iR.casesOn α (λY=>Option α) t (λo=>ac o) (λY=>al) (λY=>al) (λY=>al) (λY Y=>al) (λY Y=>al) (λY Y Y=>al) (λY Y Y Y=>al) (λY Y=>al) (λY Y=>al) (λY Y=>al) (λY Y=>al) (λY=>al) (λY=>al) (λY Y Y=>al) (λY Y Y=>al) (λY Y Y Y Y=>al) (λY Y=>al) (λY Y=>al) (λY Y=>al) (λY Y Y Y=>al) (λY Y Y Y=>al) (λY=>al) (λY Y=>al) (λY=>al) (λY Y Y Y Y=>al)
noncomputable def rN (sc:d9):Bool:=sc.kind==.function&&sc.names.all λp=>p.2 !=.cell
noncomputable def fc (sc:d9):Env:={scope:=sc,locals:=0,globals:=0,cells:=[],code:=.none}
noncomputable def lG {α:Type} [DecidableEq α] (t:iR α) (a:α):Bool:=pU t==ac a
section
variable (D:lB) (E:fX)
def tV (ve:aB) (x:VX):List aC->List MO->Ct->Prop
 | [],T,k=>k [] T
 | e::r,T,k=>aW (cx e) (E.ev e ve T (λv T1=>tV ve x r T1 λvs G=>k (v::vs) G) x)
def ER (c:Nat ⊕ TV) (T:List MO) (k:VK):Prop:=match c with
 | .inl c=>bV T[c]? False λo=>EN o (λv=>bV v False λv=>k v T)
 | .inr v=>k v T
def Lj (id:aU) (ve:aB) (T:List MO) (k:VK):Prop:=bV (ve.sc.names.lookup id) False λS=>@Rh (λY=>Prop) S (bV (ve.loc.lookup id) False λv=>k v T) (bV (ve.cells.lookup id) False λc=>ER c T k) (aW (!(id==("__classdict__":aU))) (bV (ve.cells.lookup id) False λc=>ER c T k)) False (bV (D.glob id) False λv=>bV (EQ v) False λv=>k v T)
def BA (ve:aB) (x:VX) (op:jD):List aC->List MO->VK->Prop
 | [],_,_=>False
 | e::r,T,k=>match r with
  | []=>E.ev e ve T k x
  | _::_=>E.ev e ve T (λv T1=>lF v (λb=>match op with
    | .And=>br b (BA ve x op r T1 k) (k (.bool am) T1)
    | .Or=>br b (k (.bool au) T1) (BA ve x op r T1 k))) x
def IK (ve:aB) (x:VX) (op:jD):List aC->List MO->(Bool->List MO->Prop)->Prop
 | [],T,k=>k (match op with | .And=>au | .Or=>am) T
 | e::r,T,k=>E.evT e ve T (λb T1=>match op with
   | .And=>br b (IK ve x op r T1 k) (k am T1)
   | .Or=>br b (k au T1) (IK ve x op r T1 k)) x
def mP (a b:TV) (k:Int->Int->Prop):Prop:=gT a (λi=>gT b (λj=>k i j))
def Cu (op:l6) (a b:TV) (T:List MO) (k:VK):Prop:=@l6.casesOn (λY=>Prop) op
 (tS False (v:=a) (xint:=λi=>gT b (λj=>k (.int (i+j)) T)) (xlst:=λxs=>pT b (λG=>aW (aH (xs.length+G.length) 1000) (k (.lst (xs++G)) T))))
 (mP a b λi j=>k (.int (i - j)) T)
 (mP a b λi j=>aW (bU i.natAbs (2 ^ 60)) (aW (bU j.natAbs (2 ^ 60)) (k (.int (i*j)) T))) False False
 (mP a b λi j=>aW (bU 0 j.toNat) (aW (bU j.natAbs (2 ^ 60)) (k (.int (i.fmod j)) T))) False False False False False False
 (mP a b λi j=>aW (bU 0 j.toNat) (aW (bU j.natAbs (2 ^ 60)) (k (.int (i.fdiv j)) T)))
noncomputable def lH (xs G:List TV):Option Bool:=(dn (xs.map eY)).bind λas=>(dn (G.map eY)).map λbs=>decide (as=bs)
noncomputable def mf (xs G:List TV):Bool:=aH xs.length 1000&&aH G.length 1000
def IL (xs G:List TV) (k:Bool->Prop):Prop:=aW (mf xs G) (br (b9 xs.length G.length) (bV (lH xs G) False k) (k am))
def Sp (T:List MO) (a b:TV) (k:Bool->Prop):Prop:=tS False (v:=a) (xbool:=λp=>lF b (λq=>k (p==q))) (xint:=λi=>gT b (λj=>k (i==j))) (xstr:=λi=>vC b (λj=>k (i==j))) (xbytes:=λi=>sx b (λj=>k (i==j)))
 (xnone:=tS False (v:=b) (xnone:=k au)) (xlst:=λxs=>pT b (λG=>IL xs G k)) (xloc:=λj=>pT b (λG=>bV T[j]? False λo=>vF o (λxs=>IL xs G k)))
 (xtup:=λxs=>vD b (λG=>aW (mf xs G) (bV (lH xs G) False k)))
 (xdct:=λks xs=>tS False (v:=b) (xdct:=λls G=>aW (mf xs G&&b9 ks.length xs.length&&b9 ls.length G.length&&(dn (xs.map eY)).isSome&&(dn (G.map eY)).isSome)
   (k (decide (ks.length=ls.length)&&(ks.zip xs).all λe=>match (ls.zip G).lookup e.1 with | some p=>decide (eY e.2=eY p) | none=>am))))
noncomputable def rO (v:TV):Bool:=tS am (v:=v) (xnone:=true)
noncomputable def asStr (v:TV):Option aU:=tS al (v:=v) (xstr:=λs=>ac s)
noncomputable def ES:List TV->Option (List aU)
 | []=>ac []
 | v::r=>(asStr v).bind λs=>(ES r).map (s::·)
def nG (T:List MO) (d:TV) (k:List (bJ × TV × TV)->Nat->(bJ->Option (TV × TV))->Prop):Prop:=kY d (λj=>bV T[j]? False λo=>vE o k)
noncomputable def cR (k:bJ) (es:List (bJ × TV × TV)):Option (TV × TV):=es.lookup k
noncomputable abbrev gY (es:List (bJ × TV × TV)) (n:Nat):MO:=.dict es n λk=>cR k es
noncomputable def dq (k:bJ) (key v:TV):List (bJ × TV × TV)->List (bJ × TV × TV)
 | []=>[(k,key,v)]
 | e::r=>if e.1=k then (e.1,e.2.1,v)::r else e::dq k key v r
noncomputable def ik (k:bJ):List (bJ × TV × TV)->List (bJ × TV × TV)
 | []=>[]
 | e::r=>if e.1=k then r else e::ik k r
def nz (op:ul) (a b:TV) (T:List MO) (k:Bool->Prop):Prop:=match op with
 | .Eq=>Sp T a b k
 | .NotEq=>Sp T a b λt=>k (!t)
 | .Lt=>mP a b λi j=>k (decide (i <j))
 | .LtE=>mP a b λi j=>k (decide (i≤j))
 | .Gt=>mP a b λi j=>k (decide (j <i))
 | .GtE=>mP a b λi j=>k (decide (j≤i))
 | .Is=>tS False (v:=b) (xnone:=k (rO a)) (xbool:=λq=>lF a (λp=>k (p==q)))
 | .IsNot=>tS False (v:=b) (xnone:=k (!rO a))
 | .In=>tS (nG T b λY Y g=>bV (rp a) False λka=>k (g ka).isSome) (v:=b) (xtup:=λxs=>vC a (λs=>bV (ES xs) False λss=>k (decide (s∈ss))))
 | .NotIn=>nG T b λY Y g=>bV (rp a) False λka=>k (!(g ka).isSome)
noncomputable def nT (v:TV):Bool:=tS au (v:=v) (xbi:=λY=>am)
noncomputable def vG (name:aU):List aU->List TV->Option TV
 | n::ns,v::vs=>if name=n then ac v else vG name ns vs
 | _,_=>al
def Lk (v:TV) (name:aU) (T:List MO) (k:VK):Prop:=tS False (v:=v)
 (xobj:=λC ns xs=>aW (D.fld C name) (bV (vG name ns xs) False λv=>aW (nT v) (k v T)))
 (xloc:=λj=>bV T[j]? False λo=>EO o (λC fs=>bV (fs.lookup name) (bV (D.prop C name) False λf=>E.call (.ref f) [.loc j] T (λv T1=>aW (nT v) (k v T1)) (λY Y Y Y=>False)) λv=>aW (D.fld C name) (aW (nT v) (k v T))))
def j1 (v:TV) (name:aU) (w:TV) (T:List MO) (k:List MO->Prop):Prop:=kY v (λj=>bV T[j]? False λo=>EO o (λC fs=>aW (D.set C name) (aW (aH fs.length 900) (k (T.set j (.inst C (setT name w fs)))))))
where setT (name:aU) (v:TV):List (aU × TV)->List (aU × TV)
 | []=>[(name,v)]
 | e::r=>if e.1=name then (name,v)::r else e::setT name v r
def Ll (v:TV) (name:aU) (T:List MO) (k:TV->Prop):Prop:=kY v (λj=>bV T[j]? False λo=>oS False (v:=o)
 (xinst:=λC fs=>bV (fs.lookup name) (bV (D.meth C name) False λf=>k (.ref f)) λY=>False)
 (xlist:=λY=>br (name==("append":aU)) (k (.bi "list.append")) (br (name==("pop":aU)) (k (.bi "list.pop")) False))
 (xdict:=λY Y Y=>br (name==("get":aU)) (k (.bi "dict.get")) (br (name==("pop":aU)) (k (.bi "dict.pop")) (br (name==("values":aU)) (k (.bi "dict.values")) False))))
noncomputable def ET (f:TV):Bool:=tS am (v:=f) (xref:=λa=>D.keep a) (xbi:=λY=>au) (xty:=λY=>au) (xlam:=λY Y Y=>au)
def qM (a b:TV) (T:List MO) (k:VK):Prop:=tS (nG T a λY Y g=>bV (rp b) False λI=>bV (g I) False λp=>k p.2 T) (v:=a)
 (xlst:=λxs=>gT b (λi=>iS i (λj=>aW (bU j 1000) (aW (aH xs.length 1000) (bV xs[j]? False λv=>k v T))) λj=>aW (b9 j 0) (aW (aH xs.length 1000) (bV xs.getLast? False λv=>k v T))))
 (xtup:=λxs=>gT b (λi=>iS i (λj=>aW (bU j 1000) (aW (aH xs.length 1000) (bV xs[j]? False λv=>k v T))) λY=>False))
def sy (a b v:TV) (T:List MO) (k:List MO->Prop):Prop:=kY a (λj=>nG T a λes n Y=>bV (rp b) False λI=>aW (aH es.length 1000) (k (T.set j (gY (dq I b v es) (n+1)))))
def vH (d:TV):List (TV × TV)->List MO->(List MO->Prop)->Prop
 | [],T,k=>k T
 | (a,v)::r,T,k=>sy d a v T λT1=>vH d r T1 k
def EU (a:TV) (l u s:Option TV) (T:List MO) (k:VK):Prop:=tS False (v:=a)
 (xscr:=λxs=>bV l (bV s (bV u False λu=>gT u (λi=>iS i (λn=>aW (bU n 1000) (aW (aH xs.length 1000) (k (.lst (xs.take n)) T))) λY=>False)) λY=>False) λY=>False)
 (xlst:=λxs=>bV l (bV s (bV u False λu=>gT u (λi=>iS i (λn=>aW (bU n 1000) (aW (aH xs.length 1000) (k (.lst (xs.take n)) T))) λY=>False))
  λs=>bV u (gT s (λi=>iS i (λY=>False) λn=>aW (b9 n 0) (aW (aH xs.length 1000) (k (.lst xs.reverse) T)))) λY=>False) λY=>False)
 (xbarr:=λb=>bV s (bV l False λl=>bV u False λu=>gT l (λi=>iS i (λn=>aW (b9 n 0) (gT u (λi=>iS i (λq=>aW (b9 q b.size&&aH b.size 1000) (k (.barr b) T)) λY=>False))) λY=>False)) λY=>False)
def IM (ve:aB) (x:VX) (e:Option aC) (T:List MO) (k:Option TV->List MO->Prop):Prop:=match e with
 | none=>k al T
 | some e=>E.ev e ve T (λv T1=>k (ac v) T1) x
noncomputable def asBy (v:TV):Option (Array UInt8):=tS al (v:=v) (xbytes:=λb=>ac b)
noncomputable def mQ:List TV->Option (List (Array UInt8))
 | []=>ac []
 | v::r=>(asBy v).bind λb=>(mQ r).map (b::·)
noncomputable def IN (b:Array UInt8):List (Array UInt8)->List (Array UInt8)
 | []=>[b]
 | c::r=>if lE b c then b::c::r else c::IN b r
noncomputable def mR:List (Array UInt8)->List (Array UInt8)
 | []=>[]
 | b::r=>IN b (mR r)
noncomputable def nj:List (Array UInt8)->Bool
 | []=>au
 | b::r=>r.all (λc=>lE b c)&&nj r
noncomputable def asU8 (v:TV):Option UInt8:=tS al (v:=v) (xint:=λi=>iS i (λn=>match bU n 256 with | true=>ac (wW n) | false=>al) λY=>al)
noncomputable def EV:List TV->Option (List UInt8)
 | []=>ac []
 | v::r=>(asU8 v).bind λb=>(EV r).map (b::·)
noncomputable def asPair (v:TV):Option (TV × TV):=tS al (v:=v) (xtup:=λxs=>lS al (v:=xs) (x2:=λa b=>ac (a,b)))
noncomputable def pV:List TV->Option (List bJ × List TV)
 | []=>ac ([],[])
 | v::r=>(asPair v).bind λq=>(rp q.1).bind λka=>(pV r).map λp=>(ka::p.1,q.2::p.2)
def PA (a:TV) (T:List MO) (k:VK):Prop:=tS False (v:=a) (xlst:=λxs=>aW (aH xs.length 1000) (k (.int xs.length) T)) (xbarr:=λb=>aW (aH b.size 1000) (k (.int b.size) T)) (xbytes:=λb=>aW (aH b.size 1000) (k (.int b.size) T))
 (xloc:=λj=>bV T[j]? False λo=>vE o (λes Y Y=>aW (aH es.length 1000) (k (.int es.length) T)))
def Lm (a b:TV) (T:List MO) (k:VK):Prop:=tS False (v:=b) (xty:=λn=>br (n== "str") (tS False (v:=a) (xstr:=λY=>k (.bool au) T) (xbool:=λY=>k (.bool am) T) (xint:=λY=>k (.bool am) T))
 (br (n== "bool") (tS False (v:=a) (xstr:=λY=>k (.bool am) T) (xbool:=λY=>k (.bool au) T) (xint:=λY=>k (.bool am) T)) False))
inductive Cv where
 | len | max | min | ord | isinstance | sorted | append | lpop | get | dpop | values
noncomputable def MA (id:String):Option Cv:=[("len",Cv.len),("max",.max),("min",.min),("ord",.ord),("isinstance",.isinstance),("sorted",.sorted),("list.append",.append),("list.pop",.lpop),("dict.get",.get),("dict.pop",.dpop),("dict.values",.values)].lookup id
def PB (d a:TV) (T:List MO) (n:Prop) (k:VK):Prop:=nG T d λY Y g=>bV (rp a) False λka=>bV (g ka) n λp=>k p.2 T
def PC (d a:TV) (T:List MO) (n:Prop) (k:VK):Prop:=kY d (λj=>nG T d λes m g=>bV (rp a) False λka=>aW (aH es.length 1000) (bV (g ka) n λp=>k p.2 (T.set j (gY (ik ka es) (m+1)))))
def EW (xs:List TV) (T:List MO) (k:VK):Prop:=bV (mQ xs) False λbs=>aW (aH bs.length 3) (aW (nj (mR bs)) (k (.lst ((mR bs).map .bytes)) T))
def Sq (b:Cv) (args:List TV) (T:List MO) (k:VK):Prop:=match b with
 | .len=>Ej args (λa=>PA a T k)
 | .max=>II args (λa b=>mP a b λi j=>k (.int (if i <j then j else i)) T)
 | .min=>II args (λa b=>mP a b λi j=>k (.int (if j <i then j else i)) T)
 | .ord=>Ej args (λa=>vC a (λs=>lS False (v:=s.cps.toList) (x1:=λc=>aW (bU c 128) (k (.int c) T))))
 | .isinstance=>II args (λa b=>Lm a b T k)
 | .sorted=>Ej args (λa=>tS False (v:=a) (xlst:=λxs=>EW xs T k) (xloc:=λj=>bV T[j]? False λo=>vF o (λxs=>EW xs T k)))
 | .append=>II args (λa v=>kY a (λj=>bV T[j]? False λo=>vF o (λxs=>aW (aH xs.length 1000) (k .none (T.set j (.list (xs++[v])))))))
 | .lpop=>II args (λa i=>kY a (λj=>gT i (λi=>iS i (λn=>aW (b9 n 0) (bV T[j]? False λo=>vF o (λxs=>@aX TV (λY=>Prop) xs False λv xs=>aW (aH xs.length 1000) (k v (T.set j (.list xs)))))) λY=>False)))
 | .get=>lS False (v:=args) (x2:=λd a=>PB d a T (k .none T) k) (x3:=λd a w=>PB d a T (k w T) k)
 | .dpop=>lS False (v:=args) (x2:=λd a=>PC d a T False k) (x3:=λd a w=>PC d a T (k w T) k)
 | .values=>Ej args (λd=>kY d (λj=>nG T d λY Y Y=>k (.vals j) T))
inductive Cw where
 | list | dict | bytes | int | range
noncomputable def MB (id:String):Option Cw:=[("list",Cw.list),("dict",.dict),("bytes",.bytes),("int",.int),("range",.range)].lookup id
def Cx (b:Cw) (args:List TV) (T:List MO) (k:VK):Prop:=Ej args (λa=>match b with
 | .list=>tS False (v:=a) (xlst:=λxs=>aW (aH xs.length 1000) (k (.lst xs) T)) (xrange:=λm=>aW (aH m 1000) (k (.lst ((dU m).map λj=>TV.int (aL j))) T))
 | .dict=>pT a (λxs=>bV (pV xs) False λp=>aW (decide p.1.Nodup) (aW (aH xs.length 1000) (k (.dct p.1 p.2) T)))
 | .bytes=>tS False (v:=a) (xlst:=λxs=>bV (EV xs) False λbs=>aW (aH xs.length 1000) (k (.bytes bs.toArray) T)) (xbarr:=λb=>aW (aH b.size 1000) (k (.bytes b) T))
 | .int=>gT a (λi=>k (.int i) T)
 | .range=>gT a (λi=>aW (decide (0≤i)) (aW (decide (i≤1000)) (k (.range i.toNat) T))))
def bl:List cg->aB->List MO->(aO->aB->List MO->Prop)->VX->Prop
 | [],ve,T,k,_=>k .next ve T
 | s::r,ve,T,k,x=>E.exec s ve T (λf G T1=>match f with
  | .next=>bl r G T1 k x
  | .ret v=>k (.ret v) G T1) x
noncomputable def mS (fd:rt) (args:List TV):Option (List (aU × TV)):=
 if (aH args.length fd.params.length&&aH (fd.params.length - args.length) fd.dflts.length&&aH fd.dflts.length fd.params.length)=au then (dn ((fd.dflts.drop (fd.dflts.length - (fd.params.length - args.length))).map EQ)).map λds=>fd.params.zip (args++ds) else al
noncomputable def dR (fz:Bool) (binds:List (aU × TV)):List (aU × fM)->List (aU × (Nat ⊕ TV))->List MO->List (aU × (Nat ⊕ TV))× List MO
 | [],cs,T=>(cs,T)
 | (n,kd)::r,cs,T=>match kd==.cell with
  | true=>(match fz,binds.lookup n with
   | true,ac v=>dR fz binds r ((n,.inr v)::cs) T
   | _,o=>dR fz binds r ((n,.inl T.length)::cs) (T++[.cell o]))
  | false=>dR fz binds r cs T
noncomputable def xf (t:Bool) (T:List MO):Option Nat:=match t with
 | true=>((T[(0:Nat)]? :Option MO)).bind λo=>oS al (v:=o) (xcodes:=λP Y=>match b9 P 733 with
   | true=>ac 0
   | false=>al)
 | false=>al
def xg (f:TV) (args:List TV) (T:List MO) (k:VK) (x:VX):Prop:=tS False (v:=f)
 (xref:=λa=>bV (D.fn a) (bV (D.ini a) False λp=>br p.2 (E.ini a p.1 args T λfs T1=>k (.obj a (fs.map (·.1)) (fs.map (·.2))) T1)
   (E.call (.ref p.1) (.loc T.length::args) (T++[.inst a []]) (λv T1=>aW (rO v) (k (.loc T.length) T1)) (λY Y Y Y=>False)))
  λfd=>bV (mS fd args) False λbinds=>bl E fd.body ⟨fd.scope,binds,(dR fd.fz binds fd.scope.names [] T).1,xf fd.tab T⟩ (dR fd.fz binds fd.scope.names [] T).2 (λf Y T1=>match f with
   | .next=>k .none T1
   | .ret v=>k v T1) x)
 (xbi:=λid=>bV (MA id) False λb=>Sq b args T k)
 (xty:=λn=>bV (MB n) False λb=>Cx b args T k)
 (xlam:=λbody scope cells=>Pz args (aW (rN scope&&!scope.isGenerator&&!scope.isCoroutine) (E.ev body ⟨scope,[],cells.map λc=>(c.1,.inl c.2),al⟩ T k x)))
def zF (C:ay) (self:aU):List cg->aB->List (aU × TV)->List MO->(List (aU × TV)->List MO->Prop)->Prop
 | [],_,fs,T,k=>k fs T
 | s::r,ve,fs,T,k=>E.fill C self s ve fs T λG T1=>zF C self r ve G T1 k
def MC (C a:ay) (args:List TV) (T:List MO) (k:List (aU × TV)->List MO->Prop):Prop:=bV (D.fn a) False λfd=>bV fd.params.head? False λself=>bV (mS fd (.opq::args)) False λbinds=>aW (fd.scope.names.all (λp=>p.2 !=.cell)&&fd.scope.names.lookup self==ac .local&&!(self==("__debug__":aU))) (zF E C self fd.body ⟨fd.scope,binds,[],al⟩ [] T k)
noncomputable def sz (o:Option (Option (List aU))):Bool:=o==ac al
def EX (C:ay) (self:aU) (s:cg) (ve:aB) (fs:List (aU × TV)) (T:List MO) (k:List (aU × TV)->List MO->Prop):Prop:=bV (By s) False λq=>aW (D.set C q.2.2.1&&q.1==self&&aH 2 E.lev&&aH fs.length 900&&lG (ef [.Attribute (.Name q.1 q.2.1) q.2.2.1 q.2.2.2.1] q.2.2.2.2.1 q.2.2.2.2.2.line (fc ve.sc)) am&&sz (pU (dN [.Attribute (.Name q.1 q.2.1) q.2.2.1 q.2.2.2.1] q.2.2.2.2.1 (fc ve.sc))))
   (E.ev q.2.2.2.2.1 ve T (λv T1=>k (j1.setT q.2.2.1 v fs) T1) λY Y Y Y=>False)
end
noncomputable abbrev lI:=Option (Nat × MO)
def pW (g:lI) (T:List MO):Prop:=match g with
 | none=>True
 | some (j,o)=>T[j]? =ac o
def PD (g:lI) (T:List MO) (p:Prop):Prop:=match g with
 | none=>p
 | some (j,o)=>T[j]? =ac o∧p
theorem nU {g:lI} {T:List MO} {p:Prop} (h:PD g T p):pW g T∧p:=by
 induction g with
 | none=>exact ⟨trivial,h⟩
 | some _=>exact h
noncomputable def MD (s:aU):List TV:=s.cps.toList.map λc=>.str ⟨#[c]⟩
noncomputable def EY (v:TV):Bool:=tS am (v:=v) (xint:=λY=>au)
noncomputable def mT:List TV->Bool
 | []=>au
 | v::r=>EY v&&mT r
def Cy (v:TV) (T:List MO) (k:List TV->lI->Prop):Prop:=tS False (v:=v) (xlst:=λxs=>aW (aH xs.length 1000) (k xs al)) (xtup:=λxs=>aW (aH xs.length 1000) (k xs al))
 (xstr:=λs=>aW (aH s.cps.size 1000&&s.cps.all (λc=>decide (c <128))) (k (MD s) al)) (xrange:=λn=>aW (aH n 1000) (k ((dU n).map λj=>.int (aL j)) al))
 (xloc:=λj=>bV T[j]? False λo=>oS False (v:=o) (xdict:=λes ep g=>aW (aH es.length 1000) (k (es.map (·.2.1)) (ac (j,.dict es ep g)))) (xlist:=λxs=>aW (mT xs&&aH xs.length 1000) (k xs (ac (j,.list xs)))))
 (xvals:=λj=>bV T[j]? False λo=>vE o (λes ep g=>aW (aH es.length 1000) (k (es.map (·.2.2)) (ac (j,.dict es ep g)))))
section
variable (D:lB) (E:fX)
def BB (x:VX):List aC->List TV->aB->List MO->(aB->List MO->Prop)->Prop
 | [],vs,ve,T,k=>match vs with
  | []=>k ve T
  | _::_=>False
 | t::r,vs,ve,T,k=>match vs with
  | v::vr=>aW (cx t) (E.asg t v ve T (λG T1=>BB x r vr G T1 k) x)
  | []=>False
def gA (G:aC) (it:TV ⊕ (TV × TV)) (ve:aB) (T:List MO) (k:aB->List MO->Prop) (x:VX):Prop:=match it with
 | .inl v=>E.asg G v ve T k x
 | .inr (a,b)=>eS False (v:=G) (xTuple:=λI Y Y=>II I (λY Y=>aW (I.all cx) (BB E x I [a,b] ve T k)))
def gv (G:aC) (body:List cg) (g:lI):List (TV ⊕ (TV × TV))->aB->List MO->(aO->aB->List MO->Prop)->VX->Prop
 | [],ve,T,k,_=>PD g T (k .next ve T)
 | it::r,ve,T,k,x=>PD g T (gA E G it ve T (λJ T1=>bl E body J T1 (λf I O=>match f with
  | .next=>gv G body g r I O k x
  | .ret v=>k (.ret v) I O) x) x)
def jA (ve:aB):List aC->List MO->(Bool->List MO->Prop)->Prop
 | [],T,k=>k au T
 | e::r,T,k=>E.evT e ve T (λb T1=>br b (jA ve r T1 k) (k am T1)) (λY Y Y Y=>False)
def dH (y I:aC) (ifs:List aC) (g:lI):List TV->aB->List MO->List TV->Ct->Prop
 | [],_,T,acc,k=>PD g T (k acc T)
 | it::r,ve,T,acc,k=>PD g T (E.asg I it ve T (λG T1=>jA E G ifs T1 λb J=>br b
   (E.ev y G J (λv O=>aW (aH acc.length 1000) (dH y I ifs g r G O (acc++[v]) k)) λY Y Y Y=>False)
   (dH y I ifs g r G J acc k)) (λY Y Y Y=>False))
noncomputable def lj (cells:List (aU × (Nat ⊕ TV))):List (aU × fM)->List (aU × (Nat ⊕ TV))->Option (List (aU × (Nat ⊕ TV)))
 | [],cs=>ac cs
 | (n,kd)::r,cs=>match kd==.free with
  | true=>(cells.lookup n).bind λc=>lj cells r ((n,c)::cs)
  | false=>lj cells r cs
noncomputable def rP:List (aU × (Nat ⊕ TV))->Option (List (aU × Nat))
 | []=>ac []
 | (n,c)::r=>match c with
  | .inl c=>(rP r).map ((n,c)::·)
  | .inr _=>al
def EZ (y J iter:aC) (ifs:List aC) (scope:d9) (p:cP) (ve:aB) (T:List MO) (k:VK) (x:VX):Prop:=
 aW (rN scope&&Br scope&&nP iter) (bV (lj ve.cells scope.names []) False λcs=>
  E.ev iter ve T (λO T1=>Cy O T1 λG g=>dH E y J ifs g G ⟨eO ve.sc scope,[],cs,al⟩ T1 [] λacc I=>br (D.muts p) (k (.loc I.length) (I++[.list acc])) (k (.lst acc) I)) x)
noncomputable def ME (c:S4):Option TV:=match c with
 | .none=>ac .none
 | .bool b=>ac (.bool b)
 | .int i=>ac (.int i)
 | .str s=>ac (.str s)
 | .bytes b=>ac (.bytes b.toArray)
 | _=>al
def Ln (E:fX) (l:aC) (G:List ul) (J:List aC) (ve:aB) (T:List MO) (k:Bool->List MO->Prop) (x:VX):Prop:=
 Ej G (λop=>Ej J (λr=>aW (!gN op r) (E.ev l ve T (λa T1=>E.ev r ve T1 (λb I=>nz op a b I λt=>k t I) x) x)))
noncomputable def E0.pairE:List (Option aC)->List aC->List aC
 | some a::r,b::s=>a::b::E0.pairE r s
 | _,_=>[]
noncomputable def E0.pairUp:List TV->List (TV × TV)
 | a::b::r=>(a,b)::E0.pairUp r
 | _=>[]
def PE (k:VK) (vs:List TV) (T1:List MO):Prop:=aW (aH vs.length 1000) (k (.tup vs) T1)
def MF (D:lB) (p:cP) (k:VK) (vs:List TV) (T1:List MO):Prop:=aW (aH vs.length 1000) (br (D.muts p) (k (.loc T1.length) (T1++[.list vs])) (k (.lst vs) T1))
def MG (E:fX) (ve:aB) (x:VX) (ks:List (Option aC)) (vs:List aC) (T:List MO) (k:VK):Prop:=aW (ks.all (·.isSome)&&b9 ks.length vs.length&&aH ks.length 10) (tV E ve x (E0.pairE ks vs) (T++[gY [] 0]) λps T1=>vH (.loc T.length) (E0.pairUp ps) T1 λG=>k (.loc T.length) G)
def PF (E:fX) (ve:aB) (b o:aC) (k:VK) (x:VX) (c:Bool) (T1:List MO):Prop:=br c (E.ev b ve T1 k x) (E.ev o ve T1 k x)
def PG (E:fX) (ve:aB) (op:l6) (r:aC) (k:VK) (x:VX) (a:TV) (T1:List MO):Prop:=E.ev r ve T1 (λb G=>Cu op a b G k) x
def PH (D:lB) (E:fX) (x:VX) (k:VK) (pre:List TV) (S:TV) (vs:List TV) (G:List MO):Prop:=aW (ET D S) (E.call S (pre++vs) G k x)
def Sr (D:lB) (E:fX) (ve:aB) (x:VX) (k:VK) (args:List aC) (S:TV) (T1:List MO):Prop:=tV E ve x args T1 (PH D E x k [] S)
def Ss (D:lB) (E:fX) (ve:aB) (x:VX) (k:VK) (args:List aC) (name:aU) (G:TV) (T1:List MO):Prop:=Ll D G name T1 λf=>tV E ve x args T1 (PH D E x k [G] f)
def MH (D:lB) (E:fX) (ve:aB) (x:VX) (k:VK) (args:List aC) (pos:cP) (T:List MO) (o:aC) (name:aU) (W:cP):Prop:=aW (ju o&&W.endLine==pos.line) (E.ev o ve T (Ss D E ve x k args name) x)
def MJ (D:lB) (E:fX) (ve:aB) (x:VX) (k:VK) (args:List aC) (pos:cP) (f:aC) (T:List MO):Prop:=eS (E.ev f ve T (Sr D E ve x k args) x) (v:=f) (xAttribute:=MH D E ve x k args pos T)
def MK (D:lB) (E:fX) (name:aU) (k:VK) (v:TV) (T1:List MO):Prop:=Lk D E v name T1 k
def ML (E:fX) (ve:aB) (x:VX) (k:VK) (i:aC) (v:TV) (T1:List MO):Prop:=E.ev i ve T1 (λw G=>qM v w G k) x
def PI (E:fX) (ve:aB) (x:VX) (k:VK) (s:Option aC) (v:TV) (J P:Option TV) (G:List MO):Prop:=IM E ve x s G λO I=>EU v J P O I k
def PJ (E:fX) (ve:aB) (x:VX) (k:VK) (u s:Option aC) (v:TV) (I:Option TV) (G:List MO):Prop:=IM E ve x u G (PI E ve x k s v I)
def PK (E:fX) (ve:aB) (x:VX) (k:VK) (l u s:Option aC) (v:TV) (T1:List MO):Prop:=IM E ve x l T1 (PJ E ve x k u s v)
def PL (E:fX) (ve:aB) (x:VX) (k:VK) (a i:aC) (T:List MO):Prop:=eS (E.ev a ve T (ML E ve x k i) x) (v:=i) (xSlice:=λl u s Y=>E.ev a ve T (PK E ve x k l u s) x)
def MN (T:List MO) (k:VK) (body:aC) (scope:d9) (pos:cP) (cs:List (aU × Nat)) (i:Nat) (o:MO):Prop:=IJ o (λP used=>aW (!(used.any λq=>b9 q.1 pos.line&&b9 q.2 pos.col)) (k (.lam body scope cs) (T.set i (.codes P ((pos.line,pos.col)::used)))))
def MP (T:List MO) (k:VK) (body:aC) (scope:d9) (pos:cP) (cs:List (aU × Nat)) (i:Nat):Prop:=bV T[i]? False (MN T k body scope pos cs i)
def MQ (ve:aB) (T:List MO) (k:VK) (body:aC) (scope:d9) (pos:cP) (cs:List (aU × (Nat ⊕ TV))):Prop:=bV (rP cs) False λcs=>bV ve.tab False (MP T k body scope pos cs)
def MS (ve:aB) (T:List MO) (k:VK) (body:aC) (scope:d9) (pos:cP):Prop:=bV (lj ve.cells scope.names []) False (MQ ve T k body scope pos)
def E0 (e:aC) (ve:aB) (T:List MO) (k:VK) (x:VX):Prop:=eS False (v:=e)
 (xConstant:=λc Y Y=>bV (ME c) False λv=>k v T)
 (xName:=λid Y=>aW (!(id==("__debug__":aU))) (Lj D id ve T k))
 (xTuple:=λes Y Y=>tV E ve x es T (PE k))
 (xList:=λes p=>tV E ve x es T (MF D p k))
 (xDict:=λks vs Y=>@aX (Option aC) (λY=>Prop) ks (Pz vs (k (.loc T.length) (T++[gY [] 0]))) λY Y=>MG E ve x ks vs T k)
 (xBoolOp:=λop vs Y=>BA E ve x op vs T k)
 (xUnaryOp:=λop a Y=>@RT (λY=>Prop) op False (E.ev a ve T (λv T1=>lF v (λb=>k (.bool (!b)) T1)) x) False (E.ev a ve T (λv T1=>gT v (λi=>k (.int (-i)) T1)) x))
 (xIfExp:=λt b o Y=>E.evT t ve T (PF E ve b o k x) x)
 (xBinOp:=λl op r Y=>E.ev l ve T (PG E ve op r k x) x)
 (xCompare:=λl I O Y=>Ln E l I O ve T (λt J=>k (.bool t) J) x)
 (xCall:=λf args G pos=>Pz G (aW (bU args.length 20&&args.all cx) (MJ D E ve x k args pos f T)))
 (xAttribute:=λa name Y=>aW (ju a) (E.ev a ve T (MK D E name k) x))
 (xSubscript:=λa i Y=>PL E ve x k a i T)
 (xListComp:=λy gens scope p=>Ej gens (λg=>aW (decide (g.is_async=0)) (EZ D E y g.target g.iter g.ifs scope p ve T k x)))
 (xLambda:=λargs body scope pos=>aW (so args&&rN scope&&!scope.isGenerator&&!scope.isCoroutine) (MS ve T k body scope pos))
def PM (e:aC) (ve:aB) (T:List MO) (k:Bool->List MO->Prop) (x:VX):Prop:=eS (E.ev e ve T (λv T1=>lF v (λb=>k b T1)) x) (v:=e)
 (xUnaryOp:=λop a Y=>@RT (λY=>Prop) op False (E.evT a ve T (λb T1=>k (!b) T1) x) False False)
 (xBoolOp:=λop vs Y=>IK E ve x op vs T k)
 (xIfExp:=λY Y Y Y=>False)
 (xCompare:=λl G I Y=>Ln E l G I ve T k x)
noncomputable def aB.set (ve:aB) (id:aU) (v:TV):aB:={ve with loc:=j1.setT id v ve.loc}
def PN (t:aC) (v:TV) (ve:aB) (T:List MO) (k:aB->List MO->Prop) (x:VX):Prop:=eS False (v:=t)
 (xName:=λid Y=>bV (ve.sc.names.lookup id) False λS=>@Rh (λY=>Prop) S (k (ve.set id v) T) (bV (ve.cells.lookup id) False λc=>match c with
   | .inl c=>bV T[c]? False λo=>EN o (λY=>k ve (T.set c (.cell (ac v))))
   | .inr _=>False) False False False)
 (xTuple:=λI Y Y=>vD v (λxs=>aW (aH xs.length 10&&b9 I.length xs.length&&I.all cx) (BB E x I xs ve T k)))
 (xAttribute:=λo name Y=>E.ev o ve T (λG T1=>j1 D G name v T1 (k ve)) x)
 (xSubscript:=λo i Y=>E.ev o ve T (λG T1=>E.ev i ve T1 (λO J=>sy G O v J (k ve)) x) x)
noncomputable def Lo (e:aC):Bool:=eS am (v:=e) (xTuple:=λY Y Y=>au)
noncomputable def E3 (ve:aB) (cls:aU):Option ay:=((D.glob cls).bind Lc).bind λa=>if (ve.sc.names.lookup cls==ac .globalImplicit)=au then ac a else al
noncomputable def Lp (iter:aC) (ve:aB):Option (aC × aC):=(zC iter).bind λq=>(mO q.1).bind λf=>(T5 q.2.1).bind λab=>if (q.2.2.1.isEmpty&&f.1==("zip":aU)&&cx ab.1&&cx ab.2&&ve.sc.names.lookup f.1==ac .globalImplicit&&(D.glob f.1).bind Pn==ac "zip")=au then ac ab else al
def E4 (ve:aB) (k:aO->aB->List MO->Prop) (_:TV) (T1:List MO):Prop:=k .next ve T1
def Su (E:fX) (t:aC) (ve:aB) (k:aO->aB->List MO->Prop) (x:VX) (v:TV) (T1:List MO):Prop:=E.asg t v ve T1 (k .next) x
def Sv (names:List aU) (ve:aB) (k:aO->aB->List MO->Prop) (v:TV) (T1:List MO):Prop:=vD v (λxs=>aW (b9 xs.length names.length) (k .next (((names.zip xs).reverse).foldl (λp q=>p.set q.1 q.2) ve) T1))
def MT (E:fX) (t e:aC) (ve:aB) (T:List MO) (k:aO->aB->List MO->Prop) (x:VX) (names:List aU):Prop:=aW (Lo t&&names.all λm=>ve.sc.names.lookup m==ac .local) (E.ev e ve T (Sv names ve k) x)
def PP (E:fX) (t e:aC) (ve:aB) (T:List MO) (k:aO->aB->List MO->Prop) (x:VX) (o:Option (List aU)):Prop:=bV o (aW (cx t) (E.ev e ve T (Su E t ve k x) x)) (MT E t e ve T k x)
def Sw (ve:aB) (k:aO->aB->List MO->Prop) (id:aU) (v:TV) (T1:List MO):Prop:=k .next (ve.set id v) T1
def Sx (D:lB) (E:fX) (t e:aC) (pos:cP) (ve:aB) (T:List MO) (k:aO->aB->List MO->Prop) (x:VX) (id:aU × cP) (c:aC × List kz × d9 × cP) (g:kz):Prop:=
 aW (decide (g.is_async=0)&&lG (iu e (ac t) pos.line (fc ve.sc)) au&&ve.sc.names.lookup id.1==ac .local) (EZ D E c.1 g.target g.iter g.ifs c.2.2.1 c.2.2.2 ve T (Sw ve k id.1) x)
def Sy (D:lB) (E:fX) (t e:aC) (pos:cP) (ve:aB) (T:List MO) (k:aO->aB->List MO->Prop) (x:VX) (id:aU × cP) (c:aC × List kz × d9 × cP):Prop:=bV (Lh c.2.1) False (Sx D E t e pos ve T k x id c)
def Sz (D:lB) (E:fX) (t e:aC) (pos:cP) (ve:aB) (T:List MO) (k:aO->aB->List MO->Prop) (x:VX) (id:aU × cP):Prop:=bV (zD e) False (Sy D E t e pos ve T k x id)
def E5 (D:lB) (E:fX) (e:aC) (pos:cP) (ve:aB) (T:List MO) (k:aO->aB->List MO->Prop) (x:VX) (t:aC):Prop:=br (lG (ef [t] e pos.line (fc ve.sc)) am)
  (bV (pU (dN [t] e (fc ve.sc))) False (PP E t e ve T k x))
  (bV (mO t) False (Sz D E t e pos ve T k x))
def SA (E:fX) (b o:List cg) (ve:aB) (k:aO->aB->List MO->Prop) (x:VX) (c:Bool) (T1:List MO):Prop:=br c (bl E b ve T1 k x) (bl E o ve T1 k x)
def PQ (ve:aB) (k:aO->aB->List MO->Prop) (v:TV) (T1:List MO):Prop:=k (.ret v) ve T1
def SB (E:fX) (I:aC) (body:List cg) (ve:aB) (k:aO->aB->List MO->Prop) (x:VX) (J:TV) (T1:List MO):Prop:=Cy J T1 λG g=>gv E I body g (G.map .inl) ve T1 k x
def SC (E:fX) (G:aC) (body:List cg) (ve:aB) (k:aO->aB->List MO->Prop) (x:VX) (T1:List MO) (xs:List TV) (j:Nat) (o:MO):Prop:=vE o (λes ep g=>aW (aH xs.length 1000&&b9 xs.length es.length) (gv E G body (ac (j,.dict es ep g)) ((xs.zip es).map λp=>.inr (p.1,p.2.2.1)) ve T1 k x))
def SD (E:fX) (G:aC) (body:List cg) (ve:aB) (k:aO->aB->List MO->Prop) (x:VX) (T1:List MO) (I:TV) (xs:List TV):Prop:=kY I (λj=>bV T1[j]? False (SC E G body ve k x T1 xs j))
def SE (E:fX) (G:aC) (body:List cg) (ve:aB) (k:aO->aB->List MO->Prop) (x:VX) (vs:List TV) (T1:List MO):Prop:=II vs (λva I=>pT va (SD E G body ve k x T1 I))
def PR (D:lB) (E:fX) (G iter:aC) (body:List cg) (ve:aB) (T:List MO) (k:aO->aB->List MO->Prop) (x:VX):Prop:=bV (Lp D iter ve) (aW (nP iter) (E.ev iter ve T (SB E G body ve k x) x)) λab=>tV E ve x [ab.1,ab.2] T (SE E G body ve k x)
def SG (D:lB) (E:fX) (arg:aC) (ve:aB) (T:List MO) (x:VX) (C:ay) (an:aU):Prop:=aW (D.keep C) (E.ev arg ve T (x C an) x)
def SH (D:lB) (E:fX) (arg:aC) (ve:aB) (T:List MO) (x:VX) (C:ay):Prop:=bV (D.exn C) False (SG D E arg ve T x C)
def SI (D:lB) (E:fX) (ve:aB) (T:List MO) (x:VX) (q:aU × aC):Prop:=aW (!(q.1==("__debug__":aU))&&cx q.2) (bV (E3 D ve q.1) False (SH D E q.2 ve T x))
noncomputable def Lq (ve:aB) (q:zE):Bool:=q.en'==q.en&&!(q.t==q.en)&&ve.sc.names.lookup q.en==ac .local&&ve.sc.names.lookup q.t==ac .local&&!(q.cn==("__debug__":aU))&&!(q.en==("__debug__":aU))&&(ve.loc.lookup q.en).isNone&&
    lG (iu q.e al q.ep.line (fc ve.sc)) am&&lG (ef [.Name q.t q.tp] (.Attribute (.Name q.en q.np) q.an q.ap) q.sp.line (fc ve.sc)) am&&sz (pU (dN [.Name q.t q.tp] (.Attribute (.Name q.en q.np) q.an q.ap) (fc ve.sc)))
def SJ (ve:aB) (k:aO->aB->List MO->Prop) (q:zE) (C I:ay) (G:aU) (v:TV) (T1:List MO):Prop:=aW (b9 I C&&G==q.an&&nT v) (k .next (ve.set q.t v) T1)
def SK (E:fX) (ve:aB) (T:List MO) (k:aO->aB->List MO->Prop) (q:zE) (C:ay) (J:aU):Prop:=aW (J==q.an) (E.ev q.e ve T (E4 ve k) (SJ ve k q C))
def SL (D:lB) (E:fX) (ve:aB) (T:List MO) (k:aO->aB->List MO->Prop) (q:zE) (C:ay):Prop:=bV (D.exn C) False (SK E ve T k q C)
def SM (D:lB) (E:fX) (ve:aB) (T:List MO) (k:aO->aB->List MO->Prop) (q:zE):Prop:=aW (Lq ve q) (bV (E3 D ve q.cn) False (SL D E ve T k q))
def E6 (s:cg) (ve:aB) (T:List MO) (k:aO->aB->List MO->Prop) (x:VX):Prop:=sS False (v:=s)
 (xExpr:=λe pos=>aW (lG (iu e al pos.line (fc ve.sc)) am) (E.ev e ve T (E4 ve k) x))
 (xAssign:=λO e pos=>Ej O (E5 D E e pos ve T k x))
 (xIf:=λt b o Y=>E.evT t ve T (SA E b o ve k x) x)
 (xReturn:=λv Y=>bV v False λe=>E.ev e ve T (PQ ve k) x)
 (xFor:=λI iter body f Y=>Pz f (PR D E I iter body ve T k x))
 (xRaise:=λa b Y=>bV (Bz a b) False (SI D E ve T x))
 (xTry:=λbody J f G Y=>bV (Li body J f G) False (SM D E ve T k))
noncomputable def j2:fX:=⟨E.lev+1,E0 D E,PM E,E6 D E,PN D E,xg D E,MC D E,EX D E⟩
end
noncomputable def vl (D:lB):Nat->fX
 | 0=>.bot
 | n+1=>j2 D (vl D n)
noncomputable abbrev UA:i7:=yY
noncomputable def eL (i:Nat):cg:=UA.main.body.getD i (.Pass default)
noncomputable def sD {α:Type} (d:α) (fn:q9->List cg->d9->α) (cl:List cg->α) (s:cg):α:=@oy (λY=>α) s (λY a b Y Y Y sc Y Y Y=>fn a b sc) (λY Y Y Y Y Y Y Y Y Y=>d) (λY Y Y b Y Y Y Y Y Y Y=>cl b) (λY Y=>d) (λY Y=>d) (λY Y Y=>d) (λY Y Y Y Y Y Y=>d) (λY Y Y Y=>d) (λY Y Y Y Y=>d) (λY Y Y Y Y=>d) (λY Y Y Y Y=>d) (λY Y Y Y=>d) (λY Y Y Y=>d) (λY Y Y=>d) (λY Y Y=>d) (λY Y Y=>d) (λY Y Y=>d) (λY Y Y Y Y=>d) (λY Y Y Y Y=>d) (λY Y Y=>d) (λY Y=>d) (λY Y Y Y=>d) (λY Y=>d) (λY Y=>d) (λY Y=>d) (λY=>d) (λY=>d) (λY=>d)
noncomputable def ry (i j:Nat):cg:=sD (.Pass default) (λY Y Y=>.Pass default) (λb=>b.getD j (.Pass default)) (eL i)
noncomputable def cZ (s:cg) (dflts:List PV) (tab:Bool:=false) (fz:Bool:=false):rt:=sD ⟨[],[],[],default,am,am⟩ (λa b sc=>⟨a.args.map (·.arg),dflts,b,sc,tab,fz⟩) (λY=>⟨[],[],[],default,am,am⟩) s
noncomputable def uE:List (ay × rt):=
 ([(158,cZ (eL 12) []),(165,cZ (eL 13) []),(172,cZ (eL 14) []),(180,cZ (eL 15) [.bool am]),(187,cZ (eL 16) []),(195,cZ (eL 17) [.bool am,.int 3]),(202,cZ (eL 18) []),(209,cZ (eL 19) []),(216,cZ (eL 20) []),(223,cZ (eL 21) []),(230,cZ (eL 22) []),(237,cZ (eL 23) []),(244,cZ (eL 24) []),(251,cZ (eL 25) []),(258,cZ (eL 26) []),(265,cZ (eL 27) [])]:List (ay × rt))++
 ([(272,cZ (eL 28) []),(279,cZ (eL 29) []),(286,cZ (eL 30) []),(293,cZ (eL 32) []),(300,cZ (eL 33) []),(307,cZ (eL 34) []),(314,cZ (eL 35) []),(321,cZ (eL 36) []),(328,cZ (eL 37) []),(335,cZ (eL 38) []),(342,cZ (eL 39) []),(349,cZ (eL 40) []),(356,cZ (eL 41) []),(363,cZ (eL 42) []),(671,cZ (eL 51) []),(683,cZ (eL 54) [])]:List (ay × rt))++
 ([(690,cZ (eL 55) []),(697,cZ (eL 56) []),(702,cZ (eL 57) []),(709,cZ (eL 58) []),(714,cZ (eL 59) []),(721,cZ (eL 60) []),(726,cZ (eL 61) [] am au),(731,cZ (eL 62) []),(736,cZ (eL 63) [] au),(69,cZ (ry 8 0) [.bool am,.int 3]),(90,cZ (ry 9 0) []),(111,cZ (ry 10 0) []),(118,cZ (ry 10 1) []),(123,cZ (ry 10 2) [] am au),(144,cZ (ry 11 0) []),(378,cZ (ry 46 0) [.int 500,.int 20,.int 250,.int 15,.int 31,.int 65535,.int 65535,.int 65535,.int 127,.int 1500,.int 11,.int 15,.int 600,.int 16777216])]:List (ay × rt))++
 ([(420,cZ (ry 48 0) []),(427,cZ (ry 48 1) []),(435,cZ (ry 48 2) []),(442,cZ (ry 48 3) []),(449,cZ (ry 48 4) []),(463,cZ (ry 48 6) []),(477,cZ (ry 48 8) []),(498,cZ (ry 49 0) []),(505,cZ (ry 49 1) []),(540,cZ (ry 49 6) []),(547,cZ (ry 49 7) []),(554,cZ (ry 49 8) []),(561,cZ (ry 49 9) [])]:List (ay × rt))
noncomputable def vI:List (aU × PV):=
 ([("integer",PV.ref 158),("real",PV.ref 165),("boolean",PV.ref 172),("name",PV.ref 180),("null",PV.ref 187),("of_string",PV.ref 195),("of_dict",PV.ref 202),("is_number",PV.ref 209),("in_millionths",PV.ref 216),("is_in_array",PV.ref 223),("body_of",PV.ref 230),("is_local",PV.ref 237),("access_of",PV.ref 244),("can_read",PV.ref 251),("can_write",PV.ref 258),("octets_of_span",PV.ref 265)]:List (aU × PV))++
 ([("thing_octets",PV.ref 272),("key_of",PV.ref 279),("key_thing",PV.ref 286),("dict_length",PV.ref 293),("dict_most",PV.ref 300),("dict_check_read",PV.ref 307),("dict_check_write",PV.ref 314),("dict_get_word",PV.ref 321),("dict_rows",PV.ref 328),("dict_names",PV.ref 335),("dict_put_all",PV.ref 342),("dict_copy",PV.ref 349),("dict_are_same",PV.ref 356),("dict_is_like",PV.ref 363),("memory_check_many",PV.ref 671),("_law_deck",PV.ref 683)]:List (aU × PV))++
 ([("_law_draw",PV.ref 690),("_law_key",PV.ref 697),("_law_is_kept",PV.ref 702),("_law_mark",PV.ref 709),("_law_right",PV.ref 714),("_law_told",PV.ref 721),("_law_values",PV.ref 726),("_law_is_grown",PV.ref 731),("PsError",PV.ref 52),("Thing",PV.ref 72),("Text",PV.ref 93),("DictBody",PV.ref 126),("Span",PV.ref 147),("Limits",PV.ref 381),("Memory",PV.ref 662),("GRAIN",PV.int 1000000)]:List (aU × PV))++
 ([("READ_ONLY",PV.int 2),("UNLIMITED",PV.int 3),("ENTRY_COST",PV.int 16),("len",PV.bi "len"),("max",PV.bi "max"),("min",PV.bi "min"),("ord",PV.bi "ord"),("isinstance",PV.bi "isinstance"),("sorted",PV.bi "sorted"),("list",PV.ty "list"),("dict",PV.ty "dict"),("bytes",PV.ty "bytes"),("int",PV.ty "int"),("range",PV.ty "range"),("zip",PV.ty "zip"),("str",PV.ty "str")]:List (aU × PV))++
 ([("bool",PV.ty "bool"),("bytearray",PV.ty "bytearray")]:List (aU × PV))
noncomputable def pX:List (ay × (ay × Bool)):=[(72,(69,au)),(93,(90,au)),(126,(111,am)),(147,(144,au)),(381,(378,au)),(662,(420,am))]
noncomputable def vJ:List (ay × List (aU × ay)):=
 [(126,[("get",118),("pairs",123)]),(662,[("body_level",435),("take_room",442),("check_room",449),("text_of_octets",463),("make_dict",477),("is_elder",498),("check_holds",505),("grow",540),("put_entry",547),("drop_entry",554),("set_access",561)])]
noncomputable def vK:List (ay × List aU):=
 [(72,["kind", "value", "is_exec", "access"]),(93,["number", "octets", "is_global", "level"]),(126,["number", "most", "is_global", "level", "access", "entries"]),(147,["body", "start", "many"]),
  (381,["operands", "dicts", "frames", "saves", "gstates", "text", "row", "entries", "word", "path", "dash", "files", "system", "vm"]),
  (662,["limits", "is_global", "saves", "journal", "made", "freed", "used", "used_global", "last_body", "last_save"])]
noncomputable def E7 (i:Nat):Option aC:=(cZ (eL i) []).body.head?.bind λs=>(oR s).map λq=>q.2.1
noncomputable def IP:cP:=((E7 54).bind λe=>eS al (v:=e) (xTuple:=λl Y Y=>l.head?.bind λe=>(zD e).map λq=>q.2.2.2)).getD default
noncomputable def E8:cP:=((E7 38).bind λe=>eS al (v:=e) (xList:=λY p=>ac p)).getD default
noncomputable def BC (p q:cP):Bool:=b9 p.line q.line&&b9 p.col q.col
noncomputable def D:lB where
 glob:=λx=>vI.lookup x
 fn:=λa=>uE.lookup a
 ini:=λa=>pX.lookup a
 meth:=λC x=>(vJ.lookup C).bind λl=>l.lookup x
 prop:=λC x=>if (b9 C 662&&x==("level":aU))=au then ac 427 else al
 fld:=λC x=>(vK.lookup C).any (·.contains x)
 set:=λC x=>(vK.lookup C).any (·.contains x)
 keep:=λa=>b9 a 52 ||(uE.lookup a).isSome ||(pX.lookup a).isSome
 exn:=λa=>if b9 a 52=au then ac "told" else al
 muts:=λp=>BC p IP ||BC p E8
noncomputable def mh (kind:aU) (v:TV) (G:Bool:=false) (acc:Int:=3):TV:=.obj 72 ["kind", "value", "is_exec", "access"] [.str kind,v,.bool G,.int acc]
noncomputable def zG (I:String->Option Builtin) (p:i7) (w:jt) (G:Nat) (V:Option ak):Nat->ze->Thread->Option ze
 | 0,_,_=>al
 | n+1,s,t=>match through t with
  | true=>ac s
  | false=>match stepOk G V t with
   | false=>al
   | true=>match stepT (S9 I) p w s t with
    | some (s',t')=>zG I p w G V n s' t'
    | none=>al
theorem uF {J:String->Option Builtin} {p:i7} {w:jt} {G:Nat} {V:Option ak}:∀{n:Nat} {s W:ze} {t:Thread},zG J p w G V n s t=ac W->topRun J p w G V n s.abs t=ac W.abs
 | 0,_,_,_,h=>by exact n1 h
 | n+1,s,W,t,h=>by
  unfold zG at h;unfold topRun;cases y:through t with
  | true=>rw [y] at h;refine bZ (fm h) ?_;rfl
  | false=>
   rw [y] at h;cases O:stepOk G V t with
   | false=>rw [O] at h;exact n1 h
   | true=>
    rw [O] at h;cases I:stepT (S9 J) p w s t with
    | none=>rw [I] at h;exact n1 h
    | some r=>obtain ⟨P,S⟩:=r;rw [I] at h;refine ag (stepT_spec I ..) (uF h)
noncomputable abbrev pw:i7:=yY
noncomputable def E9 (P:H9):BT:=(.node (boot_o_0 P) (.node (boot_o_1 P) (.node (boot_o_3 P) (.node (boot_o_7 P) .nil .nil) .nil) (.node (boot_o_5 P) (.node (boot_o_9 P) .nil .nil) .nil)) (.node (boot_o_2 P) (.node (boot_o_4 P) (.node (boot_o_8 P) .nil .nil) .nil) (.node (boot_o_6 P) (.node (boot_o_10 P) .nil .nil) .nil)))
noncomputable def xh (w:jt) (os:oA):ze:=⟨E9 w.params,11,{},#[],Bb,En,os⟩
noncomputable def qv:i7:=view pw [63]
noncomputable def oU:List aU:=pw.boundNames.eraseDups.filter λn=>!(n==("law":aU))
noncomputable def PS:List aU:=yZ pw.main.body
noncomputable def Fa (P:H9) (s:aj):=
 (Ri PS (j9 P) s.heap&&Ov pw s.heap&&Tc s&&Td (j9 P) s.heap,openSeen qv oU PS (λs=>recOk (Ia fk.row.toRowW) s) au s)
theorem PT (o0 o1 I J O P S V W f G:Obj):OX (.node o0 (.node o1 (.node J (.node V .nil .nil) .nil) (.node P (.node f .nil .nil) .nil)) (.node I (.node O (.node W .nil .nil) .nil) (.node S (.node G .nil .nil) .nil))) 11 {}=⟨⟨[o0,o1,I,J,O,P,S,V,W,f,G]⟩,{}⟩:=by kernel_rfl
theorem MV (P:H9):OX (E9 P) 11 {}=j9 P:=(PT ..)
theorem Fb (w:jt) (os:oA):(xh w os).abs=⟨j9 w.params,#[],Bb,En,os⟩:=by show aj.mk (OX (E9 w.params) 11 {}) _ _ _ _=_;refine ag (MV ..) ?_;rfl
theorem zH:opening pw=plainProg pw.main.scope.names:=by kernel_rfl
theorem Fc (s:aj):fenceModules? pw s=ac s:=by kernel_rfl
theorem IQ (P:H9):((j9 P).isNs cJ&&(#[]:Array Te).size==0)=au:=by kernel_rfl
theorem IR (P:H9):(j9 P).objs.size=11:=by kernel_rfl
theorem IS (P:H9):(j9 P).nsMap cJ "__annotations__"=ac (.ref 6):=by kernel_rfl
theorem Fd {p:i7} {w:jt} {N:Nat} {s G:aj} {m:Nat} {V:Option ak} (I:(s.heap.isNs cJ&&s.gens.size==0)=au) (J:s.heap.objs.size=m) (O:s.heap.nsMap cJ "__annotations__"=V)
  (r:topRun kf p w m V N s (Ib p)=ac G) (l:(Ri (yZ p.main.body) s.heap G.heap&&Ov p G.heap&&Tc G&&Td s.heap G.heap)=au):U1 kf p w N s=ac G:=by
 unfold U1;refine ag (I ..) (ag (J ..) (ag (O ..) (ag (r ..) ?_)));show (match Ri (yZ p.main.body) s.heap G.heap&&Ov p G.heap&&Tc G&&Td s.heap G.heap with | true=>_ | false=>_)=_;exact ag (l ..) rfl
theorem Cz {p:i7} {w:jt} {N:Nat} {s G:aj} (h:fencedOpening kf p w N=ac s) (h2:U1 kf p w N s=ac G):openEnds kf p w N=ac G:=by unfold openEnds;refine ag (h ..) h2
theorem IT {J:aj->Prop} (h:∀w os,(zG kf pw w 11 (ac (.ref 6)) 5200 (xh w os) (Ib pw)).map (λs=>Fa w.params s.abs)=ac (au,Tf qv oU))
  (S:∀{w os s},zG kf pw w 11 (ac (.ref 6)) 5200 (xh w os) (Ib pw)=ac s->J s.abs):LeftO pw qv oU (λs=>recOk (Ia fk.row.toRowW) s) J (λY=>True) 5200:=λw=>by
 refine ae (aF.mp (boot_open zH (N:=5200) (by decide) Fc w)) λG e O=>?_;obtain ⟨h0,gs,d,k,os⟩:=G;refine ah (ci O) λP q=>ah (ci q) λI q=>ah (ci q) λq3 q4=>?_;have P:h0=j9 w.params:=P;have I:gs=#[]:=I;have q3:d=Bb:=q3;have q4:k=En:=q4;rw [P,I,q3,q4] at e;refine ae (aF.mp (h w os)) λs1 r l=>?_;have y:=S r;have r:=uF r;rw [Fb] at r;have t:=Fd (s:=⟨j9 w.params,#[],Bb,En,os⟩) (IQ w.params) (IR w.params) (IS w.params) r (congrArg Prod.fst l);refine ag (Cz e t ..) (congrArg ac (Prod.ext (congrArg Prod.snd l) (eq_true y)))
noncomputable abbrev row:OpenRow:=fk.row
noncomputable abbrev MW:ClaimW:=row.toRowW.claim
theorem vL:fq ⟨.builtin "claim.caller" {},al,al,[],al⟩:=⟨by decide+kernel,λY h=>nomatch h⟩
theorem Fe {prog:i7} {w:jt} {t:iR Fin} {s:aj} {R:jk->aj->Prop} (hz:s.asleep)
  (h:fE fq (aq prog w) Ic t (λI W=>∃f,I=.done f∧R (.ok f) W∧RU W.gens=am) (λe W=>R (.error e) W∧RU W.gens=am) s):
  ∃n r W G,schedN (S9 un) prog w n (.single s ⟨t,.builtin "claim.caller" {},default,[]⟩)=.halted (outcomeOf r) G∧runN (S9 un) prog w n s ⟨t,.builtin "claim.caller" {},default,[]⟩=.halted (outcomeOf r) G∧G.forget=W.forget∧R r W:=
 wp_halts_full (M:=aq prog w) hz (qw _ _ _ (λI O W h'=>by refine ae h' λf J q=>?_;clear h';refine ag J q) (λY Y Y h'=>h') default s (h _ default caller_in vL))
def rQ (h0:bM) (s:aj) (v:ak) (W:aj):Prop:=v=.bool au∧OldK h0 W.heap∧W.os=s.os∧W.gens=s.gens
theorem Ff {args:List Vr} {cls:U2}:MW.raises args cls=am∧MW.post args (.bool au) args=au:=⟨rfl,by kernel_rfl⟩
theorem IU {cl:aU->Option ay} {mean:U2->Option ak} {args:List Vr} {G W:aj} {v:ak} (I:G.gens=#[]) (h:rQ G.heap G v W):GoodWG MW cl mean args G (.ok (.ret v)) W:=by refine gQ h λV k o g=>?_;clear h;refine ag V ⟨.inl ⟨_,.bool au,[],rfl,λY=>rfl,.bool au,Ff (cls:=.builtin "x").2,λY=>⟨Tg,λY h=>nomatch h⟩⟩,k,o,.of_eq (g.trans I)⟩
noncomputable abbrev BD (vs:List ak):iR Fin:=do match ← nsGet mainNs row.name with
   | some f=>do ret (← Ow f vs)
   | none=>unsupported "claim.caller:no-such-global"
def Lr {w:jt} {s:aj} {free:ay->Prop} {gens:Prop} {kept:bM->Prop} {mg:aU->Option ak} {f:ak}:Prop:=∀(hz:s.asleep) (J:s.gens=#[]) (O:∀h,kept h) (P:∀h:bM,(∀b o,s.heap.get? b=ac o->h.get? b=ac o)->h.Ns cJ mg) (I:mg "law"=ac f) (call:∀(G:aj) (args:List Vr) (vs:List ak) (as:List ay),(∀b o,s.heap.get? b=ac o->G.heap.get? b=ac o)->MW.pre args=au->G.gens=#[]->Rj [] (U3 s.heap) G.heap vs args as->In s.heap.objs.size G.heap.objs.size as->
   fE fq (aq pw w) Ic (Ow f vs) (rQ G.heap G) (λY Y=>False) G),MW.CallFrom (λvs=>⟨BD vs,.builtin "claim.caller" {},default,[]⟩) w free gens kept s
noncomputable def oV:=rm <| U λw=>U λs=>U λfree=>U λgens=>U λkept=>U λmg=>@Lr w s free gens kept mg
theorem CA {w s free gens kept mg f}:@Lr w s free gens kept mg f:=jX (c:=oV) rfl (by
 intro hz hg hk hm hf call;intro args S V ord O;refine aI (bd.mp (layAllW_isSome (R:=[]) (cl:=U3 oV.2.1.heap) (P:=oV.1.params) (ord:=ord) (λY h=>nomatch h) args row.args oV.2.1 (pre_splitW (r:=row.toRowW) S).1)) λpt0 G=>?_;obtain ⟨vs,I⟩:=pt0;have keeps:=layAllW_keeps _ _ _ G;have J:=layAllW_rest _ _ _ G;refine bP (reads_layAllW O _ _ _ G V I.heap (λY Y e=>e)) λas p W l=>?_;have g1:I.gens=#[]:=J.1.trans hg;obtain ⟨n,r,s',s'',hs,z,hfo,hR⟩:=Fe (prog:=pw) (w:=oV.1) (t:=BD vs) (s:=I) (R:=λr s'=>∃v,r=.ok (.ret v)∧rQ I.heap I v s') (aj.asleep_of_life J.2.2.2 hz) (cF (wpAny_nsGet (hm _ keeps) (by refine ag (show oV.2.2.2.2.2.1 row.name=ac oV.2.2.2.2.2.2 from hf ..) ?_;exact bY (cf (call I args vs as keeps S g1 p W) (λv s' q=>cQ ⟨_,rfl,⟨v,rfl,q⟩,leftWithCleanup_false_of_bare (AllBare.of_eq (q.2.2.2.trans g1))⟩) λY Y q=>q.elim))));refine ae hR λv eq1 q=>?_;clear hR;subst eq1;refine eg ((IU (cl:=U3 oV.2.1.heap) (mean:=U2.means oV.2.1.heap) (args:=args) g1 q).laid (c:=MW) rfl rfl (ident_freeW (r:=row.toRowW) rfl rfl rfl) (⟨⟨ord,O,G⟩,p,W,l,keeps,g1,J.2.2.1⟩)) λe1 e2 e3=>pL (aj.forget_eq hfo) λeh _ _ eo _=>⟨vs,I,G,n,_,s'',hs,?_,(λY i x hx=>by rw [hg] at hx;exact n1 hx),hk _,by exact ag (((runN_life _ _ _ z).trans J.2.2.2) ..) rfl,aj.rest_eq (eo.trans e2)⟩;refine bk ((e1.congr eh)) (λqo0=>?_) λqo1=>?_
 ·refine zi qo0 λv h d1 d2 d3 d4 d5=>ag h (.inl ⟨v,rfl,d1,d2,d3,λb o y Y=>d4 b o y,d5⟩)
 ·refine fH qo1 λe ob cls qq=>?_;clear qo1;obtain ⟨q,_⟩:=qq;exact nomatch q) (w,s,free,gens,kept,mg,f)
structure i5 (K:H8) (D:lB):Prop where
 glob:∀{x v},D.glob x=ac v->jy K x=ac v
 fn:∀{a fd},D.fn a=ac fd->∃f,nQ K a=ac f∧zr K f=au∧f.body=.stmts fd.body∧f.scope=fd.scope∧f.params.args.map (·.arg)=fd.params∧kO K f=ac fd.dflts∧(fd.tab=au->∃c,f.code=.ref c∧KN K c 733=au)
 ini:∀{a i b},D.ini a=ac (i,b)->nR K a=ac i
 meth:∀{C x f},D.meth C x=ac f->vt K C x=ac f
 prop:∀{C x f},D.prop C x=ac f->zp K C x=ac f
 fld:∀{C x},D.fld C x=au->w8 K C x=au
 set:∀{C x},D.set C x=au->w9 K C x=au
 keep:∀{a},D.keep a=au->Ot K (.ref a)=au
 exn:∀{C an},D.exn C=ac an->nS K C=au∧setX K C an=au∧EL K C an=au∧∃ini fd p0 p1 q0 q1 qa qs,gC K (.ref C) "__init__"=ac (ac (.ref ini))∧KL K (.ref ini)=au∧vA K ini fd an p0 p1 q0 q1 qa qs
noncomputable def Fg (h:bM) (P:ay):bM:=h.update P λo=>{o with data:=.freed}
def HS (w:jt) (K:H8) (B:bM):Prop:=∀{G s:aj} {a:ay} {J:Obj} {mg I:aU->Option ak} {oU:List aU} {mean:U2->Option ak} {vs:List ak} {n:Nat} {S:List Int} {R:WRecords} {cl:aU->Option ay} {h:bM} {as:List ay},
  i5 K D->K.In G.heap->(∀o,K.lookup 733≠ac o)->G.heap.get? 733=ac (Ox #[])->(∃o,G.heap.get? gi=ac o)->
  Top qv oU mean mg I G.heap->(∀b o,G.heap.get? b=ac o->s.heap.get? b=ac o)->G.heap.get? a=al->s.heap.get? a=ac J->J.cls=.type "list"->J.data=.seq vs.toArray n->Rj R cl h vs (S.map .int) as->S.length≤63->
  B=Fg (Fg s.heap 733) a->fE fq (aq pw w) Ic (Ow (.ref 736) [.ref a]) (rQ s.heap s) (λY Y=>False) s
noncomputable def cc:jt × H8 × bM:=rm (U λw=>U λK=>HS w K)
@[irreducible] noncomputable def prog:i7:=pw
@[irreducible] noncomputable def w:jt:=cc.1
@[irreducible] noncomputable def K:H8:=cc.2.1
@[irreducible] noncomputable def B:bM:=cc.2.2
theorem IV:prog=pw:=by unfold prog;rfl
theorem PU:HS cc.1 cc.2.1 cc.2.2=HS w K B:=by unfold w K B;rfl
noncomputable def UB:rt:=cZ (ry 3 0) []
noncomputable def UC:cg:=.Assign [.Attribute (.Name "self" ⟨9,8,9,12⟩) "told" ⟨9,8,9,17⟩] (.Name "told" ⟨9,20,9,24⟩) ⟨9,8,9,24⟩
noncomputable def UD (K:H8) (tab:Bool) (f:ew):=(zr K f,f.body,f.scope,f.params.args.map (·.arg),kO K f,!tab ||(sf f.code).any λc=>KN K c 733)
noncomputable def PW:List ay:=52::(uE.map (·.1)++pX.map (·.1))
noncomputable def BE (K:H8):=(vI.map λp=>jy K p.1,uE.map λp=>(nQ K p.1).map (UD K p.2.tab),pX.map λp=>nR K p.1,vJ.map λp=>p.2.map λq=>vt K p.1 q.1,zp K 662 "level",
 vK.all λp=>p.2.all λx=>w8 K p.1 x&&w9 K p.1 x,PW.all λa=>Ot K (.ref a),nS K 52&&setX K 52 "told"&&EL K 52 "told"&&KL K (.ref 36),gC K (.ref 52) "__init__",(nQ K 36).map λf=>(zr K f,f.body,f.scope,f.params.args.map (·.arg),kO K f))
noncomputable def zI:List (Option PV)× List (Option (Bool × FuncBody × d9 × List aU × Option (List PV)× Bool))× List (Option ay)× List (List (Option ay))× Option ay × Bool × Bool × Bool × Option (Option ak)× Option (Bool × FuncBody × d9 × List aU × Option (List PV)):=
 (vI.map λp=>ac p.2,uE.map λp=>ac (au,.stmts p.2.body,p.2.scope,p.2.params,ac p.2.dflts,au),pX.map λp=>ac p.2.1,vJ.map λp=>p.2.map λq=>ac q.2,ac 427,
  au,au,au,ac (ac (.ref 36)),ac (au,.stmts [UC],UB.scope,["self", "told"],ac [.none]))
noncomputable def ks:List ay:=[3,29,35,36,38,39,51,52,62,68,69,71,72,89,90,92,93,110,111,117,118,122,123,125,126,143,144,146,147,157,158,164,165,171,172,173,179,180,186,187,188,194,195,201,202,208,209,215,216,222,223,229,230,236,237,243,244,250,251,257,258,264,265,271,272,278,279,285,286,292,293,299,300,306,307,313,314,320,321,327,328,334,335,341,342,348,349,355,356,362,363,371,377,378,380,381,419,420,426,427,428,434,435,441,442,448,449,462,463,476,477,479,480,497,498,504,505,539,540,546,547,553,554,560,561,563,564,661,662,670,671,682,683,689,690,696,697,701,702,708,709,713,714,720,721,725,726,730,731,735,736]
noncomputable def IW (T:BT) (n:Nat):H8:=ks.filterMap λa=>if bU a n=au then ((T.get a).bind alive).map λo=>(a,o) else al
noncomputable def PX (s:ze):=((s.tree.get 733).bind alive,bU 733 s.n,((s.tree.get gi).bind alive).isSome,UT (IW s.tree s.n) cJ "law",BE (IW s.tree s.n))
noncomputable def IX (w:jt) (os:oA):=zG kf pw w 11 (ac (.ref 6)) 5200 (xh w os) (Ib pw)
theorem T6 (w:jt) (os:oA):(IX w os).map (λs=>(Fa w.params s.abs,PX s))=ac ((au,Tf qv oU),(ac (Ox #[]),au,au,ac (ac (.ref 736)),zI)):=by kernel_rfl
theorem SN (w:jt) (os:oA):(IX w os).map (λs=>Fa w.params s.abs)=ac (au,Tf qv oU):=(Th ..).symm.trans (congrArg (tJ Prod.fst) (T6 w os))
theorem SO (w:jt) (os:oA):(IX w os).map PX=ac (ac (Ox #[]),au,au,ac (ac (.ref 736)),zI):=(Th ..).symm.trans (congrArg (tJ Prod.snd) (T6 w os))
noncomputable def AK.is:AK->ak->Bool
 | .int i,v=>v.isInt i
 | .str s,v=>kA s v
 | .bytes b,v=>Eo b.toList v
theorem lJ {i:Int} {v:ak} (h:AK.is (.int i) v=au):∃t,v=.int i t:=ak.isInt_shape h
theorem kZ {x:aU} {v:ak} (h:AK.is (.str x) v=au):∃t,v=.str x t:=ak.isStrOf_shape h
theorem iE {b:Array UInt8} {v:ak} (h:AK.is (.bytes b) v=au):∃t,v=.bytes b t:=by refine aI (W.isBytes_shape h) λt e=>?_;exact ⟨t,by simpa using e⟩
section
variable {prog:i7} {w:jt} {A:bw} {E:ak->aj->Prop} {s:aj} {Q:ak->aj->Prop}
theorem Fh:fG (.type "int") (.type "bytes")=pure am:=by refine ag (bQ ..) ?_;kernel_rfl
theorem MX:fG (.type "bytes") (.type "int")=pure am:=by refine ag (bQ ..) ?_;kernel_rfl
theorem Fi:fG (.type "str") (.type "bytes")=pure am:=by refine ag (bQ ..) ?_;kernel_rfl
theorem MY:fG (.type "bytes") (.type "str")=pure am:=by refine ag (bQ ..) ?_;kernel_rfl
theorem oW (b:Array UInt8) (t:ow) (i:Int) (u:ow):Ti (Builtin.«bytes.__eq__» ⟨[.bytes b t,.int i u],[]⟩) (.val (kF)):=
 .of_wp λM A E s Q h=>by obtain ⟨G,g,d,tk,os⟩:=s;wp_walk;exact cO Fh (aa (cS (af ⟨_,rfl,h⟩)))
theorem oX (b:Array UInt8) (t:ow) (i:Int) (u:ow):Ti (Builtin.«int.__eq__» ⟨[.int i u,.bytes b t],[]⟩) (.val (kF)):=
 .of_wp λM A E s Q h=>by obtain ⟨G,g,d,tk,os⟩:=s;wp_walk;exact ⟨_,rfl,h⟩
theorem oY (b:Array UInt8) (t:ow) (i:aU) (u:ow):Ti (Builtin.«bytes.__eq__» ⟨[.bytes b t,.str i u],[]⟩) (.val (kF)):=
 .of_wp λM A E s Q h=>by obtain ⟨G,g,d,tk,os⟩:=s;wp_walk;exact cO Fi (aa (cS (af ⟨_,rfl,h⟩)))
theorem oZ (b:Array UInt8) (t:ow) (i:aU) (u:ow):Ti (Builtin.«str.__eq__» ⟨[.str i u,.bytes b t],[]⟩) (.val (kF)):=
 .of_wp λM A E s Q h=>by obtain ⟨G,g,d,tk,os⟩:=s;wp_walk;exact ⟨_,rfl,h⟩
theorem vM {b:Array UInt8} {t:ow} {i:Int} {u:ow} (h:Q (.bool am) s):aw (aq prog w) A (kG .Eq (.bytes b t) (.int i u)) Q E s:=
 fA (k:=false) (λW=>typeIs_bytes W b t) (λW=>ia W i u) (by decide) Fh dF tK rfl
  (jm dF (typeIs_bytes s b t) jE (jn _ _) (oW b t i u)
   ⟨rfl,jm tK (ia s i u) Bc (y7 _ _) (oX b t i u) ⟨rfl,h⟩⟩)
theorem vN {b:Array UInt8} {t:ow} {i:Int} {u:ow} (h:Q (.bool am) s):aw (aq prog w) A (kG .Eq (.int i u) (.bytes b t)) Q E s:=
 fA (k:=false) (λW=>ia W i u) (λW=>typeIs_bytes W b t) (by decide) MX rX dF rfl
  (jm rX (ia s i u) Bc (y7 _ _) (oX b t i u)
   ⟨rfl,jm dF (typeIs_bytes s b t) jE (jn _ _) (oW b t i u) ⟨rfl,h⟩⟩)
theorem vO {b:Array UInt8} {t:ow} {i:aU} {u:ow} (h:Q (.bool am) s):aw (aq prog w) A (kG .Eq (.bytes b t) (.str i u)) Q E s:=
 fA (k:=false) (λW=>typeIs_bytes W b t) (λW=>ic W i u) (by decide) Fi dF tL rfl
  (jm dF (typeIs_bytes s b t) jE (jn _ _) (oY b t i u)
   ⟨rfl,jm tL (ic s i u) Be (y8 _ _) (oZ b t i u) ⟨rfl,h⟩⟩)
theorem vP {b:Array UInt8} {t:ow} {i:aU} {u:ow} (h:Q (.bool am) s):aw (aq prog w) A (kG .Eq (.str i u) (.bytes b t)) Q E s:=
 fA (k:=false) (λW=>ic W i u) (λW=>typeIs_bytes W b t) (by decide) MY rY dF rfl
  (jm rY (ic s i u) Be (y8 _ _) (oZ b t i u)
   ⟨rfl,jm dF (typeIs_bytes s b t) jE (jn _ _) (oY b t i u) ⟨rfl,h⟩⟩)
theorem fy {a b:ak} {r:Bool} {Q:Bool->aj->Prop} (J:(a==b)=am) (G:∀x t,a≠ak.float x t)
  (h:∀I,I (.bool r) s->aw (aq prog w) A (kG .Eq a b) I E s) (q:Q r s):aw (aq prog w) A (eqBool a b) Q E s:=by
 refine bc (mu (by rw [J];exact aZ) ?_);induction a with
 | float x t=>exact absurd rfl (G x t)
 | _=>exact (aa (h _ (fb q)))
end
noncomputable def SQ (v:ak):Option AK:=@Uc (λY=>Option AK) v al al al (λY=>al) (λi Y=>ac (.int i)) (λY Y=>al) (λs Y=>ac (.str s)) (λb Y=>ac (.bytes b)) (λY=>al) (λY=>al) λY=>al
theorem BF {a:AK} {v:ak} (h:a.is v=au):SQ v=ac a:=by
 induction a with
 | int i=>exact aI (lJ h) λt e=>ag e rfl
 | str i=>exact aI (kZ h) λt e=>ag e rfl
 | bytes i=>exact aI (iE h) λt e=>ag e rfl
theorem AK.inj (v:ak) (a b:AK) (G:a.is v=au) (I:b.is v=au):a=b:=ss (BF G) (BF I)
noncomputable def pY (prog:i7) (w:jt):KeyKind prog w AK where
 is:=AK.is
 hash k:=match k with
  | .int i=>hashInt i
  | .str x=>hashStr w x
  | .bytes b=>hashW w.params (.bytes b.toList)
 inj:=AK.inj
 byValue k v h:=by cases k with
  | int i=>refine aI (lJ h) λt J=>?_;subst J;rfl
  | str i=>refine aI (kZ h) λt J=>?_;subst J;rfl
  | bytes i=>refine aI (iE h) λt J=>?_;subst J;rfl
 pyHash:=λ{A E s k v Q} hv h=>by cases k with
  | int i=>exact (intKind prog w).pyHash (k:=i) hv h
  | str i=>exact (strKind prog w).pyHash (k:=i) hv h
  | bytes i=>exact (bytesKind prog w).pyHash (k:=i.toList) hv h
 eqBool:=λ{A E s a b u v Q} hu hv h=>by
  cases a with
  | int i=>cases b with
   | int j=>exact (intKind prog w).eqBool (a:=i) (b:=j) hu hv (by simpa using h)
   | str j=>refine aI (lJ hu) λt J=>?_;refine ag J (aI (kZ hv) λO G=>?_);refine ag G (fy (r:=false) rfl (λY Y e=>nomatch e) (λI q=>EqMixed.eq_int_str q) h)
   | bytes j=>refine aI (lJ hu) λt J=>?_;refine ag J (aI (iE hv) λO G=>?_);refine ag G (fy (r:=false) rfl (λY Y e=>nomatch e) (λI q=>vN q) h)
  | str i=>cases b with
   | int j=>refine aI (kZ hu) λt J=>?_;refine ag J (aI (lJ hv) λO G=>?_);refine ag G (fy (r:=false) rfl (λY Y e=>nomatch e) (λI q=>EqMixed.eq_str_int q) h)
   | str j=>exact (strKind prog w).eqBool (a:=i) (b:=j) hu hv (by simpa using h)
   | bytes j=>refine aI (kZ hu) λt J=>?_;refine ag J (aI (iE hv) λO G=>?_);refine ag G (fy (r:=false) rfl (λY Y e=>nomatch e) (λI q=>vP q) h)
  | bytes i=>cases b with
   | int j=>refine aI (iE hu) λt J=>?_;refine ag J (aI (lJ hv) λO G=>?_);refine ag G (fy (r:=false) rfl (λY Y e=>nomatch e) (λI q=>vM q) h)
   | str j=>refine aI (iE hu) λt J=>?_;refine ag J (aI (kZ hv) λO G=>?_);refine ag G (fy (r:=false) rfl (λY Y e=>nomatch e) (λI q=>vO q) h)
   | bytes j=>exact (bytesKind prog w).eqBool (a:=i.toList) (b:=j.toList) hu hv (by simpa [wK] using h)
 «strs» k x t v h:=by
  cases k with
  | int i=>refine aI (lJ h) λt e=>?_;cases e
  | str i=>refine aI (kZ h) λu e=>?_;cases e;exact (strKind prog w).«strs» x x t v h
  | bytes i=>refine aI (iE h) λt e=>?_;cases e
noncomputable abbrev gj:=pY prog w
inductive VR (ρ:List ay):PV->ak->Prop
 | none:VR ρ .none .none
 | bool (b:Bool):VR ρ (.bool b) (.bool b)
 | int (i:Int) (t:ow):VR ρ (.int i) (.int i t)
 | str (s:aU) (t:ow):VR ρ (.str s) (.str s t)
 | bytes (b:Array UInt8) (t:ow):VR ρ (.bytes b) (.bytes b t)
 | loc {i:Nat} {a:ay} (h:ρ[i]? =ac a):VR ρ (.loc i) (.ref a)
 | ref (a:ay):VR ρ (.ref a) (.ref a)
 | bi (id:String):VR ρ (.bi id) (.builtin id)
 | ty (n:String):VR ρ (.ty n) (.type n)
inductive eI (ρ:List ay):List PV->List ak->Prop
 | nil:eI ρ [] []
 | cons {p:PV} {v:ak} {ps:List PV} {vs:List ak} (h:VR ρ p v) (r:eI ρ ps vs):eI ρ (p::ps) (v::vs)
def MZ (ρ:List ay):Option PV->Option ak->Prop
 | none,al=>True
 | some p,ac v=>VR ρ p v
 | _,_=>False
def UE (ρ:List ay) (v:ak):PV->Prop
 | .none=>v=.none
 | .bool b=>v=.bool b
 | .int i=>∃t,v=.int i t
 | .str s=>∃t,v=.str s t
 | .bytes b=>∃t,v=.bytes b t
 | .loc i=>∃a,v=.ref a∧ρ[i]? =ac a
 | .ref a=>v=.ref a
 | .bi id=>v=.builtin id
 | .ty n=>v=.type n
theorem VR.inv {ρ:List ay} {p:PV} {v:ak} (h:VR ρ p v):UE ρ v p:=by
 induction h using VR.casesOn with
 | int _ t=>exact ⟨t,rfl⟩
 | str _ t=>exact ⟨t,rfl⟩
 | bytes _ t=>exact ⟨t,rfl⟩
 | loc h=>exact ⟨_,rfl,h⟩
 | _=>exact rfl
theorem eI.inv {ρ:List ay} {ps:List PV} {vs:List ak} (h:eI ρ ps vs):match (generalizing:=false) ps with
 | []=>vs=[]
 | p::ps=>∃v G,vs=v::G∧VR ρ p v∧eI ρ ps G:=by
 induction h using eI.casesOn with
 | nil=>exact rfl
 | cons h r=>exact ⟨_,_,rfl,h,r⟩
@[elab_as_elim] theorem VR.eint {ρ:List ay} {i:Int} {v:ak} {motive:ak->Prop} (r:VR ρ (.int i) v) (k:∀t,motive (.int i t)):motive v:=aI r.inv λt e=>ag e (k t)
@[elab_as_elim] theorem VR.estr {ρ:List ay} {i:aU} {v:ak} {motive:ak->Prop} (r:VR ρ (.str i) v) (k:∀t,motive (.str i t)):motive v:=aI r.inv λt e=>ag e (k t)
@[elab_as_elim] theorem VR.ebytes {ρ:List ay} {i:Array UInt8} {v:ak} {motive:ak->Prop} (r:VR ρ (.bytes i) v) (k:∀t,motive (.bytes i t)):motive v:=aI r.inv λt e=>ag e (k t)
@[elab_as_elim] theorem VR.eloc {ρ:List ay} {i:Nat} {v:ak} {motive:ak->Prop} (r:VR ρ (.loc i) v) (k:∀a,ρ[i]? =ac a->motive (.ref a)):motive v:=ae r.inv λt e h=>ag e (k t h)
theorem VR.inone {ρ:List ay} {v:ak} (r:VR ρ .none v):v=.none:=r.inv
theorem VR.ibool {ρ:List ay} {b:Bool} {v:ak} (r:VR ρ (.bool b) v):v=.bool b:=r.inv
theorem VR.iref {ρ:List ay} {a:ay} {v:ak} (r:VR ρ (.ref a) v):v=.ref a:=r.inv
theorem VR.ibi {ρ:List ay} {a:String} {v:ak} (r:VR ρ (.bi a) v):v=.builtin a:=r.inv
theorem VR.ity {ρ:List ay} {a:String} {v:ak} (r:VR ρ (.ty a) v):v=.type a:=r.inv
theorem VR.iloc {ρ:List ay} {i:Nat} {v:ak} (r:VR ρ (.loc i) v):∃a,v=.ref a∧ρ[i]? =ac a:=r.inv
theorem eI.inil {ρ:List ay} {vs:List ak} (r:eI ρ [] vs):vs=[]:=r.inv
theorem eI.icons {ρ:List ay} {p:PV} {ps:List PV} {vs:List ak} (r:eI ρ (p::ps) vs):∃v G,vs=v::G∧VR ρ p v∧eI ρ ps G:=r.inv
theorem VR.mono {ρ:List ay} {p:PV} {v:ak} (h:VR ρ p v) (r:List ay):VR (ρ++r) p v:=by
 induction h using VR.casesOn with
 | loc e=>exact .loc (by refine ag (ax (ao.mp e).1) ?_;exact e)
 | _=>constructor
theorem eI.mono {ρ:List ay} {ps:List PV} {vs:List ak} (h:eI ρ ps vs) (r:List ay):eI (ρ++r) ps vs:=by
 induction h with
 | nil=>exact .nil
 | cons a _ P=>exact .cons (a.mono r) P
theorem MZ.mono {ρ:List ay} {p:Option PV} {v:Option ak} (h:MZ ρ p v) (r:List ay):MZ (ρ++r) p v:=by rcases p with _ | _ <;> rcases v with _ | _ <;> first | exact h | exact VR.mono h r
theorem eI.length {ρ:List ay} {ps:List PV} {vs:List ak} (h:eI ρ ps vs):ps.length=vs.length:=by
 induction h with
 | nil=>rfl
 | cons _ _ P=>simp [P]
theorem eI.get {ρ:List ay} {ps:List PV} {vs:List ak} (h:eI ρ ps vs):∀{i:Nat} {p:PV},ps[i]? =ac p->∃v,vs[i]? =ac v∧VR ρ p v:=by
 induction h with
 | nil=>intro i p e;simp at e
 | cons a _ P=>
  intro i p e;induction i using eX with
  | zero=>simp at e;subst e;exact ⟨_,rfl,a⟩
  | succ i=>simp at e;exact P e
theorem eI.append {ρ:List ay} {ps G:List PV} {vs I:List ak} (h:eI ρ ps vs) (g:eI ρ G I):eI ρ (ps++G) (vs++I):=by
 induction h with
 | nil=>exact g
 | cons a _ P=>exact .cons a P
theorem eI.snoc {ρ:List ay} {ps:List PV} {vs:List ak} {p:PV} {v:ak} (h:eI ρ ps vs) (g:VR ρ p v):eI ρ (ps++[p]) (vs++[v]):=h.append (.cons g .nil)
def i6 (h:bM):bJ->ak->Prop
 | .atom k,v=>k.is v=au
 | .tup ks,v=>∃a,v=.ref a∧Bf (gj) h ks a
noncomputable def iF:bJ->Int
 | .atom k=>(gj).hash k
 | .tup ks=>tupleKeyHash (gj) ks
def j3 (o:Obj):Prop:=o.cls=.type "tuple"∧∃G n,o.data=.seq G n
noncomputable def BG:PV->Bool
 | .loc _=>au
 | _=>am
structure rz (ρ:List ay) (h:bM) (p:bJ × PV × PV) (e:cz):Prop where
 hash:e.hash=iF p.1
 key:i6 h p.1 e.key
 kv:VR ρ p.2.1 e.key
 vv:VR ρ p.2.2 e.val
 own:∀ks,p.1=.tup ks->BG p.2.1=au
inductive eZ (ρ:List ay) (h:bM):List (bJ × PV × PV)->List cz->Prop
 | nil:eZ ρ h [] []
 | cons {p ps e es} (a:rz ρ h p e) (r:eZ ρ h ps es):eZ ρ h (p::ps) (e::es)
inductive nV (ρ:List ay):List (aU × PV)->List cz->Prop
 | nil:nV ρ [] []
 | cons {n:aU} {p:PV} {ps es} {hs:Int} {t:ow} {v:ak} (a:VR ρ p v) (r:nV ρ ps es):nV ρ ((n,p)::ps) (⟨hs,.str n t,v⟩::es)
theorem Bf.to {h h':bM} {ks:List AK} {a:ay} (x:Bf (gj) h ks a) (k:∀o,h.get? a=ac o->h'.get? a=ac o):Bf (gj) h' ks a:=
 gy x λo G n V r=>⟨o,G,n,k o V,r⟩
theorem rz.to {ρ:List ay} {h h':bM} {p e} (x:rz ρ h p e) (k:∀a∈ρ,∀o,h.get? a=ac o->j3 o->h'.get? a=ac o):rz ρ h' p e:=by
 refine ⟨x.hash,?_,x.kv,x.vv,x.own⟩;have h1:=x.key;have h2:=x.own;have I:=x.kv;obtain ⟨key,kv,vv⟩:=p;dsimp only at h1 h2 I ⊢;induction key with
 | atom a=>exact h1
 | tup ks=>
  obtain ⟨a,O,o,G,n,V,J,r⟩:=h1;have h2:=h2 ks rfl;induction kv <;> simp [BG] at h2;rename_i i;rw [O] at I;cases I with
  | loc hl=>exact ⟨a,O,o,G,n,k a (aN hl) o V ⟨J,_,_,r.1⟩,J,r⟩
theorem rz.mono {ρ:List ay} {h:bM} {p e} (x:rz ρ h p e) (r:List ay):rz (ρ++r) h p e:=⟨x.hash,x.key,x.kv.mono r,x.vv.mono r,x.own⟩
theorem eZ.to {ρ:List ay} {h h':bM} {ps es} (x:eZ ρ h ps es) (k:∀a∈ρ,∀o,h.get? a=ac o->j3 o->h'.get? a=ac o):eZ ρ h' ps es:=by
 induction x with
 | nil=>exact .nil
 | cons a _ P=>exact .cons (a.to k) P
theorem eZ.mono {ρ:List ay} {h:bM} {ps es} (x:eZ ρ h ps es) (r:List ay):eZ (ρ++r) h ps es:=by
 induction x with
 | nil=>exact .nil
 | cons a _ P=>exact .cons (a.mono r) P
theorem nV.mono {ρ:List ay} {ps es} (x:nV ρ ps es) (r:List ay):nV (ρ++r) ps es:=by
 induction x with
 | nil=>exact .nil
 | cons a _ P=>exact .cons (a.mono r) P
theorem eZ.length {ρ:List ay} {h:bM} {ps es} (x:eZ ρ h ps es):ps.length=es.length:=by
 induction x with
 | nil=>rfl
 | cons _ _ P=>simp [P]
structure SR (ρ:List ay) (h:bM) (l:Pm) (fd:ew):Prop where
 body:fd.body=.expr l.body
 scope:fd.scope=l.scope
 glob:fd.globals=cJ
 blt:fd.builtins=jj
 code:h.CodeRec fd.code fd.qualname
 dflt:fd.defaults=.none
 params:so fd.params=au
 cells:∀x c,l.cells.lookup x=ac c->∃a,fd.closure.lookup x=ac a∧ρ[c]? =ac a
section
def sB (ρ:List ay) (h:bM) (a:ay):PO->Prop
 | .list xs=>∃vs n,h.get? a=ac ⟨.type "list",al,.seq vs n,#[]⟩∧eI ρ xs vs.toList
 | .tup xs=>∃vs n,h.get? a=ac ⟨.type "tuple",al,.seq vs n,#[]⟩∧eI ρ xs vs.toList
 | .dict es ep=>∃des,h.get? a=ac ⟨.type "dict",al,.dict des ep,#[]⟩∧eZ ρ h es des.toList∧(es.map (·.1)).Nodup
 | .inst C d=>∃G,ρ[d]? =ac G∧h.get? a=ac ⟨.ref C,ac G,.plain,#[]⟩
 | .exc C d=>∃G vs I,ρ[d]? =ac G∧h.get? a=ac ⟨.ref C,ac G,.fields vs,I⟩
 | .ns fs=>∃des n,h.get? a=ac ⟨.type "dict",al,.dict des n,#[]⟩∧nV ρ fs des.toList
 | .barr b=>h.get? a=ac ⟨.type "bytearray",al,.bytearray b 0,#[]⟩
 | .cell v=>∃o O,h.get? a=ac o∧o.data=.cell O∧MZ ρ v O
 | .lam l=>∃cl S fd I,h.get? a=ac ⟨cl,S,.func fd,I⟩∧cl=.type "function"∧SR ρ h l fd
 | .vals d=>∃J,ρ[d]? =ac J∧h.get? a=ac ⟨.type "dict_values",al,.fields #[.ref J],#[]⟩
 | .range n=>∃t u v,IsRange h a 0 n 1 t u v
 | .pin xs o=>h.get? a=ac o∧o.cls=.type "list"∧∃vs n,o.data=.seq vs n∧eI ρ xs vs.toList
 | .codes P used=>a=P∧∃ps,h.get? a=ac (Ox ps)∧Rk ps.toList∧∀pos:cP,(pos.line,pos.col)∉used->wL pos ps.toList=al
structure aY (ρ:List ay) (st:List PO) (h:bM):Prop where
 base:∀b o,B.get? b=ac o->h.get? b=ac o
 nodup:ρ.Nodup
 len:ρ.length=st.length
 fresh:∀a∈ρ,B.get? a=al
 objs:∀(i:Nat) (po:PO),st[i]? =ac po->∃a,ρ[i]? =ac a∧sB ρ h a po
end
section
theorem sB.mono {ρ:List ay} {h:bM} {a:ay} {po:PO} (x:sB ρ h a po) (r:List ay):sB (ρ++r) h a po:=by
 have up:∀{i:Nat} {b:ay},ρ[i]? =ac b->(ρ++r)[i]? =ac b:=λe=>by refine ag (ax (ao.mp e).1) ?_;exact e
 induction po with
 | list xs=>refine cK x λvs n h1 h2=>?_;clear x;exact ⟨vs,n,h1,h2.mono r⟩
 | tup xs=>refine cK x λvs n h1 h2=>?_;clear x;exact ⟨vs,n,h1,h2.mono r⟩
 | dict es ep=>refine bP x λvs h1 h2 G=>?_;clear x;exact ⟨vs,h1,h2.mono r,G⟩
 | inst C d=>refine ae x λI h1 h2=>?_;clear x;exact ⟨I,up h1,h2⟩
 | exc C d=>refine gy x λI vs J h1 h2=>?_;clear x;exact ⟨I,vs,J,up h1,h2⟩
 | ns fs=>refine cK x λvs n h1 h2=>?_;clear x;exact ⟨vs,n,h1,h2.mono r⟩
 | barr b=>exact x
 | cell v=>refine bz x λo W h1 G h2=>?_;clear x;exact ⟨o,W,h1,G,h2.mono r⟩
 | lam l=>refine gS x λcl S fd J h1 h2 L=>?_;clear x;exact ⟨cl,S,fd,J,h1,h2,⟨L.body,L.scope,L.glob,L.blt,L.code,L.dflt,L.params,λy c e=>ae (L.cells y c e) λa e1 e2=>⟨a,e1,up e2⟩⟩⟩
 | vals d=>refine ae x λO h1 h2=>?_;clear x;exact ⟨O,up h1,h2⟩
 | range n=>exact x
 | codes P u=>exact x
 | pin xs o=>obtain ⟨h1,h2,vs,n,G,V⟩:=x;exact ⟨h1,h2,vs,n,G,V.mono r⟩
theorem sB.to {ρ:List ay} {h h':bM} {a:ay} {po:PO} (x:sB ρ h a po) (k:∀o,h.get? a=ac o->h'.get? a=ac o) (f:∀b∈ρ,∀o,h.get? b=ac o->j3 o->h'.get? b=ac o)
  (W:∀O q,h.CodeRec O q->h'.CodeRec O q):sB ρ h' a po:=by
 induction po with
 | list xs=>refine cK x λvs n h1 h2=>?_;clear x;exact ⟨vs,n,k _ h1,h2⟩
 | tup xs=>refine cK x λvs n h1 h2=>?_;clear x;exact ⟨vs,n,k _ h1,h2⟩
 | dict es ep=>refine bP x λvs h1 h2 I=>?_;clear x;exact ⟨vs,k _ h1,h2.to f,I⟩
 | inst C d=>refine ae x λG h1 h2=>?_;clear x;exact ⟨G,h1,k _ h2⟩
 | exc C d=>refine gy x λG vs J h1 h2=>?_;clear x;exact ⟨G,vs,J,h1,k _ h2⟩
 | ns fs=>refine cK x λvs n h1 h2=>?_;clear x;exact ⟨vs,n,k _ h1,h2⟩
 | barr b=>exact k _ x
 | cell v=>refine bz x λo p h1 I h2=>?_;clear x;exact ⟨o,p,k _ h1,I,h2⟩
 | lam l=>refine gS x λcl V fd J h1 h2 L=>?_;clear x;exact ⟨cl,V,fd,J,k _ h1,h2,⟨L.body,L.scope,L.glob,L.blt,W _ _ L.code,L.dflt,L.params,L.cells⟩⟩
 | vals d=>refine ae x λS h1 h2=>?_;clear x;exact ⟨S,h1,k _ h2⟩
 | range n=>refine fH x λt u v h1=>?_;clear x;exact ⟨t,u,v,k _ h1⟩
 | codes P u=>obtain ⟨e,ps,h1,h2⟩:=x;exact ⟨e,ps,k _ h1,h2⟩
 | pin xs o=>exact ⟨k _ x.1,x.2⟩
def zJ (ρ:List ay) (h h':bM):Prop:=∀b o,h.get? b=ac o->b∉ρ->∃G,h'.get? b=ac {o with slots:=G}∧((∃vs,o.data=.fields vs)->G=o.slots)
theorem zJ.refl (ρ:List ay) (h:bM):zJ ρ h h:=λY o e Y=>⟨o.slots,e,λY=>rfl⟩
theorem IY {ρ:List ay} {h h':bM} (k:zJ ρ h h') (O:∀b∈ρ,∀o,h.get? b=ac o->∃o',h'.get? b=ac o'∧((∃vs,o.data=.fields vs)->∃vs ws,o.data=.fields vs∧o'.data=.fields ws∧vs[1]? =ws[1]?)) {I:ak} {q:aU} (x:h.CodeRec I q):h'.CodeRec I q:=by
 refine fI x λc o vs t e g d r=>?_;clear x;by_cases J:c∈ρ
 ·refine ae (O c J o g) λo' G f=>bz (f ⟨vs,d⟩) λP ws e1 e2 e3=>?_;cases (d).symm.trans e1;exact ⟨c,o',ws,t,e,G,e2,e3▸r⟩
 ·refine ae (k c o g J) λS G _=>⟨c,_,vs,t,e,G,d,r⟩
end
section
variable {ρ:List ay} {st:List PO} {h h':bM}
theorem xi (k:∀b o,h.get? b=ac o->h'.get? b=ac o) (G:ak) (q:aU) (x:h.CodeRec G q):h'.CodeRec G q:=x.keeps k
theorem xj {a:ay} {o:Obj} (J:eA a h h') (V:h.get? a=ac o) (hd:∀vs,o.data≠.fields vs) (G:ak) (q:aU) (x:h.CodeRec G q):h'.CodeRec G q:=
 x.keepsBut (λb o I e=>(J.2 b I).trans e) V hd
theorem aY.sub (G:aY ρ st h) (k:∀b o,h.get? b=ac o->h'.get? b=ac o):aY ρ st h':=
 ⟨λb o e=>k _ _ (G.base b o e),G.nodup,G.len,G.fresh,λi po e=>ae (G.objs i po e) λa e1 e2=>⟨a,e1,e2.to (λo q=>k _ o q) (λb Y o q Y=>k _ o q) (xi k)⟩⟩
theorem aY.obj (G:aY ρ st h) {i:Nat} {po:PO} (e:st[i]? =ac po):∃a,ρ[i]? =ac a∧sB ρ h a po:=G.objs i po e
theorem aY.at (G:aY ρ st h) {i:Nat} {a:ay} {po:PO} (hi:ρ[i]? =ac a) (e:st[i]? =ac po):sB ρ h a po:=by refine ae (G.objs i po e) λ_ e1 e2=>?_;obtain rfl:=fm (hi.symm.trans e1);exact e2
theorem aY.here (G:aY ρ st h) {a:ay} (I:a∈ρ):∃o,h.get? a=ac o:=by
 obtain ⟨i,hi,e⟩:=lb I;have hl:i <st.length:=by rw [← G.len];exact hi
 refine ae (G.objs i st[i] (by simp [hl])) λb e1 e2=>?_;rw [cB hi,e] at e1;refine ag (fm e1) ?_;cases q:st[i] with
 | list xs=>rw [q] at e2;refine cK e2 λ_ _ h1 _=>?_;clear e2;exact ⟨_,h1⟩
 | tup xs=>rw [q] at e2;refine cK e2 λ_ _ h1 _=>?_;clear e2;exact ⟨_,h1⟩
 | dict es ep=>rw [q] at e2;refine ae e2 λ_ h1 _=>?_;clear e2;exact ⟨_,h1⟩
 | inst C d=>rw [q] at e2;refine ae e2 λ_ _ h1=>?_;clear e2;exact ⟨_,h1⟩
 | exc C d=>rw [q] at e2;refine gy e2 λ_ _ _ _ h1=>?_;clear e2;exact ⟨_,h1⟩
 | ns fs=>rw [q] at e2;refine cK e2 λ_ _ h1 _=>?_;clear e2;exact ⟨_,h1⟩
 | barr b=>rw [q] at e2;exact ⟨_,e2⟩
 | cell v=>rw [q] at e2;refine cK e2 λ_ _ h1 _=>?_;clear e2;exact ⟨_,h1⟩
 | lam l=>rw [q] at e2;refine r9 e2 λ_ _ _ _ h1 _=>?_;clear e2;exact ⟨_,h1⟩
 | vals d=>rw [q] at e2;refine ae e2 λ_ _ h1=>?_;clear e2;exact ⟨_,h1⟩
 | range n=>rw [q] at e2;refine fH e2 λ_ _ _ h1=>?_;clear e2;exact ⟨_,h1⟩
 | codes P u=>rw [q] at e2;obtain ⟨_,_,h1,_⟩:=e2;exact ⟨_,h1⟩
 | pin xs o=>rw [q] at e2;exact ⟨_,e2.1⟩
theorem aY.add (G:aY ρ st h) {a:ay} {po:PO} (k:∀b o,h.get? b=ac o->h'.get? b=ac o) (O:h.get? a=al) (x:sB (ρ++[a]) h' a po):
  aY (ρ++[a]) (st++[po]) h':=by
 refine ⟨(G.sub k).base,?_,by simp [G.len],?_,λi J e=>?_⟩
 ·rw [fZ];refine ⟨G.nodup,by simp,λb I c S e=>?_⟩;refine aI (G.here I) λo P=>?_;rw [aV.mp S] at e;rw [e,O] at P;exact n1 P
 ·intro b I;rcases bb.mp I with I | I
  ·exact G.fresh b I
  ·refine ag (aV.mp I ..) ?_;cases q:B.get? a with
   | none=>rfl
   | some o=>have:=G.base _ _ q;exact sn this O
 ·by_cases hi:i <st.length
  ·rw [ax hi] at e;refine ae ((G.sub k).objs i J e) λb e1 e2=>?_;exact ⟨b,by refine ag (ax (by rw [G.len];exact hi)) ?_;exact e1,e2.mono _⟩
  ·have V:i=st.length:=by have:=(ao.mp e).1;simp at this;exact by lia
   subst V;simp at e;subst e;exact ⟨a,by refine bZ (G.len ..) ?_;simp,x⟩
theorem aY.upd (G:aY ρ st h) {a:ay} {i:Nat} {po:PO} {o:Obj} (I:ρ[i]? =ac a) (V:h.get? a=ac o) (J:eA a h h') (l:¬j3 o) (hd:∀vs,o.data≠.fields vs)
  (x:sB ρ h' a po):aY ρ (st.set i po) h':=by
 have f:B.get? a=al:=G.fresh a (aN I);refine ⟨λb o' e=>?_,G.nodup,by simp [G.len],G.fresh,λj P e=>?_⟩
 ·have W:b≠a:=by rintro rfl;exact sn e f
  exact (J.2 b W).trans (G.base b o' e)
 ·by_cases S:i=j
  ·subst S;rw [bL (by refine bZ (G.len ..) ?_;exact (ao.mp I).1)] at e;refine bZ (fm e) ⟨a,I,x⟩
  ·rw [bn S] at e;refine ae (G.objs j P e) λb e1 e2=>?_;have W:b≠a:=by rintro rfl;exact S ((mC (ao.mp I).1 G.nodup).mp (I.trans e1.symm))
   refine ⟨b,e1,e2.to (λo' q=>(J.2 b W).trans q) (λc Y o' q O=>?_) (xj J V hd)⟩;exact (J.2 c (by rintro rfl;obtain rfl:=ss V q;exact l O)).trans q
end
section
structure Ev (ρ:List ay) (h:bM) (ρ':List ay) (st':List PO) (h':bM):Prop where
 ext:∃r,ρ'=ρ++r∧∀a∈r,h.get? a=al
 good:aY ρ' st' h'
 keep:zJ ρ h h'
theorem Ev.refl {ρ:List ay} {st:List PO} {h:bM} (G:aY ρ st h):Ev ρ h ρ st h:=⟨⟨[],by simp,by simp⟩,G,zJ.refl _ _⟩
theorem zJ.here {ρ:List ay} {h h':bM} (k:zJ ρ h h') {b:ay} {o:Obj} (e:h.get? b=ac o) (G:b∉ρ):∃o',h'.get? b=ac o':=ae (k b o e G) λY q Y=>⟨_,q⟩
theorem Ev.there {ρ ρ':List ay} {st st':List PO} {h h':bM} (G:aY ρ st h) (x:Ev ρ h ρ' st' h') {b:ay} (e:(h.get? b).isSome=au):(h'.get? b).isSome=au:=by
 refine aI (bd.mp e) λo e=>?_;by_cases I:b∈ρ
 ·refine ae x.ext λr e1 e2=>aI (x.good.here (a:=b) (by refine ag (e1 ..) ?_;exact f5 _ I)) λo' q=>?_;refine ag (q ..) ?_;rfl
 ·refine ae (x.keep b o e I) λJ q _=>ag (q ..) ?_;rfl
theorem Ev.trans {ρ ρ' ρ'':List ay} {st st' st'':List PO} {h h' h'':bM} (G:aY ρ st h) (x:Ev ρ h ρ' st' h') (y:Ev ρ' h' ρ'' st'' h''):Ev ρ h ρ'' st'' h'':=by
 refine ae x.ext λr e1 e2=>ae y.ext λz S J=>⟨⟨r++z,by exact ag (S ..) (ag (e1 ..) (ag (bI ..) rfl)),λa I=>?_⟩,y.good,λb o e W=>?_⟩
 ·rcases bb.mp I with I | I
  ·exact e2 a I
  ·cases q:h.get? a with
   | none=>rfl
   | some o=>have:=x.there G (b:=a) (by refine ag (q ..) ?_;rfl);rw [J a I] at this;exact n3 this
 ·refine ae (x.keep b o e W) λY q l=>?_;have O:b∉ρ':=by
   refine ag (e1 ..) ?_;intro m;rcases bb.mp m with m | m
   ·exact W m
   ·(first | obtain rfl:=ss (e2 b m) e | exact sn e (e2 b m) | exact sn (e2 b m) e | exact n3 (((e2 b m)).symm.trans e) | exact n4 (((e2 b m)).symm.trans e) | exact n1 (((e2 b m)).symm.trans e))
  refine ae (y.keep b _ q O) λV p P=>⟨V,p,λf=>(P f).trans (l f)⟩
theorem Ev.pre {ρ ρ':List ay} {st':List PO} {h h':bM} (x:Ev ρ h ρ' st' h') {p:PV} {v:ak} (r:VR ρ p v):VR ρ' p v:=by refine ae x.ext λG e _=>?_;refine ag (e ..) (r.mono G)
theorem Ev.pres {ρ ρ':List ay} {st':List PO} {h h':bM} (x:Ev ρ h ρ' st' h') {p:List PV} {v:List ak} (r:eI ρ p v):eI ρ' p v:=by refine ae x.ext λG e _=>?_;refine ag (e ..) (r.mono G)
theorem Ev.up {ρ ρ':List ay} {st':List PO} {h h':bM} (x:Ev ρ h ρ' st' h') {i:Nat} {a:ay} (e:ρ[i]? =ac a):ρ'[i]? =ac a:=by refine ae x.ext λG e1 _=>?_;refine ag (e1 ..) (ag (ax (ao.mp e).1) ?_);exact e
theorem Ev.notin {ρ ρ':List ay} {st':List PO} {h h':bM} (x:Ev ρ h ρ' st' h') {b:ay} {o:Obj} (e:h.get? b=ac o) (G:b∉ρ):b∉ρ':=by
 refine ae x.ext λr e1 e2=>ag (e1 ..) ?_;intro m;refine bk (bb.mp m) (λm=>?_) λm=>?_
 ·exact G m
 ·(first | obtain rfl:=ss (e2 b m) e | exact sn e (e2 b m) | exact sn (e2 b m) e | exact n3 (((e2 b m)).symm.trans e) | exact n4 (((e2 b m)).symm.trans e) | exact n1 (((e2 b m)).symm.trans e))
theorem Ev.sub {ρ:List ay} {st:List PO} {h h':bM} (G:aY ρ st h) (k:∀b o,h.get? b=ac o->h'.get? b=ac o):Ev ρ h ρ st h':=
 ⟨⟨[],by simp,by simp⟩,G.sub k,λb o e Y=>⟨o.slots,k b o e,λY=>rfl⟩⟩
theorem Ev.add {ρ:List ay} {st:List PO} {h h':bM} (G:aY ρ st h) {a:ay} {po:PO} (k:∀b o,h.get? b=ac o->h'.get? b=ac o) (I:h.get? a=al) (x:sB (ρ++[a]) h' a po):
  Ev ρ h (ρ++[a]) (st++[po]) h':=
 ⟨⟨[a],rfl,by simpa using I⟩,G.add k I x,λb o e Y=>⟨o.slots,k b o e,λY=>rfl⟩⟩
theorem Ev.push {ρ:List ay} {st:List PO} {h:bM} (G:aY ρ st h) {po:PO} (o:Obj) (I:o.isFreed=am) (x:sB (ρ++[h.objs.size]) (h.push o) h.objs.size po):
  Ev ρ h (ρ++[h.objs.size]) (st++[po]) (h.push o):=
 Ev.add G (λb o' e=>az o e) (aS (aG _)) x
theorem Ev.upd {ρ:List ay} {st:List PO} {h h':bM} (G:aY ρ st h) {a:ay} {i:Nat} {po:PO} {o:Obj} (I:ρ[i]? =ac a) (V:h.get? a=ac o) (J:eA a h h') (P:¬j3 o) (hd:∀vs,o.data≠.fields vs)
  (x:sB ρ h' a po):Ev ρ h ρ (st.set i po) h':=
 ⟨⟨[],by simp,by simp⟩,G.upd I V J P hd x,λb o' e O=>⟨o'.slots,(J.2 b (λq=>O (q▸aN I))).trans e,λY=>rfl⟩⟩
end
structure dO:Prop where
 kin:K.In B
 glob:∃mg,B.Ns cJ mg
 blt:∃mb,B.Ns jj mb∧∀x:aU,x≠ "__name__"->mb x=uk x
 nolimit:B.NoLimit
 sysm:∃o,B.get? gi=ac o
 bmain:∃mg bm o,B.Ns cJ mg∧mg "__builtins__"=ac (.ref bm)∧bm≠jj∧bm≠cJ∧B.get? bm=ac o∧o.cls=.type "module"∧o.dict=ac jj∧o.data=.plain
section
def PY (ρ:List ay) (L:ay) (h h':bM):Prop:=∀b o,h.get? b=ac o->b∉ρ->b≠L->∃G,h'.get? b=ac {o with slots:=G}∧((∃vs,o.data=.fields vs)->G=o.slots)
structure iW (ρ:List ay) (L:ay) (h:bM) (ρ':List ay) (st':List PO) (h':bM):Prop where
 ext:∃r,ρ'=ρ++r∧∀a∈r,h.get? a=al
 good:aY ρ' st' h'
 keep:PY ρ L h h'
 here:∃o,h'.get? L=ac o∧∀vs,o.data≠.fields vs
structure eH (ρ:List ay) (h:bM) (env:Env) (pe:bD):Prop where
 sc:env.scope=pe.sc
 kind:pe.sc.kind=.function
 glob:env.globals=cJ
 blt:env.builtins=jj
 ns:∃m,h.Ns env.locals m∧∀x pv,pe.loc.lookup x=ac pv->pe.sc.names.lookup x=ac .local->∃v,m x=ac v∧VR ρ pv v
 out:env.locals∉ρ
 base:B.get? env.locals=al
 cells:∀x c,pe.cells.lookup x=ac c->∃a,env.cells.lookup x=ac a∧ρ[c]? =ac a
 tab:∀i,pe.tab=ac i->∃c P,env.code=.ref c∧CodeHd B c P∧ρ[i]? =ac P
def jK (ρ:List ay) (h:bM) (fs:List Env):Prop:=∀env∈fs,env.scope.kind≠.module∧∃L o,env.frame=ac L∧B.get? L=al∧L∉ρ∧h.get? L=ac o∧∀vs,o.data≠.fields vs
structure eW (A:bw) (ρ:List ay) (h:bM) (fe:Env) (n:Nat):Prop where
 handled:A.handled=al
 depth:A.depth+n≤900
 units:A.units+10*n≤9000
 frames:∃outer,A.frames=ac (fe::outer)∧jK ρ h (fe::outer)
 guards:A.guards=ac []
structure M3 (A:bw) (ρ:List ay) (h:bM) (n:Nat):Prop where
 handled:A.handled=al
 depth:A.depth+n≤900
 units:A.units+10*n≤9000
 frames:∃fs,A.frames=ac fs∧jK ρ h fs
 guards:A.guards=ac []
theorem eW.out {A:bw} {ρ:List ay} {h:bM} {fe:Env} {n:Nat} (M:eW A ρ h fe n):M3 A ρ h n:=⟨M.handled,M.depth,M.units,ae M.frames λY e f=>⟨_,e,f⟩,M.guards⟩
def XR (h₀ h':bM) (ρ':List ay) (e:ak) (i:Nat):Prop:=∃a o vs,e=.ref a∧ρ'[i]? =ac a∧h₀.get? a=al∧h'.get? a=ac o∧(∃C,o.cls=.ref C)∧o.data=.fields vs∧1 <vs.size∧
 (vs[1]? =ac .none∨∃T G I,vs[1]? =ac (.ref T)∧T∉ρ'∧h₀.get? T=al∧B.get? T=al∧h'.get? T=ac G∧G.data=.fields I∧3 <I.size)
def hV (s:aj) (ρ:List ay) (k:KV) (v:ak) (W:aj):Prop:=∃h' l ρ' st' I,W={s with heap:=h',toks:=l}∧Ev ρ s.heap ρ' st' h'∧VR ρ' I v∧k I st'
def zK (s:aj) (ρ:List ay) (k:List PV->List PO->Prop) (v:List ak) (W:aj):Prop:=∃h' l ρ' st' I,W={s with heap:=h',toks:=l}∧Ev ρ s.heap ρ' st' h'∧eI ρ' I v∧k I st'
def CB (s:aj) (ρ:List ay) (k:Bool->List PO->Prop) (b:Bool) (W:aj):Prop:=∃h' l ρ' st',W={s with heap:=h',toks:=l}∧Ev ρ s.heap ρ' st' h'∧k b st'
def RN (s:aj) (ρ:List ay) (k:List PO->Prop) (_:Unit) (W:aj):Prop:=∃h' l ρ' st',W={s with heap:=h',toks:=l}∧Ev ρ s.heap ρ' st' h'∧k st'
def XK (s:aj) (ρ:List ay) (x:KX) (e:ak) (W:aj):Prop:=∃h' l ρ' st' i,W={s with heap:=h',toks:=l}∧Ev ρ s.heap ρ' st' h'∧XR s.heap h' ρ' e i∧x i st'
def jL (s:aj) (ρ:List ay) (L:ay) (x:KX) (e:ak) (W:aj):Prop:=∃h' l ρ' st' i,W={s with heap:=h',toks:=l}∧iW ρ L s.heap ρ' st' h'∧XR s.heap h' ρ' e i∧x i st'
inductive uG (ρ:List ay):dL->Ea->Prop
 | next:uG ρ .next .next
 | ret {pv v} (h:VR ρ pv v):uG ρ (.ret pv) (.ret v)
def oG (s:aj) (ρ:List ay) (env:Env) (k:dL->bD->List PO->Prop) (J:Ea) (W:aj):Prop:=
 ∃h' l ρ' st' I G,W={s with heap:=h',toks:=l}∧iW ρ env.locals s.heap ρ' st' h'∧eH ρ' h' env G∧uG ρ' I J∧k I G st'
def Ek (s:aj) (ρ:List ay) (env:Env) (k:bD->List PO->Prop) (_:Unit) (W:aj):Prop:=
 ∃h' l ρ' st' G,W={s with heap:=h',toks:=l}∧iW ρ env.locals s.heap ρ' st' h'∧eH ρ' h' env G∧k G st'
structure cL (n:Nat) (E:Lv):Prop where
 ev:∀e pe st k x,E.ev e pe st k x->∀(A:bw) (fe env:Env) (ρ:List ay) (s:aj),eW A ρ s.heap fe n->aY ρ st s.heap->eH ρ s.heap env pe->
  aw (aq prog w) A (eM e env) (hV s ρ k) (XK s ρ x) s
 evT:∀e pe st k x,E.evT e pe st k x->∀(A:bw) (fe env:Env) (ρ:List ay) (s:aj),eW A ρ s.heap fe n->aY ρ st s.heap->eH ρ s.heap env pe->
  aw (aq prog w) A (tI e env (eM e env)) (CB s ρ k) (XK s ρ x) s
 exec:∀e pe st k x,E.exec e pe st k x->∀(A:bw) (env:Env) (ρ:List ay) (s:aj),eW A ρ s.heap env n->aY ρ st s.heap->eH ρ s.heap env pe->env.frame=ac env.locals->
  aw (aq prog w) A (exec e env) (oG s ρ env k) (jL s ρ env.locals x) s
 asg:∀e pv pe st k x,E.asg e pv pe st k x->∀(A:bw) (fe env:Env) (ρ:List ay) (s:aj) (v:ak),eW A ρ s.heap fe n->aY ρ st s.heap->eH ρ s.heap env pe->VR ρ pv v->
  aw (aq prog w) A (assign e env v) (Ek s ρ env k) (jL s ρ env.locals x) s
 call:∀f args st k x,E.call f args st k x->∀(A:bw) (fe:Env) (ρ:List ay) (s:aj) (fv:ak) (vs:List ak),eW A ρ s.heap fe n->aY ρ st s.heap->VR ρ f fv->eI ρ args vs->
  aw (aq prog w) A (call fv vs []) (hV s ρ k) (XK s ρ x) s
 fn:∀a args st k x,(nQ K a).isSome=au->E.call (.ref a) args st k x->∀(A:bw) (fe:Env) (ρ:List ay) (s:aj) (vs:List ak),eW A ρ s.heap fe n->aY ρ st s.heap->eI ρ args vs->
  gk (aq prog w) A (.call (.ref a) ⟨vs,[]⟩) (λr s'=>match r with | .ok (.ret v)=>hV s ρ k v s' | .ok _=>False | .error e=>XK s ρ x e s') s
end
section
variable {ρ ρ' ρ'':List ay} {st st' st'':List PO} {h h' h'':bM} {L:ay}
theorem Ev.toL (x:Ev ρ h ρ' st' h') (G:∃o,h.get? L=ac o∧∀vs,o.data≠.fields vs) (J:L∉ρ):iW ρ L h ρ' st' h':=
 ⟨x.ext,x.good,λb o e I Y=>x.keep b o e I,let ⟨o,e,d⟩:=G;ae (x.keep L o e J) λY q Y=>⟨_,q,d⟩⟩
theorem iW.there (G:aY ρ st h) (x:iW ρ L h ρ' st' h') {b:ay} (e:(h.get? b).isSome=au):(h'.get? b).isSome=au:=by
 refine aI (bd.mp e) λo e=>?_;by_cases J:b∈ρ
 ·refine ae x.ext λr e1 e2=>aI (x.good.here (a:=b) (by refine ag (e1 ..) ?_;exact f5 _ J)) λo' q=>?_;refine ag (q ..) ?_;rfl
 ·by_cases I:b=L
  ·refine ae x.here λo' q _=>ag (I ..) (ag (q ..) ?_);rfl
  ·refine ae (x.keep b o e J I) λO q _=>ag (q ..) ?_;rfl
theorem iW.notin (x:iW ρ L h ρ' st' h') {b:ay} {o:Obj} (e:h.get? b=ac o) (G:b∉ρ):b∉ρ':=by
 refine ae x.ext λr e1 e2=>ag (e1 ..) ?_;intro m;refine bk (bb.mp m) (λm=>?_) λm=>?_
 ·exact G m
 ·(first | obtain rfl:=ss (e2 b m) e | exact sn e (e2 b m) | exact sn (e2 b m) e | exact n3 (((e2 b m)).symm.trans e) | exact n4 (((e2 b m)).symm.trans e) | exact n1 (((e2 b m)).symm.trans e))
theorem iW.trans (G:aY ρ st h) (x:iW ρ L h ρ' st' h') (y:iW ρ' L h' ρ'' st'' h''):iW ρ L h ρ'' st'' h'':=by
 refine ae x.ext λr e1 e2=>ae y.ext λz S J=>⟨⟨r++z,by exact ag (S ..) (ag (e1 ..) (ag (bI ..) rfl)),λa I=>?_⟩,y.good,λb o e W V=>?_,y.here⟩
 ·refine bk (bb.mp I) (λI=>?_) λI=>?_
  ·exact e2 a I
  ·cases q:h.get? a with
   | none=>rfl
   | some o=>have:=x.there G (b:=a) (by refine ag (q ..) ?_;rfl);rw [J a I] at this;exact n3 this
 ·refine ae (x.keep b o e W V) λY q l=>ae (y.keep b _ q (x.notin e W) V) λP p O=>⟨P,p,λf=>(O f).trans (l f)⟩
theorem iW.pre (x:iW ρ L h ρ' st' h') {p:PV} {v:ak} (r:VR ρ p v):VR ρ' p v:=by refine ae x.ext λG e _=>?_;refine ag (e ..) (r.mono G)
theorem iW.pres (x:iW ρ L h ρ' st' h') {p:List PV} {v:List ak} (r:eI ρ p v):eI ρ' p v:=by refine ae x.ext λG e _=>?_;refine ag (e ..) (r.mono G)
theorem iW.up (x:iW ρ L h ρ' st' h') {i:Nat} {a:ay} (e:ρ[i]? =ac a):ρ'[i]? =ac a:=by refine ae x.ext λG e1 _=>?_;refine ag (e1 ..) (ag (ax (ao.mp e).1) ?_);exact e
theorem pd {m:aU->Option ak} (x:h.Ns L m) (k:∀o,h.get? L=ac o->∃G,h'.get? L=ac {o with slots:=G}∧((∃vs,o.data=.fields vs)->G=o.slots)):h'.Ns L m:=by refine gR x λo es ep V hd I O=>?_;clear x;refine ae (k o V) λG q _=>⟨_,es,ep,q,hd,I,O⟩
theorem eH.some {env:Env} {pe:bD} (F:eH ρ h env pe):∃o,h.get? env.locals=ac o∧∀vs,o.data≠.fields vs:=by refine ae F.ns λm G _=>?_;obtain ⟨o,es,ep,V,hd,_⟩:=G;exact ⟨o,V,λvs e=>by rw [hd] at e;cases e⟩
theorem eH.go {env:Env} {pe:bD} (F:eH ρ h env pe) (x:Ev ρ h ρ' st' h'):eH ρ' h' env pe:=by
 refine ae F.ns λm I J=>ae F.some λo V _=>?_;exact ⟨F.sc,F.kind,F.glob,F.blt,⟨m,pd I λo e=>x.keep _ o e F.out,λy O e G=>ae (J y O e G) λv a b=>⟨v,a,x.pre b⟩⟩,x.notin V F.out,F.base,
  λy c e=>let ⟨a,p,q⟩:=F.cells y c e;⟨a,p,x.up q⟩,λi e=>bz (F.tab i e) λc P S W q3=>⟨c,P,S,W,x.up q3⟩⟩
theorem eH.goL {env:Env} {pe:bD} (F:eH ρ h env pe) (x:iW ρ L h ρ' st' h') (I:env.locals≠L):eH ρ' h' env pe:=by
 refine ae F.ns λm J O=>ae F.some λo V _=>?_;exact ⟨F.sc,F.kind,F.glob,F.blt,⟨m,pd J λo e=>x.keep _ o e F.out I,λy S e G=>ae (O y S e G) λv a b=>⟨v,a,x.pre b⟩⟩,x.notin V F.out,F.base,
  λy c e=>let ⟨a,p,q⟩:=F.cells y c e;⟨a,p,x.up q⟩,λi e=>bz (F.tab i e) λc P W f q3=>⟨c,P,W,f,x.up q3⟩⟩
theorem jK.go {fs:List Env} (F:jK ρ h fs) (x:Ev ρ h ρ' st' h'):jK ρ' h' fs:=λenv O=>by obtain ⟨P,L,o,h1,h2,G,I,J⟩:=F env O;refine ae (x.keep L o I G) λS q _=>⟨P,L,_,h1,h2,x.notin I G,q,J⟩
theorem jK.goL {fs:List Env} (F:jK ρ h fs) (x:iW ρ L h ρ' st' h'):jK ρ' h' fs:=λenv S=>by
 obtain ⟨O,G,o,h1,h2,I,J,P⟩:=F env S;by_cases e:G=L
 ·refine ae x.here λo' q d=>⟨O,G,o',h1,h2,x.notin J I,e▸q,d⟩
 ·refine ae (x.keep G o J I e) λV q _=>⟨O,G,_,h1,h2,x.notin J I,q,P⟩
theorem eW.go {A:bw} {fe:Env} {n:Nat} (M:eW A ρ h fe n) (x:Ev ρ h ρ' st' h'):eW A ρ' h' fe n:=
 ⟨M.handled,M.depth,M.units,ae M.frames λo a b=>⟨o,a,b.go x⟩,M.guards⟩
theorem eW.goL {A:bw} {fe:Env} {n:Nat} (M:eW A ρ h fe n) (x:iW ρ L h ρ' st' h'):eW A ρ' h' fe n:=
 ⟨M.handled,M.depth,M.units,ae M.frames λo a b=>⟨o,a,b.goL x⟩,M.guards⟩
theorem eW.less {A:bw} {fe:Env} {n:Nat} (M:eW A ρ h fe (n+1)):eW A ρ h fe n:=⟨M.handled,by have:=M.depth;exact cj ‹_›,by have:=M.units;exact by lia,M.frames,M.guards⟩
theorem eW.in1 {A:bw} {fe:Env} {n:Nat} (M:eW A ρ h fe (n+1)):eW A.in1 ρ h fe n:=⟨M.handled,by have:=M.depth;show A.depth+n≤900;exact cj ‹_›,by have:=M.units;show A.units+1+10*n≤9000;exact by lia,M.frames,M.guards⟩
theorem XR.early {h₀:bM} {e:ak} {i:Nat} (x:XR h h'' ρ'' e i) (k:∀b,(h₀.get? b).isSome=au->(h.get? b).isSome=au):XR h₀ h'' ρ'' e i:=by
 have no:∀b,h.get? b=al->h₀.get? b=al:=λb e=>by
  cases q:h₀.get? b with
  | none=>rfl
  | some o=>have:=k b (by refine ag (q ..) ?_;rfl);rw [e] at this;exact n3 this
 refine sd x λa o vs e1 e2 e3 I J y O P=>?_;clear x;refine ⟨a,o,vs,e1,e2,no _ e3,I,J,y,O,P.imp id ?_⟩;intro G;refine gR G ?_;clear G;intro T f l S V W r;exact ⟨T,f,l,S,V,no _ W,r⟩
variable {s:aj} {tk:Nat}
theorem hV.pre {k:KV} {v:ak} {W:aj} (G:aY ρ st s.heap) (x:Ev ρ s.heap ρ' st' h') (y:hV {s with heap:=h',toks:=tk} ρ' k v W):hV s ρ k v W:=
 cY y λh2 P I J O a b c d=>⟨h2,P,I,J,O,a,x.trans G b,c,d⟩
theorem zK.pre {k:List PV->List PO->Prop} {v:List ak} {W:aj} (G:aY ρ st s.heap) (x:Ev ρ s.heap ρ' st' h') (y:zK {s with heap:=h',toks:=tk} ρ' k v W):zK s ρ k v W:=
 cY y λh2 P I J O a b c d=>⟨h2,P,I,J,O,a,x.trans G b,c,d⟩
theorem CB.pre {k:Bool->List PO->Prop} {v:Bool} {W:aj} (G:aY ρ st s.heap) (x:Ev ρ s.heap ρ' st' h') (y:CB {s with heap:=h',toks:=tk} ρ' k v W):CB s ρ k v W:=
 gS y λh2 O I J a b d=>⟨h2,O,I,J,a,x.trans G b,d⟩
theorem RN.pre {k:List PO->Prop} {v:Unit} {W:aj} (G:aY ρ st s.heap) (x:Ev ρ s.heap ρ' st' h') (y:RN {s with heap:=h',toks:=tk} ρ' k v W):RN s ρ k v W:=
 gS y λh2 O I J a b d=>⟨h2,O,I,J,a,x.trans G b,d⟩
theorem XK.pre {x:KX} {e:ak} {W:aj} (G:aY ρ st s.heap) (y:Ev ρ s.heap ρ' st' h') (z:XK {s with heap:=h',toks:=tk} ρ' x e W):XK s ρ x e W:=
 cY z λh2 O I J i a b c d=>⟨h2,O,I,J,i,a,y.trans G b,c.early λY q=>y.there G q,d⟩
theorem jL.pre {x:KX} {e:ak} {W:aj} (G:aY ρ st s.heap) (y:iW ρ L s.heap ρ' st' h') (z:jL {s with heap:=h',toks:=tk} ρ' L x e W):jL s ρ L x e W:=
 cY z λh2 O I J i a b c d=>⟨h2,O,I,J,i,a,y.trans G b,c.early λY q=>y.there G q,d⟩
theorem oG.pre {env:Env} {k:dL->bD->List PO->Prop} {f:Ea} {W:aj} (G:aY ρ st s.heap) (y:iW ρ env.locals s.heap ρ' st' h') (z:oG {s with heap:=h',toks:=tk} ρ' env k f W):oG s ρ env k f W:=
 Ez z λh2 O I J i pe a b c=>⟨h2,O,I,J,i,pe,a,y.trans G b,c⟩
theorem Ek.pre {env:Env} {k:bD->List PO->Prop} {f:Unit} {W:aj} (G:aY ρ st s.heap) (y:iW ρ env.locals s.heap ρ' st' h') (z:Ek {s with heap:=h',toks:=tk} ρ' env k f W):Ek s ρ env k f W:=
 vj z λh2 O I J pe a b c=>⟨h2,O,I,J,pe,a,y.trans G b,c⟩
theorem XK.toL {x:KX} {e:ak} {W:aj} (I:∃o,s.heap.get? L=ac o∧∀vs,o.data≠.fields vs) (O:L∉ρ) (z:XK s ρ x e W):jL s ρ L x e W:=
 cY z λh2 P G J i a b c d=>⟨h2,P,G,J,i,a,b.toL I O,c,d⟩
end
section
variable {n:Nat} {E:Lv} {A:bw} {fe env:Env} {pe:bD} {ρ ρ':List ay} {st st':List PO} {s:aj} {h':bM} {tk:Nat} {x:KX}
theorem sC {t:iR ak} {k:KV} (G:aY ρ st s.heap) (y:Ev ρ s.heap ρ' st' h')
  (z:aw (aq prog w) A t (hV {s with heap:=h',toks:=tk} ρ' k) (XK {s with heap:=h',toks:=tk} ρ' x) {s with heap:=h',toks:=tk}):
  aw (aq prog w) A t (hV s ρ k) (XK s ρ x) {s with heap:=h',toks:=tk}:=
 aP z (λY Y a=>a.pre G y) λY Y a=>a.pre G y
theorem PZ {t:iR Bool} {k:Bool->List PO->Prop} (G:aY ρ st s.heap) (y:Ev ρ s.heap ρ' st' h')
  (z:aw (aq prog w) A t (CB {s with heap:=h',toks:=tk} ρ' k) (XK {s with heap:=h',toks:=tk} ρ' x) {s with heap:=h',toks:=tk}):
  aw (aq prog w) A t (CB s ρ k) (XK s ρ x) {s with heap:=h',toks:=tk}:=
 aP z (λY Y a=>a.pre G y) λY Y a=>a.pre G y
theorem SS {t:iR (List ak)} {k:List PV->List PO->Prop} (G:aY ρ st s.heap) (y:Ev ρ s.heap ρ' st' h')
  (z:aw (aq prog w) A t (zK {s with heap:=h',toks:=tk} ρ' k) (XK {s with heap:=h',toks:=tk} ρ' x) {s with heap:=h',toks:=tk}):
  aw (aq prog w) A t (zK s ρ k) (XK s ρ x) {s with heap:=h',toks:=tk}:=
 aP z (λY Y a=>a.pre G y) λY Y a=>a.pre G y
structure fK (N:vf->Prop) (n:Nat) (E:Lv):Prop where
 ev:∀e pe st k x,E.ev e pe st k x->∀(A:bw) (fe env:Env) (ρ:List ay) (s:aj),eW A ρ s.heap fe n->aY ρ st s.heap->eH ρ s.heap env pe->
  fE N (aq prog w) A (eM e env) (hV s ρ k) (XK s ρ x) s
 evT:∀e pe st k x,E.evT e pe st k x->∀(A:bw) (fe env:Env) (ρ:List ay) (s:aj),eW A ρ s.heap fe n->aY ρ st s.heap->eH ρ s.heap env pe->
  aw (aq prog w) A (tI e env (eM e env)) (CB s ρ k) (XK s ρ x) s
 exec:∀e pe st k x,E.exec e pe st k x->∀(A:bw) (env:Env) (ρ:List ay) (s:aj),eW A ρ s.heap env n->aY ρ st s.heap->eH ρ s.heap env pe->env.frame=ac env.locals->
  fE N (aq prog w) A (exec e env) (oG s ρ env k) (jL s ρ env.locals x) s
 asg:∀e pv pe st k x,E.asg e pv pe st k x->∀(A:bw) (fe env:Env) (ρ:List ay) (s:aj) (v:ak),eW A ρ s.heap fe n->aY ρ st s.heap->eH ρ s.heap env pe->VR ρ pv v->
  aw (aq prog w) A (assign e env v) (Ek s ρ env k) (jL s ρ env.locals x) s
 call:∀f args st k x,E.call f args st k x->∀(A:bw) (fe:Env) (ρ:List ay) (s:aj) (fv:ak) (vs:List ak),eW A ρ s.heap fe n->aY ρ st s.heap->VR ρ f fv->eI ρ args vs->
  fE N (aq prog w) A (call fv vs []) (hV s ρ k) (XK s ρ x) s
 fn:∀a args st k x,(nQ K a).isSome=au->E.call (.ref a) args st k x->∀(A:bw) (fe:Env) (ρ:List ay) (s:aj) (vs:List ak),eW A ρ s.heap fe n->aY ρ st s.heap->eI ρ args vs->
  fR N (aq prog w) A (.call (.ref a) ⟨vs,[]⟩) (λr s'=>match r with | .ok (.ret v)=>hV s ρ k v s' | .ok _=>False | .error e=>XK s ρ x e s') s
theorem cL.toN {N:vf->Prop} (S:cL n E):fK N n E where
 ev:=λY Y Y Y Y h Y Y Y Y Y M G F=>fS (S.ev _ _ _ _ _ h _ _ _ _ _ M G F)
 evT:=S.evT
 exec:=λY Y Y Y Y h Y Y Y Y M G F J=>fS (S.exec _ _ _ _ _ h _ _ _ _ M G F J)
 asg:=S.asg
 call:=λY Y Y Y Y h Y Y Y Y Y Y M G r I=>fS (S.call _ _ _ _ _ h _ _ _ _ _ _ M G r I)
 fn:=λY Y Y Y Y hi h Y Y Y Y Y M G I=>sr (S.fn _ _ _ _ _ hi h _ _ _ _ _ M G I)
theorem Fj {N:vf->Prop} {t:iR ak} {k:KV} (G:aY ρ st s.heap) (y:Ev ρ s.heap ρ' st' h')
  (z:fE N (aq prog w) A t (hV {s with heap:=h',toks:=tk} ρ' k) (XK {s with heap:=h',toks:=tk} ρ' x) {s with heap:=h',toks:=tk}):
  fE N (aq prog w) A t (hV s ρ k) (XK s ρ x) {s with heap:=h',toks:=tk}:=
 cf z (λY Y a=>a.pre G y) λY Y a=>a.pre G y
theorem lk {N:vf->Prop} {e:aC} {O:KV} {Q:ak->aj->Prop} {X:ak->aj->Prop} (S:fK N n E) (V:E.ev e pe st O x) (M:eW A ρ s.heap fe n) (G:aY ρ st s.heap) (F:eH ρ s.heap env pe)
  (f:∀e W,XK s ρ x e W->X e W)
  (c:∀h' l ρ' st' I v,Ev ρ s.heap ρ' st' h'->eW A ρ' h' fe n->aY ρ' st' h'->eH ρ' h' env pe->VR ρ' I v->O I st'->Q v {s with heap:=h',toks:=l}):
  fE N (aq prog w) A (eM e env) Q X s:=by
 refine cf (S.ev e pe st O x V A fe env ρ s M G F) (λv W P=>?_) f;refine cY P λh' l ρ' st' I J y r q=>?_;clear P;refine ag J (c h' l ρ' st' I v y (M.go y) y.good (F.go y) r q)
theorem IZ {α:Type} {e:aC} {O:KV} {f:ak->iR α} {Q:α->aj->Prop} {X:ak->aj->Prop} (S:cL n E) (V:E.ev e pe st O x) (M:eW A ρ s.heap fe n) (G:aY ρ st s.heap) (F:eH ρ s.heap env pe)
  (p:∀e W,XK s ρ x e W->X e W)
  (c:∀h' l ρ' st' I v,Ev ρ s.heap ρ' st' h'->eW A ρ' h' fe n->aY ρ' st' h'->eH ρ' h' env pe->VR ρ' I v->O I st'->aw (aq prog w) A (f v) Q X {s with heap:=h',toks:=l}):
  aw (aq prog w) A (eM e env>>=f) Q X s:=by
 refine aa (aP (S.ev e pe st O x V A fe env ρ s M G F) (λv W P=>?_) p);refine cY P λh' l ρ' st' I J y r q=>?_;clear P;refine ag J (c h' l ρ' st' I v y (M.go y) y.good (F.go y) r q)
theorem eJ {e:aC} {O:KV} {Q:ak->aj->Prop} {X:ak->aj->Prop} (S:cL n E) (V:E.ev e pe st O x) (M:eW A ρ s.heap fe n) (G:aY ρ st s.heap) (F:eH ρ s.heap env pe)
  (f:∀e W,XK s ρ x e W->X e W)
  (c:∀h' l ρ' st' I v,Ev ρ s.heap ρ' st' h'->eW A ρ' h' fe n->aY ρ' st' h'->eH ρ' h' env pe->VR ρ' I v->O I st'->Q v {s with heap:=h',toks:=l}):
  aw (aq prog w) A (eM e env) Q X s:=by
 refine aP (S.ev e pe st O x V A fe env ρ s M G F) (λv W P=>?_) f;refine cY P λh' l ρ' st' I J y r q=>?_;clear P;refine ag J (c h' l ρ' st' I v y (M.go y) y.good (F.go y) r q)
theorem qN {k:KV} {I:PV} {v:ak} (G:aY ρ st s.heap) (r:VR ρ I v) (q:k I st):hV s ρ k v {s with toks:=tk}:=
 ⟨s.heap,tk,ρ,st,I,rfl,.refl G,r,q⟩
theorem jO {k:KV} {I:PV} {v:ak} (G:aY ρ st s.heap) (r:VR ρ I v) (q:k I st):hV s ρ k v s:=
 ⟨s.heap,s.toks,ρ,st,I,rfl,.refl G,r,q⟩
theorem Fk {k:KV} {po:PO} (o:Obj) (G:aY ρ st s.heap) (I:o.isFreed=am) (r:sB (ρ++[s.heap.objs.size]) (s.heap.push o) s.heap.objs.size po) (q:k (.loc st.length) (st++[po])):
  hV s ρ k (.ref s.heap.objs.size) {s with heap:=s.heap.push o,toks:=tk}:=
 ⟨_,tk,_,_,.loc st.length,rfl,Ev.push G o I r,.loc (by refine bZ (G.len ..) ?_;simp),q⟩
theorem gJ {k:KV} {po:PO} (o:Obj) (G:aY ρ st s.heap) (I:o.isFreed=am) (r:sB (ρ++[s.heap.objs.size]) (s.heap.push o) s.heap.objs.size po) (q:k (.loc st.length) (st++[po])):
  hV s ρ k (.ref s.heap.objs.size) {s with heap:=s.heap.push o}:=
 ⟨_,s.toks,_,_,.loc st.length,rfl,Ev.push G o I r,.loc (by refine bZ (G.len ..) ?_;simp),q⟩
theorem uH {e:aC} (env:Env) (r:List aC) (h:cx e=au):dY (e::r) env=(am,eM e env)::dY r env:=by rcases e with _ | _ <;> first | rfl | exact n3 h
theorem sE {t:aC} (env:Env) (r:List aC) (h:cx t=au):jl (t::r) env=(am,assign t env)::jl r env:=by rcases t with _ | _ <;> first | rfl | exact n3 h
theorem Fl {e:aC} (env:Env) (h:nP e=au) (x:ak):OU e env x=pure x:=by rcases e with _ | _ <;> first | rfl | exact n3 h
theorem nW {N:vf->Prop} (S:fK N n E) {pos:cP}:∀(es:List aC) (st:List PO) (ρ:List ay) (s:aj) (k:List PV->List PO->Prop),tT E pe x es st k->eW A ρ s.heap fe n->aY ρ st s.heap->eH ρ s.heap env pe->
  fE N (aq prog w) A (mA (iU pos (dY es env))) (zK s ρ k) (XK s ρ x) s:=by
 intro I;induction I with
 | nil=>intro st ρ s k h M G F;exact fS <| wpAny_items_nil ⟨s.heap,s.toks,ρ,st,[],rfl,.refl G,.nil,h⟩
 | cons e r V=>intro st ρ s k h M G F;refine ah h λhs h=>sw ?_ (uH env r hs);refine lk S h M G F (λY Y z=>z) λh' l ρ' st' pv v y M' G' p rv q=>cf (V st' ρ' {s with heap:=h',toks:=l} _ q M' G' p) (λvs s' W=>?_) λY Y a=>a.pre G y;refine cY W λh2 t2 P O J e1 f r2 q2=>?_;clear W;exact ⟨h2,t2,P,O,pv::J,e1,y.trans G f,.cons (f.pre rv) r2,q2⟩
theorem pZ (S:cL n E) {pos:cP}:∀(es:List aC) (st:List PO) (ρ:List ay) (s:aj) (k:List PV->List PO->Prop),tT E pe x es st k->eW A ρ s.heap fe n->aY ρ st s.heap->eH ρ s.heap env pe->
  aw (aq prog w) A (mA (iU pos (dY es env))) (zK s ρ k) (XK s ρ x) s:=
 λes st ρ s k h M G F=>jz (nW S.toN es st ρ s k h M G F)
end
theorem uI {env:Env} {id:aU} (S:env.scope.kind=.function) (G:env.kindOf id=ac .globalImplicit):loadName env id=loadGlobal env id:=by delta loadName Env.blockKind;rw [S,G];rfl
theorem M4 {env:Env} {id:aU} (S:env.scope.kind=.function) (G:env.kindOf id=ac .cell):∃t,loadName env id=(do match ← cellGet (← cellOf env id) with
    | some v=>pure v
    | none=>t):=by
 delta loadName Env.blockKind;rw [S,G];exact ⟨_,rfl⟩
theorem M6 {env:Env} {id:aU} (S:env.scope.kind=.function) (I:env.kindOf id=ac .free) (J:id=("__classdict__":aU)->False):∃t,loadName env id=(do match ← cellGet (← cellOf env id) with
    | some v=>pure v
    | none=>t):=by
 have G:(id==("__classdict__":aU))=am:=beq_eq_false_iff_ne.mpr J;delta loadName Env.blockKind;rw [S,I];exact ⟨_,if_neg (c:=(id==("__classdict__":aU))=au) (by rw [G];exact aZ)⟩
section
variable {n:Nat} {E:Lv} {A:bw} {fe env:Env} {pe:bD} {ρ ρ':List ay} {st st':List PO} {s:aj} {h':bM} {tk:Nat} {x:KX} {k:KV}
theorem I3 {c:S4} {I:PV} {kk:Nat} {pos:cP} (J:mN c I) (h:k I st) (G:aY ρ st s.heap):
  aw (aq prog w) A (eM (.Constant c kk pos) env) (hV s ρ k) (XK s ρ x) s:=by
 induction J using mN.casesOn with
 | none=>exact wpAny_Constant_none (jO G .none h)
 | bool b=>exact wpAny_Constant_bool (jO G (.bool b) h)
 | int i=>exact wpAny_Constant_int (qN G (.int i _) h)
 | str x=>exact wpAny_Constant_str (qN G (.str x _) h)
 | bytes b=>exact aa (wpAny_fresh (af (qN G (.bytes _ _) h)))
theorem xk {v:ak} {I:PV} (h:sg v=ac I):VR ρ I v:=by induction v <;> first | exact n1 h | exact bZ (fm h) (by constructor)
theorem uJ {M:l4} {X:ak->aj->Prop} {id:aU} {c:Nat} {v:PV} {Q:ak->aj->Prop} (G:aY ρ st s.heap) (F:eH ρ s.heap env pe) (W:pe.cells.lookup id=ac c) (f:st[c]? =ac (.cell (ac v)))
  (J:env.kindOf id=ac .cell∨(env.kindOf id=ac .free∧(id=("__classdict__":aU)->False)))
  (q:∀val,VR ρ v val->Q val s):aw M A (loadName env id) Q X s:=by
 refine ae (F.cells id c W) λa e1 e2=>?_;obtain ⟨r,e3,⟨z,Y,l,p⟩,y,V,P,O⟩:=G.objs c _ f;simp only at P;subst P;rw [e2] at e3;obtain rfl:=i8 e3;induction y with
 | none=>induction O
 | some val=>
  have S:env.scope.kind=.function:=F.sc▸F.kind;have I:∀t,aw M A (do match ← cellGet (← cellOf env id) with
    | some v=>pure v
    | none=>t) Q X s:=by
   intro t;delta cellOf cellGet;refine ag (e1 ..) (aa (af (aa (aa (gD V (af (af (q val O))))))))
  refine bk J (λJ=>aI (M4 S J) λt e=>ag e (I t)) λJ=>aI (M6 S J.1 J.2) λt e=>ag e (I t)
theorem zL {id:aU} {pos:cP} (J:dO) (hd:(id==("__debug__":aU))=am) (h:si K id pe st k) (G:aY ρ st s.heap) (F:eH ρ s.heap env pe):
  aw (aq prog w) A (eM (.Name id pos) env) (hV s ρ k) (XK s ρ x) s:=by
 refine tM ?_ hd;have f:env.scope.kind=.function:=F.sc▸F.kind;have O:env.kindOf id=pe.sc.names.lookup id:=by unfold Env.kindOf;exact ag (F.sc ..) rfl
 induction h with
 | loc e h1 h2=>refine ae F.ns λm W y=>?_;refine ae (y id _ h1 e) λval e1 e2=>kH f (O.trans e) W e1 (jO G e2 h2)
 | cell e h1 h2 P=>exact uJ G F h1 h2 (.inl (O.trans e)) λval r=>jO G r P
 | free e h1 h2 l P=>exact uJ G F h1 h2 (.inr ⟨O.trans e,l⟩) λval r=>jO G r P
 | glob e h1 h2=>
  refine aI J.glob λmg V=>ae J.blt λz p S=>?_;have I:s.heap.Ns env.globals mg:=by refine ag (F.glob ..) ?_;exact V.keeps G.base
  refine by
   refine ag (uI f (O.trans e)) (Bt K h1 (λval q h1=>?_) λq W val e1 e2=>?_)
   ·exact Ep I (mg_of J.kin V q) (jO G (xk h1) h2)
   ·exact Eb I (mg_none_of J.kin V q) (by refine ag (F.blt ..) ?_;exact p.keeps G.base) ((S id W).trans e1) (jO G (xk e2) h2)
theorem Fm {vs:List ak} {I:List PV} (G:aY ρ st s.heap) (r:eI ρ I vs) (hl:I.length≤1000+1000) (q:k (.loc st.length) (st++[.list I])) {X:ak->aj->Prop}:
  aw (aq prog w) A (newList vs) (hV s ρ k) X s:=
 cX (gJ (po:=.list I) _ G rfl ⟨vs.toArray,0,aM _ rfl,by exact r.mono _⟩ q) (by show vs.toArray.size≤ek;refine ag (mD ..) (bZ (r.length ..) ?_);have:ek=16777216:=rfl;exact by lia)
theorem I4 {vs:List ak} {I:List PV} (G:aY ρ st s.heap) (r:eI ρ I vs) (hl:I.length≤1000) (q:k (.loc st.length) (st++[.tup I])) {X:ak->aj->Prop}:
  aw (aq prog w) A (S5 vs) (hV s ρ k) X s:=
 cX (gJ (po:=.tup I) _ G rfl ⟨vs.toArray,0,aM _ rfl,by exact r.mono _⟩ q) (by show vs.toArray.size≤ek;refine ag (mD ..) (bZ (r.length ..) ?_);have:ek=16777216:=rfl;exact by lia)
theorem xl {N:vf->Prop} {es:List aC} {kk:Nat} {pos:cP} (S:fK N n E) (h:tT E pe x es st λvs I=>vs.length≤1000∧k (.loc I.length) (I++[.tup vs])) (M:eW A ρ s.heap fe n) (G:aY ρ st s.heap) (F:eH ρ s.heap env pe):
  fE N (aq prog w) A (eM (.Tuple es kk pos) env) (hV s ρ k) (XK s ρ x) s:=by
 refine Cs (cf (nW S es st ρ s _ h M G F) (λvs f O=>?_) λY Y a=>a);refine iA O λh2 l W V P J y r hl q=>?_;clear O;refine ag J (sC G y (I4 y.good r hl q))
theorem I5 {es:List aC} {kk:Nat} {pos:cP} (S:cL n E) (h:tT E pe x es st λvs I=>vs.length≤1000∧k (.loc I.length) (I++[.tup vs])) (M:eW A ρ s.heap fe n) (G:aY ρ st s.heap) (F:eH ρ s.heap env pe):
  aw (aq prog w) A (eM (.Tuple es kk pos) env) (hV s ρ k) (XK s ρ x) s:=jz (xl S.toN h M G F)
theorem M7 {es:List aC} {pos:cP} (S:cL n E) (h:tT E pe x es st λvs I=>vs.length≤1000∧k (.loc I.length) (I++[.list vs])) (M:eW A ρ s.heap fe n) (G:aY ρ st s.heap) (F:eH ρ s.heap env pe):
  aw (aq prog w) A (eM (.List es pos) env) (hV s ρ k) (XK s ρ x) s:=by
 refine List_ (aP (pZ S es st ρ s _ h M G F) (λvs f O=>?_) λY Y a=>a);refine iA O λh2 l W V P J y r hl q=>?_;clear O;refine ag J (sC G y (Fm y.good r (by lia) q))
theorem P0 {e:aC} {pos:cP} (S:cL n E) (h:E.ev e pe st (λv I=>∃b,v=.bool b∧k (.bool (!b)) I) x) (M:eW A ρ s.heap fe n) (G:aY ρ st s.heap) (F:eH ρ s.heap env pe):
  aw (aq prog w) A (eM (.UnaryOp .Not e pos) env) (hV s ρ k) (XK s ρ x) s:=by
 refine Ud (eJ S h M G F (λY Y z=>z) λh' l ρ' st' W v y V J P O q=>?_);(refine ae q ?_;clear q;intro b e1 q;subst e1);obtain ⟨_,rfl⟩:=O.inv;exact sC G y (not_value (fb (jO J (.bool _) q)))
theorem P1 {e:aC} {pos:cP} (S:cL n E) (h:E.ev e pe st (λv I=>∃i,v=.int i∧k (.int (-i)) I) x) (M:eW A ρ s.heap fe n) (G:aY ρ st s.heap) (F:eH ρ s.heap env pe):
  aw (aq prog w) A (eM (.UnaryOp .USub e pos) env) (hV s ρ k) (XK s ρ x) s:=by
 refine Ud (eJ S h M G F (λY Y z=>z) λh' l ρ' st' W v y V J P O q=>?_);(refine ae q ?_;clear q;intro i e1 q;subst e1);obtain ⟨_,rfl⟩:=O.inv;exact sC G y (neg_int (qN J (.int _ _) q))
theorem P2 {t b o:aC} {pos:cP} (S:cL n E) (h:E.evT t pe st (λc I=>match c with
  | true=>E.ev b pe I k x
  | false=>E.ev o pe I k x) x) (M:eW A ρ s.heap fe n) (G:aY ρ st s.heap) (F:eH ρ s.heap env pe):
  aw (aq prog w) A (eM (.IfExp t b o pos) env) (hV s ρ k) (XK s ρ x) s:=by
 refine wpAny_IfExp (aP (S.evT _ _ _ _ _ h A fe env ρ s M G F) (λc W P=>?_) λY Y a=>a);refine gS P λh2 f J V O y q=>?_;clear P;refine ag O ?_;induction c with
 | true=>refine ag (if_pos rfl ..) ?_;exact sC G y (S.ev _ _ _ _ _ q A fe env J _ (M.go y) y.good (F.go y))
 | false=>refine ag (if_neg (by decide) ..) ?_;exact sC G y (S.ev _ _ _ _ _ q A fe env J _ (M.go y) y.good (F.go y))
theorem nX (S:cL n E) {op:jD} {pos:cP}:∀(es:List aC) (st:List PO) (ρ:List ay) (s:aj),sj E pe x op es st k->eW A ρ s.heap fe n->aY ρ st s.heap->eH ρ s.heap env pe->
  aw (aq prog w) A (boolOp pos op (evalEach es env)) (hV s ρ k) (XK s ρ x) s
 | [],_,_,_,h,_,_,_=>h.elim
 | [e],st,ρ,s,h,M,G,F=>S.ev e pe st k x h A fe env ρ s M G F
 | e::e2::r,st,ρ,s,h,M,G,F=>by
  show aw _ _ (eM e env>>=λv=>OY pos>>=λY=>lx [v] (truthy v)>>=λt=>match op,t with
   | .And,am | .Or,au=>pure v
   | _,_=>boolOp pos op (evalEach (e2::r) env)) _ _ _
  refine IZ S h M G F (λY Y z=>z) λh' l ρ' st' W v y P I O V q=>ae q λb J q=>?_;subst J;obtain ⟨_,rfl⟩:=V.inv;refine aa (cr (aa (bc (fb ?_))));refine sC G y ?_;induction op <;> induction b
  ·exact af (jO I (.bool _) q)
  ·exact nX S (e2::r) st' ρ' _ q P I O
  ·exact nX S (e2::r) st' ρ' _ q P I O
  ·exact af (jO I (.bool _) q)
theorem M8 {op:jD} {es:List aC} {pos:cP} (S:cL n E) (h:sj E pe x op es st k) (M:eW A ρ s.heap fe n) (G:aY ρ st s.heap) (F:eH ρ s.heap env pe):
  aw (aq prog w) A (eM (.BoolOp op es pos) env) (hV s ρ k) (XK s ρ x) s:=nX S es st ρ s h M G F
theorem P3 {e:aC} {pos:cP} {k:Bool->List PO->Prop} (S:cL n E) (h:E.evT e pe st (λb O=>k (!b) O) x) (M:eW A ρ s.heap fe n) (G:aY ρ st s.heap) (F:eH ρ s.heap env pe) {I:iR ak}:
  aw (aq prog w) A (tI (.UnaryOp .Not e pos) env I) (CB s ρ k) (XK s ρ x) s:=by
 refine wpAny_isTrue_Not (aP (S.evT _ _ _ _ _ h A fe env ρ s M G F) (λc l W=>?_) λY Y a=>a);refine gS W λh2 f V P J y q=>?_;clear W;refine ag J ⟨h2,f,V,P,rfl,y,q⟩
theorem p7 (S:cL n E) {op:jD} {k:Bool->List PO->Prop}:∀(es:List aC) (st:List PO) (ρ:List ay) (s:aj),Cp E pe x op es st k->eW A ρ s.heap fe n->aY ρ st s.heap->eH ρ s.heap env pe->
  aw (aq prog w) A (allTrue op es env) (CB s ρ k) (XK s ρ x) s
 | [],st,ρ,s,h,M,G,F=>by
  rcases op with _ | _
  ·exact wpAny_allTrue_And_nil ⟨s.heap,s.toks,ρ,st,rfl,.refl G,h⟩
  ·exact wpAny_allTrue_Or_nil ⟨s.heap,s.toks,ρ,st,rfl,.refl G,h⟩
 | e::r,st,ρ,s,h,M,G,F=>by
  have go:∀(op:jD),(E.evT e pe st (λb O=>match op,b with
   | .And,am=>k am O
   | .Or,au=>k au O
   | _,_=>Cp E pe x op r O k) x)->aw (aq prog w) A (tI e env (eM e env)) (λb W=>aw (aq prog w) A (match op,b with
    | .And,am=>pure am
    | .Or,au=>pure au
    | _,_=>allTrue op r env) (CB s ρ k) (XK s ρ x) W) (XK s ρ x) s:=by
   intro op h;refine aP (S.evT _ _ _ _ _ h A fe env ρ s M G F) (λc W V=>?_) λY Y a=>a;refine gS V λh2 f I J P y q=>?_;clear V;refine ag P (PZ G y ?_);rcases op with _ | _ <;> induction c
   ·exact af ⟨h2,f,I,J,rfl,.refl y.good,q⟩
   ·exact p7 S r J I _ q (M.go y) y.good (F.go y)
   ·exact p7 S r J I _ q (M.go y) y.good (F.go y)
   ·exact af ⟨h2,f,I,J,rfl,.refl y.good,q⟩
  exact aa (go op h)
theorem M9 {op:jD} {es:List aC} {pos:cP} {k:Bool->List PO->Prop} (S:cL n E) (h:Cp E pe x op es st k) (M:eW A ρ s.heap fe n) (G:aY ρ st s.heap) (F:eH ρ s.heap env pe) {I:iR ak}:
  aw (aq prog w) A (tI (.BoolOp op es pos) env I) (CB s ρ k) (XK s ρ x) s:=wpAny_isTrue_BoolOp (p7 S es st ρ s h M G F)
theorem zM {i:Int} (h:mJ i):rE i≤60:=by
 unfold rE;refine kV (λY=>?_) λhz=>?_
 ·exact kE _
 ·have:i.natAbs.log2 <60:=(Vs (by intro e;apply hz;simp [Int.natAbs_eq_zero.mp e])).mpr h;exact ‹_›
theorem CC {i j:Int} (h:mJ i):IntMulOk i j:=by
 unfold IntMulOk;have:=zM h;have h2:¬rE i>RW:=by unfold RW;exact by lia
 simp [h2]
theorem CD {j:Int} (h:mJ j):j.natAbs.log2 <9000:=by
 by_cases hz:j.natAbs=0
 ·refine ag (hz ..) ?_;decide
 ·have:=(Vs hz).mpr h;exact by lia
theorem UF {op:l6} {a b:PV} {va O:ak} (G:aY ρ st s.heap) (V:VR ρ a va) (S:VR ρ b O) (h:mK st k op a b) {X:ak->aj->Prop}:
  aw (aq prog w) A (binaryOp op va O) (hV s ρ k) X s:=by
 induction h using mK.casesOn with
 | add h=>refine VR.eint V λY=>?_;obtain ⟨_,rfl⟩:=S.inv;exact add_int (qN G (.int _ _) h)
 | sub h=>refine VR.eint V λY=>?_;obtain ⟨_,rfl⟩:=S.inv;exact sub_int (qN G (.int _ _) h)
 | mul h1 h2 h=>refine VR.eint V λY=>?_;obtain ⟨_,rfl⟩:=S.inv;exact mul_int (qN G (.int _ _) h) (CC h1)
 | mod h1 h2 h=>refine VR.eint V λY=>?_;obtain ⟨_,rfl⟩:=S.inv;exact mod_int (U4 h1) (qN G (.int _ _) h)
 | div h1 h2 h=>refine VR.eint V λY=>?_;obtain ⟨_,rfl⟩:=S.inv;exact floordiv_int (U4 h1) (qN G (.int _ _) h) (.inl (PyProof.noPylong_of_log2 (CD h2)))
 | cat h1 h2 y h=>refine VR.eloc V λY f=>?_;refine VR.eloc S λY W=>?_;obtain ⟨_,e1,vs,n1,o1,I⟩:=G.objs _ _ h1;obtain ⟨_,e2,p,n2,l,J⟩:=G.objs _ _ h2;obtain rfl:=fm (f.symm.trans e1);obtain rfl:=fm (W.symm.trans e2);refine P.add_list o1 l (gJ (po:=.list _) _ G rfl ⟨vs++p,0,aM _ rfl,by refine ag (Array.toList_append ..) ?_;exact (I.append J).mono _⟩ h) ?_;have l1:=I.length;have l2:=J.length;have:ek=16777216:=rfl;simp at l1 l2 ⊢;exact by lia
theorem I6 {op:l6} {l r:aC} {pos:cP} (S:cL n E) (h:E.ev l pe st (λa I=>E.ev r pe I (λb J=>mK J k op a b) x) x) (M:eW A ρ s.heap fe n) (G:aY ρ st s.heap) (F:eH ρ s.heap env pe):
  aw (aq prog w) A (eM (.BinOp l op r pos) env) (hV s ρ k) (XK s ρ x) s:=by
 refine wpAny_BinOp (eJ S h M G F (λY Y z=>z) λh1 t1 ρ1 I pa va O p W V ra y=>?_);refine eJ S y p W V (λY Y z=>z.pre G O) λh2 t2 ρ2 J pb vb P M2 f F2 rb q2=>sC G (O.trans G P) (UF f (P.pre ra) rb q2)
end
section
variable {A:bw} {E:ak->aj->Prop} {s:aj}
theorem je {a b:ak} {O P W J:String} {Q:ak->aj->Prop} (V:s.TypeIs a O) (l:s.TypeIs b P) (hu:A.units <cT) (z:oneThing? .Eq a b=al)
  (S:(gG O !=gG P)=au) (G:fG (.type P) (.type O)=pure am) (h1:U5 O (U6 .Eq).2.1 W) (h2:U5 P (U6 .Eq).2.2 J) (Y:isSame a b=pure am)
  (p:∀I:ak->aj->Prop,I .notImplemented s->aw (aq prog w) A (call (.builtin W) [a,b]) I E s) (y:∀I:ak->aj->Prop,I .notImplemented s->aw (aq prog w) A (call (.builtin J) [b,a]) I E s)
  (h:Q (.bool am) s):aw (aq prog w) A (kG .Eq a b) Q E s:=by
 rcases hi:U6 ul.Eq with ⟨sym,f,r⟩;rw [hi] at h1 h2;unfold kG;simp only [hi,z];refine bc (aa (wpAny_cRoomFor hu ?_));refine aa (ly V (aa (ly l ?_)));refine vp S (aa (cO G ?_));refine aa (m:=tryCompare a _ b) (Ck V h1 (p _ ⟨rfl,?_⟩));refine aa (m:=tryCompare b _ a) (Ck l h2 (y _ ⟨rfl,?_⟩));exact aa (cS (aa (cO Y (af h))))
theorem Na:fG (.type "tuple") (.type "str")=pure am:=by refine ag (bQ ..) ?_;kernel_rfl
theorem Fo:fG (.type "tuple") (.type "bytes")=pure am:=by refine ag (bQ ..) ?_;kernel_rfl
theorem Nb:fG (.type "tuple") (.type "int")=pure am:=by refine ag (bQ ..) ?_;kernel_rfl
theorem zN:fG (.type "str") (.type "tuple")=pure am:=by refine ag (bQ ..) ?_;kernel_rfl
theorem zO:fG (.type "bytes") (.type "tuple")=pure am:=by refine ag (bQ ..) ?_;kernel_rfl
theorem zP:fG (.type "int") (.type "tuple")=pure am:=by refine ag (bQ ..) ?_;kernel_rfl
theorem OJ {a:ay} {v:ak} {T:String} (y:s.TypeIs (.ref a) "tuple") (J:s.TypeIs v T) (G:fG (.type T) (.type "tuple")=pure am) (I:ak->aj->Prop) (h:I .notImplemented s):
  aw (aq prog w) A (call (.builtin "tuple.__eq__") [.ref a,v]) I E s:=by
 refine bo oJ y F.entry_tuple_eq ?_ (F.args_tuple_eq_2 _ _);show aw _ _ (jo v (.type "tuple")>>=_) _ _ s;refine aa (cW J G ?_);first
 | exact af ⟨_,rfl,h⟩
 | exact aa (cS (af ⟨_,rfl,h⟩))
theorem P4 {a:ay} {x:aU} {t:ow} {o:Obj} {G:Array ak} {n:Nat} (V:s.heap.get? a=ac o) (hd:o.data=.seq G n) (I:ak->aj->Prop) (h:I .notImplemented s):
  aw (aq prog w) A (call (.builtin "str.__eq__") [.str x t,.ref a]) I E s:=by
 refine bo rY (ic s x t) Be ?_ (y8 _ _);show aw _ _ (asStr? (.ref a)>>=_) _ _ s;refine aa (aa (gD V ?_));refine ag (hd ..) (af (aa (cS (af ⟨_,rfl,h⟩))))
theorem Lu {a:ay} {x:Array UInt8} {t:ow} (y:s.TypeIs (.ref a) "tuple") (I:ak->aj->Prop) (h:I .notImplemented s):
  aw (aq prog w) A (call (.builtin "bytes.__eq__") [.bytes x t,.ref a]) I E s:=by
 refine bo dF (typeIs_bytes s x t) jE ?_ (jn _ _);show aw _ _ (jo (.ref a) (.type "bytes")>>=_) _ _ s;refine aa (cW y Fo ?_);exact aa (cS (af ⟨_,rfl,h⟩))
theorem T7 {a:ay} {x:Int} {t:ow} {o:Obj} {G:Array ak} {n:Nat} (V:s.heap.get? a=ac o) (hd:o.data=.seq G n) (I:ak->aj->Prop) (h:I .notImplemented s):
  aw (aq prog w) A (call (.builtin "int.__eq__") [.int x t,.ref a]) I E s:=by
 refine bo rX (ia s x t) Bc ?_ (y7 _ _);show aw _ _ (asInt? (.ref a)>>=_) _ _ s;refine aa (aa (gD V ?_));refine ag (hd ..) (af (aa (cS (af ⟨_,rfl,h⟩))))
theorem P5 {k1 k2:bJ} {a b:ak} {Q:Bool->aj->Prop} (p:A.units+8 <cT) (h1:i6 s.heap k1 a) (h2:i6 s.heap k2 b) (h:Q (decide (k1=k2)) s):aw (aq prog w) A (eqBool a b) Q E s:=by
 have G:A.units <cT:=by exact by lia
 induction k1 with
 | atom k1=>
  induction k2 with
  | atom k2=>exact (gj).eqBool (a:=k1) (b:=k2) h1 h2 (by simpa using h)
  | tup k2=>
   refine ae h2 λf J P=>?_;clear h2;subst J;have y:=P.typeIs;refine gR (id P) λo O n V W hd l=>?_;have h:Q am s:=by exact h
   induction k1 with
   | int i=>refine aI (lJ h1) λt J=>?_;refine ag J (fy (r:=false) rfl (λY Y e=>nomatch e) (λI q=>je (ia s i t) y G rfl (by decide) Nb rX qA rfl (λI q=>T7 V hd I q) (λI q=>OJ y (ia s i t) zP I q) q) h)
   | str i=>refine aI (kZ h1) λt J=>?_;refine ag J (fy (r:=false) rfl (λY Y e=>nomatch e) (λI q=>je (ic s i t) y G rfl (by decide) Na rY qA rfl (λI q=>P4 V hd I q) (λI q=>OJ y (ic s i t) zN I q) q) h)
   | bytes i=>refine aI (iE h1) λt J=>?_;refine ag J (fy (r:=false) rfl (λY Y e=>nomatch e) (λI q=>je (typeIs_bytes s i t) y G rfl (by decide) Fo dF qA rfl (λI q=>Lu y I q) (λI q=>OJ y (typeIs_bytes s i t) zO I q) q) h)
 | tup k1=>
  refine ae h1 λa1 J P=>?_;clear h1;subst J;have y:=P.typeIs;refine gR (id P) λo O n V W hd l=>?_;induction k2 with
  | atom k2=>
   have h:Q am s:=by exact h
   induction k2 with
   | int i=>refine aI (lJ h2) λt J=>?_;refine ag J (fy (r:=false) rfl (λY Y e=>nomatch e) (λI q=>je y (ia s i t) G rfl (by decide) zP oJ tK rfl (λI q=>OJ y (ia s i t) zP I q) (λI q=>T7 V hd I q) q) h)
   | str i=>refine aI (kZ h2) λt J=>?_;refine ag J (fy (r:=false) rfl (λY Y e=>nomatch e) (λI q=>je y (ic s i t) G rfl (by decide) zN oJ tL rfl (λI q=>OJ y (ic s i t) zN I q) (λI q=>P4 V hd I q) q) h)
   | bytes i=>refine aI (iE h2) λt J=>?_;refine ag J (fy (r:=false) rfl (λY Y e=>nomatch e) (λI q=>je y (typeIs_bytes s i t) G rfl (by decide) zO oJ dF rfl (λI q=>OJ y (typeIs_bytes s i t) zO I q) (λI q=>Lu y I q) q) h)
  | tup k2=>refine ae h2 λf J S=>?_;clear h2;subst J;exact wpAny_eqBool_tuple G P S (by simpa using h)
end
section
variable {A:bw} {E:ak->aj->Prop} {s:aj} {ρ:List ay}
theorem vQ {h:bM} {k1 k2:bJ} {v:ak} (h1:i6 h k1 v) (h2:i6 h k2 v):k1=k2:=by
 induction k1 with
 | atom k1=>induction k2 with
  | atom k2=>exact congrArg bJ.atom (AK.inj v k1 k2 h1 h2)
  | tup k2=>refine ae h2 λa J _=>?_;clear h2;subst J;exact absurd ((gj).byValue k1 _ h1) aZ
 | tup k1=>refine ae h1 λa J I=>?_;clear h1;subst J;induction k2 with
  | atom k2=>exact absurd ((gj).byValue k2 _ h2) aZ
  | tup k2=>refine ae h2 λb e G=>?_;clear h2;cases e;exact congrArg bJ.tup (I.inj G)
theorem vR {k:bJ} {v:ak} {Q:Int->aj->Prop} (I:A.units+8 <cT) (h1:i6 s.heap k v) (h:∀tk,Q (iF k) {s with toks:=tk}):aw (aq prog w) A (pyHash v) Q E s:=by
 induction k with
 | atom k=>exact (gj).pyHash (k:=k) h1 (h _)
 | tup k=>refine ae h1 λa J G=>?_;clear h1;refine ag J (wpAny_pyHash_tuple (by exact Uq ‹_›) G (h _))
theorem xm {k:bJ} {v:ak} {Q:Bool->aj->Prop} (h1:i6 s.heap k v) (h:Q au s):aw (aq prog w) A (eqIsQuiet 8 v) Q E s:=by
 induction k with
 | atom k=>exact cO (eqIsQuiet_byValue 8 ((gj).byValue k v h1)) h
 | tup k=>refine ae h1 λa J G=>?_;clear h1;refine ag J (wpAny_eqIsQuiet_tuple G h)
theorem SU {k:bJ} {v:ak} {h:bM} (h1:i6 h k v):(∃a,v=.ref a)∨(∃x,k=.atom x∧carriedByValue v=au):=by
 induction k with
 | atom k=>exact .inr ⟨k,rfl,(gj).byValue k v h1⟩
 | tup k=>refine ae h1 λa J _=>?_;clear h1;refine ag J (.inl ⟨a,rfl⟩)
theorem eZ.get {h:bM} {ps es} (x:eZ ρ h ps es):∀{i:Nat} {p},ps[i]? =ac p->∃e,es[i]? =ac e∧rz ρ h p e:=by
 induction x with
 | nil=>intro i p e;simp at e
 | cons a _ P=>
  intro i p e;induction i using eX with
  | zero=>simp at e;subst e;exact ⟨_,rfl,a⟩
  | succ i=>simp at e;exact P e
theorem eZ.back {h:bM} {ps es} (x:eZ ρ h ps es) {i:Nat} {e} (G:es[i]? =ac e):∃p,ps[i]? =ac p∧rz ρ h p e:=by
 have hl:i <ps.length:=by refine ag (x.length ..) ?_;exact (ao.mp G).1
 refine ae (x.get (i:=i) (p:=ps[i]) (by simp [hl])) λI e1 e2=>ag (ss G e1) ⟨ps[i],by simp [hl],e2⟩
def jf (es:List (bJ × PV × PV)) (k:bJ) (j:Nat):Prop:=∃p,es[j]? =ac (k,p)
theorem xn {k:bJ} {v:ak} {stored:List ak} {Q:Bool->aj->Prop} (h1:i6 s.heap k v) (f:∀u∈stored,∃y,i6 s.heap y u) (h:Q am s):
  aw (aq prog w) A (U7 v stored) Q E s:=by
 unfold U7;split
 ·exact af h
 ·refine aa (xm h1 ?_);refine aa (wM _ (λrest r W=>W=s∧r=(al,())∧∀u∈rest,∃y,i6 s.heap y u) _ ?_ ?_ _ _ ⟨rfl,rfl,f⟩)
  ·intro x rest r W q4;refine eg q4 ?_;clear q4;intro J O S;refine ag J ?_;subst O;refine aI (S x aA) λy P=>aa (xm P ?_);exact af ⟨rfl,rfl,λu l=>S u (aE _ l)⟩
  ·intro r W V;refine eg V ?_;clear V;intro G I _;refine ag G (ag I ?_);exact af h
theorem P6 {α β:Type} {M:l4} (f:α->β->iR (ForInStep β)) (I:List α->β->Prop) (Q:β->aj->Prop) {l:List α} {b:β}
  (G:∀x rest b,I (x::rest) b->∀R:ForInStep β->aj->Prop,(∀O,I rest O->R (.yield O) s)->(∀O,Q O s->R (.done O) s)->aw M A (f x b) R E s)
  (J:∀b,I [] b->Q b s) (h:I l b):aw M A (forIn l b f) Q E s:=
 wM f (λl b W=>W=s∧I l b) Q (λx rest b W h=>ag h.1 (G x rest b h.2 _ (λO i=>⟨rfl,i⟩) λO q=>q)) (λb W h=>ag h.1 (J b h.2)) l b ⟨rfl,h⟩
theorem p8 {β:Type} {d:ay} {o:Obj} {des:Array cz} {ep:Nat} {q:Option ak} {u v:ak} {c:Prop} {X:Nat->Bool->Nat->iR β} {f:Bool->iR β} {Q:β->aj->Prop}
  (V:s.heap.get? d=ac o) (hd:o.data=.dict des ep) (G:∀I:Bool->aj->Prop,(c->I au s)->(¬c->I am s)->aw (aq prog w) A (eqBool u v) I E s)
  (h1:c->aw (aq prog w) A (f au) Q E s) (h0:¬c->aw (aq prog w) A (f am) Q E s):
  aw (aq prog w) A (wN d q>>=λb=>eqBool u v>>=λEc=>wN d q>>=λe=>if (e !=b)=au then X b Ec e else f Ec) Q E s:=by
 have z:∀b,aw (aq prog w) A (f b) Q E s->aw (aq prog w) A (wN d q>>=λe=>if (e !=ep)=au then X ep b e else f b) Q E s:=λb h=>aa (dP V hd (mu (by simp) h));exact aa (dP V hd (aa (G _ (λh=>z _ (h1 h)) λh=>z _ (h0 h))))
section
variable {d:ay} {o:Obj} {des:Array cz} {ep:Nat} {v:ak} {H:Int} {c:Nat->Prop} {pl:List Nat} {Q:Option Nat->aj->Prop}
theorem zQ (p:s.heap.get? d=ac o) (hd:o.data=.dict des ep) (l:∀i e,des[i]? =ac e->∀J:Bool->aj->Prop,(c i->J au s)->(¬c i->J am s)->aw (aq prog w) A (eqBool e.key v) J E s)
  (V:∀i∈pl,∃e,des[i]? =ac e∧e.hash=H) (W:∀j,c j->j∈pl) (G:(∀j,¬c j)->Q al s) (I:∀j,c j->Q (ac j) s):aw (aq prog w) A (dictWalkPlain d v H des pl) Q E s:=by
 refine aa (P6 _ (λrest r=>r=(al,())∧(∀j,c j->j∈rest)∧∀j∈rest,j∈pl) _ (λx rest r h R y hz=>?_) (λr h=>?_) ⟨rfl,W,λY h=>h⟩)
 ·refine eg h λe1 O f=>ae (V x (f x (.head _))) λe e2 e3=>ag e2 (vp (beq_iff_eq.mpr e3) (p8 p hd (l x e e2) (λP=>?_) λP=>?_))
  ·exact vp rfl (aa (cS (af (hz _ (af (I x P))))))
  ·exact mu aZ (aa (cS (af (y _ ⟨rfl,λj S=>bk (bj.mp (O j S)) (λq=>absurd (q▸S) P) λq=>q,λj S=>f j (.tail _ S)⟩))))
 ·refine eg h λe1 O Y=>ag e1 (af (G λj S=>nomatch O j S))
theorem uK (ho:s.heap.get? d=ac o) (hd:o.data=.dict des ep) (he:∀i e,des[i]? =ac e->∀V:Bool->aj->Prop,(c i->V au s)->(¬c i->V am s)->aw (aq prog w) A (eqBool e.key v) V E s)
  (y:∀i∈pl,∃e,des[i]? =ac e∧e.hash=H) (W:∀j,c j->j∈pl) (l:pl.Nodup) (one:∀i j,c i->c j->i=j) (J:(∀j,¬c j)->Q al s) (G:∀j,c j->Q (ac j) s) (stored:List ak):
  aw (aq prog w) A (do
   let mut hit:Option Nat:=none
   for i in pl do
    if let ac e:=des[i]? then
     if e.hash==H then
      let before ← wN d (Ie v)
      let Ec ← eqBool e.key v
      if (← wN d (Ie v)) !=before then unsupported "dict.changed-during-lookup"
      if Ec then
       if hit.isSome then unsupported "dict.find:order-among-keys-of-one-hash"
       rule "dict.find.hit"
       if stored.length <2 then return ac i
       hit:=some i
      else
       rule "dict.find.same-hash-other-key"
       if am&&!(0≤H&&H <32) then unsupported "dict.find:asked-again-or-not-hangs-on-the-table"
   return hit) Q E s:=by
 refine aa (P6 _ (λrest r=>r.1=al∧(∀j∈rest,j∈pl)∧rest.Nodup∧((r.2=al∧∀j,c j->j∈rest)∨∃j,r.2=ac j∧c j∧j∉rest)) _ (λx rest r h R z hz=>?_) (λr h=>?_) ⟨rfl,λY h=>h,l,.inl ⟨rfl,W⟩⟩)
 ·refine gQ h λe1 p f P=>ae (y x (p x (.head _))) λe e2 e3=>ag e2 (vp (beq_iff_eq.mpr e3) (p8 ho hd (he x e e2) (λO=>?_) λO=>?_))
  ·refine bk P (λq=>?_) λq=>bP q λj Y S I=>absurd (one _ _ S O▸List.Mem.head _) I;refine vp rfl (mu (by rw [q.1];exact nB) (aa (cS (kV (λh=>?_) λh=>?_))))
   ·exact af (hz _ (af (G x O)))
   ·exact af (z _ ⟨rfl,λj S=>p j (.tail _ S),(cD.mp f).2,.inr ⟨x,rfl,O,(cD.mp f).1⟩⟩)
  ·refine mu aZ (aa (cS (af (z _ ⟨rfl,λj S=>p j (.tail _ S),(cD.mp f).2,bk P (λq=>.inl ⟨q.1,λj S=>?_⟩) λq=>bP q λj e1 S I=>.inr ⟨j,e1,S,λh=>I (.tail _ h)⟩⟩))));exact bk (bj.mp (q.2 j S)) (λq=>absurd (q▸S) O) λq=>q
 ·refine gQ h λe1 Y Y P=>ag e1 (bk P (λq=>?_) λq=>bP q λj e2 S Y=>?_)
  ·exact ag q.1 (af (J λj S=>nomatch q.2 j S))
  ·exact ag e2 (af (G j S))
end
theorem zR {d:ay} {o:Obj} {des:Array cz} {ep i:Nat} {e:cz} {v:ak} {x:aU} {Q:Option Nat->aj->Prop} (V:s.heap.get? d=ac o) (hd:o.data=.dict des ep) (hi:des.findIdx? (·.key.isStr x)=ac i) (e1:des[i]? =ac e)
  (G:∀I:Bool->aj->Prop,I au s->aw (aq prog w) A (eqBool e.key v) I E s) (h:Q (ac i) s):aw (aq prog w) A (uo d v des x) Q E s:=by
 unfold uo;rw [hi];dsimp only;refine ag e1 (p8 (c:=True) V hd (λI h1 Y=>G I (h1 trivial)) (λY=>?_) λn=>absurd trivial n);exact vp rfl (aa (cS (af h)))
theorem vS {d:ay} {des:Array cz} {v:ak} {x:aU} {Q:Option Nat->aj->Prop} (hi:des.findIdx? (·.key.isStr x)=al) (h:Q al s):aw (aq prog w) A (uo d v des x) Q E s:=by unfold uo;rw [hi];exact af h
theorem Nc {β:Type} {v:ak} {b:Bool} {g:aU->iR β} {t:iR β} {Q:β->aj->Prop} (h1:∀x tk,v=.str x tk->b=au->aw (aq prog w) A (g x) Q E s) (h2:aw (aq prog w) A t Q E s):
  aw (aq prog w) A (match v with | .str x _=>if b=au then g x else t | _=>t) Q E s:=by
 induction v <;> first | exact h2 | exact kV (motive:=λz=>aw (aq prog w) A z Q E s) (λh=>h1 _ _ rfl h) λY=>h2
theorem Nd {β:Type} {v:ak} {c:Prop} [Decidable c] {u t:iR β} {Q:β->aj->Prop} (G:¬c) (h2:aw (aq prog w) A t Q E s):
  aw (aq prog w) A (match v with | .ref _=>if c then u else t | _=>t) Q E s:=by
 induction v <;> first | exact h2 | exact mu G h2
theorem BH {d:ay} {o:Obj} {es:List (bJ × PV × PV)} {des:Array cz} {ep:Nat} {k:bJ} {v:ak} {Q:Option Nat->aj->Prop} (hu:A.units+8 <cT) (hk:i6 s.heap k v)
  (ho:s.heap.get? d=ac o) (hd:o.data=.dict des ep) (R:eZ ρ s.heap es des.toList) (nd:(es.map (·.1)).Nodup)
  (G:(∀j,¬jf es k j)->Q al s) (I:∀j,jf es k j->Q (ac j) s):aw (aq prog w) A (dictFind d v (iF k)) Q E s:=by
 have ent:∀i e,des[i]? =ac e->∃p,es[i]? =ac p∧rz ρ s.heap p e:=λi e l=>R.back (by simpa using l);have one:∀i j,jf es k i->jf es k j->i=j:=by intro i j q2 q3;refine aI q2 λp hi=>aI q3 λq S=>?_;have y:(es.map (·.1))[i]? =ac k:=(jF).trans (ag hi rfl);exact (mC (ao.mp y).1 nd).mp (y.trans (show (es.map (·.1))[j]? =ac k from (jF).trans (ag S rfl)).symm)
 have there:∀j,jf es k j->∃e,des[j]? =ac e∧e.hash=iF k∧i6 s.heap k e.key:=by intro j q1;refine aI q1 λp S=>ae (R.get S) λe e1 e2=>⟨e,by simpa using e1,e2.hash,e2.key⟩
 have J:∀i e,des[i]? =ac e->∀P:Bool->aj->Prop,(jf es k i->P au s)->(¬jf es k i->P am s)->aw (aq prog w) A (eqBool e.key v) P E s:=by
  intro i e l P h1 h2;refine ae (ent i e l) λp e1 e2=>P5 hu e2.key hk (RG (p.1=k) (λq=>?_) λq=>?_)
  ·refine ag (decide_eq_true q ..) (h1 ⟨p.2,ag e1 (bZ q rfl)⟩)
  ·refine ag (decide_eq_false q ..) (h2 λx=>aI x λp' hp=>?_);obtain rfl:=ss hp e1;exact q rfl
 have V:∀i,i∈jG des.size (λi=>des[i]?.map (·.hash)) (iF k)↔i <des.size∧∃e,des[i]? =ac e∧e.hash=iF k:=by intro i;unfold jG;rw [List.mem_filter,qB,beq_iff_eq,aF]
 have hnd:(jG des.size (λi=>des[i]?.map (·.hash)) (iF k)).Nodup:=List.Pairwise.filter _ Rl;have f:¬(des.any λe=>e.key==v&&e.hash !=iF k)=au:=by refine bZ (Rm ..) ?_;rw [Ro];intro q0;refine ae q0 λe W hc=>?_;obtain ⟨i,hi,l⟩:=lb W;refine ae (R.back (i:=i) (e:=e) (bZ l (by simp [hi]))) λp Y e2=>?_;rw [bq,beq_iff_eq,bne_iff_ne,ne_eq] at hc;have h1:=e2.key;rw [hc.1] at h1;exact hc.2 (e2.hash.trans (ag (vQ h1 hk) rfl))
 have O:∀u∈(jG des.size (λi=>des[i]?.map (·.hash)) (iF k)).filterMap (λi=>des[i]?.map (·.key)),∃k',i6 s.heap k' u:=by intro u hu;refine ae (l8.mp hu) λi Y hi=>ae (aF.mp hi) λe hei q=>ae (ent i e hei) λp Y e2=>⟨p.1,bZ q e2.key⟩
 generalize iF k=H at*;have W:∀j,jf es k j->j∈jG des.size (λi=>des[i]?.map (·.hash)) H:=λj S=>bP (there j S) λe e1 e2 Y=>(V j).mpr ⟨(Bg.mp e1).1,e,e1,e2⟩;have hp:∀i∈jG des.size (λi=>des[i]?.map (·.hash)) H,∃e,des[i]? =ac e∧e.hash=H:=λi h=>((V i).mp h).2;clear V;refine bc (aa (cb ho hd ?_));refine Nc (λx t e hall=>?_) ?_
 ·subst e;have r:k=.atom (.str x):=vQ hk (k2:=.atom (.str x)) (show AK.is _ _=au by simp [AK.is,kA]);refine Si (des.findIdx? (·.key.isStr x)) (λq=>?_) λi q=>?_
  ·refine vS q (G λj S=>bP (there j S) λe e1 Y e3=>?_);rw [r] at e3;refine aI (kZ e3) λu e3=>?_;have:=Array.findIdx?_eq_none_iff.mp q e (Array.mem_of_getElem? e1);rw [e3] at this;simp [fB] at this
  ·refine aI (Array.findIdx?_eq_some_iff_getElem.mp q) λhi hs=>?_;have e0:=iy hi;have O:jf es k i:=ae (ent i _ e0) λp e1 e2=>by
    have h1:=e2.key;have h3:∃u,des[i].key=.str x u:=by have:=hs.1;cases hh:des[i].key <;> rw [hh] at this <;> simp [fB] at this;exact ⟨_,ag this rfl⟩
    refine aI h3 λu h3=>?_;rw [h3] at h1;exact ⟨p.2,e1.trans (ag r (bZ (vQ h1 (k2:=.atom (.str x)) (show AK.is _ _=au by simp [AK.is,kA])) rfl))⟩
   exact zR ho hd q e0 (λP h=>J i _ e0 P (λY=>h) λz=>absurd O z) (I i O)
 ·refine kV (λY=>zQ ho hd J hp W G I) λY=>Nd f (kV (λY=>?_) λY=>?_)
  ·exact aa (af (mu (by simp) (uK ho hd J hp W hnd one G I _)))
  ·exact aa (xn hk O (mu (by simp) (uK ho hd J hp W hnd one G I _)))
end
section
variable {A:bw} {E:ak->aj->Prop} {s:aj} {ρ:List ay} {st:List PO}
theorem Fp {h:bM}:∀{xs:List PV} {ks:List AK} {vs:List ak},du xs=ac ks->eI ρ xs vs->ItemsAre (gj) ks vs:=by
 intro I;induction I with
 | nil=>intro ks vs e r;refine ag (eI.inil r) ?_;simp [du,dn] at e;refine ag e .nil
 | cons p xs V=>
  intro ks vs e r;cases r with
  | cons a r=>
   rw [du,aT] at e;cases q:kN p with
   | none=>rw [q] at e;exact n1 e
   | some k=>rw [q] at e;simp only [dn] at e;refine ae (aF.mp e) λJ e1 G=>bZ G (.cons ?_ (V e1 r));induction a <;> first | exact n1 q | exact bZ (fm q) (by simp [pY,AK.is,KO,kA,Eo])
theorem gZ (G:aY ρ st s.heap) {p:PV} {v:ak} {k:bJ} (r:VR ρ p v) (e:kC st p=ac k):i6 s.heap k v∧∀ks,k=.tup ks->BG p=au:=by
 induction r using VR.casesOn with
 | int i t=>exact bZ (fm e) ⟨by show AK.is _ _=au;simp [AK.is,KO],nofun⟩
 | str i t=>exact bZ (fm e) ⟨by show AK.is _ _=au;simp [AK.is,kA],nofun⟩
 | bytes i t=>exact bZ (fm e) ⟨by show AK.is _ _=au;simp [AK.is,Eo],nofun⟩
 | @loc i a hl=>refine ae (ai.mp e) λxs J e=>?_;refine ae (ai.mp J) λo J V=>ae (aF.mp e) λks e1 I=>bZ I ?_;obtain ⟨P,e2,vs,n,o1,O⟩:=G.objs _ _ (J.trans (congrArg ac (se V)));refine ⟨⟨a,rfl,_,_,_,ag (ss hl e2) o1,rfl,rfl,Fp (h:=s.heap) e1 O⟩,λY Y=>rfl⟩
 | _=>exact n1 e
theorem mU {es:List (bJ × PV × PV)} {k:bJ}:(dget k es=al↔∀j,¬jf es k j):=by
 delta dget jf;induction es with
 | nil=>simp
 | cons e r P=>
  obtain ⟨y,p⟩:=e;refine ag (List.lookup_cons ..) ?_;by_cases q:k=y
  ·refine ag q ?_;simp;exact ⟨0,p.1,p.2,by rfl⟩
  ·have:(k==y)=am:=by simpa using q
   refine ag (this ..) ?_;simp only;rw [P];constructor
   ·intro h j;induction j using eX with
    | zero=>rintro ⟨I,G⟩;simp at G;exact q G.1.symm
    | succ j=>exact h j
   ·intro h j;exact h (j+1)
theorem I7 {es:List (bJ × PV × PV)} {k:bJ} (nd:(es.map (·.1)).Nodup) {j:Nat} {p:PV × PV} (h:es[j]? =ac (k,p)):dget k es=ac p:=by
 unfold dget;induction es generalizing j with
 | nil=>simp at h
 | cons e r P=>
  obtain ⟨y,G⟩:=e;refine ag (List.lookup_cons ..) ?_;rw [aT,cD] at nd;induction j using eX with
  | zero=>simp at h;refine ah h λV J=>?_;clear h;refine ag V (bZ J ?_);simp
  | succ j=>
   simp at h;have:(k==y)=am:=by
    have:k≠y:=by rintro rfl;exact nd.1 (cU.mpr ⟨(k,p),aN h,rfl⟩)
    simpa using this
   refine ag (this ..) (P nd.2 h)
theorem gK {es:List (bJ × PV × PV)} {k:bJ} (nd:(es.map (·.1)).Nodup) {j:Nat} (h:jf es k j):∃p,es[j]? =ac (k,p)∧dget k es=ac p:=by refine aI h λp G=>?_;clear h;exact ⟨p,G,I7 nd G⟩
theorem xo {es:List (bJ × PV × PV)} {k:bJ} {kv v:PV} (h:∀j,¬jf es k j):lD k kv v es=es++[(k,kv,v)]:=by
 induction es with
 | nil=>rfl
 | cons e r P=>rw [lD];refine ag (if_neg (by intro q;exact h 0 ⟨e.2,by refine bZ (q ..) ?_;rfl⟩) ..) ?_;refine ag (kg ..) ?_;exact ag (P λj S=>h (j+1) (by refine aI S λp G=>?_;clear S;exact ⟨p,by exact G⟩) ..) rfl
theorem xp {es:List (bJ × PV × PV)} {k:bJ} {kv v:PV} (nd:(es.map (·.1)).Nodup) {j:Nat} {p:PV × PV} (h:es[j]? =ac (k,p)):lD k kv v es=es.modify j (λe=>(e.1,e.2.1,v)):=by
 induction es generalizing j with
 | nil=>simp at h
 | cons e r P=>
  rw [aT,cD] at nd;induction j using eX with
  | zero=>simp at h;refine ag h ?_;simp [lD]
  | succ j=>simp at h;rw [lD];refine ag (if_neg (by rintro rfl;exact nd.1 (cU.mpr ⟨_,aN h,rfl⟩)) ..) ?_;refine ag (List.modify_succ_cons ..) (ag (P nd.2 h ..) rfl)
theorem I8 {es:List (bJ × PV × PV)} {k:bJ} (nd:(es.map (·.1)).Nodup) {j:Nat} {p:PV × PV} (h:es[j]? =ac (k,p)):pO k es=es.eraseIdx j:=by
 induction es generalizing j with
 | nil=>simp at h
 | cons e r P=>
  rw [aT,cD] at nd;induction j using eX with
  | zero=>simp at h;refine ag h ?_;simp [pO]
  | succ j=>simp at h;rw [pO];refine ag (if_neg (by rintro rfl;exact nd.1 (cU.mpr ⟨_,aN h,rfl⟩)) ..) ?_;refine ag (List.eraseIdx_cons_succ ..) (ag (P nd.2 h ..) rfl)
theorem Fq (es:List (bJ × PV × PV)) (k:bJ):(pO k es).Sublist es:=by
 induction es with
 | nil=>exact .slnil
 | cons e r P=>rw [pO];exact kV (λY=>Ig _ _) λY=>P.cons_cons _
theorem eZ.push {h:bM} {ps es p e} (x:eZ ρ h ps es) (y:rz ρ h p e):eZ ρ h (ps++[p]) (es++[e]):=by
 induction x with
 | nil=>exact .cons y .nil
 | cons a _ P=>exact .cons a P
theorem eZ.modify {h:bM} {ps es} {I:PV} {v:ak} (x:eZ ρ h ps es) (y:VR ρ I v) (j:Nat):eZ ρ h (ps.modify j λe=>(e.1,e.2.1,I)) (es.modify j λe=>{e with val:=v}):=by
 induction x generalizing j with
 | nil=>simp;exact .nil
 | cons a r P=>
  induction j using eX with
  | zero=>exact .cons ⟨a.hash,a.key,a.kv,y,a.own⟩ r
  | succ j=>exact .cons a (P j)
theorem eZ.erase {h:bM} {ps es} (x:eZ ρ h ps es) (j:Nat):eZ ρ h (ps.eraseIdx j) (es.eraseIdx j):=by
 induction x generalizing j with
 | nil=>simp;exact .nil
 | cons a r P=>
  induction j using eX with
  | zero=>exact r
  | succ j=>exact .cons a (P j)
theorem BI {o:Obj} {h:bM} {d:ay} {f:Obj->Obj} (V:h.get? d=ac o) (G:¬j3 o):∀a∈ρ,∀o',h.get? a=ac o'->j3 o'->(h.update d f).get? a=ac o':=by
 intro a _ o' e c;have:a≠d:=by rintro rfl;obtain rfl:=ss V e;exact G c
 exact ((bN ..).2 a this).trans e
variable {d:ay} {es:List (bJ × PV × PV)} {ep:Nat} {des:Array cz} {n:Nat} {k:bJ} {v:ak}
theorem I9 {Q:Option ak->aj->Prop} (J:A.units+8 <cT) (I:i6 s.heap k v) (V:s.heap.get? d=ac ⟨.type "dict",al,.dict des n,#[]⟩) (R:eZ ρ s.heap es des.toList) (nd:(es.map (·.1)).Nodup)
  (h:∀tk,(dget k es=al->Q al {s with toks:=tk})∧(∀p val,dget k es=ac p->VR ρ p.2 val->Q (ac val) {s with toks:=tk})):aw (aq prog w) A (zf d v) Q E s:=by
 unfold zf;try with_reducible refine bc ?_
 refine aa (vR J I λtk=>?_);refine aa (BH (s:={s with toks:=tk}) J I V rfl R nd ?_ ?_)
 ·intro G;exact af ((h tk).1 (mU.mpr G))
 ·intro j S;refine ae (gK nd S) λp P O=>ae (R.get P) λe e1 e2=>aa (cb (s:={s with toks:=tk}) V rfl ?_);refine ag (show des[j]? =ac e by simpa using e1 ..) (af ((h tk).2 p _ O e2.vv))
theorem Nf {kv O:PV} {val:ak} {Q:Unit->aj->Prop} (G:aY ρ st s.heap) (z:A.units+8 <cT) (W:i6 s.heap k v) (J:∀ks,k=.tup ks->BG kv=au) (rk:VR ρ kv v) (l:VR ρ O val) {i:Nat} (hi:ρ[i]? =ac d)
  (hs:st[i]? =ac (.dict es ep)) (hl:es.length≤1000)
  (h:∀h' tk ep',Ev ρ s.heap ρ (st.set i (.dict (lD k kv O es) ep')) h'->Q () {s with heap:=h',toks:=tk}):aw (aq prog w) A (U8 d v val) Q E s:=by
 obtain ⟨a,e1,des,V,R,nd⟩:=G.objs _ _ hs;obtain rfl:=ss e1 hi;have f:=R.length;have hsz:ek=16777216:=rfl;unfold U8;try with_reducible refine bc ?_
 refine aa (vR z W λtk=>?_);unfold dictSetHashed;try with_reducible refine bc ?_
 refine aa (BH (s:={s with toks:=tk}) z W V rfl R nd ?_ ?_)
 ·intro I;refine aa (cS (KP (s:={s with toks:=tk}) (hz:=by simp at f;exact by lia) V rfl (h _ tk (ep+1) ?_)));refine Ev.upd G hi V (bN ..) (nofun) (nofun) ⟨_,(bh (RX (·.push ⟨iF k,v,val⟩)) V rfl),?_,?_⟩
  ·refine ag (xo I ..) ?_;simp only [OZ];exact eZ.push (R.to (BI V (nofun))) ⟨rfl,(rz.to (p:=(k,kv,O)) ⟨rfl,W,rk,l,J⟩ (BI V (nofun))).key,rk,l,J⟩
  ·refine ag (xo I ..) (ag (dQ ..) ?_);rw [fZ];refine ⟨nd,by simp,λx hx y Y=>?_⟩;simp at Y;refine ag Y ?_;rintro rfl;refine ae (cU.mp hx) λq hq P=>?_;subst P;obtain ⟨j,S,e⟩:=lb hq;exact I j ⟨q.2,by exact ag (cB S) (ag (e ..) rfl)⟩
 ·intro j S;refine ae (gK nd S) λp r hg=>aa (cS (aa (wpAny_updateDict (s:={s with toks:=tk}) V rfl (qx (h _ tk ep ?_)))));have hf:=bh (Obj.mapDict (·.modify j λe=>{e with val:=val})) V rfl;refine Ev.upd G hi V (bN ..) (nofun) (nofun) ⟨_,hf,?_,?_⟩
  ·refine ag (xp nd r ..) (ag (Array.toList_modify ..) ?_);exact eZ.modify (R.to (BI V (nofun))) l j
  ·refine ag (xp nd r ..) ?_;have:(es.modify j λe=>(e.1,e.2.1,O)).map (·.1)=es.map (·.1):=by
    apply uq;intro m;simp only [jF,List.getElem?_modify];induction es[m]? with
    | none=>rfl
    | some e=>simp;split <;> rfl
   refine ag (this ..) nd
theorem P7 {Q:Option cz->aj->Prop} (G:aY ρ st s.heap) (S:A.units+8 <cT) (O:i6 s.heap k v) {i:Nat} (hi:ρ[i]? =ac d) (l:st[i]? =ac (.dict es ep))
  (hl:es.length≤1000)
  (h0:∀tk,dget k es=al->Q al {s with toks:=tk})
  (h:∀h' tk ep' e p,Ev ρ s.heap ρ (st.set i (.dict (pO k es) ep')) h'->dget k es=ac p->VR ρ p.2 e.val->Q (ac e) {s with heap:=h',toks:=tk}):aw (aq prog w) A (ie d v) Q E s:=by
 obtain ⟨a,e1,des,V,R,nd⟩:=G.objs _ _ l;obtain rfl:=ss e1 hi;have I:=R.length;have y:ek=16777216:=rfl;unfold ie;try with_reducible refine bc ?_
 refine aa (vR S O λtk=>?_);refine aa (BH (s:={s with toks:=tk}) S O V rfl R nd ?_ ?_)
 ·intro J;exact af (h0 tk (mU.mpr J))
 ·intro j f;refine ae (gK nd f) λp P W=>ae (R.get P) λe e1 e2=>aa (cb (s:={s with toks:=tk}) V rfl ?_);refine ag (show des[j]? =ac e by simpa using e1 ..) ?_;refine aa (KP (s:={s with toks:=tk}) (hz:=by simp at I;exact by lia) V rfl (af (h _ tk (ep+1) e p ?_ W e2.vv)) (by simp only [nc];split <;> simp <;> lia));refine Ev.upd G hi V (bN ..) (nofun) (nofun) ⟨_,(bh (RX (·.eraseIdxIfInBounds j)) V rfl),?_,?_⟩
  ·refine ag (I8 nd P ..) ?_;have:(des.eraseIdxIfInBounds j).toList=des.toList.eraseIdx j:=by simp [nc,(show j <des.size by have:=(ao.mp e1).1;exact this)]
   refine ag (this ..) (eZ.erase (R.to (BI V (nofun))) j)
  ·exact nd.sublist ((Fq es k).map _)
end
section
variable {A:bw} {E:ak->aj->Prop} {s:aj} {ρ:List ay} {st:List PO}
theorem k6 (I:dO) (G:aY ρ st s.heap) {i:Nat} {d:ay} (hi:ρ[i]? =ac d):(d==gi)=am:=by
 refine aI I.sysm λo V=>?_;have:=G.fresh d (aN hi);cases q:d==gi with
 | false=>rfl
 | true=>rw [beq_iff_eq.mp q,V] at this;exact n2 this
theorem jv {value slice:aC} {o i:ak} {T id:String} {Q:ak->aj->Prop} (O:s.TypeIs o T)
  (hl:eB (.type T) "__getitem__"=pure (ac (.builtin id))) (h:aw (aq prog w) A (rj o i) Q E s):
  aw (aq prog w) A (Ed value slice o i) Q E s:=by
 refine aa (ag (getitemInPython_of_ne O.not_modules ..) ?_);refine aa (cM O hl ?_);have I:aw (aq prog w) A (KQ slice am o i) (λr G=>aw (aq prog w) A (Tj value o r>>=λY=>pure r) Q E G) E s:=by
  have h':aw (aq prog w) A (rj o i) (λr G=>aw (aq prog w) A (Tj value o r>>=λY=>pure r) Q E G) E s:=
   aP h (λr G J=>aa (qC (af J))) λY Y x=>x
  have P:KQ slice am o i=operate [i,o] (rj o i)∨KQ slice am o i=operate [o,i] (rj o i):=by
   induction slice using ey with
   | Slice l u st p=>induction st with
    | none=>exact .inl rfl
    | some _=>exact .inr rfl
   | _=>exact .inr rfl
  refine bk P (λe=>ag e ?_) λe=>ag e ?_ <;> exact wpAny_operating h'
 first
  | exact af (aa I)
  | exact aa (af (aa I))
  | exact aa I
variable {n:Nat} {d:ay} {es:List (bJ × PV × PV)} {ep:Nat} {ka:bJ} {a:PV} {va:ak} {i:Nat}
theorem nH {Q:Bool->aj->Prop} (O:dO) (l:A.units+10 <cT) (G:aY ρ st s.heap) (hi:ρ[i]? =ac d) (S:st[i]? =ac (.dict es ep)) (W:VR ρ a va) (P:kC st a=ac ka)
  (h:∀tk,Q (dget ka es).isSome {s with toks:=tk}):aw (aq prog w) A (contains (.ref d) va) Q E s:=by
 obtain ⟨f,e1,des,V,R,nd⟩:=G.objs _ _ S;obtain rfl:=ss hi e1;have I:s.TypeIs (.ref d) "dict":=⟨_,V,rfl⟩;unfold contains;try with_reducible refine bc ?_
 refine aa (cM I tN.lookup ?_);refine mu (by rw [beq_builtin_none];exact aZ) ?_;refine aa (wpAny_callSpecialUnlessNone?_slot (name:=eC "__contains__") I tN
  (bo tN I entry_dict_contains ?_ (args_dict_contains _ _)))
 show aw _ _ (zf d va>>=_) _ _ s;refine aa (I9 (by show A.units+1+8 <cT;exact cj ‹_›) ((gZ G W P).1) V R nd λtk=>⟨λJ=>?_,λp val J Y=>?_⟩)
 ·have h:=h tk;rw [J] at h;exact aa (wpAny_pendingKey_other (k6 O G hi) (af ⟨_,rfl,fb h⟩))
 ·have h:=h tk;rw [J] at h;exact af ⟨_,rfl,fb h⟩
theorem Ja {Q:ak->aj->Prop} (I:dO) (P:A.units+10 <cT) (G:aY ρ st s.heap) (hi:ρ[i]? =ac d) (O:st[i]? =ac (.dict es ep)) (V:VR ρ a va) (J:kC st a=ac ka)
  (h:∀tk,Q (.bool (dget ka es).isSome) {s with toks:=tk}):aw (aq prog w) A (nC .In va (.ref d)) Q E s:=
 aa (nH I P G hi O V J λtk=>af (h tk))
theorem zS {Q:ak->aj->Prop} (I:dO) (P:A.units+10 <cT) (G:aY ρ st s.heap) (hi:ρ[i]? =ac d) (O:st[i]? =ac (.dict es ep)) (V:VR ρ a va) (J:kC st a=ac ka)
  (h:∀tk,Q (.bool (!(dget ka es).isSome)) {s with toks:=tk}):aw (aq prog w) A (nC .NotIn va (.ref d)) Q E s:=
 aa (nH I P G hi O V J λtk=>af (h tk))
theorem Fs {x:aU} {t:ow} {ss:List aU} {vs:List ak} (r:eI ρ (ss.map PV.str) vs):(vs.any λv=>match v with | .str y _=>y==x | _=>am)=decide (x∈ss):=by
 induction ss generalizing vs with
 | nil=>refine ag (eI.inil r) ?_;rfl
 | cons y ss P=>
  rw [aT] at r;cases r with
  | cons a r=>
   cases a with
   | str _ G=>
   refine ag (Ue ..) (ag (P r ..) ?_);rw [y9];simp only [za,beq_iff_eq,decide_eq_true_eq,bj];exact ⟨λh=>h.imp U9 id,λh=>h.imp U9 id⟩
theorem Ng {x:aU} {t:ow} {ss:List aU} {Q:ak->aj->Prop} (G:aY ρ st s.heap) (hi:ρ[i]? =ac d) (O:st[i]? =ac (.tup (ss.map PV.str)))
  (h:Q (.bool (decide (x∈ss))) s):aw (aq prog w) A (nC .In (.str x t) (.ref d)) Q E s:=by
 obtain ⟨P,e1,vs,n,V,R⟩:=G.objs _ _ O;rw [hi] at e1;obtain rfl:=fm e1;refine SeqRoads2.in_meets ⟨_,V,rfl⟩ F.slot_tuple_contains F.entry_tuple_contains (F.args_tuple_contains_2 _ _)
  (MeetsSeq2.tuple_contains d vs n (.str x t) (λv=>match v with | .str y _=>y==x | _=>am) λy f=>?_) ⟨V,_,rfl,?_⟩
 ·intro prog w A E s Q J;have:∃z u,y=.str z u:=by
   obtain ⟨j,S,e⟩:=lb (show y∈vs.toList by simpa using f);have hl:j <(ss.map PV.str).length:=by refine ag (R.length ..) ?_;exact S
   refine ae (R.get (i:=j) (p:=(ss.map PV.str)[j]) (by simp at hl;simp [hl])) λv e1 e2=>?_;rw [cB S,e] at e1;refine ag (fm e1) ?_;simp only [List.getElem_map] at e2;refine VR.estr e2 λY=>⟨_,_,rfl⟩
  refine cN this λz u I=>?_;clear this;subst I;exact wpAny_eqBool_str J
 ·refine ag (show (vs.any λv=>match v with | .str y _=>y==x | _=>am)=decide (x∈ss) by rw [← Rm];exact Fs (t:=t) R ..) ?_;exact h
theorem CE {p:PV × PV} {Q:ak->aj->Prop} (l:A.units+10 <cT) (G:aY ρ st s.heap) (hi:ρ[i]? =ac d) (S:st[i]? =ac (.dict es ep)) (W:VR ρ a va) (P:kC st a=ac ka) (O:dget ka es=ac p)
  (h:∀tk v,VR ρ p.2 v->Q v {s with toks:=tk}):aw (aq prog w) A (rj (.ref d) va) Q E s:=by
 obtain ⟨f,e1,des,V,R,nd⟩:=G.objs _ _ S;obtain rfl:=ss hi e1;have I:s.TypeIs (.ref d) "dict":=⟨_,V,rfl⟩;unfold rj;try with_reducible refine bc ?_
 refine aa (ur I (by decide) ?_);refine aa (ck (name:=eC "__getitem__") I ut
  (bo ut I entry_dict_getitem ?_ (args_dict_getitem _ _)))
 show aw _ _ (zf d va>>=_) _ _ s;refine aa (I9 (by show A.units+1+8 <cT;exact cj ‹_›) ((gZ G W P).1) V R nd λtk=>⟨λJ=>?_,λy val J r=>?_⟩)
 ·exact sn O J
 ·obtain rfl:=ss O J;exact af ⟨_,rfl,af (h tk _ r)⟩
theorem Ft {P:PV} {v:ak} {Q:Unit->aj->Prop} (l:A.units+10 <cT) (G:aY ρ st s.heap) (hi:ρ[i]? =ac d) (O:st[i]? =ac (.dict es ep)) (V:VR ρ a va) (J:kC st a=ac ka) (W:VR ρ P v)
  (hl:es.length≤1000) (h:∀h' tk ep',Ev ρ s.heap ρ (st.set i (.dict (lD ka a P es) ep')) h'->Q () {s with heap:=h',toks:=tk}):aw (aq prog w) A (setItem (.ref d) va v) Q E s:=by
 obtain ⟨f,e1,des,S,R,nd⟩:=G.objs _ _ O;obtain rfl:=ss hi e1;have I:s.TypeIs (.ref d) "dict":=⟨_,S,rfl⟩;unfold setItem;try with_reducible refine bc ?_
 refine aa (ur I (by decide) ?_);refine aa (ck (name:=eC "__setitem__") I O6
  (bo O6 I entry_dict_setitem ?_ (args_dict_setitem _ _ _)))
 refine aa (eN I ?_);show aw _ _ (U8 d va v>>=_) _ _ s;exact aa (Nf G (by show A.units+1+8 <cT;exact cj ‹_›) (gZ G V J).1 (gZ G V J).2 V W hi O hl λh' tk ep' y=>af ⟨.none,rfl,af (h h' tk ep' y)⟩)
theorem tW {Q:ak->aj->Prop} (J:dO) (f:A.units+10 <cT) (G:aY ρ st s.heap) (hi:ρ[i]? =ac d) (P:st[i]? =ac (.dict es ep)) (S:VR ρ a va) (O:kC st a=ac ka)
  (h:∀tk v,VR ρ (match dget ka es with | some p=>p.2 | none=>.none) v->Q v {s with toks:=tk}):aw (aq prog w) A (call (.builtin "dict.get") [.ref d,va]) Q E s:=by
 obtain ⟨W,e1,des,V,R,nd⟩:=G.objs _ _ P;obtain rfl:=ss hi e1;refine bo zb (⟨_,V,rfl⟩) Rp ?_ (F.args_dict_get_2 _ _);show aw _ _ (zf d va>>=_) _ _ s;refine aa (I9 (by show A.units+1+8 <cT;exact cj ‹_›) ((gZ G S O).1) V R nd λtk=>⟨λI=>?_,λl val I r=>?_⟩)
 ·have h:=h tk;rw [I] at h;exact aa (Oy (k6 J G hi) (af ⟨.none,rfl,h _ .none⟩))
 ·have h:=h tk;rw [I] at h;exact af ⟨_,rfl,h _ r⟩
theorem sF {b:PV} {O:ak} {Q:ak->aj->Prop} (P:dO) (z:A.units+10 <cT) (G:aY ρ st s.heap) (hi:ρ[i]? =ac d) (W:st[i]? =ac (.dict es ep)) (f:VR ρ a va) (S:kC st a=ac ka) (l:VR ρ b O)
  (h:∀tk v,VR ρ (match dget ka es with | some p=>p.2 | none=>b) v->Q v {s with toks:=tk}):aw (aq prog w) A (call (.builtin "dict.get") [.ref d,va,O]) Q E s:=by
 obtain ⟨y,e1,des,V,R,nd⟩:=G.objs _ _ W;obtain rfl:=ss hi e1;have I:=(gZ G f S).1;refine bo zb (⟨_,V,rfl⟩) Rp ?_ (F.args_dict_get_3 _ _ _);show aw _ _ (zf d va>>=_) _ _ s;refine aa (I9 (by show A.units+1+8 <cT;exact cj ‹_›) I V R nd λtk=>⟨λJ=>?_,λY val J r=>?_⟩)
 ·have h:=h tk;rw [J] at h;exact aa (Oy (k6 P G hi) (af ⟨O,rfl,h _ l⟩))
 ·have h:=h tk;rw [J] at h;exact af ⟨_,rfl,h _ r⟩
theorem p9 {key:ak} {Q:Unit->aj->Prop} (hd:(d==gi)=am) (h:Q () s):aw (aq prog w) A (Bh d key) Q E s:=by refine mu (by rw [hd];exact aZ) ?_;exact af h
theorem xq (rest:List ak) (dflt:Option ak) (P:(rest=[]∧dflt=al)∨∃x,rest=[x]∧dflt=ac x) {Q:ak->aj->Prop} (z:dO) (hu:A.units+10 <cT) (G:aY ρ st s.heap) (hi:ρ[i]? =ac d) (S:st[i]? =ac (.dict es ep)) (ra:VR ρ a va) (hk:kC st a=ac ka)
  (hl:es.length≤1000)
  (h0:dget ka es=al->∃x,dflt=ac x∧∀tk,Q x {s with toks:=tk})
  (h1:∀h' tk ep' p v,Ev ρ s.heap ρ (st.set i (.dict (pO ka es) ep')) h'->dget ka es=ac p->VR ρ p.2 v->Q v {s with heap:=h',toks:=tk}):
  aw (aq prog w) A (call (.builtin "dict.pop") (.ref d::va::rest)) Q E s:=by
 obtain ⟨d',e1,des,V,R,nd⟩:=G.objs _ _ S;obtain rfl:=ss hi e1;have body:∀(f:Option cz->iR Fin),(∀tk,dget ka es=al->aw (aq prog w) A.in1 (f al) (λI W=>∃v,I=.done (.ret v)∧Q v W) E {s with toks:=tk})->
   (∀h' tk ep' e p,Ev ρ s.heap ρ (st.set i (.dict (pO ka es) ep')) h'->dget ka es=ac p->VR ρ p.2 e.val->aw (aq prog w) A.in1 (f (ac e)) (λI W=>∃v,I=.done (.ret v)∧Q v W) E {s with heap:=h',toks:=tk})->
   aw (aq prog w) A.in1 (do
    let empty ← if (Ie va).isSome then pure am else do pure (← Vt d).isEmpty
    let old ← if empty then rule "dict.pop.empty";pure al else ie d va
    f old) (λI W=>∃v,I=.done (.ret v)∧Q v W) E s:=by
  intro f O Y;have l:aw (aq prog w) A.in1 (ie d va>>=f) (λI W=>∃v,I=.done (.ret v)∧Q v W) E s:=
   aa (P7 G (by show A.units+1+8 <cT;exact cj ‹_›) ((gZ G ra hk).1) hi S hl O Y)
  cases hp:(Ie va).isSome with
  | true=>refine aa (af ?_);exact l
  | false=>
   refine aa (cb V rfl (aa (af ?_)));cases he:des.isEmpty with
   | false=>exact l
   | true=>
    refine aa (cS (aa (af ?_)));refine O _ ?_;have:des.toList=[]:=by simpa using he
    rw [this] at R;cases R;rfl
 refine bo RY (⟨_,V,rfl⟩) F.entry_dict_pop ?_ (by
  rcases P with ⟨rfl,_⟩ | ⟨x,rfl,_⟩
  ·exact F.args_dict_pop_2 _ _
  ·exact F.args_dict_pop_3 _ _ _)
 refine aa (aa (eN (⟨_,V,rfl⟩) ?_));have I:aw (aq prog w) A.in1 (pure (d,va,dflt)) (λr W=>aw (aq prog w) A.in1 (do
    let empty ← if (Ie r.2.1).isSome then pure am else do pure (← Vt r.1).isEmpty
    let old ← if empty then rule "dict.pop.empty";pure al else ie r.1 r.2.1
    if old.isNone then Bh r.1 r.2.1
    match old,r.2.2 with
    | some e,_=>letGo [e.key] [e.val];ret e.val
    | none,ac x=>rule "dict.pop.default";ret x
    | none,al=>rule "dict.pop.keyerror";Tk (← newExc (.type "KeyError") [r.2.1])) (λI W=>∃v,I=.done (.ret v)∧Q v W) E W) E s:=by
  refine af (body _ (λtk hn=>?_) λh' tk ep' e p y hg r=>?_)
  ·refine ae (h0 hn) λx J hq=>ag J (aa (p9 (s:={s with toks:=tk}) (k6 z G hi) ?_));exact aa (cS (af ⟨x,rfl,hq tk⟩))
  ·dsimp only [Option.isNone_some,jp,if_false];exact aa (wX (af ⟨e.val,rfl,h1 h' tk ep' p e.val y hg r⟩))
 rcases P with ⟨rfl,rfl⟩ | ⟨x,rfl,rfl⟩
 ·exact I
 ·exact I
theorem qb {Q:ak->aj->Prop} (I:dO) (G:aY ρ st s.heap) (hi:ρ[i]? =ac d) (J:st[i]? =ac (.dict es ep))
  (h:Q (.ref s.heap.objs.size) {s with heap:=s.heap.push {cls:=.type "dict_values",data:=.fields #[.ref d]}}):aw (aq prog w) A (call (.builtin "dict.values") [.ref d]) Q E s:=by
 obtain ⟨O,e1,des,V,R,nd⟩:=G.objs _ _ J;obtain rfl:=ss hi e1;refine bo Oz (⟨_,V,rfl⟩) F.entry_dict_values ?_ (F.args_dict_values_1 _);refine aa (aa (eN (⟨_,V,rfl⟩) ?_));refine af ?_;show aw _ _ (Builtin.Dict.showsAll d>>=_) _ _ s;refine K8 (by rw [k6 I G hi];exact aZ) (aa (af ?_));exact aa (cX (af ⟨_,rfl,h⟩))
end
section
variable {A:bw} {s:aj} {ρ:List ay} {st:List PO}
theorem vT {p:PV} {v:ak} {k:AK} (r:VR ρ p v) (e:kN p=ac k):AK.is k v=au:=by
 induction r <;> first | exact n1 e | refine bZ (fm e) ?_
 ·simp [AK.is,KO]
 ·simp [AK.is,kA]
 ·simp [AK.is,Eo]
theorem Fu {a b:AK} {u v:ak} (G:AK.is a u=au) (I:AK.is b v=au):SeqAt.EqAt A s u v (decide (a=b)):=λprog w Y Y h=>(pY prog w).eqBool (a:=a) (b:=b) G I h
theorem mV {p:PV} {xs:List PV} {as:List AK} (h:du (p::xs)=ac as):∃a G,kN p=ac a∧du xs=ac G∧as=a::G:=by
 rw [du,aT] at h;cases q:kN p with
 | none=>rw [q] at h;exact n1 h
 | some k=>rw [q] at h;simp only [dn] at h;refine ae (aF.mp h) λJ e1 I=>bZ I ⟨k,J,rfl,e1,rfl⟩
theorem jr {xs:List PV}:∀{as:List AK},du xs=ac as->as.length=xs.length:=by
 induction xs with
 | nil=>intro as h;simp [du,dn] at h;refine ag h ?_;rfl
 | cons p xs P=>intro as h;refine bz (mV h) λa I _ e G=>ag G ?_;simp [P e]
theorem uL {xs:List PV}:∀{as:List AK} {vs:List ak},du xs=ac as->eI ρ xs vs->∀(j:Nat) (v:ak),vs[j]? =ac v->∃a,as[j]? =ac a∧AK.is a v=au:=by
 induction xs with
 | nil=>intro as vs h r j v e;obtain rfl:=r.inv;exact n1 e
 | cons p xs P=>
  intro as vs h r j v e;refine bz (mV h) λa I e0 e1 G=>ag G ?_;cases r with
  | cons V J=>
   induction j using eX with
   | zero=>simp at e;subst e;exact ⟨a,rfl,vT V e0⟩
   | succ j=>simp at e;exact P e1 J j v e
theorem Fv {as bs:List AK} (h:as.length=bs.length):(dU as.length).all (λj=>decide (as[j]? =bs[j]?))=decide (as=bs):=by
 rw [y9];simp only [co,qB,decide_eq_true_eq];constructor
 ·intro q;apply uq;intro j;by_cases S:j <as.length
  ·exact q j S
  ·refine ag (pI (Rq ‹_›)) (ag (pI (by lia)) rfl)
 ·rintro rfl _ _;rfl
theorem vU {xs I:List PV} {as bs:List AK} {vs G:Array ak} (h1:du xs=ac as) (h2:du I=ac bs) (P:eI ρ xs vs.toList) (S:eI ρ I G.toList):
  ∀j (h1:j <vs.size) (h2:j <G.size),SeqAt.EqAt A s vs[j] G[j] (decide (as[j]? =bs[j]?)):=by
 intro j l1 l2;refine ae (uL h1 P j vs[j] (by simp [l1])) λa e1 e2=>ae (uL h2 S j G[j] (by simp [l2])) λb J O=>ag (e1 ..) (ag (J ..) ?_);have:=Fu (A:=A) (s:=s) e2 O;simpa using this
theorem Jb {xs S:List PV} {a b:ay} {vs J:Array ak} {n m:Nat} (V:s.heap.get? a=ac ⟨.type "list",al,.seq vs n,#[]⟩) (G:s.heap.get? b=ac ⟨.type "list",al,.seq J m,#[]⟩)
  (O:eI ρ xs vs.toList) (P:eI ρ S J.toList) (I:A.units <cT) {as bs:List AK} (h1:du xs=ac as) (h2:du S=ac bs):SeqAt.RcAt A s (.ref a) (.ref b) (decide (as=bs))∧Va A s (.ref a) (.ref b) (!decide (as=bs)):=by
 have l1:as.length=vs.size:=by refine ag (jr h1 ..) (ag (O.length ..) ?_);simp
 have l2:bs.length=J.size:=by refine ag (jr h2 ..) (ag (P.length ..) ?_);simp
 by_cases e:vs.size=J.size
 ·have:=Fv (as:=as) (bs:=bs) (by lia);rw [l1] at this;refine bZ (this ..) ⟨.lists ⟨_,V,rfl,_,rfl⟩ ⟨_,G,rfl,_,rfl⟩ e I (vU h1 h2 O P),.lists ⟨_,V,rfl,_,rfl⟩ ⟨_,G,rfl,_,rfl⟩ e I (vU h1 h2 O P)⟩
 ·have:decide (as=bs)=am:=decide_eq_false λq=>e (by refine bZ (l1 ..) ?_;refine bZ (l2 ..) (ag (q ..) rfl));refine ag (this ..) ⟨.lists_lengths ⟨_,V,rfl,_,rfl⟩ ⟨_,G,rfl,_,rfl⟩ (by simpa using e) I,.lists_lengths ⟨_,V,rfl,_,rfl⟩ ⟨_,G,rfl,_,rfl⟩ (by simpa using e) I⟩
theorem Nh {xs S:List PV} {a b:ay} {vs G:Array ak} {n m:Nat} (V:s.heap.get? a=ac ⟨.type "tuple",al,.seq vs n,#[]⟩) (O:s.heap.get? b=ac ⟨.type "tuple",al,.seq G m,#[]⟩)
  (I:eI ρ xs vs.toList) (J:eI ρ S G.toList) (P:A.units <cT) {as bs:List AK} (h1:du xs=ac as) (h2:du S=ac bs):SeqAt.RcAt A s (.ref a) (.ref b) (decide (as=bs))∧Va A s (.ref a) (.ref b) (!decide (as=bs)):=by
 have l1:as.length=vs.size:=by refine ag (jr h1 ..) (ag (I.length ..) ?_);simp
 have l2:bs.length=G.size:=by refine ag (jr h2 ..) (ag (J.length ..) ?_);simp
 have:((dU (min vs.size G.size)).all (λj=>decide (as[j]? =bs[j]?))&&vs.size==G.size)=decide (as=bs):=by
  by_cases e:vs.size=G.size
  ·refine bZ (Fv (by lia) ..) (ag (l1 ..) ?_);refine ag (e ..) ?_;simp
  ·refine ag (decide_eq_false λq=>e (by exact bZ (l1 ..) (bZ (l2 ..) (ag (q ..) rfl))) ..) ?_;simp [e]
 refine bZ (this ..) ⟨.tuples ⟨_,V,rfl,_,rfl⟩ ⟨_,O,rfl,_,rfl⟩ P (vU h1 h2 I J),.tuples ⟨_,V,rfl,_,rfl⟩ ⟨_,O,rfl,_,rfl⟩ P (vU h1 h2 I J)⟩
noncomputable def jP (fs:List (bJ × PV × PV)) (e:bJ × PV × PV):Bool:=match dget e.1 fs with | some p=>decide (kN e.2.2=kN p.2) | none=>am
variable {E:ak->aj->Prop} {i j:Nat} {a b:ay} {es fs:List (bJ × PV × PV)} {ep ep2:Nat}
def Lw {nm:String} {Q:Bool->aj->Prop} {as bs:List AK}:Prop:=∀(I:dO) (O:A.units+8 <cT) (G:aY ρ st s.heap) (hi:ρ[i]? =ac a) (J:st[i]? =ac (.dict es ep)) (S:ρ[j]? =ac b) (y:st[j]? =ac (.dict fs ep2)) (h1:du (es.map (·.2.2))=ac as) (h2:du (fs.map (·.2.2))=ac bs) (h:Q (decide (es.length=fs.length)&&es.all (jP fs)) s),aw (aq prog w) A (Builtin.Dict.samePairs nm a b) Q E s
noncomputable def gr:=rm <| U λA=>U λs=>U λρ=>U λst=>U λE=>U λi=>U λj=>U λa=>U λb=>U λes=>U λfs=>U λep=>U λep2=>U λnm=>U λQ=>U λas=>@Lw A s ρ st E i j a b es fs ep ep2 nm Q as
theorem sG {nm Q as bs}:@Lw A s ρ st E i j a b es fs ep ep2 nm Q as bs:=jX (c:=gr) rfl (by
 intro Bs hu G hi hs hj ht h1 h2 h;obtain ⟨a',e1,des,P,R,nd⟩:=G.objs _ _ hs;obtain rfl:=ss hi e1;obtain ⟨b',e1,f,r,T,nf⟩:=G.objs _ _ ht;obtain rfl:=ss hj e1;have J:gr.2.2.2.2.2.2.2.2.2.1.length=des.size:=by rw [R.length];simp
 have hlb:gr.2.2.2.2.2.2.2.2.2.2.1.length=f.size:=by rw [T.length];simp
 have Y:∀(l:List (bJ × PV × PV)) {cs:List AK},du (l.map (·.2.2))=ac cs->∀p∈l,∃c,kN p.2.2=ac c:=by
  intro l;induction l with
  | nil=>intro cs _ p W;cases W
  | cons q l ih=>
   intro cs hc p W;rw [aT] at hc;refine bz (mV hc) λc cs' e0 e1 eq4=>ag eq4 (bk (bj.mp W) (λqo0=>?_) λW=>?_)
   ·refine ag qo0 ⟨c,e0⟩
   ·exact ih e1 p W
 delta Builtin.Dict.samePairs Builtin.Dict.showsAll;rw [if_neg (show ¬(gr.2.2.2.2.2.2.2.1==gi)=au by rw [k6 Bs G hi];exact aZ),if_neg (show ¬(gr.2.2.2.2.2.2.2.2.1==gi)=au by rw [k6 Bs G hj];exact aZ)];refine aa (af (aa (af ?_)));refine aa (cb P rfl ?_);refine aa (cb r rfl ?_);by_cases S:des.size=f.size;case neg=>
  refine ag (if_pos (by simpa using S) ..) ?_;rw [(decide_eq_false (by rw [J,hlb];exact S)),ig] at h;exact aa (cS (af h))
 case pos=>
  have h':gr.2.2.2.2.2.2.2.2.2.2.2.2.2.2.1 (gr.2.2.2.2.2.2.2.2.2.1.all (jP gr.2.2.2.2.2.2.2.2.2.2.1)) gr.2.1:=by rw [decide_eq_true (by rw [J,hlb];exact S),iX] at h;exact h
  rw [if_neg (by rw [S];simp)];refine aa (dP P rfl ?_);refine aa (ag (Std.Legacy.Range.forIn_eq_forIn_range' ..) ?_);refine wM _
   (λrest q s'=>s'=gr.2.1∧q=(al,())∧∃i,rest=bt i (des.size - i)∧i≤des.size∧gr.2.2.2.2.2.2.2.2.2.2.2.2.2.2.1 ((gr.2.2.2.2.2.2.2.2.2.1.drop i).all (jP gr.2.2.2.2.2.2.2.2.2.2.1)) gr.2.1)
   _ ?_ ?_ _ _ ⟨rfl,rfl,0,by simp,kE _,h'⟩
  ·rintro x rest q s' ⟨rfl,rfl,i,z,hi,I⟩;have O:i <des.size:=by
    refine bk (lz i des.size) (λh=>?_) λh=>?_
    ·exact h
    ·rw [Ir h] at z;simp at z
   obtain ⟨rfl,hrest⟩:x=i∧rest=bt (i+1) (des.size - (i+1)):=by rw [(show des.size - i=(des.size - (i+1))+1 from TU (by assumption)),kj] at z;injection z with h1 h2;exact ⟨h1,h2⟩
   refine aa (cb P rfl ?_);refine ag (iy O ..) ?_;have V:x <gr.2.2.2.2.2.2.2.2.2.1.length:=by rw [J];exact O
   refine ae (R.get (i:=x) (p:=gr.2.2.2.2.2.2.2.2.2.1[x]) (by simp [V])) λe0 f1 f2=>?_;have:e0=des[x]:=by rw [cH,iy O] at f1;refine ag (fm f1) ?_;rfl
   subst this;rw [(iz V),iZ] at I;refine aI (Y gr.2.2.2.2.2.2.2.2.2.1 h1 gr.2.2.2.2.2.2.2.2.2.1[x] (Rr V)) λc hc=>(?_:aw _ _ (lx [des[x].key,des[x].val] _>>=_) _ _ _);refine ag (f2.hash ..) (aa (bc (aa (BH (k:=gr.2.2.2.2.2.2.2.2.2.1[x].1) hu f2.key r rfl T nf (λhno=>?_) (λj hj=>?_)))))
   ·have:jP gr.2.2.2.2.2.2.2.2.2.2.1 gr.2.2.2.2.2.2.2.2.2.1[x]=am:=by unfold jP;rw [mU.mpr hno]
    rw [this,ig] at I;refine af ?_;show aw _ _ (if (!am)=au then _ else _) _ _ _;refine ag (if_pos (by decide) ..) (af (af I))
   ·refine ae (gK nf hj) λp W hg=>ae (T.get W) λe' g1 g2=>aI (Y gr.2.2.2.2.2.2.2.2.2.2.1 h2 _ (aN W)) λc' y=>?_;have hit:jP gr.2.2.2.2.2.2.2.2.2.2.1 gr.2.2.2.2.2.2.2.2.2.1[x]=decide (c=c'):=by unfold jP;rw [hg];dsimp only;dsimp only at y;rw [hc,y];simp
    refine aa (cb r rfl ?_);rw [show f[j]? =ac e' by simpa using g1];refine bc (Fu (vT f2.vv hc) (vT g2.vv y) prog w _ _ ?_);rw [hit] at I;by_cases q:c=c'
    ·rw [decide_eq_true q] at I ⊢;rw [iX] at I;show aw _ _ (if (!au)=au then _ else _) _ _ _;refine ag (if_neg (by decide) ..) (aa (dP P rfl ?_));refine ag (if_neg (by simp) ..) (af ⟨rfl,rfl,x+1,hrest,O,I⟩)
    ·rw [decide_eq_false q] at I ⊢;rw [ig] at I;show aw _ _ (if (!am)=au then _ else _) _ _ _;refine ag (if_pos (by decide) ..) (af (af I))
  ·rintro q s' ⟨rfl,rfl,i,z,hi,I⟩;have hin:i=des.size:=by
    refine bk (lz i des.size) (λh=>?_) λh=>?_
    ·have e:des.size - i=(des.size - (i+1))+1:=TU (by assumption);rw [e,kj] at z;contradiction
    ·exact oH hi h
   refine af ?_;rw [hin,← J,List.drop_length] at I;exact I) (A,s,ρ,st,E,i,j,a,b,es,fs,ep,ep2,nm,Q,as,bs)
theorem Fw {Q:ak->aj->Prop} (P:dO) (l:A.units+10 <cT) (G:aY ρ st s.heap) (hi:ρ[i]? =ac a) (O:st[i]? =ac (.dict es ep)) (S:ρ[j]? =ac b) (y:st[j]? =ac (.dict fs ep2))
  {as bs:List AK} (h1:du (es.map (·.2.2))=ac as) (h2:du (fs.map (·.2.2))=ac bs) (h:Q (.bool (decide (es.length=fs.length)&&es.all (jP fs))) s):
  aw (aq prog w) A (nC .Eq (.ref a) (.ref b)) Q E s:=by
 obtain ⟨W,e1,des,I,R,nd⟩:=G.objs _ _ O;obtain rfl:=ss hi e1;obtain ⟨f,e1,V,J,T,p⟩:=G.objs _ _ y;obtain rfl:=ss S e1;refine zg (op:=.Eq) (⟨_,I,rfl⟩) (⟨_,J,rfl⟩) KR (bo KR (⟨_,I,rfl⟩) PySem.F.entry_dict_eq ?_ (PySem.F.args_dict_eq_2 _ _)) (by lia);refine (?_:aw _ _ (Cm "__eq__" ⟨[.ref a,.ref b],[]⟩>>=_) _ _ s);refine aa (aa (eN (⟨_,I,rfl⟩) ?_));refine (?_:aw _ _ (pure (cy a,cy b)) _ _ s);refine af (aa (cW (T:= "dict") (⟨_,J,rfl⟩) It ?_));refine aa (af (aa (af ?_)));refine aa (sG P (by show A.units+1+8 <cT;exact cj ‹_›) G hi O S y h1 h2 ?_);refine af ⟨_,rfl,?_,?_⟩
 ·exact λx=>nomatch x
 ·simpa using h
theorem Fx {Q:ak->aj->Prop} (P:dO) (l:A.units+10 <cT) (G:aY ρ st s.heap) (hi:ρ[i]? =ac a) (O:st[i]? =ac (.dict es ep)) (S:ρ[j]? =ac b) (y:st[j]? =ac (.dict fs ep2))
  {as bs:List AK} (h1:du (es.map (·.2.2))=ac as) (h2:du (fs.map (·.2.2))=ac bs) (h:Q (.bool (!(decide (es.length=fs.length)&&es.all (jP fs)))) s):
  aw (aq prog w) A (nC .NotEq (.ref a) (.ref b)) Q E s:=by
 obtain ⟨W,e1,des,I,R,nd⟩:=G.objs _ _ O;obtain rfl:=ss hi e1;obtain ⟨f,e1,V,J,T,p⟩:=G.objs _ _ y;obtain rfl:=ss S e1;refine zg (op:=.NotEq) (⟨_,I,rfl⟩) (⟨_,J,rfl⟩) KS (bo KS (⟨_,I,rfl⟩) PySem.F.entry_dict_ne ?_ (PySem.F.args_dict_ne_2 _ _)) (by lia);refine (?_:aw _ _ (Cm "__ne__" ⟨[.ref a,.ref b],[]⟩>>=_) _ _ s);refine aa (aa (eN (⟨_,I,rfl⟩) ?_));refine (?_:aw _ _ (pure (cy a,cy b)) _ _ s);refine af (aa (cW (T:= "dict") (⟨_,J,rfl⟩) It ?_));refine aa (af (aa (af ?_)));refine aa (sG P (by show A.units+1+8 <cT;exact cj ‹_›) G hi O S y h1 h2 ?_);refine af ⟨_,rfl,?_,?_⟩
 ·exact λx=>nomatch x
 ·simpa using h
end
section
variable {n:Nat} {E:Lv} {A:bw} {fe env:Env} {pe:bD} {ρ ρ':List ay} {st st':List PO} {s:aj} {h':bM} {tk:Nat} {x:KX} {k:KV}
theorem xt {a b:PV} {va l:ak} (Bs:dO) (hu:A.units+10 <cT) (G:aY ρ st s.heap) (V:VR ρ a va) (S:VR ρ b l) {f:Bool->Bool} {op:ul} (J:(op=.Eq∧f=id)∨(op=.NotEq∧f=not)) {X:ak->aj->Prop}
  (h:zo st (λt=>k (.bool (f t)) st) a b):aw (aq prog w) A (nC op va l) (hV s ρ k) X s:=by
 have two:∀{i j:Nat} {x y:PO} {va l:ak},st[i]? =ac x->st[j]? =ac y->VR ρ (.loc i) va->VR ρ (.loc j) l->∃p q,va=.ref p∧l=.ref q∧ρ[i]? =ac p∧ρ[j]? =ac q∧sB ρ s.heap p x∧sB ρ s.heap q y:=by intro i j x y va l h1 h2 V S;refine ae V.iloc ?_;intro _ e9 r;refine ag e9 (VR.eloc S λY z=>?_);refine ae (G.objs _ _ h1) λ_ e1 o1=>ae (G.objs _ _ h2) λ_ e2 O=>?_;obtain rfl:=fm (r.symm.trans e1);obtain rfl:=fm (z.symm.trans e2);exact ⟨_,_,rfl,rfl,r,z,o1,O⟩
 have hu':A.units <cT:=by exact by lia
 have I:∀b,k (.bool (f b)) st->hV s ρ k (.bool (f b)) s:=λb q=>⟨s.heap,s.toks,ρ,st,_,rfl,Ev.refl G,.bool _,q⟩;induction h using zo.casesOn with
 | bool h=>
  refine ag V.inv (ag (VR.ibool S) ?_);rcases J with ⟨rfl,rfl⟩ | ⟨rfl,rfl⟩
  ·exact eq_bool (I _ h)
  ·exact ne_bool (I _ h)
 | int h=>
  refine VR.eint V λY=>VR.eint S λY=>?_;rcases J with ⟨rfl,rfl⟩ | ⟨rfl,rfl⟩
  ·exact eq_int (I _ h)
  ·exact ne_int (I _ h)
 | str h=>
  refine VR.estr V λY=>VR.estr S λY=>?_;rcases J with ⟨rfl,rfl⟩ | ⟨rfl,rfl⟩
  ·exact PyProof.Rows.eq_str (I _ h)
  ·exact PyProof.Rows.ne_str (I _ h)
 | none h=>
  refine ag (VR.inone V) (ag (VR.inone S) ?_);rcases J with ⟨rfl,rfl⟩ | ⟨rfl,rfl⟩
  ·exact EqNone.eq_none_none (I _ h)
  ·exact EqNone.ne_none_none (I _ h)
 | @bytes i j h=>
  have e:(i.toList==j.toList)=(i==j):=by rw [y9];simp [wK]
  refine VR.ebytes V λY=>VR.ebytes S λY=>?_;rcases J with ⟨rfl,rfl⟩ | ⟨rfl,rfl⟩
  ·exact eq_bytes (by refine ag (e ..) ?_;exact I _ h)
  ·exact ne_bytes (by unfold bne;refine ag (e ..) (I _ h))
 | len h1 h2 hn l1 l2 h=>
  refine cN (two h1 h2 V S) λp q qq=>?_;obtain ⟨rfl,rfl,_,_,⟨vs,_,o1,r1⟩,us,_,O,r2⟩:=qq;have hne:vs.size≠us.size:=λe=>hn (r1.length.trans (by refine ag (bu ..) ?_;refine ag (e ..) (bZ (bu ..) ?_);exact bZ (r2.length ..) rfl));rcases J with ⟨rfl,rfl⟩ | ⟨rfl,rfl⟩
  ·exact SeqAt.RcAt.lists_lengths ⟨_,o1,rfl,_,rfl⟩ ⟨_,O,rfl,_,rfl⟩ (bne_iff_ne.mpr hne) (by lia) _ _ _ _ (I _ h)
  ·exact Va.lists_lengths ⟨_,o1,rfl,_,rfl⟩ ⟨_,O,rfl,_,rfl⟩ (bne_iff_ne.mpr hne) (by lia) _ _ _ _ (I _ h)
 | list h1 h2 P W l1 l2 h=>
  obtain ⟨p,q,rfl,rfl,_,_,⟨vs,_,o1,r1⟩,us,_,O,r2⟩:=two h1 h2 V S;have e:=Jb (A:=A) o1 O r1 r2 hu' P W;rcases J with ⟨rfl,rfl⟩ | ⟨rfl,rfl⟩
  ·exact e.1 _ _ _ _ (I _ h)
  ·exact e.2 _ _ _ _ (I _ h)
 | tup h1 h2 P W l1 l2 h=>
  obtain ⟨p,q,rfl,rfl,_,_,⟨vs,_,o1,r1⟩,us,_,O,r2⟩:=two h1 h2 V S;have e:=Nh (A:=A) o1 O r1 r2 hu' P W;rcases J with ⟨rfl,rfl⟩ | ⟨rfl,rfl⟩
  ·exact e.1 _ _ _ _ (I _ h)
  ·exact e.2 _ _ _ _ (I _ h)
 | dict h1 h2 P W l1 l2 h=>
  refine zj (two h1 h2 V S) λp q eq2 eq3 r z _=>ag eq2 (ag eq3 ?_);rcases J with ⟨rfl,rfl⟩ | ⟨rfl,rfl⟩
  ·exact Fw Bs hu G r h1 z h2 P W (I _ h)
  ·exact Fx Bs hu G r h1 z h2 P W (I _ h)
theorem T8 {op:ul} {a b:PV} {va f:ak} (W:dO) (l:A.units≤9000) (G:aY ρ st s.heap) (V:VR ρ a va) (S:VR ρ b f) (h:iC a b st k op) {X:ak->aj->Prop}:
  aw (aq prog w) A (nC op va f) (hV s ρ k) X s:=by
 have J:A.units+10 <cT:=dy (Nat.add_le_add_right l 10) (by decide);have P:b=.none->f=.none∧(va==dg)=isNone a:=by rintro rfl;refine ag (VR.inone S) ⟨rfl,?_⟩;induction V <;> rfl
 induction h using iC.casesOn with
 | eq h=>exact xt W J G V S (.inl ⟨rfl,rfl⟩) h
 | ne h=>exact xt W J G V S (.inr ⟨rfl,rfl⟩) h
 | lt e1 e2 h=>cases e1;cases e2;refine VR.eint V λY=>VR.eint S λY=>lt_int (jO G (.bool _) h)
 | le e1 e2 h=>cases e1;cases e2;refine VR.eint V λY=>VR.eint S λY=>le_int (jO G (.bool _) h)
 | gt e1 e2 h=>cases e1;cases e2;refine VR.eint V λY=>VR.eint S λY=>gt_int (jO G (.bool _) h)
 | ge e1 e2 h=>cases e1;cases e2;refine VR.eint V λY=>VR.eint S λY=>ge_int (jO G (.bool _) h)
 | isNone e h=>refine ah (P e) λI e=>?_;subst I;exact is_none_gen (jO G (.bool _) (by refine ag (e ..) ?_;exact h))
 | isBool e1 e2 h=>subst e1;subst e2;refine ag (VR.ibool V) (ag (VR.ibool S) ?_);exact is_bool (jO G (.bool _) h)
 | isNot e h=>refine ah (P e) λI e=>?_;subst I;exact isnot_none_gen (jO G (.bool _) (by refine ag (e ..) ?_;exact h))
 | inDict e h1 h2 h=>subst e;refine VR.eloc S λY O=>Ja W J G O h1 V h2 λtk=>qN G (.bool _) h
 | inTup e h1 e2 h=>subst e;subst e2;refine VR.eloc S λY O=>VR.estr V λt=>Ng G O h1 (jO G (.bool _) h)
 | notIn e h1 h2 h=>subst e;refine VR.eloc S λY O=>zS W J G O h1 V h2 λtk=>qN G (.bool _) h
theorem P8 {op:ul} {l r:aC} {pos:cP} (V:dO) (S:cL n E) (hb:gN op r=am) (h:E.ev l pe st (λa I=>E.ev r pe I (λb J=>iC a b J k op) x) x) (M:eW A ρ s.heap fe n) (G:aY ρ st s.heap) (F:eH ρ s.heap env pe):
  aw (aq prog w) A (eM (.Compare l [op] [r] pos) env) (hV s ρ k) (XK s ρ x) s:=by
 refine wpAny_Compare1 (eJ S h M G F (λY Y z=>z) λh1 t1 ρ1 I pa va O y f W ra q1=>?_) hb;refine eJ S q1 y f W (λY Y z=>z.pre G O) λh2 t2 ρ2 J pb vb P M2 p F2 rb q2=>sC G (O.trans G P) (T8 V (by have:=M2.units;exact by lia) p (P.pre ra) rb q2)
end
section bind
variable {α:Type}
theorem mj {ns:List aU} {vs:List α} {x:aU} (h:x∉ns):(ns.zip vs).lookup x=al:=by
 induction ns generalizing vs with
 | nil=>simp
 | cons n ns P=>
  induction vs using aX with
  | nil=>simp
  | cons v vs=>
   refine ag (dz ..) (ag (List.lookup_cons ..) ?_);have:(x==n)=am:=by
    cases q:x==n with
    | false=>rfl
    | true=>exact absurd (beq_iff_eq.mp q▸aA) h
   refine ag (this ..) (P λm=>h (aE _ m))
theorem mW {l r:List (aU × α)} {x:aU}:(l++r).lookup x=(l.lookup x).or (r.lookup x):=by
 induction l with
 | nil=>simp
 | cons e l P=>
  obtain ⟨n,v⟩:=e;refine ag (List.lookup_cons ..) (ag (show ((n,v)::l).lookup x=_ from List.lookup_cons ..) ?_);induction x==n with
  | true=>rfl
  | false=>exact P
theorem tX {ns:List aU} {vs:List α} (nd:ns.Nodup) (hl:vs.length=ns.length):(ns.filterMap λn=>((ns.zip vs).lookup n).map (n,·))=ns.zip vs:=by
 suffices ∀(pre:List aU) (I:List α),pre.length=I.length->(pre++ns).Nodup->(ns.filterMap λn=>(((pre++ns).zip (I++vs)).lookup n).map (n,·))=ns.zip vs by simpa using this [] [] rfl (by exact nd)
 clear nd;induction ns generalizing vs with
 | nil=>intro pre I _ _;simp
 | cons n ns P=>
  intro pre I J nd;induction vs using aX with
  | nil=>simp at hl
  | cons v vs=>
   have G:n∉pre:=λm=>by rw [fZ] at nd;exact nd.2.2 n m n aA rfl
   have O:((pre++n::ns).zip (I++v::vs)).lookup n=ac v:=by refine ag (oK J ..) ?_;refine ag (mW ..) (ag (mj G ..) ?_);simp
   refine ag (L8 ..) (ag (O ..) ?_);have:=P (vs:=vs) (by simpa using hl) (pre++[n]) (I++[v]) (by simp [J]) (by simpa using nd);simpa using this
theorem CF {M:l4} {A:bw} {E:ak->aj->Prop} {s:aj} {ns:List aU} (nd:ns.Nodup) {vs:List ak}:∀(done:List (aU × ak)) (rest:List aU) (ds:List ak) (Q:List (aU × ak)->aj->Prop)
  (f:aU × ak->List (aU × ak)->iR (ForInStep (List (aU × ak)))) (G:∀n d acc,f (n,d) acc=if (acc.lookup n).isNone then pure (.yield (acc++[(n,d)])) else pure (.yield acc)),
  (∀n∈rest,(done.lookup n)=al)->rest.Nodup->Q (done++rest.zip ds) s->aw M A (forIn (rest.zip ds) done f) Q E s:=by
 intro done rest;induction rest generalizing done with
 | nil=>intro ds Q f G h1 h2 h;rw [List.zip_nil_left,l9];exact af (by simpa using h)
 | cons n rest P=>
  intro ds Q f G h1 h2 h;induction ds using aX with
  | nil=>rw [tO,l9];exact af (by simpa using h)
  | cons d ds=>
   rw [dz,fU,G,if_pos (by rw [h1 n aA];rfl)];refine aa (af (P (done++[(n,d)]) ds Q f G (λm O=>?_) (cD.mp h2).2 (by simpa using h)));refine ag (mW ..) (ag (h1 m (aE _ O) ..) ?_);have:m≠n:=λe=>(cD.mp h2).1 (e▸O);have:(m==n)=am:=by simpa using this
   simp [List.lookup_cons,this]
theorem CG {M:l4} {A:bw} {E:ak->aj->Prop} {s:aj}:∀(l:List (aU × ak)) (done:List (aU × ak)) (Q:List (aU × ak)->aj->Prop)
  (f:aU × ak->List (aU × ak)->iR (ForInStep (List (aU × ak)))) (G:∀n d acc,f (n,d) acc=if (acc.lookup n).isNone then pure (.yield (acc++[(n,d)])) else pure (.yield acc)) (r:List (aU × ak)),
  (∀e∈l,(done.lookup e.1).isSome=au)->aw M A (forIn r done f) Q E s->aw M A (forIn (l++r) done f) Q E s:=by
 intro l;induction l with
 | nil=>intro done Q f G r _ h;exact h
 | cons e l P=>intro done Q f G r h1 h;obtain ⟨n,d⟩:=e;rw [kg,fU,G,if_neg (by have:=h1 (n,d) aA;refine aI (bd.mp this) λv I=>?_;dsimp only at I;rw [I];simp)];exact aa (af (P done Q f G r (λe J=>h1 e (aE _ J)) h))
theorem mq {ns:List aU} {vs:List α} {x:aU} (h:x∈ns) (hl:ns.length≤vs.length):((ns.zip vs).lookup x).isSome=au:=by
 induction ns generalizing vs with
 | nil=>cases h
 | cons n ns P=>
  induction vs using aX with
  | nil=>simp at hl
  | cons v vs=>
   refine ag (dz ..) (ag (List.lookup_cons ..) ?_);by_cases q:x=n
   ·simp [q]
   ·have:(x==n)=am:=by simpa using q
    refine ag (this ..) (P ((bj.mp h).resolve_left q) (by simpa using hl))
theorem mX {β:Type}:∀(ns:List β) (vs:List α),ns.zip vs=(ns.take vs.length).zip vs
 | [],vs=>by simp
 | n::ns,[]=>by rfl
 | n::ns,v::vs=>by simp [← mX ns vs]
end bind
theorem CH {fd:ew} {vs:List ak} {ns:List aU} (G:ns=fd.params.args.map (·.arg)) (J:fd.params.posonlyargs=[]) (O:fd.params.vararg=al) (I:fd.params.kwonlyargs=[]) (f:fd.params.kwarg=al):
  ∃(P S:Option (Array ak)->iR (List (aU × ak))),bindArgs fd ⟨vs,[]⟩=seqItems? fd.defaults>>=λo=>
   if (decide (vs.length>ns.length)&&au)=au then P o else
   if (!((ns.take (ns.length - (((o.getD #[]).toList).drop (((o.getD #[]).toList).length - ns.length)).length)).filter λn=>((ns.zip vs).lookup n).isNone).isEmpty)=au then S o else
   (forIn ((ns.drop (ns.length - (((o.getD #[]).toList).drop (((o.getD #[]).toList).length - ns.length)).length)).zip (((o.getD #[]).toList).drop (((o.getD #[]).toList).length - ns.length))) (ns.zip vs) λx slots=>do
    let (name,d):=x
    if (slots.lookup name).isNone then pure (fV (slots++[(name,d)])) else pure (fV slots))>>=λslots=>pure ((ns++[]).filterMap λn=>(slots.lookup n).map (n,·)):=by
 subst G;obtain ⟨V,W,p,l,y⟩:=fd;obtain ⟨r,z,Y,p4,p5,p6⟩:=p;dsimp only at J O I f;subst J O I f;exact ⟨_,_,rfl⟩
theorem k7 {s:aj} {fd:ew} {vs ds:List ak} (hp:fd.params.posonlyargs=[]) (hv:fd.params.vararg=al) (hk:fd.params.kwonlyargs=[]) (hw:fd.params.kwarg=al)
  (nd:(fd.params.args.map (·.arg)).Nodup) (h1:vs.length≤fd.params.args.length) (h2:fd.params.args.length - vs.length≤ds.length) (h3:ds.length≤fd.params.args.length)
  (hd:(fd.defaults=.none∧ds=[])∨∃T o W n,fd.defaults=.ref T∧s.heap.get? T=ac o∧o.data=.seq W n∧W.toList=ds):
  BindsTo s fd ⟨vs,[]⟩ ((fd.params.args.map (·.arg)).zip (vs++ds.drop (ds.length - (fd.params.args.length - vs.length)))):=by
 intro M A E Q hq;obtain ⟨ns,hns⟩:∃ns,ns=fd.params.args.map (·.arg):=⟨_,rfl⟩;rw [← hns] at hq nd;rw [(show fd.params.args.length=ns.length by rw [hns];simp)] at h1 h2 h3 hq;have W:∀(Q':Option (Array ak)->aj->Prop),(∀o,(o.getD #[]).toList=ds->Q' o s)->aw M A (seqItems? fd.defaults) Q' E s:=by
  intro Q' h;refine bk hd (λqo0=>?_) λI=>?_
  ·refine ah qo0 λe eo01=>?_;clear qo0;subst eo01;rw [e];exact af (h al rfl)
  ·(first | refine vi I λT o y n e V P J=>?_;clear I;subst J | refine mI I λT o y n e V P J=>?_;clear I;subst J | refine sb I λT o y n e V P J=>?_;clear I;subst J | refine jW I λT o y n e V P J=>?_;clear I;subst J | refine fI I λT o y n e V P J=>?_;clear I;subst J | refine vj I λT o y n e V P J=>?_;clear I;subst J | refine pM I λT o y n e V P J=>?_;clear I;subst J | refine zk I λT o y n e V P J=>?_;clear I;subst J | refine cN I λT o G=>?_;clear I;(first | refine vh G λy n e V P O=>?_;clear G;subst O | refine zh G λy n e V P O=>?_;clear G;subst O | refine d6 G λy n e V P O=>?_;clear G;subst O | refine gz G λy n e V P O=>?_;clear G;subst O | refine r9 G λy n e V P O=>?_;clear G;subst O | refine jV G λy n e V P O=>?_;clear G;subst O | refine cN G λy n S=>?_;clear G;refine gQ S λe V P p=>?_;clear S;subst p | refine fH G λy n e S=>?_;clear G;refine eg S λV P l=>?_;clear S;subst l | refine nM G λy n e V S=>?_;clear G;refine ah S λP f=>?_;clear S;subst f) | refine fH I λT o y G=>?_;clear I;refine pL G λn e V P eo1y4=>?_;clear G;subst eo1y4 | refine nM I λT o y n G=>?_;clear I;refine gQ G λe V P eo1y3=>?_;clear G;subst eo1y3 | refine jV I λT o y n e G=>?_;clear I;refine eg G λV P eo1y2=>?_;clear G;subst eo1y2 | refine kU I λT o y n e V G=>?_;clear I;refine ah G λP z=>?_;clear G;subst z | obtain ⟨T,o,y,n,e,V,P,rfl⟩:=I);rw [e];exact ii V P (h (ac y) rfl)
 have hkk:ns.length - ds.length≤vs.length:=Iu.mpr (Ih ds.length vs.length▸Iu.mp h2);refine cN (CH (vs:=vs) hns hp hv hk hw) λE1 E2 e=>ag e (aa (W _ λo V=>?_));refine ag (V ..) (ag (if_neg (by simp;exact h1) ..) ?_);have e1:ds.drop (ds.length - ns.length)=ds:=by rw [Ir h3];rfl
 refine ag (e1 ..) ?_;have e2:((ns.take (ns.length - ds.length)).filter λn=>((ns.zip vs).lookup n).isNone)=[]:=by rw [List.filter_eq_nil_iff];intro x hx;have:ns.zip vs=(ns.take vs.length).zip vs:=mX ns vs;refine ag (this ..) ?_;have:=mq (vs:=vs) ((List.take_subset_take_left ns hkk) hx) (by simp;exact RZ _ _);obtain ⟨v,hv⟩:=bd.mp this;rw [hv];simp
 refine ag (e2 ..) ?_;have key:aw M A (forIn ((ns.drop (ns.length - ds.length)).zip ds) (ns.zip vs) λx slots=>do
   let (name,d):=x
   if (slots.lookup name).isNone then pure (fV (slots++[(name,d)])) else pure (fV slots))
   (λslots s'=>s'=s∧slots=ns.zip (vs++ds.drop (ds.length - (ns.length - vs.length)))) E s:=by
  have r:(ns.drop (ns.length - ds.length)).zip ds=((ns.drop (ns.length - ds.length)).take (vs.length - (ns.length - ds.length))).zip (ds.take (vs.length - (ns.length - ds.length)))++(ns.drop vs.length).zip (ds.drop (ds.length - (ns.length - vs.length))):=by
   have a1:ns.drop vs.length=(ns.drop (ns.length - ds.length)).drop (vs.length - (ns.length - ds.length)):=by rw [List.drop_drop];congr 1;exact (rF hkk).symm
   have a2:ds.length - (ns.length - vs.length)=vs.length - (ns.length - ds.length):=by omega
   rw [a1,a2,← oK (by simp;rw [Rs h3]),jR,jR]
  refine ag (r ..) (CG _ _ _ _ (λn d acc=>rfl) _ (λe he=>?_) ?_)
  ·have hm:e.1∈ns.take vs.length:=by have:=(R5 (a:=e.1) (b:=e.2) he).1;rw [List.take_drop] at this;have:=List.mem_of_mem_drop this;rwa [show ns.length - ds.length+(vs.length - (ns.length - ds.length))=vs.length from rF hkk] at this
   refine ag ((mX ns vs) ..) (mq hm (by simp;exact RZ _ _))
  ·refine CF nd (vs:=vs) _ _ _ _ _ (λn d acc=>rfl) (λn hn=>?_) (nd.sublist (List.drop_sublist _ _)) ⟨rfl,?_⟩
   ·have e3:ns.zip vs=(ns.take vs.length).zip vs:=mX ns vs;refine ag (e3 ..) (mj λm=>?_);rw [← jR vs.length ns,fZ] at (nd);exact (nd).2.2 n m n hn rfl
   ·have e3:ns.zip vs=(ns.take vs.length).zip vs:=mX ns vs;rw [e3,← oK (by simp;exact Nat.min_eq_left h1),jR]
 refine aa (aP key (λslots s' h=>?_) λY Y x=>x);refine ah h λe0 e1=>?_;clear h;refine ag e0 (ag e1 ?_);refine ag (bW ns) (ag (tX nd (by simp;exact (congrArg (_+·) (Rs h2)).trans (rF h1)) ..) ?_);exact af hq
section
variable {M:l4} {A:bw} {E:ak->aj->Prop} {s:aj} {ρ:List ay}
theorem jK.fun {h:bM} {l:List Env} (F:jK ρ h l):h.FunFrames B l:=by
 induction l with
 | nil=>trivial
 | cons env r P=>obtain ⟨O,L,o,h1,h2,_,G,I⟩:=F env aA;exact ⟨O,⟨L,o,h1,h2,G,I⟩,P λe J=>F e (aE _ J)⟩
theorem jK.notFrame {h:bM} {l:List Env} (F:jK ρ h l) {b:ay} (I:b∈ρ):b∉l.filterMap (·.frame):=λP=>by refine ae (l8.mp P) λenv J O=>?_;obtain ⟨_,L,o,h1,_,G,_⟩:=F env J;obtain rfl:=ss h1 O;exact G I
theorem sH {env:Env} {J:List Env} {L e:ay} {z:Obj} {vs:Array ak} {head:ak} {O:Bool} {Q:Unit->aj->Prop}
  (hfr:A.frames=ac (env::J)) (hl:s.heap.FunFrames B (env::J)) (hf:env.frame=ac L)
  (he:s.heap.get? e=ac z) (hd:z.data=.fields vs) (hsz:1 <vs.size)
  (h:∀h2 tb oT ts,(∀b o,b≠e->s.heap.get? b=ac o->b∉(env::J).filterMap (·.frame)->h2.get? b=ac o)->(∀b o,b≠e->s.heap.get? b=ac o->∃Y,h2.get? b=ac {o with slots:=Y}∧((∃vs,o.data=.fields vs)->Y=o.slots))->
   h2.get? e=ac (z.mapFields (·.setIfInBounds 1 (.ref tb)))->s.heap.get? tb=al->s.heap.objs.size≤tb->h2.get? tb=ac oT->oT.data=.fields ts->3 <ts.size->Q () {s with heap:=h2}):
  aw M A (do let a ← frameOf env;let pl ← entryPlaceOf L O;let b ← EntryCells.newEntry head a .none (dV L) .none pl;uu (.ref e) 1 b) Q E s:=by
 have y:e∉(env::J).filterMap (·.frame):=λhm=>by obtain ⟨_,o,r,p⟩:=hl.mem hm;rw [he] at r;injection r with r;subst r;exact p vs hd
 refine aa (wpAny_frameOf_fun hfr hl hf λG I=>?_);refine aa (wpAny_entryPlaceOf λpl hpl=>?_);refine aa (cX ?_ (hpl.sizeOk5 _ _ _ _ _));have S:G.get? e=ac z:=(I.2.1 e y).trans he;have V:=az (h:=G) {cls:=.type "traceback",dict:=none,data:=.fields ([head,.ref L,.none,dV L,.none]++(if pl.isEmpty then Bi 6 dg else pl)).toArray} S;have W:=(dG (G.push {cls:=.type "traceback",dict:=none,data:=.fields ([head,.ref L,.none,dV L,.none]++(if pl.isEmpty then Bi 6 dg else pl)).toArray})
  (dk (·.setIfInBounds 1 (cy G.objs.size))) (fw (Ii (lA S)))).trans (aM G rfl)
 refine gq V hd hsz ?_;have keep:∀b o,b≠e->G.get? b=ac o->
   ((G.push {cls:=.type "traceback",dict:=none,data:=.fields ([head,.ref L,.none,dV L,.none]++(if pl.isEmpty then Bi 6 dg else pl)).toArray}).update e (dk (·.setIfInBounds 1 (cy G.objs.size)))).get? b=ac o:=λb o P f=>by
  refine ag (dG _ _ (fw P)) (az _ f)
 refine h _ G.objs.size _ _ (λb o P f l=>keep b o P ((I.2.1 b l).trans f)) (λb o P f=>?_) ?_ ?_ (Ij I.1.symm) W rfl ?_
 ·refine aI (I.2.2 b o f) λY hs=>⟨Y,keep b _ P hs,λq0=>aI q0 λus hu=>?_⟩;have l:b∉(env::J).filterMap (·.frame):=λhm=>by obtain ⟨_,ob,hob,p⟩:=hl.mem hm;obtain rfl:=ss f hob;exact p us hu
  have:=(I.2.1 b l).trans f;rw [hs] at this;have:=i8 this;exact congrArg Obj.slots this
 ·exact (bh (dk (·.setIfInBounds 1 (cy G.objs.size))) V (fP (cG hd (·.setIfInBounds 1 (cy G.objs.size)))))
 ·refine ag (I.1 ..) (aS (aG _))
 ·simp only [mD,aJ,bf,dA];exact by lia
end
section
variable {A:bw} {E:ak->aj->Prop} {s:aj} {ρ ρ':List ay} {st st':List PO} {h₀:bM} {e:ak} {i:Nat}
structure wV (ρ:List ay) (st:List PO) (h₀ h1 h2:bM):Prop where
 good:aY ρ st h2
 keep:∀b o,h1.get? b=ac o->b∉ρ->(h₀.get? b).isSome=au->∃sl,h2.get? b=ac {o with slots:=sl}∧((∃vs,o.data=.fields vs)->sl=o.slots)
theorem wV.ev {h1 h2:bM} (y:Ev ρ h₀ ρ' st' h1) (x:wV ρ' st' h₀ h1 h2):Ev ρ h₀ ρ' st' h2:=
 ⟨y.ext,x.good,λb o V J=>by refine ae (y.keep b o V J) λS q O=>?_;refine ae (x.keep b _ q (y.notin V J) (by refine ag (V ..) ?_;rfl)) λI P G=>?_;exact ⟨I,P,λf=>(G f).trans (O f)⟩⟩
theorem wV.evL {L:ay} {h1 h2:bM} (P:(h₀.get? L).isSome=au) (W:L∉ρ') (y:iW ρ L h₀ ρ' st' h1) (x:wV ρ' st' h₀ h1 h2):iW ρ L h₀ ρ' st' h2:=
 ⟨y.ext,x.good,λb o V O p=>by
  refine ae (y.keep b o V O p) λl q S=>ae (x.keep b _ q (y.notin V O) (by refine ag (V ..) ?_;rfl)) λJ I G=>?_;exact ⟨J,I,λf=>(G f).trans (S f)⟩,by
  refine ae y.here λo q d=>ae (x.keep L o q W P) λl I _=>?_;exact ⟨_,I,d⟩⟩
theorem sJ {h1 h2:bM} {a:ay} {o o2:Obj} {vs ws:Array ak} (G:aY ρ st h1) (ha:a∈ρ) (V:h1.get? a=ac o) (J:∃C,o.cls=.ref C) (hd:o.data=.fields vs) (y:∀q t,vs[1]? ≠ac (.str q t))
  (z:h2.get? a=ac o2) (e2:o2={o with data:=.fields ws}) (k:∀b o,b∈ρ->b≠a->h1.get? b=ac o->h2.get? b=ac o)
  (kb:∀b o,B.get? b=ac o->h2.get? b=ac o)
  (kc:∀b o,b≠a->h1.get? b=ac o->∃o',h2.get? b=ac o'∧∀W,o.data=.fields W->∃I,o'.data=.fields I∧I[1]? =W[1]?):aY ρ st h2:=by
 refine ⟨kb,G.nodup,G.len,G.fresh,λj po ej=>?_⟩;refine ae (G.objs j po ej) λb e1 x=>⟨b,e1,?_⟩;have kt:∀c∈ρ,∀o',h1.get? c=ac o'->j3 o'->h2.get? c=ac o':=λc hc o' q ht=>by
  by_cases O:c=a
  ·cases O;obtain rfl:=ss V q;exact absurd ht (λt=>by obtain ⟨_,_,_,q⟩:=t;rw [hd] at q;cases q)
  ·exact k c o' hc O q
 have Y:∀f q,h1.CodeRec f q->h2.CodeRec f q:=by
  intro f q S;refine fI S ?_;clear S;intro c oc W t ec gc dc rc;by_cases O:c=a
  ·cases O;obtain rfl:=ss V gc;cases (hd).symm.trans dc;exact absurd rc (y _ _)
  ·refine ae (kc c oc O gc) λo' q1 S=>ae (S W dc) λI d' r'=>⟨c,o',I,t,ec,q1,d',r'.trans rc⟩
 by_cases hb:b=a
 ·subst hb;cases po with
  | exc C d=>refine gy x λdx vs' sl p1 p2=>?_;clear x;obtain rfl:=ss p2 V;exact ⟨dx,ws,sl,p1,by exact ag (z ..) (ag (e2 ..) rfl)⟩
  | list xs=>refine cK x λ_ _ p _=>?_;clear x;obtain rfl:=ss p V;cases hd
  | tup xs=>refine cK x λ_ _ p _=>?_;clear x;obtain rfl:=ss p V;cases hd
  | dict xs ep=>refine ae x λ_ p _=>?_;clear x;obtain rfl:=ss p V;cases hd
  | inst C d=>refine ae x λ_ _ p=>?_;clear x;obtain rfl:=ss p V;cases hd
  | ns fs=>refine cK x λ_ _ p _=>?_;clear x;obtain rfl:=ss p V;cases hd
  | barr by_=>have p:h1.get? b=_:=x;obtain rfl:=ss p V;cases hd
  | cell v=>refine bz x λ_ _ p q _=>?_;clear x;obtain rfl:=ss V p;cases (hd).symm.trans q
  | lam l=>refine r9 x λ_ _ _ _ p _=>?_;clear x;obtain rfl:=ss p V;cases hd
  | vals d=>refine ae x λ_ _ p=>?_;clear x;obtain rfl:=ss p V;refine aI J λ_ q=>?_;clear J;cases q
  | range n=>refine fH x λ_ _ _ p=>?_;clear x;unfold IsRange at p;obtain rfl:=ss p V;refine aI J λ_ q=>?_;clear J;cases q
  | codes P u=>obtain ⟨_,_,p,_⟩:=x;obtain rfl:=ss p V;refine aI J λ_ q=>?_;clear J;cases q
  | pin xs o=>refine eg x λp p2 _=>?_;clear x;obtain rfl:=ss p V;refine aI J λ_ q=>?_;clear J;cases (p2).symm.trans q
 ·exact x.to (λo' q=>k b o' (aN e1) hb q) kt Y
def XN (h₀ h':bM) (ρ':List ay) (e:ak) (i:Nat):Prop:=∃a o vs,e=.ref a∧ρ'[i]? =ac a∧h₀.get? a=al∧h'.get? a=ac o∧(∃C,o.cls=.ref C)∧o.data=.fields vs∧1 <vs.size∧
 ∃T G I,vs[1]? =ac (.ref T)∧T∉ρ'∧h₀.get? T=al∧B.get? T=al∧h'.get? T=ac G∧G.data=.fields I∧3 <I.size
theorem XN.x {h₀ h':bM} {ρ':List ay} {e:ak} {i:Nat} (x:XN h₀ h' ρ' e i):XR h₀ h' ρ' e i:=
 sd x λa o vs h1 h2 G I J O P r=>⟨a,o,vs,h1,h2,G,I,J,O,P,.inr r⟩
theorem wV.refl {h1:bM} (G:aY ρ st h1):wV ρ st h₀ h1 h1:=⟨G,λb o e Y Y=>⟨o.slots,e,λY=>rfl⟩⟩
theorem wV.trans {h1 h2 J:bM} (x:wV ρ st h₀ h1 h2) (y:wV ρ st h₀ h2 J):wV ρ st h₀ h1 J:=
 ⟨y.good,λb o e O h0=>by refine ae (x.keep b o e O h0) λV q P=>?_;refine ae (y.keep b _ q O h0) λI S G=>⟨I,S,λf=>(G f).trans (P f)⟩⟩
theorem vV (fl:Option ay) {Q:Unit->aj->Prop} (G:aY ρ st s.heap) (X:XN h₀ s.heap ρ e i)
  (h:∀h2,wV ρ st h₀ s.heap h2->XN h₀ h2 ρ e i->Q () {s with heap:=h2}):aw (aq prog w) A (setFlight e fl) Q E s:=by
 refine fH X λa o vs qq=>?_;clear X;obtain ⟨rfl,hi,P,l,hC,hd,z,T,oT,ts,h1,J,S,V,p,O,h3⟩:=qq;have y:a∈ρ:=aN hi;have I:∀(x:ak) b,b≠T->(s.heap.update T (dk (·.setIfInBounds 3 x))).get? b=s.heap.get? b:=λx b W=>dG _ _ (fw W);have up:∀x:ak,∃o',(s.heap.update T (dk (·.setIfInBounds 3 x))).get? T=ac o'∧o'.data=.fields (ts.setIfInBounds 3 x):=
  λx=>⟨_,bh _ p (fP (cG O _)),cG O _⟩
 refine aa (dp l hd h1 ?_);refine vp (show (cy T !=dg)=au from by rfl) ?_;refine ae (up (fl.elim .none λf=>dV f)) λo' u1 u2=>?_;refine gq p O h3 (h _ ⟨sJ (ws:=vs) G y l hC hd (λq t r=>by cases (h1).symm.trans r) ((I _ a (fw (λq=>J (q▸y)))).trans l) (by exact bZ (hd ..) rfl) (λb o' W Y q=>(I _ b (λr=>J (r▸W))).trans q) (λb o' q=>(I _ b (λr=>by rw [r,V] at q;exact n1 q)).trans (G.base _ _ q)) (λb ob hba q=>?_),λb ob q W h0=>?_⟩
  ⟨a,o,vs,rfl,hi,P,(I _ a (fw (λq=>J (q▸y)))).trans l,hC,hd,z,T,o',_,h1,J,S,V,u1,u2,by simpa using h3⟩)
 ·by_cases r:b=T
  ·cases r;refine bZ (ss p q) ⟨o',u1,λus hu=>⟨_,u2,by cases (O).symm.trans hu;simp⟩⟩
  ·exact ⟨ob,(I _ b r).trans q,λus hu=>⟨us,hu,rfl⟩⟩
 ·have r:b≠T:=λr=>by rw [r,S] at h0;exact n3 h0
  exact ⟨ob.slots,(I _ b r).trans q,λY=>rfl⟩
theorem Ni {env:Env} {W:List Env} {L:ay} {Q:Unit->aj->Prop} (hfr:A.frames=ac (env::W)) (F:jK ρ s.heap (env::W)) (hf:env.frame=ac L) (G:aY ρ st s.heap)
  (hm:∀b,(h₀.get? b).isSome=au->(s.heap.get? b).isSome=au) (X:XR h₀ s.heap ρ e i)
  (h:∀h2,wV ρ st h₀ s.heap h2->XN h₀ h2 ρ e i->Q () {s with heap:=h2}):
  aw (aq prog w) A (wJ e env) Q E s:=by
 refine sd X λa o vs eq3 hi I ho hC hd V hh=>?_;clear X;subst eq3;have ha:a∈ρ:=aN hi;have hB:B.get? a=al:=G.fresh a ha;have no0:∀b,s.heap.get? b=al->h₀.get? b=al:=λb q=>by
  cases r:h₀.get? b with
  | none=>rfl
  | some o'=>have:=hm b (by refine ag (r ..) ?_;rfl);rw [q] at this;exact n3 this
 have noB:∀b,s.heap.get? b=al->B.get? b=al:=λb q=>by
  cases r:B.get? b with
  | none=>rfl
  | some o'=>have:=G.base _ _ r;exact sn this q
 have noρ:∀b,s.heap.get? b=al->b∉ρ:=λb q m=>by refine aI (G.here m) λ_ r=>?_;exact sn r q
 have p:∀S,o.mapFields (·.setIfInBounds 1 (.ref S))={o with data:=.fields (vs.setIfInBounds 1 (.ref S))}:=λS=>by obtain ⟨c,d,dt,sl⟩:=o;simp only at hd;refine ag hd ?_;rfl
 have hC':∀S,∃C,(o.mapFields (·.setIfInBounds 1 (.ref S))).cls=.ref C:=λS=>by refine aI hC λC q=>?_;clear hC;exact ⟨C,by refine ag (mE ..) ?_;exact q⟩
 unfold wJ;simp only [hf];refine bk hh (λh1=>?_) λqo1=>?_
 ·refine aa (dp ho hd h1 ?_);refine mu (by decide) (sH hfr F.fun hf ho hd V λh2 S oT ts k1 k2 e2 f Y t3 t4 t5=>?_);refine h h2 ⟨sJ G ha ho hC hd (λq t r=>by cases (h1).symm.trans r) e2 (p S) (λb o' y O q=>k1 b o' O q (F.notFrame y)) (λb o' q=>?_) (λb o' O q=>?_),λb o' q y Y=>k2 b o' (λr=>y (r▸ha)) q⟩
   ⟨a,_,_,rfl,hi,I,e2,hC' S,cG hd _,by simpa using V,⟨S,oT,ts,by simp [V],noρ _ f,no0 _ f,noB _ f,t3,t4,t5⟩⟩
  ·refine k1 b o' (λr=>by rw [r,hB] at q;exact n1 q) (G.base _ _ q) λhm=>?_;have:=(F.fun.mem hm).1;exact sn q this
  ·refine ae (k2 b o' O q) λsl r _=>⟨_,r,λus hu=>⟨us,hu,rfl⟩⟩
 ·refine vo qo1 λT oT ts h1 l hT0 hTB hT P h3=>?_;have hTa:T≠a:=λq=>l (q▸ha);have up:∀x:ak,∃o',(s.heap.update T (dk (·.setIfInBounds 3 x))).get? T=ac o'∧o'.data=.fields (ts.setIfInBounds 3 x):=
   λx=>⟨_,bh _ hT (fP (cG P _)),cG P _⟩
  have J:∀(x:ak) b,b≠T->(s.heap.update T (dk (·.setIfInBounds 3 x))).get? b=s.heap.get? b:=λx b y=>dG _ _ (fw y);refine aa (dp ho hd h1 ?_);refine vp (show (cy T !=dg)=au from by rfl) ?_;obtain ⟨x3,hx3⟩:∃x3,ts[3]? =ac x3:=⟨ts[3],by simp [h3]⟩;refine aa (dp hT P hx3 ?_);by_cases hc:(x3==dV L)=au
  ·refine vp hc (af (h _ (wV.refl G) ⟨a,o,vs,rfl,hi,I,ho,hC,hd,V,T,oT,ts,h1,l,hT0,hTB,hT,P,h3⟩))
  ·refine mu hc (aa (gq hT P h3 ?_));refine ae (up .none) λo' u1 u2=>sH (s:={s with heap:=s.heap.update T (dk (·.setIfInBounds 3 dg))}) hfr (F.fun.of_keeps λb z q hnf=>⟨z,(J _ b (λr=>by rw [r,hT] at q;obtain rfl:=fm q;exact hnf _ P)).trans q,rfl⟩) hf ((J _ a (fw hTa)).trans ho) hd V λh2 S oT' ts' k1 k2 e2 f Y t3 t4 t5=>?_;have fT:T∉(env::W).filterMap (·.frame):=λhm=>by obtain ⟨_,z,q,hnf⟩:=F.fun.mem hm;obtain rfl:=ss hT q;exact hnf _ P
   refine h h2 ⟨sJ G ha ho hC hd (λq t r=>by cases (h1).symm.trans r) e2 (p S) (λb z y O q=>k1 b z O ((J _ b (λr=>l (r▸y))).trans q) (F.notFrame y)) (λb z q=>?_) (λb z O q=>?_),λb z q y h0=>k2 b z (λr=>y (r▸ha)) ((J _ b (λr=>by rw [r,hT0] at h0;exact n3 h0)).trans q)⟩
    ⟨a,_,_,rfl,hi,I,e2,hC' S,cG hd _,by simpa using V,⟨S,oT',ts',by simp [V],noρ _ ((J .none S (λr=>by rw [r] at f;exact sn u1 f)).symm.trans f),no0 _ ((J .none S (λr=>by rw [r] at f;exact sn u1 f)).symm.trans f),noB _ ((J .none S (λr=>by rw [r] at f;exact sn u1 f)).symm.trans f),t3,t4,t5⟩⟩
   ·refine k1 b z (λr=>by rw [r,hB] at q;exact n1 q) ((J _ b (λr=>by rw [r,hTB] at q;exact n1 q)).trans (G.base _ _ q)) λhm=>?_;have:=(F.fun.mem hm).1;exact sn q this
   ·by_cases r:b=T
    ·subst r;refine bZ (ss hT q) (ae (k2 b o' O u1) λsl r _=>?_);exact ⟨_,r,λus hu=>⟨_,u2,by cases (P).symm.trans hu;simp⟩⟩
    ·refine ae (k2 b z O ((J _ b r).trans q)) λsl r' _=>⟨_,r',λus hu=>⟨us,hu,rfl⟩⟩
theorem Ly {env:Env} {I:List Env} {L:ay} {Q:Unit->aj->Prop} (J:A.frames=ac (env::I)) (F:jK ρ s.heap (env::I)) (P:env.frame=ac L) (G:aY ρ st s.heap)
  (S:∀b,(h₀.get? b).isSome=au->(s.heap.get? b).isSome=au) (X:XR h₀ s.heap ρ e i)
  (h:∀h2,wV ρ st h₀ s.heap h2->XN h₀ h2 ρ e i->Q () {s with heap:=h2}):
  aw (aq prog w) A (UY env e) Q E s:=by
 refine aa (Ni J F P G S X λh2 y x2=>?_);exact vV (s:={s with heap:=h2}) al y.good x2 λO V x3=>h O (y.trans V) x3
end
section
variable {ρ:List ay} {st:List PO} {h:bM}
theorem aY.add1 (G:aY ρ st h) {a:ay} {po:PO} (P:a∉ρ) (O:B.get? a=al) (x:sB (ρ++[a]) h a po):aY (ρ++[a]) (st++[po]) h:=by
 refine ⟨G.base,?_,by simp [G.len],?_,λi J e=>?_⟩
 ·rw [fZ];exact ⟨G.nodup,by simp,λb I c S e=>P (by rw [aV.mp S] at e;exact e▸I)⟩
 ·intro b I;refine bk (bb.mp I) (λI=>?_) λI=>?_
  ·exact G.fresh b I
  ·refine ag (aV.mp I ..) O
 ·by_cases hi:i <st.length
  ·rw [ax hi] at e;refine ae (G.objs i J e) λb e1 e2=>?_;exact ⟨b,by refine ag (ax (by rw [G.len];exact hi)) ?_;exact e1,e2.mono _⟩
  ·have V:i=st.length:=by have:=(ao.mp e).1;simp at this;exact by lia
   subst V;simp at e;subst e;exact ⟨a,by refine bZ (G.len ..) ?_;simp,x⟩
theorem uM {kindOf:aU->Option fM} {x:aU} (G:kindOf x=ac .local):∀{binds:List (aU × ak)} {m:aU->Option ak},(binds.map (·.1)).Nodup->bindL kindOf binds m x=(binds.lookup x).or (m x)
 | [],m,_=>by dsimp [bindL]
 | (n,v)::r,m,nd=>by
  rw [aT,cD] at nd;refine ag (uM G nd.2 ..) (ag (List.lookup_cons ..) ?_);by_cases q:x=n
  ·subst q;have:r.lookup x=al:=by
    cases z:r.lookup x with
    | none=>rfl
    | some I=>exact absurd (cU.mpr ⟨_,rG z,rfl⟩) nd.1
   refine ag (this ..) (ag (G ..) ?_);simp
  ·have:(x==n)=am:=by simpa using q
   refine ag (this ..) (kV (λh=>?_) λh=>?_)
   ·simp [q]
   ·rfl
theorem uN {kindOf:aU->Option fM} {x:aU} (G:kindOf x≠ac .local):∀{binds:List (aU × ak)} {m:aU->Option ak},(binds.map (·.1)).Nodup->bindC kindOf binds m x=(binds.lookup x).or (m x)
 | [],m,_=>by dsimp [bindC]
 | (n,v)::r,m,nd=>by
  rw [aT,cD] at nd;refine ag (uN G nd.2 ..) (ag (List.lookup_cons ..) ?_);by_cases q:x=n
  ·subst q;have:r.lookup x=al:=by
    cases z:r.lookup x with
    | none=>rfl
    | some I=>exact absurd (cU.mpr ⟨_,rG z,rfl⟩) nd.1
   refine ag (this ..) ?_;simp [G]
  ·have:(x==n)=am:=by simpa using q
   refine ag (this ..) (kV (λh=>?_) λh=>?_)
   ·rfl
   ·simp [q]
theorem eI.lookup {ns:List aU}:∀{ps:List PV} {vs:List ak},eI ρ ps vs->∀x,MZ ρ ((ns.zip ps).lookup x) ((ns.zip vs).lookup x):=by
 induction ns with
 | nil=>intro ps vs _ x;exact True.intro
 | cons n ns P=>
  intro ps vs r x;induction r using eI.casesOn with
  | nil=>exact True.intro
  | cons a r=>
   refine ag (dz ..) (ag (dz ..) (ag (List.lookup_cons ..) (ag (List.lookup_cons ..) ?_)));split
   ·exact a
   ·exact P r x
theorem Fy {binds:List (aU × PV)} {cm:aU->Option ak}:∀(names:List (aU × fM)) (n:Nat) (acc:List (aU × ay)) (cs:List (aU × Nat)) (ρ:List ay) (st:List PO),
  aY ρ st h->(∀b∈ρ,b <n)->(∀b,n≤b->B.get? b=al)->(names.map (·.1)).Nodup->
  (∀nm,(nm,kB)∈names->∀a,(eR n names acc).lookup nm=ac a->h.IsCell a (cm nm))->(∀nm∈names,acc.lookup nm.1=al)->
  (∀nm,(nm,kB)∈names->MZ ρ (binds.lookup nm) (cm nm))->
  (∀x c,cs.lookup x=ac c->∃a,acc.lookup x=ac a∧ρ[c]? =ac a)->
  ∃r,aY (ρ++r) (d7 binds names cs st).2 h∧(∀a∈r,n≤a)∧∀x c,(d7 binds names cs st).1.lookup x=ac c->∃a,(eR n names acc).lookup x=ac a∧(ρ++r)[c]? =ac a:=by
 intro ls0;induction ls0 with
 | nil=>intro n acc cs ρ st G _ _ _ _ _ _ J;exact ⟨[],by simpa [d7] using G,by simp,by simpa [d7,eR] using J⟩
 | cons hd0 r ih0=>
  intro n acc cs ρ st G V hB nd Y S W J;obtain ⟨nm,kd⟩:=hd0;rw [aT,cD] at nd;by_cases hk:kd=.cell
  ·subst hk;have keeps:∀(l:List (aU × fM)) (n:Nat) (acc:List (aU × ay)) (x:aU),x∉l.map (·.1)->(eR n l acc).lookup x=acc.lookup x:=by
    intro l;induction l with
    | nil=>intro n acc x _;rfl
    | cons e l ih=>
     intro n acc x hx;obtain ⟨y,k⟩:=e;rw [aT,bj,not_or] at hx;unfold eR;refine kV (λh=>?_) λh=>?_
     ·refine ag (ih _ _ _ hx.2 ..) (ag (List.lookup_cons ..) ?_);have:(x==y)=am:=by simpa using hx.1
      exact ag (this ..) rfl
     ·exact ih _ _ _ hx.2
   rw [(show eR n ((nm,.cell)::r) acc=eR (n+1) r ((nm,n)::acc) by rw [eR];rfl)] at Y ⊢;refine ag ((show d7 binds ((nm,.cell)::r) cs st=d7 binds r ((nm,st.length)::cs) (st++[.cell (binds.lookup nm)]) by rw [d7];exact ag (if_pos rfl ..) rfl) ..) ?_;have P:=Y nm aA n (by refine ag (keeps _ _ _ _ nd.1 ..) ?_;simp);refine ae P λo ho hd=>?_;clear P;have G1:aY (ρ++[n]) (st++[.cell (binds.lookup nm)]) h:=G.add1 (λm=>gO _ (V n m)) (hB n (aG _)) ⟨o,_,ho,hd,(W nm aA).mono _⟩;obtain ⟨r',g,a1,a2⟩:=ih0 (n+1) ((nm,n)::acc) ((nm,st.length)::cs) (ρ++[n]) _ G1 (λb f=>by
     rcases bb.mp f with f | f
     ·exact mF (V b f)
     ·refine ag (aV.mp f ..) ?_;exact eQ _) (λb f=>hB b (cj ‹_›)) nd.2
    (λI O a=>Y I (aE _ O) a) (λI O=>by
     refine ag (List.lookup_cons ..) ?_;have:I.1≠nm:=λq=>nd.1 (cU.mpr ⟨I,O,q⟩);have:(I.1==nm)=am:=by simpa using this
     refine ag (this ..) ?_;exact S I (aE _ O)) (λI O=>(W I (aE _ O)).mono _) (λx c e=>by
     rw [List.lookup_cons] at e ⊢;split at e
     ·refine bZ (fm e) ?_;exact ⟨n,rfl,by refine bZ (G.len ..) ?_;simp⟩
     ·refine ae (J x c e) λa p q=>?_;exact ⟨a,p,by refine ag (ax (ao.mp q).1) ?_;exact q⟩)
   rw [bI] at g a2;exact ⟨[n]++r',g,λa z=>by
    refine bk (bb.mp z) (λz=>?_) λz=>?_
    ·refine ag (aV.mp z ..) (aG _)
    ·exact mz (a1 a z),a2⟩
  ·have hkb:(kd==kB)=am:=by simpa using hk
   have ecf:eR n ((nm,kd)::r) acc=eR n r acc:=by rw [eR];refine ag (hkb ..) ?_;rfl
   rw [ecf] at Y ⊢;refine ag ((show d7 binds ((nm,kd)::r) cs st=d7 binds r cs st by rw [d7];exact ag (if_neg hk ..) rfl) ..) ?_;exact ih0 n acc cs ρ st G V hB nd.2 (λI O a=>Y I (aE _ O) a) (λI O=>S I (aE _ O)) (λI O=>W I (aE _ O)) J
end
section
variable {n:Nat} {E:Lv} {A:bw} {fe env:Env} {pe:bD} {ρ ρ':List ay} {st st':List PO} {s:aj} {h':bM} {tk:Nat} {x:KX} {k:KV}
theorem iG {N:vf->Prop} (S:fK N n E):∀(ss:List cg) (pe:bD) (st:List PO) (ρ:List ay) (s:aj) (k:dL->bD->List PO->Prop),execs E ss pe st k x->eW A ρ s.heap env n->aY ρ st s.heap->eH ρ s.heap env pe->env.frame=ac env.locals->
  fE N (aq prog w) A (gw ss env) (oG s ρ env k) (jL s ρ env.locals x) s:=by
 intro l;induction l with
 | nil=>intro pe st ρ s k h M G F W;exact fS <| wpAny_execs_nil ⟨s.heap,s.toks,ρ,st,.next,pe,rfl,(Ev.refl G).toL F.some F.out,F,.next,h⟩
 | cons e r f=>
  intro pe st ρ s k h M G F W;refine su (cf (S.exec e pe st _ x h A env ρ s M G F W) (λfl s' P=>?_) λY Y z=>z);refine pN P λh2 t2 O J pf I V y p rf q=>?_;clear P;refine ag V ?_;induction rf using uG.casesOn with
  | next=>refine cf (f I J O _ k q (M.goL y) y.good p W) (λfl s' P=>P.pre G y) λY Y z=>z.pre G y
  | ret rv=>exact ⟨h2,t2,O,J,_,I,rfl,y,p,.ret rv,q⟩
theorem Lz (S:cL n E):∀(ss:List cg) (pe:bD) (st:List PO) (ρ:List ay) (s:aj) (k:dL->bD->List PO->Prop),execs E ss pe st k x->eW A ρ s.heap env n->aY ρ st s.heap->eH ρ s.heap env pe->env.frame=ac env.locals->
  aw (aq prog w) A (gw ss env) (oG s ρ env k) (jL s ρ env.locals x) s:=
 λss pe st ρ s k h M G F I=>jz (iG S.toN ss pe st ρ s k h M G F I)
abbrev RK (s:aj) (ρ:List ay) (k:KV) (x:KX):jk->aj->Prop:=λr W=>match r with | .ok (.ret v)=>hV s ρ k v W | .ok _=>False | .error e=>XK s ρ x e W
theorem qO {vs:List ak}:∀{ps:List PV},dn (vs.map sg)=ac ps->eI ρ ps vs:=by
 induction vs with
 | nil=>intro ps h;simp [dn] at h;refine ag h .nil
 | cons v vs P=>
  intro ps h;rw [aT] at h;cases q:sg v with
  | none=>rw [q] at h;exact n1 h
  | some p=>rw [q] at h;refine ae (aF.mp h) λI e1 G=>bZ G (.cons (xk q) (P e1))
theorem back {h0 h1 h2:bM} {L:ay} {r:List ay} {P:List ay} {O:List PO} (G:aY ρ st h0) (S:∀b o,h0.get? b=ac o->h1.get? b=ac o) (J:∀a∈r,h0.get? a=al) (V:h0.get? L=al)
  (y:iW (ρ++r) L h1 P O h2):Ev ρ h0 P O h2:=by
 refine ae y.ext λf e1 e2=>⟨⟨r++f,by exact ag (e1 ..) (ag (bI ..) rfl),λa I=>?_⟩,y.good,λb o e W=>?_⟩
 ·rcases bb.mp I with I | I
  ·exact J a I
  ·cases q:h0.get? a with
   | none=>rfl
   | some o=>have:=S a o q;(first | obtain rfl:=ss (e2 a I) this | exact sn this (e2 a I) | exact sn (e2 a I) this | exact n3 (((e2 a I)).symm.trans this) | exact n4 (((e2 a I)).symm.trans this) | exact n1 (((e2 a I)).symm.trans this))
 ·refine y.keep b o (S b o e) (λm=>?_) (λq=>by rw [q,V] at e;exact n1 e);rcases bb.mp m with m | m
  ·exact W m
  ·(first | obtain rfl:=ss (J b m) e | exact sn e (J b m) | exact sn (J b m) e | exact n3 (((J b m)).symm.trans e) | exact n4 (((J b m)).symm.trans e) | exact n1 (((J b m)).symm.trans e))
def LA {N:vf->Prop} {a:ay} {args:List PV} {vs:List ak}:Prop:=∀(Cl:wU N) (I:dO) (S:fK N n E) (h:zt K E a args st k x) (M:M3 A ρ s.heap (n+1)) (G:aY ρ st s.heap) (J:eI ρ args vs),fR N (aq prog w) A (.call (.ref a) ⟨vs,[]⟩) (RK s ρ k x) s
noncomputable def dB:=rm <| U λn=>U λE=>U λA=>U λρ=>U λst=>U λs=>U λx=>U λk=>U λN=>U λa=>U λargs=>@LA n E A ρ st s x k N a args
theorem mY {N a args vs}:@LA n E A ρ st s x k N a args vs:=jX (c:=dB) rfl (by
 intro Cl Bs S h M G rs;refine jW h λfd body binds hfd hok hbody I h=>?_;unfold zr at hok;simp only [bq,beq_iff_eq,dJ,wO,my,decide_eq_true_eq,co,za] at hok;refine ah hok λp0 hlc=>?_;(refine ah p0 ?_;clear p0;intro p0 hnn;(refine ah p0 ?_;clear p0;intro p0 hcode;obtain ⟨⟨⟨⟨⟨⟨⟨⟨⟨⟨hglob,hclo⟩,hblt⟩,hgen⟩,hco⟩,hkind⟩,hpos⟩,hvar⟩,hkwo⟩,hkwa⟩,hnd⟩:=p0));refine ae (vq K hfd) λo hlook hdat=>?_;have KI:K.In dB.2.2.2.2.2.1.heap:=Bs.kin.keeps G.base;have hroom:dB.2.2.1.depth <qz:=by have:=M.depth;exact TK ‹_›
 unfold Bv at I;refine ae (ai.mp I) λds hds I=>?_;split at I
 ·rename_i hlen;refine eg hlen λl1 l2 l3=>?_;clear hlen;simp only [wZ.injEq] at I;obtain ⟨f,rds,hdef⟩:∃f,eI dB.2.2.2.1 ds f∧((fd.defaults=.none∧f=[])∨∃T o items n,fd.defaults=.ref T∧dB.2.2.2.2.2.1.heap.get? T=ac o∧o.data=.seq items n∧items.toList=f):=by
   refine bk (sk K hds) (λqo0=>?_) λqo1=>?_
   ·refine ah qo0 λe e1=>ag e1 ⟨[],.nil,.inl ⟨e,rfl⟩⟩
   ·refine fI qo1 λT o its n e e1 e2 e3=>⟨its.toList,qO e3,.inr ⟨T,o,its,n,e,KI _ _ e1,e2,rfl⟩⟩
  have hla:=rs.length;have hld:=rds.length;have hB:=k7 (s:=dB.2.2.2.2.2.1) (fd:=fd) (vs:=dB.2.2.2.2.2.2.2.2.2.2.2) (ds:=f) hpos hvar hkwo hkwa hnd (by exact RI ‹_› ‹_›) (by lia) (by exact RI ‹_› ‹_›) hdef;generalize hvb:((fd.params.args.map (·.arg)).zip (dB.2.2.2.2.2.2.2.2.2.2.2++f.drop (f.length - (fd.params.args.length - dB.2.2.2.2.2.2.2.2.2.2.2.length))))=vb at hB;have rdrop:∀{m:Nat} {ps:List PV} {us:List ak},eI dB.2.2.2.1 ps us->eI dB.2.2.2.1 (ps.drop m) (us.drop m):=by
   intro m;induction m with
   | zero=>intro ps us r;exact r
   | succ m ih=>intro ps us r;induction r using eI.casesOn with
    | nil=>simp;exact .nil
    | cons a r=>exact ih r
  have rall:eI dB.2.2.2.1 (dB.2.2.2.2.2.2.2.2.2.2.1++ds.drop (ds.length - (fd.params.args.length - dB.2.2.2.2.2.2.2.2.2.2.1.length))) (dB.2.2.2.2.2.2.2.2.2.2.2++f.drop (f.length - (fd.params.args.length - dB.2.2.2.2.2.2.2.2.2.2.2.length))):=by rw [hla,hld];exact rs.append (rdrop rds)
  have hov:∀y,MZ dB.2.2.2.1 (binds.lookup y) (vb.lookup y):=λy=>by rw [← I,← hvb];exact rall.lookup y
  have hvbn:(vb.map (·.1)).Nodup:=by
   refine bZ (hvb ..) ?_;have:∀(ns:List aU) (us:List ak),ns.Nodup->((ns.zip us).map (·.1)).Nodup:=by
    intro ns us hn;have:((ns.zip us).map (·.1))=ns.take us.length:=by
     induction ns generalizing us with
     | nil=>simp
     | cons n ns ih=>induction us using aX with
      | nil=>simp
      | cons u us=>simp [ih us (cD.mp hn).2]
    rw [this];exact hn.sublist (O7 _ _)
   exact this _ _ hnd
  have hvin:∀y∈vb,y.1∈fd.params.args.map (·.arg):=λy hy=>by rw [← hvb] at hy;exact (R5 (a:=y.1) (b:=y.2) hy).1
  refine ny Cl hroom (KI _ _ hlook) hdat hco hgen hbody (codeRec_of KI hcode) (hB _ _ _ _ ?_);refine ag (hclo ..) (ag (hglob ..) ?_);refine ag (hblt ..) ?_;have cellHas:∀(l:List (aU × fM)) (m:Nat) (acc:List (aU × ay)) (y:aU),(y,kB)∈l->((eR m l acc).lookup y).isSome=au:=by
   intro l;induction l with
   | nil=>intro m acc y hy;cases hy
   | cons e l ih=>
    intro m acc y hy;obtain ⟨z,kd⟩:=e;unfold eR;have keep:∀(l:List (aU × fM)) (m:Nat) (acc:List (aU × ay)),(acc.lookup y).isSome=au->((eR m l acc).lookup y).isSome=au:=by
     intro l;induction l with
     | nil=>intro m acc h;exact h
     | cons e l ih=>
      intro m acc h;unfold eR;split
      ·refine ih _ _ ?_;rw [List.lookup_cons];split
       ·rfl
       ·exact h
      ·exact ih _ _ h
    rcases bj.mp hy with e | hy
    ·cases e;refine ag (if_pos (show (kB==kB)=au from rfl) ..) ?_;exact keep _ _ _ (by simp)
    ·refine kV (λh=>?_) λh=>?_
     ·exact ih _ _ y hy
     ·exact ih _ _ y hy
  refine wpAny_newFunctionEnv_cells hkind (λy hy=>?_) λenv' he s' X=>?_
  ·refine ae (cU.mp (hvin y hy)) λp hp hpe=>?_;rcases hlc p hp with q | q
   ·exact .inl (hpe▸q)
   ·refine .inr ⟨hpe▸q,cellHas _ _ _ _ (rG (hpe▸q))⟩
  subst he;refine ⟨(Bs.nolimit.keeps G.base).keeps X.toInCall.keep,zA Cl ?_⟩;refine cK X.done λh₁ tk eq2 _=>?_;subst eq2;have W:∀b o,dB.2.2.2.2.2.1.heap.get? b=ac o->h₁.get? b=ac o:=X.toInCall.keep;generalize hL:dB.2.2.2.2.2.1.heap.objs.size=L at X ⊢;have hLn:dB.2.2.2.2.2.1.heap.get? L=al:=by rw [← hL];exact aS (aG _)
  generalize V:OA fd.scope L cJ (eR (L+1) fd.scope.names []) (fd.qualname++ ".<locals>.") (ac dB.2.2.2.2.2.2.2.2.2.1) fd.code al jj=env at X ⊢;have hesc:env.scope=fd.scope:=by rw [← V];rfl
  have J:env.locals=L:=by rw [← V];rfl
  have hecells:env.cells=eR (L+1) fd.scope.names []:=by rw [← V];rfl
  have O:env.frame=ac env.locals:=by rw [← V];rfl
  have hkof:∀y,env.kindOf y=fd.scope.names.lookup y:=λy=>by unfold Env.kindOf;rw [hesc]
  have ltL:∀b o,dB.2.2.2.2.2.1.heap.get? b=ac o->b <L:=λb o e=>hL▸lA e;have noS:∀b,L≤b->dB.2.2.2.2.2.1.heap.get? b=al:=λb hb=>by
   cases q:dB.2.2.2.2.2.1.heap.get? b with
   | none=>rfl
   | some o=>exact absurd (ltL b o q) (Nat.not_lt.mpr hb)
  have noB:∀b,L≤b->B.get? b=al:=λb hb=>by
   cases q:B.get? b with
   | none=>rfl
   | some o=>have:=G.base _ _ q;(first | obtain rfl:=ss (noS b hb) this | exact sn this (noS b hb) | exact sn (noS b hb) this | exact n3 (((noS b hb)).symm.trans this) | exact n4 (((noS b hb)).symm.trans this) | exact n1 (((noS b hb)).symm.trans this))
  have ltρ:∀b∈dB.2.2.2.1,b <L:=λb hb=>by refine aI (G.here hb) λo e=>?_;exact ltL b o e
  have lookNd:∀{l:List (aU × fM)} {y:aU} {kd:fM},(l.map (·.1)).Nodup->(y,kd)∈l->l.lookup y=ac kd:=by
   intro l;induction l with
   | nil=>intro y kd _ h;cases h
   | cons e l ih=>
    intro y kd nd h;rw [aT,cD] at nd;refine ag (List.lookup_cons ..) (bk (bj.mp h) (λe'=>?_) λh=>?_)
    ·refine bZ e' ?_;simp
    ·have:y≠e.1:=λq=>nd.1 (cU.mpr ⟨_,h,q⟩);have:(y==e.1)=am:=by simpa using this
     rw [this];exact ih nd.2 h
  obtain ⟨r,G2,hr,hcs⟩:=Fy (h:=h₁) (binds:=binds) (cm:=bindC env.kindOf vb λY=>al) fd.scope.names (L+1) [] [] dB.2.2.2.1 dB.2.2.2.2.1 (G.sub W) (λb hb=>mF (ltρ b hb)) (λb hb=>noB b (mz hb)) hnn
   (λnm hm ad e=>X.cell nm ad (by rw [hecells];exact e)) (λY Y=>rfl) (λnm hm=>by have hkk:=lookNd hnn hm;rw [uN (by rw [hkof,hkk];decide) hvbn];simpa using hov nm) (λy c e=>by exact n1 e)
  have hrS:∀ad∈r,dB.2.2.2.2.2.1.heap.get? ad=al:=λad ha=>noS ad (mz (hr ad ha));have hLout:L∉dB.2.2.2.1++r:=λm=>by
   refine bk (bb.mp m) (λm=>?_) λm=>?_
   ·exact absurd (ltρ L m) (gO _)
   ·exact absurd (hr L m) (Nat.not_succ_le_self _)
  have F1:eH (dB.2.2.2.1++r) h₁ env ⟨fd.scope,binds,(d7 binds fd.scope.names [] dB.2.2.2.2.1).1,xb K fd dB.2.2.2.2.1⟩:=by
   refine ⟨hesc,hkind,(by rw [← V];rfl),(by rw [← V];rfl),⟨_,X.toInCall.ns,λy pv e el=>?_⟩,J▸hLout,J▸noB L (aG _),λy c e=>by rw [hecells];exact hcs y c e,λi e=>?_⟩;rotate_left
   ·dsimp only at e;refine gR (EJ K e) λP u c' q1 q2 hcd' z=>bZ z (bP (G.objs _ _ q1) λad z1 z2 _=>?_);subst z2;exact ⟨c',ad,by rw [← V];exact q2,Vu Bs.kin hcd',by rw [ax (ao.mp z1).1];exact z1⟩
   dsimp only at e el;have:=hov y;rw [e] at this;cases q:vb.lookup y with
   | none=>rw [q] at this;exact this.elim
   | some v=>rw [q] at this;refine ⟨v,?_,VR.mono this r⟩;rw [uM (by rw [hkof];exact el) hvbn,q];rfl
  refine ae (id M.frames) λouter hA hFr=>?_;have EvL1:jK (dB.2.2.2.1++r) h₁ (env::outer):=by
   intro ev hev;rcases bj.mp hev with e | hev
   ·refine ag (e ..) (ae F1.some λo q dd=>?_);exact ⟨by rw [hesc,hkind];decide,env.locals,o,O,J▸noB L (aG _),J▸hLout,q,dd⟩
   ·obtain ⟨hk,L',o,q1,q2,q3,q4,q5⟩:=hFr ev hev;refine ⟨hk,L',o,q1,q2,λm=>?_,W _ _ q4,q5⟩;refine bk (bb.mp m) (λm=>?_) λm=>?_
    ·exact q3 m
    ·(first | obtain rfl:=ss (hrS L' m) q4 | exact sn q4 (hrS L' m) | exact sn (hrS L' m) q4 | exact n3 (((hrS L' m)).symm.trans q4) | exact n4 (((hrS L' m)).symm.trans q4) | exact n1 (((hrS L' m)).symm.trans q4))
  have hfr:(dB.2.2.1.deeper env).frames=ac (env::outer):=by show dB.2.2.1.frames.map (env::·)=_;rw [hA];rfl
  have run:=iG (A:=dB.2.2.1.deeper env) (env:=env) S body _ _ (dB.2.2.2.1++r) {dB.2.2.2.2.2.1 with heap:=h₁,toks:=tk} _ h (⟨M.handled,by have:=M.depth;show dB.2.2.1.depth+1+dB.1≤900;exact RH ‹_›,by have:=M.units;show dB.2.2.1.units+3+10*dB.1≤9000;exact TJ ‹_›,⟨_,hfr,EvL1⟩,M.guards⟩) G2 F1 O;refine cf run (λfl s2 hv=>?_) λe s2 hx=>?_
  ·refine pN hv λh2 t2 ρ2 st2 pf pe2 eq6 y F2 rf q=>?_;clear hv;refine ag eq6 ?_;have y':=back G W hrS (J▸hLn) y;induction rf using uG.casesOn with
   | next=>exact ⟨h2,t2,ρ2,st2,.none,rfl,y',.none,q⟩
   | ret rv=>exact ⟨h2,t2,ρ2,st2,_,rfl,y',rv,q⟩
  ·refine cY hx λh2 t2 ρ2 st2 i eq5 y xr q=>?_;clear hx;refine ag eq5 ?_;have y':=back G W hrS (J▸hLn) y;refine Ly (h₀:=dB.2.2.2.2.2.1.heap) (st:=st2) hfr (EvL1.goL y) O y.good (λb hb=>y'.there G hb) (xr.early λb hb=>by refine aI (bd.mp hb) λo e=>?_;rw [W b o e];rfl) λh3 sta xr3=>?_;exact ⟨h3,t2,ρ2,st2,i,rfl,sta.ev y',xr3.x,q⟩
 ·exact n1 I) (n,E,A,ρ,st,s,x,k,N,a,args,vs)
theorem BJ (I:dO) (S:cL n E) {a:ay} {args:List PV} {vs:List ak} (h:zt K E a args st k x) (M:eW A ρ s.heap fe (n+1)) (G:aY ρ st s.heap) (J:eI ρ args vs):
  gk (aq prog w) A (.call (.ref a) ⟨vs,[]⟩) (RK s ρ k x) s:=
 xd (mY rM I S.toN h M.out G J)
end
section
variable {n:Nat} {E:Lv} {A:bw} {fe env:Env} {pe:bD} {ρ ρ':List ay} {st st':List PO} {s:aj} {h':bM} {tk:Nat} {x:KX} {k:KV}
theorem FA {name:aU} {fs:List (aU × PV)} {es:List cz} (r:nV ρ fs es):es.any (·.refKey)=am∧(∀I,fs.lookup name=ac I->∃e,es.find? (·.key.isStr name)=ac e∧VR ρ I e.val)∧(fs.lookup name=al->es.find? (·.key.isStr name)=al):=by
 induction r with
 | nil=>exact ⟨rfl,λY h=>n1 h,λY=>rfl⟩
 | @cons m p ps es hs t v a r ih=>
  refine eg ih λh1 h2 G=>⟨by refine ag (Ue ..) (ag (h1 ..) ?_);rfl,λI e=>?_,λe=>?_⟩
  ·rw [List.lookup_cons] at e;refine ag (R6) ?_;by_cases q:name=m
   ·subst q;simp only [beq_self_eq_true] at e;refine bZ (fm e) ?_;have:(fB (.str name t) name)=au:=by simp [fB]
    simp only [this];exact ⟨_,rfl,a⟩
   ·have P:(name==m)=am:=by simpa using q
    rw [P] at e;simp only [(show (fB (.str m t) name)=am by simp [fB];exact λz=>q z.symm)];exact h2 I e
  ·rw [List.lookup_cons] at e;refine ag (R6) ?_;by_cases q:name=m
   ·subst q;simp at e
   ·have P:(name==m)=am:=by simpa using q
    rw [P] at e;simp only [(show (fB (.str m t) name)=am by simp [fB];exact λz=>q z.symm)];exact G e
theorem vW {name:aU} {fs:List (aU × PV)} {es:List cz} (r:nV ρ fs es):(∀I,fs.lookup name=ac I->∃v,getL name es=ac (ac v)∧VR ρ I v)∧(fs.lookup name=al->getL name es=ac al):=by
 refine eg (FA (name:=name) r) λh1 h2 G=>?_;unfold getL;refine ⟨λI e=>?_,λe=>?_⟩
 ·refine ae (h2 I e) λen P J=>ag (P ..) ⟨_,rfl,J⟩
 ·refine ag (G e ..) (ag (h1 ..) ?_);rfl
theorem nV.length {fs:List (aU × PV)} {es:List cz} (r:nV ρ fs es):fs.length=es.length:=by
 induction r with
 | nil=>rfl
 | cons a r P=>simp [P]
theorem rR (G:aY ρ st s.heap) {i d:Nat} {C:ay} {fs:List (aU × PV)} {a:ay} (h:zq st i C d) (hd:st[d]? =ac (.ns fs)) (hi:ρ[i]? =ac a):
  ∃J I es m,ρ[d]? =ac I∧InstAt s.heap a J C (ac (dictOf es m))∧J.dict=ac I∧s.heap.get? I=ac ⟨.type "dict",al,.dict es.toArray m,#[]⟩∧nV ρ fs es:=by
 have O:∀I J,ρ[d]? =ac I->s.heap.get? a=ac J->J.dict=ac I->J.cls=.ref C->notCls J=au->∃J I es m,ρ[d]? =ac I∧InstAt s.heap a J C (ac (dictOf es m))∧J.dict=ac I∧s.heap.get? I=ac ⟨.type "dict",al,.dict es.toArray m,#[]⟩∧nV ρ fs es:=λI J e V e1 e2 e3=>by refine cK (G.at e hd) λdes m P R=>?_;exact ⟨J,I,des.toList,m,e,⟨V,e2,e3,by refine ag (e1 ..) ?_;exact P⟩,e1,P,R⟩
 rcases h with h | h
 ·refine ae (G.at hi h) λI e V=>O I _ e V rfl rfl rfl
 ·refine gy (G.at hi h) λI vs S e V=>O I _ e V rfl rfl rfl
theorem CI {C f:ay} {name:aU} (h:vt K C name=ac f):gC K (.ref C) name=ac (ac (.ref f))∧KL K (.ref f)=au∧KJ K C name=au:=by refine ae (rK K h) λp e h=>?_;refine ah (jM h) λG q=>bZ q ?_;simp only [bq] at G;exact ⟨e,G.1.1,G.1.2⟩
theorem qc {I:PV} {v:ak} (r:VR ρ I v) (h:uD I=au):handedIn v=au:=by induction r <;> first | rfl | exact n3 h
theorem zT (Bs:dO) (S:cL n E) {v:PV} {val:ak} {name:aU} {expr:Bool} (h:attr K E v name st k) (M:eW A ρ s.heap fe (n+1)) (G:aY ρ st s.heap) (rv:VR ρ v val):
  aw (aq prog w) A (getAttr val name expr) (hV s ρ k) (XK s ρ x) s:=by
 refine fI h λi C d fs Y h1 h2 h=>?_;subst Y;cases rv with
 | loc hi=>
  refine nN (rR G h1 h2 hi) λox dx es m hdx I _ hdo R=>?_;have X:K.In s.heap:=Bs.kin.keeps G.base;refine bk h (λqo0=>?_) λqo1=>?_
  ·refine nL qo0 λpv e1 e2 e3 h=>?_;unfold w8 at e2;simp only [bq] at e2;refine ah e2 λV O=>?_;clear e2;refine ah V λa1 W=>?_;clear V;refine ae (kJ O) λattr ha O=>ae ((vW (name:=name) R).1 pv e1) λv q1 q2=>get_value X I (qD a1).1 (Vv W ha O q1) (qc q2 e3) (qN G q2 h)
  ·refine ae qo1 λf e1 h=>ae (rK K e1) λp hp e1=>ae (ai.mp e1) λl hr e1=>ae (ai.mp e1) λfv e2 e1=>ae (ai.mp e1) λf' e3 e1=>ah (jM e1) λP q=>?_;subst q;have hr:recIn K p "property"=ac (.ref f'::l.tail):=bZ (nh e3) (by induction l using aX with | nil=>exact n1 e2 | cons u l=>exact bZ (fm e2) hr);simp only [bq,beq_iff_eq] at P;refine ah P λJ a5=>?_;clear P;(refine ah J ?_;clear J;intro J a4;(refine ah J ?_;clear J;intro J O;refine ah J λa1 W=>?_;clear J));refine get_bind X I (qD a1).1 (findObj_data (by refine ae (kJ W) λcd P _=>?_;refine ag (P ..) ?_;rfl) hp O a4) (qD a1).2 (kl (prop_get (s:={s with toks:=s.toks+1}) X hr ?_));refine oB (S.fn f' _ st _ _ a5 h A.in1 fe ρ {s with toks:=s.toks+1} [.ref _] (M.in1) G (.cons (.loc hi) .nil)) λr s' z=>?_;rcases r with e | fl
   ·refine cY z λ_ _ _ _ _ _ _ _ f=>?_;clear z;exact False.elim f
   ·induction fl with
    | ret v=>refine iA z λh2 t2 ρ2 st2 pv eq5 y r hb q=>?_;clear z;refine ag eq5 ?_;show aw _ _ (handedOut v) _ _ _;refine ag (Vb (qc r hb) ..) (af ⟨h2,t2,ρ2,st2,pv,rfl,y,r,q⟩)
    | _=>exact z
noncomputable def putE (name:aU) (G:Int) (key v:ak) (es:List cz):List cz:=match es.findIdx? (λe=>e.key.isStr name) with
 | some i=>es.modify i λe=>{e with val:=v}
 | none=>es++[⟨G,key,v⟩]
theorem lK (name:aU) (G:Int) (key v:ak) (es:List cz) (c:ak) (d:Option ay) (m:Nat) (I:Array (Option ak)):
  ∃J,wY name G key v ⟨c,d,.dict es.toArray m,I⟩=⟨c,d,.dict (putE name G key v es).toArray J,I⟩:=by
 refine ag (Obj.putName_eq ..) ?_;delta Obj.putNameByArray putE;simp only [List.findIdx?_toArray];induction es.findIdx? (λe=>e.key.isStr name) with
 | none=>exact ⟨m+1,by simp⟩
 | some i=>exact ⟨m,by simp⟩
theorem xu (name:aU) (G:Int) (key v:ak) (es:List cz):(putE name G key v es).length≤es.length+1:=by unfold putE;cases es.findIdx? (λe=>e.key.isStr name)<;> simp
theorem Nj {name:aU} {I:PV} {v:ak} (G:VR ρ I v) (J:Int) (t:ow) {fs:List (aU × PV)} {es:List cz} (r:nV ρ fs es):
  nV ρ (nO name I fs) (putE name J (.str name t) v es):=by
 induction r with
 | nil=>exact .cons G .nil
 | @cons m p ps es hs' t' v' a r ih=>
  unfold putE at ih ⊢;refine ag (OB) ?_;by_cases q:m=name
  ·refine bZ q ?_;have:(fB (.str m t') m)=au:=by simp [fB]
   simp only [this,if_true];rw [nO];refine ag (if_pos rfl ..) (.cons G r)
  ·have O:(fB (.str m t') name)=am:=by simp [fB];exact q
   simp only [O];rw [nO];refine ag (if_neg q ..) ?_;cases z:es.findIdx? (λe=>e.key.isStr name) with
   | none=>rw [z] at ih;simp;exact .cons a ih
   | some i=>rw [z] at ih;simp;exact .cons a ih
theorem tY (Bs:dO) {v wv:PV} {val O:ak} {name:aU} {k:List PO->Prop} (h:rL K v name wv st k) (G:aY ρ st s.heap) (rv:VR ρ v val) (rw_:VR ρ wv O) {X:ak->aj->Prop}:
  aw (aq prog w) A (O8 val name O) (RN s ρ k) X s:=by
 (refine zl h ?_;clear h;intro i C d fs e4 h1 h2 p h4 h;subst e4);cases rv with
 | loc hi=>
  refine nN (rR G h1 h2 hi) λox l es m hdx I f V R=>?_;have X:K.In s.heap:=Bs.kin.keeps G.base;unfold w9 at p;simp only [bq,beq_iff_eq] at p;refine ah p λP a4=>?_;clear p;(first | refine ah P λJ z=>?_;clear P;refine ah J λa1 r=>?_;clear J | refine aI P λJ z=>?_;clear P;refine ah J λa1 r=>?_;clear J | obtain ⟨⟨a1,r⟩,z⟩:=P);refine set_plain X I a1 (osa_open (s:={s with toks:=s.toks+1}) X I r z λb=>?_);refine ae (kJ a4) λcd hc Y=>?_;obtain ⟨hx,W,hn,-⟩:=I;obtain ⟨oc,odi,oda,osl⟩:=ox;dsimp only at W f;subst W f;have hx':({s with toks:=s.toks+1}:aj).heap.get? _=_:=hx;refine aa (af (aa (aa (qE hx' (aa (um.here (s:={s with toks:=s.toks+1}) (KT X hc) ?_))))));refine ag (Y ..) (af (a:=some l) (aa (af (aa ?_))));have D:({s with toks:=s.toks+1+1}:aj).heap.get? l=ac ⟨.type "dict",al,.dict es.toArray m,#[]⟩:=V;refine aa (aa (Rt (af (aa (oC (aa (qE D ?_)))))));dsimp only;refine eg (FA (name:=name) R) λg1 g2 g3=>?_;have c:(!es.toArray.any (·.key.isStr name)&&es.toArray.any (·.refKey))=am:=by simp [g1]
  refine ag (Ik ..) (ag (c ..) ?_);refine Ru D ?_;generalize hkh:(if name.cps.isEmpty then (0:Int) else _)=kh
  ((first | refine ah (lK name kh (.str name (s.toks+1)) O es (.type "dict") al m #[]) ?_ | refine aI (lK name kh (.str name (s.toks+1)) O es (.type "dict") al m #[]) ?_);intro m' S)
  have hlen:=R.length;have hpl:=xu name kh (.str name (s.toks+1)) O es;have y:=bh (wY name kh (.str name (s.toks+1)) O) V (by refine ag (S ..) ?_;rfl);rw [S] at y;refine aa (wP y (by refine Rv ?_;have:ek=16777216:=rfl;refine ag (mD ..) ?_;exact by lia) ?_);have Rn:=Nj (name:=name) rw_ kh (s.toks+1) R;have x:sB ρ (s.heap.update l (wY name kh (.str name (s.toks+1)) O)) l (.ns (nO name wv fs)):=⟨_,_,y,by exact Rn⟩;refine af ⟨_,_,ρ,_,rfl,Ev.upd G hdx V (bN ..) (nofun) (nofun) x,h⟩
theorem zU (W:dO) {v:PV} {val:ak} {name:aU} {kk:PV->List PV->Prop} {pl:iR Bool} {Q:ak × List ak->aj->Prop} {X:ak->aj->Prop} (h:meth K name st kk v) (G:aY ρ st s.heap) (J:VR ρ v val)
  (V:∀f first S fs,VR ρ f S->eI ρ first fs->kk f first->Q (S,fs) s):aw (aq prog w) A (getMethod val name pl) Q X s:=by
 induction h using meth.casesOn with
 | inst e e1 e2 e3 h=>refine VR.eloc J λY hi=>?_;refine nN (rR G (.inl e) e1 hi) λz r es m p I _ l R=>eg (CI e3) λy a1 P=>?_;exact method_fn (W.kin.keeps G.base) I (qD P).1 (qD P).2 y (beq_iff_eq.mp a1) (by show (lookIn name (dictOf es m)).map _=_;refine ag (lookIn_dict ..) (ag ((vW (name:=name) R).2 e2) ?_);rfl) (V _ _ _ _ (.ref _) (.cons (.loc hi) .nil) h)
 | append e q h=>
  cases J with | loc hi=>
  cases q;refine cK (G.at hi e) λvs m o1 O=>jH ⟨_,o1,rfl⟩ O9 tP (by kernel_rfl) (λa q=>by cases q;exact ⟨_,o1,rfl⟩) (V _ _ _ _ (.bi _) (.cons (.loc hi) .nil) h)
 | pop e q h=>
  cases J with | loc hi=>
  cases q;refine cK (G.at hi e) λvs m o1 O=>jH ⟨_,o1,rfl⟩ O9 R7 (by kernel_rfl) (λa q=>by cases q;exact ⟨_,o1,rfl⟩) (V _ _ _ _ (.bi _) (.cons (.loc hi) .nil) h)
 | dget e q h=>
  cases J with | loc hi=>
  cases q;refine ae (G.at hi e) λvs o1 O=>jH ⟨_,o1,rfl⟩ uw zb (by kernel_rfl) (λa q=>by cases q;exact ⟨_,o1,rfl⟩) (V _ _ _ _ (.bi _) (.cons (.loc hi) .nil) h)
 | dpop e q h=>
  cases J with | loc hi=>
  cases q;refine ae (G.at hi e) λvs o1 O=>jH ⟨_,o1,rfl⟩ uw RY (by kernel_rfl) (λa q=>by cases q;exact ⟨_,o1,rfl⟩) (V _ _ _ _ (.bi _) (.cons (.loc hi) .nil) h)
 | dvals e q h=>
  cases J with | loc hi=>
  cases q;refine ae (G.at hi e) λvs o1 O=>jH ⟨_,o1,rfl⟩ uw Oz (by kernel_rfl) (λa q=>by cases q;exact ⟨_,o1,rfl⟩) (V _ _ _ _ (.bi _) (.cons (.loc hi) .nil) h)
end
theorem uO {a:q9} (h:so a=au):a=⟨[],[],al,[],[],al,[]⟩:=by
 cases a with | mk p q r s t u v=>
 induction p using aX with | cons=>exact (aZ h).elim | nil=>
 induction q using aX with | cons=>exact (aZ h).elim | nil=>
 induction r using cw with | some=>exact (aZ h).elim | none=>
 induction s using aX with | cons=>exact (aZ h).elim | nil=>
 induction t using aX with | cons=>exact (aZ h).elim | nil=>
 induction u using cw with | some=>exact (aZ h).elim | none=>
 induction v using aX with | cons=>exact (aZ h).elim | nil=>rfl
section
variable {ρ:List ay} {st:List PO} {h h':bM}
theorem aY.updX (G:aY ρ st h) {a:ay} {i:Nat} {po:PO} (I:ρ[i]? =ac a) (k:∀b o,b≠a->h.get? b=ac o->h'.get? b=ac o) (l:∀o,h.get? a=ac o->¬j3 o)
  (O:∀V q,h.CodeRec V q->h'.CodeRec V q) (x:sB ρ h' a po):aY ρ (st.set i po) h':=by
 have f:B.get? a=al:=G.fresh a (aN I);refine ⟨λb o' e=>?_,G.nodup,by simp [G.len],G.fresh,λj P e=>?_⟩
 ·have W:b≠a:=by rintro rfl;exact sn e f
  exact k b o' W (G.base b o' e)
 ·by_cases S:i=j
  ·subst S;rw [bL (by refine bZ (G.len ..) ?_;exact (ao.mp I).1)] at e;refine bZ (fm e) ⟨a,I,x⟩
  ·rw [bn S] at e;refine ae (G.objs j P e) λb e1 e2=>?_;have W:b≠a:=by rintro rfl;exact S ((mC (ao.mp I).1 G.nodup).mp (I.trans e1.symm))
   refine ⟨b,e1,e2.to (λo' q=>k b o' W q) (λc Y o' q J=>?_) O⟩;exact k c o' (by rintro rfl;exact l o' q J) q
theorem xv {pos I:cP} {c:ak} (W:(I.line,I.col)≠(pos.line,pos.col)) (l:List ak) (h:Rk l) (G:wL I l=al):wL I (l++[dV pos.line,dV pos.col,c])=al:=by
 fun_induction Rk l with
 | case1=>dsimp only [cE,dV,wL];rw [if_neg];intro q;exact W (by refine ag (Prod.mk.injEq ..) ?_;exact by lia)
 | case2 a t b u v rest P=>simp only [kg];unfold wL at G ⊢;refine w5 G (λY G=>n2 G) λq G=>ag (if_neg q ..) (P h G)
 | case3=>exact h.elim
end
section
variable {n:Nat} {E:Lv} {A:bw} {fe env:Env} {pe:bD} {ρ ρ':List ay} {st st':List PO} {s:aj} {h':bM} {tk:Nat} {x:KX} {k:KV}
theorem vX {cells:List (aU × Nat)} (Y:∀y c,cells.lookup y=ac c->∃a,env.cells.lookup y=ac a∧ρ[c]? =ac a) (f:aU × fM->List (aU × ay)->iR (ForInStep (List (aU × ay))))
  (p:∀n W acc,f (n,W) acc=if W==.free then (cellOf env n>>=λa=>pure (.yield ((n,a)::acc))) else pure (.yield acc)):
  ∀(names:List (aU × fM)) (cs I:List (aU × Nat)) (acc:List (aU × ay)),gX cells names cs=ac I->(∀y c,cs.lookup y=ac c->∃a,acc.lookup y=ac a∧ρ[c]? =ac a)->
   ∃G,forIn names acc f=(pure G:iR _)∧∀y c,I.lookup y=ac c->∃a,G.lookup y=ac a∧ρ[c]? =ac a:=by
 intro l;induction l with
 | nil=>intro cs I acc h hi;exact by refine bZ (fm h) ?_;exact ⟨acc,by exact ag (l9 ..) rfl,hi⟩
 | cons O r V=>
  intro cs I acc h hi;obtain ⟨n,W⟩:=O;refine w5 h (λS h=>?_) λS h=>?_
  ·refine ae (ai.mp h) λc h1 h2=>ae (Y n c h1) λa e1 e2=>?_;obtain ⟨G,P,J⟩:=V ((n,c)::cs) I ((n,a)::acc) h2 (λy z e=>by
    rw [List.lookup_cons] at e ⊢;split at e
    ·refine bZ (fm e) ⟨a,rfl,e2⟩
    ·exact hi y z e)
   refine ⟨G,?_,J⟩;refine ag (fU ..) (ag (p ..) (ag (if_pos (by rw [S];rfl) ..) ?_));unfold cellOf;refine ag (e1 ..) P
  ·refine ae (V cs I acc h hi) λG P J=>⟨G,?_,J⟩;refine ag (fU ..) (ag (p ..) (ag (if_neg (by simpa using S) ..) ?_));exact P
theorem sK (F:eH ρ s.heap env pe) {scope:d9} {cs:List (aU × Nat)} (h:gX pe.cells scope.names []=ac cs):
  ∃G,closureFor scope env=pure G∧∀y c,cs.lookup y=ac c->∃a,G.lookup y=ac a∧ρ[c]? =ac a:=by
 obtain ⟨G,h1,h2⟩:=vX (env:=env) (ρ:=ρ) F.cells (λx cs=>do
   let (name,kind):=x
   if kind==.free then do let a ← cellOf env name;pure (fV ((name,a)::cs)) else pure (fV cs)) (λn S acc=>rfl) scope.names [] cs [] h (λy c e=>by exact n1 e)
 refine ⟨G,?_,h2⟩;exact (congrArg (λt=>t>>=λz=>(pure z:iR _)) h1).trans rfl
theorem FC {args:q9} {body:aC} {scope:d9} {pos:cP} {cs:List (aU × Nat)} {i:Nat} {P:ay} {used:List (Nat × Nat)} (Bs:dO) (h1:so args=au) (h2:scope.kind=.function) (h3:scope.isGenerator=am) (h4:scope.isCoroutine=am) (h5:(scope.names.all λp=>decide (p.2≠.cell))=au)
  (h6:gX pe.cells scope.names []=ac cs) (h7:pe.tab=ac i) (h8:st[i]? =ac (.codes P used)) (h9:(pos.line,pos.col)∉used)
  (h:k (.loc st.length) (st.set i (.codes P ((pos.line,pos.col)::used))++[.lam ⟨body,scope,cs⟩])) (G:aY ρ st s.heap) (F:eH ρ s.heap env pe):
  aw (aq prog w) A (eM (.Lambda args body scope pos) env) (hV s ρ k) (XK s ρ x) s:=by
 refine ae (sK F h6) λO hcl J=>bz (F.tab i h7) λc P' t1 t2 l=>?_;obtain ⟨e2,ps,hP,f,hn⟩:=G.at l h8;cases e2;have hB:B.get? P=al:=G.fresh P (aN l);refine sd Bs.bmain λmg bm ob b1 b2 b3 b4 r b6 b7 b8=>?_;have hgP:cJ≠P:=λq=>by refine gy b1 λo es ep e _=>?_;clear b1;rw [q,hB] at e;exact n1 e
 refine kla_eval (by refine ag ((uO h1) ..) ?_;rfl) ?_;refine kla_makeFunction (mg:=mg) (ps:=ps) hcl F.glob (b1.keeps G.base) t1 (t2.keeps G.base) hP f (hn pos h9) hgP ⟨bm,ob,b2,b3,b4,(λq=>by rw [q,hB] at r;exact n1 r),G.base _ _ r,b6,b7,b8⟩ λc' ctv I tk2 hx hge hlt S htb=>?_;have hcr:∀cd q,s.heap.CodeRec cd q->I.CodeRec cd q:=by intro cd q W;refine fI W ?_;clear W;intro cc o vs t r1 r2 r3 r4;refine ⟨cc,o,vs,t,r1,hx cc o (λz=>?_) r2,r3,r4⟩;rw [z,hP] at r2;obtain rfl:=fm r2;cases r3;exact triples_no_str f _ _ (by simpa using r4)
 have G2:aY ρ (st.set i (.codes P ((pos.line,pos.col)::used))) I:=by
  refine G.updX l (λb o hb e=>hx b o hb e) (λo e=>by refine bZ (ss hP e) ?_;simp [j3]) hcr ⟨rfl,_,htb,?_,λp2 V=>?_⟩
  ·simpa using TriplesOk_snoc _ _ _ _ f
  ·rw [bj,not_or] at V;simpa using xv V.1 ps.toList f (hn p2 V.2)
 have G3:aY (ρ++[I.objs.size]) (st.set i (.codes P ((pos.line,pos.col)::used))++[.lam ⟨body,scope,cs⟩]) (I.push (kla_obj "<lambda>" (env.qual++ "<lambda>") args body scope O ((mg "__name__").getD .none) c' ctv)):=by refine G2.add (λb o e=>az _ e) (aS (aG _)) ⟨_,_,_,_,aM _ rfl,rfl,⟨rfl,rfl,rfl,rfl,S.keeps λb o e=>az _ e,rfl,h1,λy c e=>?_⟩⟩;refine ae (J y c e) λa q1 W=>?_;exact ⟨a,q1,by refine ag (ax (ao.mp W).1) ?_;exact W⟩
 refine ⟨_,tk2,_,_,.loc st.length,rfl,⟨⟨[I.objs.size],rfl,by simpa using (aS (df hge (cj hlt)))⟩,G3,λb o e hb=>?_⟩,.loc (by refine bZ (G.len ..) ?_;simp),h⟩;exact ⟨o.slots,az _ (hx b o (λz=>hb (z▸aN l)) e),λY=>rfl⟩
theorem FD (Bs:dO) (S:cL n E) {i:Nat} {args:List PV} {fv:ak} {vs:List ak} {l:Pm} (hl:st[i]? =ac (.lam l)) (ha:args=[]) (hok:Bw l=au) (h:E.ev l.body ⟨l.scope,[],l.cells,al⟩ st k x) (M:eW A ρ s.heap fe (n+1)) (G:aY ρ st s.heap) (rf:VR ρ (.loc i) fv) (ra:eI ρ args vs):
  aw (aq prog w) A (call fv vs []) (hV s ρ k) (XK s ρ x) s:=by
 subst ha;refine ag (eI.inil ra) ?_;cases rf with
 | @loc _ f hi=>
 refine gS (G.at hi hl) λcl di fd sl ho hcl L=>?_;unfold Bw at hok;simp only [bq,beq_iff_eq,dJ,co,decide_eq_true_eq] at hok;refine ah hok λpa0 hcell=>?_;clear hok;(first | refine ah pa0 λV hco=>?_;clear pa0;refine ah V λJ r=>?_;clear V | refine aI pa0 λV hco=>?_;clear pa0;refine ah V λJ r=>?_;clear V | obtain ⟨⟨J,r⟩,hco⟩:=pa0);rw [← L.scope] at J r hco hcell;have I:=uO (L.params);have hB:=k7 (s:=s) (fd:=fd) (vs:=[]) (ds:=[]) (by rw [I]) (by rw [I]) (by rw [I]) (by rw [I]) (by rw [I];simp) (by simp) (by rw [I];simp) (by simp) (.inl ⟨L.dflt,rfl⟩);rw [show (fd.params.args.map (·.arg)).zip (([]:List ak)++([]:List ak).drop (([]:List ak).length - (fd.params.args.length - ([]:List ak).length)))=[] by rw [I];rfl] at hB;refine kl (kla_callFunE (by have:=M.depth;exact TK ‹_›) ho rfl hco r L.body L.code (hB _ _ _ _ ?_));refine ag (L.glob ..) (ag (L.blt ..) ?_);refine qF hcell (by simp) (λz hns hsb=>⟨(Bs.nolimit.keeps G.base).fresh _ hsb,kla_codeExpr ?_⟩) J;have P:∀b o,s.heap.get? b=ac o->z.get? b=ac o:=λb o e=>hsb.extBut b o (oD (lA e)) (az _ e);generalize hL:s.heap.objs.size=Lf at hns ⊢;have hLn:s.heap.get? Lf=al:=by rw [← hL];exact aS (aG _)
 have hLB:B.get? Lf=al:=by
  cases q:B.get? Lf with
  | none=>rfl
  | some o=>have:=G.base _ _ q;exact sn this hLn
 have Y:Lf∉ρ:=λm=>by refine aI (G.here m) λo e=>?_;exact sn e hLn
 generalize W:OA fd.scope Lf cJ fd.closure (fd.qualname++ ".<locals>.") (ac f) fd.code al jj=env;have hesc:env.scope=fd.scope:=by rw [← W];rfl
 have O:env.locals=Lf:=by rw [← W];rfl
 have p:env.frame=ac env.locals:=by rw [← W];rfl
 have F1:eH ρ z env ⟨l.scope,[],l.cells,al⟩:=by refine ⟨hesc.trans L.scope,by rw [← L.scope];exact J,by rw [← W];rfl,by rw [← W];rfl,⟨_,O▸hns,λy pv e el=>by exact n1 e⟩,O▸Y,O▸hLB,λy c e=>?_,λi e=>by exact n1 e⟩;refine ae (L.cells y c e) λa q1 q2=>⟨a,by rw [← W];exact q1,q2⟩
 refine ae M.frames λouter hA hFr=>?_;have FL:jK ρ z (env::fe::outer):=by
  intro ev hev;rcases bj.mp hev with e | hev
  ·refine ag (e ..) (ae F1.some λo q dd=>?_);exact ⟨by rw [hesc,J];decide,env.locals,o,p,O▸hLB,O▸Y,q,dd⟩
  ·obtain ⟨hk,L',o,q1,q2,q3,q4,q5⟩:=hFr ev hev;exact ⟨hk,L',o,q1,q2,q3,P _ _ q4,q5⟩
 have hfr:(A.deeper env).frames=ac (env::fe::outer):=by show A.frames.map (env::·)=_;rw [hA];rfl
 refine aP (S.ev l.body _ st k x h (A.deeper env) env env ρ {s with heap:=z,toks:=s.toks+0} (⟨M.handled,by have:=M.depth;show A.depth+1+n≤900;exact RH ‹_›,by have:=M.units;show A.units+3+10*n≤9000;exact TJ ‹_›,⟨_,hfr,FL⟩,M.guards⟩) (G.sub P) F1) (λv s2 hv=>?_) λe s2 hx=>?_
 ·exact hv.pre G (Ev.sub G P)
 ·refine cY hx λh2 t2 ρ2 st2 i eq5 y xr q=>?_;clear hx;refine ag eq5 ?_;have y':Ev ρ s.heap ρ2 st2 h2:=(Ev.sub G P).trans G y;refine Ly (h₀:=s.heap) (st:=st2) hfr (FL.go y) p y.good (λb hb=>y'.there G hb) (xr.early λb hb=>by refine aI (bd.mp hb) λo e=>?_;rw [P b o e];rfl) λh3 sta xr3=>?_;exact ⟨h3,t2,ρ2,st2,i,rfl,sta.ev y',xr3.x,q⟩
theorem pg:pR.contains "type.__call__"=am:=by decide+kernel
theorem zV {N:vf->Prop} (Cl:wU N) {C:ay} {h:bM} {g:_} {d:_} {t:_} {os:_} {R:jk->aj->Prop} {rest:List ak} {init:ak} (Y:Makes (aq prog w) h C) (hi:um (aq prog w) h (eB (.ref C) "__init__") (ac init))
  (V:∀self,um (aq prog w) h (Vw init self) (init,[self])) (W:(ac init !=ac (ak.builtin "object.__init__"))=au)
  (l:fR N (aq prog w) (A.under (.builtin "type.__call__" ⟨.ref C::rest,[]⟩)) (.call init ⟨.ref (h.objs.size+1)::rest,[]⟩) (InitBack (h.objs.size+1) R) ⟨(h.push lC).push (ux C h.objs.size),g,d,t,os⟩):
  fR N (aq prog w) A (.call (.ref C) ⟨rest,[]⟩) R ⟨h,g,d,t,os⟩:=by
 have O:=Y;obtain ⟨⟨oc,od,P,sl,I,e1,e2,S⟩,made,base,self,y,call,G⟩:=Y;refine fJ Cl (fS ?_);refine nd_load I ?_;show aw _ _ (callAny.viaDunder (.ref C) _) _ _ _;refine aa (call.at ?_);dsimp only;refine ag (tc_bind ..) (aa (af (aa (af ?_))));refine af (a:=Fin.again (.call (.builtin "type.__call__") ⟨.ref C::rest,[]⟩)) ⟨rfl,rfl,jZ Cl (gH _ (by decide+kernel)) pg (Bj tc_kind tc_split G (tc_args _ _ _) (kX Cl Tl ?_))⟩;have f:um (aq prog w) h (mroOf (.ref C)) P.mro:=((KU (part:=none) I).andThen .now).andThen .now;refine cF (f.here ?_);refine ag (S ..) (ag (if_neg aZ ..) ?_);refine cF (made.at ?_);refine cF (af (cF (bc ?_)));refine kl (new_K O hi (.inl W) ?_);have k:∀b o,h.get? b=ac o->((h.push lC).push (ux C h.objs.size)).get? b=ac o:=λb o e=>az _ (az _ e);have J:um (aq prog w) ((h.push lC).push (ux C h.objs.size)) (Tm (.ref (h.objs.size+1))) (.ref C):=(KU (by heap_get)).andThen .now;have p:um (aq prog w) ((h.push lC).push (ux C h.objs.size)) (jo (.ref (h.objs.size+1)) (.ref C)) au:=J.andThen (self.keeps k);refine cF (p.here ?_);refine bY (gf ?_);refine cF (aa (J.here ((hi.keeps k).here ?_)));refine gf (cF (((V (.ref (h.objs.size+1))).keeps k).here (bY (li Cl (jd l λr s' z=>?_)))));rcases r with e | (v | _ | _ | _)<;> first | exact z | exact z.elim | skip
 (refine ah z ?_;clear z;intro e0 z;refine ag e0 ?_);exact cQ (cQ z)
theorem uP {N:vf->Prop} (Cl:wU N) (V:dO) (S:fK N n E) {C ini:ay} {args:List PV} {vs:List ak} (hi:nR K C=ac ini) (h:E.call (.ref ini) (.loc (st.length+1)::args) (st++[.ns [],.inst C st.length]) (λv st1=>v=.none∧k (.loc (st.length+1)) st1) (λJ J=>False))
  (M:eW A ρ s.heap fe (n+1)) (G:aY ρ st s.heap) (ra:eI ρ args vs):
  fE N (aq prog w) A (call (.ref C) vs []) (hV s ρ k) (XK s ρ x) s:=by
 refine ae (rK K hi) λf hf hi=>ah (jM hi) λp q=>?_;subst q;simp only [bq] at p;refine ah p λP a3=>?_;clear p;refine ah P λa1 a2=>?_;clear P;refine li Cl ?_;obtain ⟨I,g,d,t,os⟩:=s;refine zV Cl (makes_of (V.kin.keeps G.base) a2) (oE (V.kin.keeps G.base) hf) (λself=>bind_fn (V.kin.keeps G.base) self (beq_iff_eq.mp a1)) rfl ?_;have Y1:=Ev.push (po:=.ns []) G lC rfl ⟨#[],0,aM _ rfl,.nil⟩;have Y2:=Ev.push (po:=.inst C st.length) Y1.good (ux C I.objs.size) rfl ⟨I.objs.size,by refine ag (ax (by simp [G.len])) ?_;refine bZ (G.len ..) ?_;simp,aM _ rfl⟩;have Y:=Y1.trans G Y2;have e0:(I.push lC).objs.size=I.objs.size+1:=qG ..;rw [e0] at Y Y2;have MU:eW (A.under (.builtin "type.__call__" ⟨.ref C::vs,[]⟩)) (ρ++[I.objs.size]++[I.objs.size+1]) ((I.push lC).push (ux C I.objs.size)) fe n:=by have O:=(M).go Y;refine ⟨O.handled,by have:=O.depth;show A.depth+1+n≤900;exact RH ‹_›,by have:=O.units;show A.units+1+10*n≤9000;exact Ur ‹_›,?_,O.guards⟩;refine ae O.frames λo q1 q2=>⟨o,q1,q2⟩
 have rl:VR (ρ++[I.objs.size]++[I.objs.size+1]) (.loc (st.length+1)) (.ref (I.objs.size+1)):=.loc (by
  have:(ρ++[I.objs.size]).length=st.length+1:=by simp [G.len]
  refine bZ (this ..) ?_;simp)
 refine jd (S.fn _ _ (st++[.ns [],.inst C st.length]) _ _ a3 h _ fe _ ⟨(I.push lC).push (ux C I.objs.size),g,d,t,os⟩ _ MU (by simpa using (Y.good)) (.cons rl (Y.pres ra))) λr s' z=>?_;rcases r with e | fl
 ·refine cY z λ_ _ _ _ _ _ _ _ f=>?_;clear z;exact False.elim f
 ·induction fl with
  | ret v=>refine iA z λh2 t2 ρ2 st2 pv W y r l q=>?_;clear z;refine ag W ?_;subst l;refine ag (VR.inone r) ⟨rfl,h2,t2,ρ2,st2,_,rfl,Y.trans G y,y.pre rl,q⟩
  | _=>exact z
theorem FE (J:dO) (S:cL n E) {C ini:ay} {args:List PV} {vs:List ak} (hi:nR K C=ac ini) (h:E.call (.ref ini) (.loc (st.length+1)::args) (st++[.ns [],.inst C st.length]) (λv I=>v=.none∧k (.loc (st.length+1)) I) (λY Y=>False))
  (M:eW A ρ s.heap fe (n+1)) (G:aY ρ st s.heap) (V:eI ρ args vs):
  aw (aq prog w) A (call (.ref C) vs []) (hV s ρ k) (XK s ρ x) s:=
 jz (uP rM J S.toN hi h M G V)
end
section
variable {n:Nat} {E:Lv} {A:bw} {fe env:Env} {pe:bD} {ρ ρ':List ay} {st st':List PO} {s:aj} {h':bM} {tk:Nat} {x:KX} {k:KV}
theorem sM {es:List aC} (h:es.all cx=au) (env:Env):dY es env=es.map λe=>(am,eM e env):=by
 induction es with
 | nil=>rfl
 | cons e r P=>refine ah (aD.mp h) λh1 h2=>?_;exact (uH env r h1).trans (congrArg _ (P h2))
theorem iH {es:List aC} (h:es.all cx=au) (pos:cP) (env:Env):iU pos (dY es env)=es.map λe=>(am,eM e env):=by refine ag (sM h ..) ?_;unfold iU;refine ag (bx ..) ?_;rfl
theorem sN {N:vf->Prop} {M:l4} {Q:UZ->aj->Prop} {X:ak->aj->Prop} {es:List aC} {pos:cP} {f:ak} (G:es.all cx=au) (h:fE N M A (mA (iU pos (dY es env))) (λvs W=>Q ⟨vs,[]⟩ W) X s):
  fE N M A (S7 f au (iU pos (dY es env)) []) Q X s:=by
 rw [iH G] at h ⊢;clear G;have tail:∀(l:List (Bool × iR ak)),fE N M A (mA l) (λvs W=>Q ⟨vs,[]⟩ W) X s->fE N M A (mA l) (λvs W=>fE N M A (lx (vs++(al:Option ak).toList) do
   let kw:=(([]:List (Option aU × iR ak)).filterMap (·.1)).zip (← evalAll (([]:List (Option aU × iR ak)).map (·.2)))
   let p ← (pure vs:iR (List ak))
   pure (⟨p,kw⟩:UZ)) Q X W) X s:=λl hl=>
  cf hl (λvs W V=>gf (bY (cQ (bY (cQ (cQ V)))))) λY Y z=>z
 induction es using aX with
 | nil=>refine bY (cf (tail _ h) (λvs W V=>?_) λY Y z=>z);exact V
 | cons e r=>refine bY (cf (tail _ h) (λvs W V=>?_) λY Y z=>z);exact V
theorem uQ {M:l4} {Q:UZ->aj->Prop} {X:ak->aj->Prop} {es:List aC} {pos:cP} {f:ak} (I:es.all cx=au) (h:aw M A (mA (iU pos (dY es env))) (λvs W=>Q ⟨vs,[]⟩ W) X s):
  aw M A (S7 f au (iU pos (dY es env)) []) Q X s:=jz (sN I λJ p G Y=>h J p G)
theorem nY {N:vf->Prop} (Bs:dO) (S:fK N n E) {f:PV} {W:ak} {first:List PV} {O:List ak} {args:List aC} {pos:cP} (hs:args.all cx=au) (hl:args.length <20)
  (h:tT E pe x args st λvs V=>oO K f V∧E.call f (first++vs) V k x) (M:eW A ρ s.heap fe n) (G:aY ρ st s.heap) (F:eH ρ s.heap env pe) (rf:VR ρ f W) (rfs:eI ρ first O):
  fE N (aq prog w) A (Ba pos W O (iU pos (dY args env)) (Bk pos (qH [] env))) (hV s ρ k) (XK s ρ x) s:=by
 show fE N (aq prog w) A (Ba pos W O (iU pos (dY args env)) []) _ _ _;have J:((iU pos (dY args env)).any (·.1) ||([]:List (Option aU × iR ak)).any (·.1.isNone))=am:=by refine ag (iH hs ..) ?_;simp
 refine vB (P:=λh2=>∃p,(p=UX∨p=S6∨p=OV)∧um (aq prog w) h2 (keeperOf W) p) J (λY h=>h) (sN hs (cf (nW S args st ρ s _ h M G F) (λvs s' hv=>?_) λY Y z=>z));refine iA hv λh2 t2 ρ2 V pvs eq5 y r I q=>?_;clear hv;refine ag eq5 ⟨?_,Fj G y (S.call _ _ _ _ _ q A fe ρ2 _ _ _ (M.go y) y.good (y.pre rf) ((y.pres rfs).append r))⟩;induction (y.pre rf) using VR.casesOn with
 | ref a=>exact keeps_K I h2 (Bs.kin.keeps y.good.base)
 | bi id=>exact ⟨.machine,.inr (.inl rfl),.now⟩
 | ty n=>exact ⟨.machine,.inr (.inl rfl),.now⟩
 | @loc i a hi=>
  refine aI I λl hl=>?_;clear I;obtain ⟨a',e1,cl,di,fd,sl,ho,_⟩:=y.good.objs _ _ hl;rw [hi] at e1;obtain rfl:a=a':=by injection e1
  exact ⟨.frame,.inl rfl,(KU (part:=none) ho).andThen .now⟩
 | _=>exact I.elim
theorem OK (V:dO) (S:cL n E) {f:PV} {P:ak} {first:List PV} {I:List ak} {args:List aC} {pos:cP} (W:args.all cx=au) (hl:args.length <20)
  (h:tT E pe x args st λvs J=>oO K f J∧E.call f (first++vs) J k x) (M:eW A ρ s.heap fe n) (G:aY ρ st s.heap) (F:eH ρ s.heap env pe) (l:VR ρ f P) (O:eI ρ first I):
  aw (aq prog w) A (Ba pos P I (iU pos (dY args env)) (Bk pos (qH [] env))) (hV s ρ k) (XK s ρ x) s:=jz (nY V S.toN W hl h M G F l O)
theorem sP {o:aC} {name:aU} {t:iR ak} (h:ju o=au):Uf o name env t=t:=by rcases o with _ | _ <;> first | rfl | exact n3 h
theorem xw {N:vf->Prop} {o:aC} {name:aU} {W pos:cP} {args:List aC} (P:dO) (S:fK N n E) (h1:ju o=au) (h2:args.length <20) (l:args.all cx=au) (h4:(W.endLine==pos.line)=au)
  (h:E.ev o pe st (λov I=>meth K name I (λf first=>tT E pe x args I λvs J=>oO K f J∧E.call f (first++vs) J k x) ov) x) (M:eW A ρ s.heap fe n) (G:aY ρ st s.heap) (F:eH ρ s.heap env pe):
  fE N (aq prog w) A (eM (.Call (.Attribute o name W) args [] pos) env) (hV s ρ k) (XK s ρ x) s:=by
 refine ag (arm_eval_Call ..) (ag (sP h1 ..) ?_);refine bY (lk S h M G F (λY Y z=>z) λh' tk' ρ' st' pv v y r V p rv q=>?_);refine cF (cr ?_);refine cF (bc ?_);have e2:Tn (args.length+([]:List OT).length) (iU pos (dY args env)) (Bk pos (qH [] env))=au:=by unfold Tn;refine ag (iH l ..) ?_;have:(Bk pos (qH [] env))=[]:=rfl;refine ag (this ..) ?_;simp;exact by lia
 refine ag (e2 ..) ?_;refine zU P q V rv λf first fv fs rf O q2=>?_
 have e3:Ug au o env W pos=pure pos:=by unfold Ug;exact ag (if_pos (by rw [h4];rfl) ..) rfl
 refine ag (e3 ..) (bY (cQ ?_));exact Fj G y (nY P S l h2 q2 r V p rf O)
theorem Jc {o:aC} {name:aU} {W pos:cP} {args:List aC} (O:dO) (S:cL n E) (h1:ju o=au) (h2:args.length <20) (P:args.all cx=au) (V:(W.endLine==pos.line)=au)
  (h:E.ev o pe st (λl I=>meth K name I (λf first=>tT E pe x args I λvs J=>oO K f J∧E.call f (first++vs) J k x) l) x) (M:eW A ρ s.heap fe n) (G:aY ρ st s.heap) (F:eH ρ s.heap env pe):
  aw (aq prog w) A (eM (.Call (.Attribute o name W) args [] pos) env) (hV s ρ k) (XK s ρ x) s:=jz (xw O S.toN h1 h2 P V h M G F)
theorem Nk {a:aC} {name:aU} {pos:cP} (P:dO) (S:cL n E) (h1:ju a=au) (h:E.ev a pe st (λv O=>attr K E v name O k) x) (M:eW A ρ s.heap fe (n+1)) (G:aY ρ st s.heap) (F:eH ρ s.heap env pe):
  aw (aq prog w) A (eM (.Attribute a name pos) env) (hV s ρ k) (XK s ρ x) s:=by
 refine ag (OC ..) (ag (sP h1 ..) ?_);refine aa (aP (S.ev a pe st _ x h A fe env ρ s M.less G F) (λv W I=>?_) λY Y z=>z);refine cY I λh' l ρ' st' V J y r q=>?_;clear I;refine ag J (aa (cr (aa (bc ?_))));refine aP (sC G y (zT P S q (M.go y) y.good r)) (λv W I=>?_) λY Y z=>z;exact aa (qC (af I))
theorem zW {a b:PV} {va p:ak} {X:ak->aj->Prop} (z:A.units+10 <cT) (h:jN b st k a) (G:aY ρ st s.heap) (V:VR ρ a va) (W:VR ρ b p) {e i:aC}:
  aw (aq prog w) A (Ed e i va p) (hV s ρ k) X s:=by
 induction h using jN.casesOn with
 | @list _ xs j v J hb hl hc h=>
  refine VR.eloc V λY hi=>?_;subst hb;refine VR.eint W λt=>cK (G.at hi J) λvs m o1 S=>?_;have f:xs.length=vs.size:=S.length.trans bu;rcases hc with ⟨h0,h1,I⟩ | ⟨rfl,I⟩
  ·refine ae (S.get I) λvv P O=>?_;exact jv ⟨_,o1,rfl⟩ iV (wpAny_getItem_list ⟨_,o1,rfl,_,rfl⟩ h0 (by lia) (by refine bZ (cH) ?_;exact P) (jO G O h))
  ·rw [Cn] at I;refine ae (S.get I) λvv P O=>?_;have l:0 <xs.length:=dy (kE _) (ao.mp I).1;refine jv ⟨_,o1,rfl⟩ iV (wpAny_getItem_list_neg (x:=vv) ⟨_,o1,rfl,_,rfl⟩ (by decide) (by lia) (by decide) ?_ (jO G O h));rw [show ((-1:Int)+(vs.size:Int)).toNat=xs.length - 1 from Uy.trans (congrArg (· - 1) (by first | assumption | exact U9 (by assumption))),← cH];exact P
 | @tup _ xs j v J hb h0 h1 hl I h=>refine VR.eloc V λY hi=>?_;subst hb;refine VR.eint W λt=>cK (G.at hi J) λvs m o1 S=>ae (S.get I) λvv P O=>?_;rw [cH] at P;have y:=(Bg.mp P).1;refine jv ⟨_,o1,rfl⟩ PyProof.Rows.slot_tuple_getitem.lookup (PyProof.Rows.getItem_tuple (j:=j.toNat) (x:=vv) ⟨_,o1,rfl,_,rfl⟩ (by lia) (by lia) ?_ P (jO G O h));simp only [seqIndex?,if_neg (Int.not_lt.mpr h0),(show (decide (0≤j)&&decide (j <(vs.size:Int)))=au by simp;lia),if_true]
 | dict J h1 h2 h=>refine VR.eloc V λY hi=>?_;refine ae (G.at hi J) λdes o1 _=>jv ⟨_,o1,rfl⟩ ut.lookup (CE z G hi J W h1 h2 λtk v r=>qN G r h)
end
theorem jB:U5 "bytearray" "__getitem__" "bytearray.__getitem__":=
 .of (owner:= "bytearray") (n:= "__getitem__") (by refine ag (cV ..) (ag (bS ..) ?_);kernel_rfl) (by decide+kernel) (by decide+kernel) (by decide+kernel)
  (by first | exact .inl (by decide+kernel) | exact .inr (by decide+kernel)) (by rw [bQ];kernel_rfl)
theorem qd:l7 un "bytearray.__getitem__"=ac Builtin.«bytearray.__getitem__»:=km (by kernel_rfl)
theorem rA (a b:ak):OD "bytearray.__getitem__" ⟨[a,b],[]⟩:=by kernel_rfl
theorem xy:U5 "bytearray" "__len__" "bytearray.__len__":=
 .of (owner:= "bytearray") (n:= "__len__") (by refine ag (cV ..) (ag (bS ..) ?_);kernel_rfl) (by decide+kernel) (by decide+kernel) (by decide+kernel)
  (by first | exact .inl (by decide+kernel) | exact .inr (by decide+kernel)) (by rw [bQ];kernel_rfl)
theorem vY:l7 un "bytearray.__len__"=ac Builtin.«bytearray.__len__»:=km (by kernel_rfl)
theorem xz (a:ak):OD "bytearray.__len__" ⟨[a],[]⟩:=by kernel_rfl
noncomputable def xA (v:ak):iR ak:=do
 if v==.none then return .none
 if (← specialOf v "__index__").isNone then
  rule "bytes.slice.part-no-index";raiseError "TypeError" "slice indices must be integers or None or have an __index__ method"
 return dV (← asIndex v)
theorem CJ (s:ak):Builtin.Bytes.sliceParts s=(do
  let Cq ← xA (← OW s 2)
  if Cq==dV 0 then rule "bytes.slice.step-zero";raiseError "ValueError" "slice step cannot be zero"
  let start ← xA (← OW s 0)
  let stop ← xA (← OW s 1)
  return (start,stop,Cq)):=rfl
theorem mZ {M:l4} {A:bw} {E:ak->aj->Prop} {s:aj} {v:ak} {k:Option Int} {Q:ak->aj->Prop} (G:IsPart v k) (h:Q (rawPart k) s):aw M A (xA v) Q E s:=by
 induction G with
 | none=>exact af h
 | int i t=>unfold xA;refine ag (if_neg (show ¬((Es i t==dg)=au) from aZ) ..) ?_;refine aa (cM (T:= "int") (ia s i t) int_index ?_);exact aa (cO (a:=i) rfl (af h))
theorem zX (b:Array UInt8):Builtin.Bytes.sliced b 0 b.size 1=b:=by
 delta Builtin.Bytes.sliced sliceRange;have e:(if (1:Int)>0 then (if (0:Int)<b.size then ((b.size:Int) - 0+1 - 1) / 1 else 0) else (if (0:Int)>b.size then ((0:Int) - b.size - 1 - 1) / (-1) else 0)).toNat=b.size:=by simp only [if_pos (show (1:Int)>0 by decide)];split <;> simp <;> lia
 dsimp only;refine ag (e ..) ?_;have:((dU b.size).map λ(k:Nat)=>((0:Int)+1*(k:Int)).toNat)=dU b.size:=by refine ag (L9 (g:=id) (λk Y=>by simp) ..) ?_;simp
 exact ag (this ..) (ag (krv_all ..) rfl)
section
variable {A:bw} {E:ak->aj->Prop} {s:aj}
theorem nZ {l:ay} {b:Array UInt8} {Q:Array UInt8->aj->Prop} (V:s.heap.get? l=ac ⟨.type "bytearray",al,.bytearray b 0,#[]⟩) (h:Q b s):aw (aq prog w) A (Iv (.ref l)) Q E s:=by exact aa (aa (gD V (af (af h))))
theorem zY {l O:ay} {b:Array UInt8} {W P:ow} {Q:ak->aj->Prop} (V:s.heap.get? l=ac ⟨.type "bytearray",al,.bytearray b 0,#[]⟩) (S:s.heap.IsSliceOf O (.int 0 W) (.int b.size P) .none) (f:b.size≤1000)
  (h:Q (.ref s.heap.objs.size) {s with heap:=s.heap.push {cls:=.type "bytearray",data:=.bytearray b}}):aw (aq prog w) A (rj (.ref l) (.ref O)) Q E s:=by
 refine bP (id S) λos G I J=>?_;unfold rj;try with_reducible refine bc ?_
 refine aa (ur (⟨_,V,rfl⟩) (by decide) ?_);refine aa (ck (name:=eC "__getitem__") (⟨_,V,rfl⟩) jB
  (bo jB (⟨_,V,rfl⟩) qd ?_ (rA _ _)))
 show aw _ _ (Builtin.Bytes.subscript? (.ref O)>>=_) _ _ s;refine aa (aa (cM (⟨os,G,I⟩) slice_no_index ?_));refine af (aa (ly (⟨os,G,I⟩) ?_));refine mu (by decide) (ag (CJ ..) ?_);refine aa (aa (dp G J (x:=.none) rfl (aa (mZ .none ?_))));refine mu (by decide) (aa (dp G J (x:=.int 0 W) rfl (aa (mZ (.int 0 W) ?_))));refine aa (dp G J (x:=.int b.size P) rfl (aa (mZ (.int _ P) (af ?_))));refine aa (nZ V ?_);refine aa (cO (sliceIndices_raw (ac 0) (ac b.size) al b.size (nofun)) ?_);have e:Vx (ac 0) (ac (b.size:Int)) al b.size=((0:Int),(b.size:Int),(1:Int)):=by unfold Vx;simp only [Option.getD_none,if_neg (show ¬((b.size:Int)<0) by exact by lia)];simp;exact rfl
 refine ag (e ..) ?_;dsimp only;refine ag (zX ..) (aa (cX (af ⟨_,rfl,af h⟩) ?_));show b.size≤ek;have:ek=16777216:=rfl;exact by lia
theorem xB {v:ak} {T id:String} {p:Builtin} {n:Nat} {Q:ak->aj->Prop} (O:s.TypeIs v T) (slot:U5 T "__len__" id) (entry:l7 un id=ac p) (args:OD id ⟨[v],[]⟩) (P:n≤1000)
  (G:∀(A:bw) (J:ak->aj->Prop),J (.int n s.toks) {s with toks:=s.toks+1}->aw (aq prog w) A (p ⟨[v],[]⟩) (λI W=>∃r,I=.done (.ret r)∧J r W) E s)
  (h:Q (.int n (s.toks+1)) {s with toks:=s.toks+1+1}):aw (aq prog w) A (call (.builtin "len") [v]) Q E s:=by
 refine Calls.call_function_entry kind_len plain_len entry_len (args_len1 _) (aa (m:=oneArg "len" _) (af ?_));refine aa (m:=callSpecial? v (eC "__len__")) (ck (name:=eC "__len__") O slot
  (bo slot O entry (G _ _ ?_) args))
 refine aa (bc (af ?_));refine aa (wX ?_);refine mu (by lia) (mu (by lia) ?_);exact aa (KW (af ⟨_,rfl,h⟩))
theorem Nl {l:ay} {b:Array UInt8} {Q:ak->aj->Prop} (V:s.heap.get? l=ac ⟨.type "bytearray",al,.bytearray b 0,#[]⟩) (G:b.size≤1000) (h:Q (.int b.size (s.toks+1)) {s with toks:=s.toks+1+1}):
  aw (aq prog w) A (call (.builtin "len") [.ref l]) Q E s:=
 xB ⟨_,V,rfl⟩ xy vY (xz _) G (λA I q=>by show aw _ _ (Iv (.ref l)>>=_) _ _ s;exact aa (nZ V (aa (KW (af ⟨_,rfl,q⟩))))) h
theorem CK {d:ay} {des:Array cz} {m:Nat} {Q:ak->aj->Prop} (hd:(d==gi)=am) (V:s.heap.get? d=ac ⟨.type "dict",al,.dict des m,#[]⟩) (G:des.size≤1000)
  (h:Q (.int des.size (s.toks+1)) {s with toks:=s.toks+1+1}):aw (aq prog w) A (call (.builtin "len") [.ref d]) Q E s:=
 xB ⟨_,V,rfl⟩ F.slot_dict_len F.entry_dict_len (F.args_dict_len_1 _) G (λA I q=>by show aw _ _ (dictSize d>>=_) _ _ s;refine aa (aa (cb V rfl (af ?_)));show aw _ _ (Builtin.Dict.pendingCount d>>=_) _ _ s;refine aa (wpAny_pendingCount_other hd ?_);exact aa (KW (af ⟨_,rfl,by exact q⟩))) h
end
section
variable {n:Nat} {E:Lv} {A:bw} {fe env:Env} {pe:bD} {ρ ρ':List ay} {st st':List PO} {s:aj} {h':bM} {tk:Nat} {x:KX} {k:KV}
theorem nA {vs:List ak} {p:PV} (r:eI ρ [p] vs):∃v,vs=[v]∧VR ρ p v:=by refine cN r.inv λ_ _ G=>?_;obtain ⟨rfl,a,r⟩:=G;refine ag r.inv ⟨_,rfl,a⟩
theorem ph {vs:List ak} {p q:PV} (r:eI ρ [p,q] vs):∃v u,vs=[v,u]∧VR ρ p v∧VR ρ q u:=by refine cN r.inv λ_ _ G=>?_;obtain ⟨rfl,a,r⟩:=G;refine cN r.inv λ_ _ G=>?_;obtain ⟨rfl,b,r⟩:=G;refine ag r.inv ⟨_,_,rfl,a,b⟩
theorem FF {vs:List ak} {p q o:PV} (r:eI ρ [p,q,o] vs):∃v u t,vs=[v,u,t]∧VR ρ p v∧VR ρ q u∧VR ρ o t:=by refine cN r.inv λ_ _ G=>?_;obtain ⟨rfl,a,r⟩:=G;refine cN r.inv λ_ _ G=>?_;obtain ⟨rfl,b,r⟩:=G;refine cN r.inv λ_ _ G=>?_;obtain ⟨rfl,c,r⟩:=G;refine ag r.inv ⟨_,_,_,rfl,a,b,c⟩
theorem Jd {i j:Int} {t u:ow}:(if j>i then Es j u else .int i t)=.int (if i <j then j else i) (if i <j then u else t):=by
 by_cases h:i <j
 ·exact ag (if_pos h ..) (ag (if_pos h ..) (ag (if_pos h ..) rfl))
 ·exact ag (if_neg h ..) (ag (if_neg h ..) (ag (if_neg h ..) rfl))
theorem Je {i j:Int} {t u:ow}:(if j <i then Es j u else .int i t)=.int (if j <i then j else i) (if j <i then u else t):=by
 by_cases h:j <i
 ·exact ag (if_pos h ..) (ag (if_pos h ..) (ag (if_pos h ..) rfl))
 ·exact ag (if_neg h ..) (ag (if_neg h ..) (ag (if_neg h ..) rfl))
def FG:Prop:=∀(A:bw) (X:ak->aj->Prop) (s:aj) (Q:ak->aj->Prop) (l:ay) (vs:List ak) (bs:List (Array UInt8)) (ρ:List ay),A.handled=al->
 s.heap.IsList l vs.toArray->eI ρ (bs.map .bytes) vs->bs.length≤3->bs.Nodup->
 (∀h' tk (I:List ak) (G:List (Array UInt8)) c (m:Nat),(∀b o,s.heap.get? b=ac o->h'.get? b=ac o)->eI ρ (G.map .bytes) I->G.Perm bs->G.Pairwise (λa b=>lE a b=au)->s.heap.get? c=al->h'.get? c=ac ⟨.type "list",al,.seq I.toArray m,#[]⟩->Q (.ref c) {s with heap:=h',toks:=tk})->
 aw (aq prog w) A (call (.builtin "sorted") [.ref l]) Q X s
end
section
variable {n:Nat} {E:Lv} {A:bw} {fe env:Env} {pe:bD} {ρ ρ':List ay} {st st':List PO} {s:aj} {h h0 h1 h2 h':bM} {tk:Nat} {x:KX} {k:KV}
theorem aY.junk (G:aY ρ st h) {c:ay} {o:Obj} (S:c∉ρ) (f:B.get? c=al) (y:h.get? c=ac o) (p:∀vs,o.data=.fields vs->∀q t,vs[1]? ≠ac (.str q t)) (I:ij c h h'):aY ρ st h':=by
 have O:∀J q,h.CodeRec J q->h'.CodeRec J q:=by intro J q W;refine fI W ?_;clear W;intro cc V vs t e1 e2 e3 P;refine ⟨cc,V,vs,t,e1,I cc V (λz=>?_) e2,e3,P⟩;rw [z,y] at e2;obtain rfl:=fm e2;exact p vs e3 _ _ P
 refine ⟨λb o' e=>I b o' (λz=>by rw [z,f] at e;exact n1 e) (G.base b o' e),G.nodup,G.len,G.fresh,λi po e=>?_⟩;refine ae (G.objs i po e) λa e1 e2=>⟨a,e1,e2.to (λo' q=>I a o' (λz=>S (z▸aN e1)) q) (λb l o' q Y=>I b o' (λz=>S (z▸l)) q) O⟩
theorem Ev.junk (y:Ev ρ h0 ρ' st' h1) {c:ay} {o:Obj} (l:h0.get? c=al) (O:c∉ρ') (I:B.get? c=al) (V:h1.get? c=ac o) (S:∀vs,o.data=.fields vs->∀q t,vs[1]? ≠ac (.str q t)) (G:ij c h1 h2):Ev ρ h0 ρ' st' h2:=
 ⟨y.ext,y.good.junk O I V S G,λb o' e J=>by refine ae (y.keep b o' e J) λW q P=>?_;exact ⟨W,G b _ (λz=>by rw [z,l] at e;exact n1 e) q,P⟩⟩
theorem iW.junk {L:ay} (y:iW ρ L h0 ρ' st' h1) {c:ay} {o:Obj} (l:h0.get? c=al) (G:c≠L) (S:c∉ρ') (O:B.get? c=al) (f:h1.get? c=ac o) (W:∀vs,o.data=.fields vs->∀q t,vs[1]? ≠ac (.str q t)) (I:ij c h1 h2):iW ρ L h0 ρ' st' h2:=
 ⟨y.ext,y.good.junk S O f W I,λb o' e P p=>by
  refine ae (y.keep b o' e P p) λr q V=>?_;exact ⟨r,I b _ (λz=>by rw [z,l] at e;exact n1 e) q,V⟩,by
  refine ae y.here λJ q d=>?_;exact ⟨J,I L J (fw G) q,d⟩⟩
theorem im (G:aY ρ st h) {c:ay} (I:h.get? c=al):c∉ρ∧B.get? c=al:=by
 refine ⟨λm=>(by refine aI (G.here m) λo e=>?_;exact sn e I),?_⟩;cases q:B.get? c with
 | none=>rfl
 | some o=>have:=G.base _ _ q;exact sn this I
theorem vZ {po:PO} (G:aY ρ st s.heap) {a:ay} (J:∀b o,s.heap.get? b=ac o->h'.get? b=ac o) (I:s.heap.get? a=al) (y:sB (ρ++[a]) h' a po) (q:k (.loc st.length) (st++[po])):
  hV s ρ k (.ref a) {s with heap:=h',toks:=tk}:=
 ⟨h',tk,_,_,.loc st.length,rfl,Ev.add G J I y,.loc (by refine bZ (G.len ..) ?_;simp),q⟩
theorem eI.of_get:∀{ps:List PV} {vs:List ak},ps.length=vs.length->(∀(i:Nat) p v,ps[i]? =ac p->vs[i]? =ac v->VR ρ p v)->eI ρ ps vs
 | [],[],_,_=>.nil
 | p::ps,v::vs,hl,h=>.cons (h 0 p v rfl rfl) (eI.of_get (by simpa using hl) λi p v e1 e2=>h (i+1) p v (by exact e1) (by exact e2))
 | [],_::_,hl,_=>by cases hl
 | _::_,[],hl,_=>by cases hl
theorem xD {m:Nat} {acc:Array ak} (J:ItemsOf (λi v=>∃t,v=.int (0+(i:Int)*1) t) acc m):eI ρ ((dU m).map λj=>PV.int (aL j)) acc.toList:=by
 refine eI.of_get (by simp [J.1]) λi p v e1 e2=>aI (J.2 i v (by simpa using e2)) λt G=>ag G ?_;rw [jF] at e1;refine ae (aF.mp e1) λj e3 I=>bZ I ?_;have S:j=i:=by have:=ao.mp e3;refine aI this λO e=>?_;clear this;simpa using e.symm
 refine bZ S ?_;have:(0+(j:Int)*1)=aL j:=by simp
 refine ag (this ..) (.int _ _)
theorem Jf:∀{xs:List PV} {bs:List UInt8} {vs:List ak},vx xs=ac bs->eI ρ xs vs->∃ns:List Int,IntsAre vs ns∧(∀n∈ns,0≤n∧n <256)∧ns.length=xs.length∧byteArr ns=bs.toArray:=by
 intro I;induction I with
 | nil=>intro bs vs h r;refine ag (eI.inil r) (bZ (fm h) ?_);exact ⟨[],.nil,by decide,rfl,rfl⟩
 | cons p xs V=>
  intro bs vs h r;refine ae (ai.mp h) λi e h=>ag (w7 e) (w5 h (λhi h=>?_) λY h=>n1 h);refine ae (aF.mp h) λS e1 G=>bZ G (bz r.icons λv us W a r'=>?_);refine ag W (VR.eint (bZ (motive:=λz=>VR ρ z v) (w7 e) a) λt=>?_);refine nL (V e1 r') λns f l y P=>⟨i::ns,.cons i t f,λm O=>?_,by simp [y],?_⟩
  ·refine bk (bj.mp O) (λJ=>?_) λO=>?_
   ·subst J;exact hi
   ·exact l m O
  ·unfold byteArr at P ⊢;have:=congrArg Array.toList P;simp at this;simp [this]
end
section
variable {A:bw} {E:ak->aj->Prop} {s:aj} {d it:ay} {des:Array cz} {ep i:Nat}
theorem sQ {prog:i7} {w:jt} {Q:ak->aj->Prop} (hd:(d==gi)=am) (V:s.heap.get? d=ac ⟨.type "dict",al,.dict des ep,#[]⟩)
  (P:Q (.ref s.heap.objs.size) {s with heap:=s.heap.push {cls:=.type "dict_keyiterator",data:=.fields #[.ref d,.int 0 0,.int des.size 0,.int ep 0]}}):aw (aq prog w) A (Ou (.ref d)) Q E s:=by
 refine Pa (⟨_,V,rfl⟩) Rw (bo Rw (⟨_,V,rfl⟩) F.entry_dict_iter ?_ (F.args_dict_iter_1 _));refine aa (aa (eN (⟨_,V,rfl⟩) (af ?_)));refine K8 (by rw [hd];exact aZ) (aa (af (aa (cb V rfl (aa (dP V rfl ?_))))));refine aa (cX (af ⟨_,rfl, "dict_keyiterator",_,⟨_,aM _ rfl,rfl⟩,dj.lookup,?_⟩));exact P
theorem zZ {v:ay} {Q:ak->aj->Prop} (G:s.heap.get? v=ac ⟨.type "dict_values",al,.fields #[.ref d],#[]⟩) (V:s.heap.get? d=ac ⟨.type "dict",al,.dict des ep,#[]⟩)
  (P:Q (.ref s.heap.objs.size) {s with heap:=s.heap.push {cls:=.type "dict_valueiterator",data:=.fields #[.ref d,.int 0 0,.int des.size 0,.int ep 0]}}):aw (aq prog w) A (Ou (.ref v)) Q E s:=by
 refine Pa (⟨_,G,rfl⟩) Et (bo Et (⟨_,G,rfl⟩) F.entry_dict_values_iter ?_ (F.args_dict_values_iter_1 _));refine aa (af (aa (aa ?_)));refine dp G rfl (x:=.ref d) rfl (af ?_);refine aa (aa (cb V rfl (aa (dP V rfl ?_))));simp only [(show Builtin.Dict_items.ownsTuple "dict_valueiterator"=am by decide),jp,if_false];refine cX (af ⟨_,rfl, "dict_valueiterator",_,⟨_,aM _ rfl,rfl⟩,eU.lookup,?_⟩);exact P
theorem xG {h1:bM} {Q:Option ak->aj->Prop} {R:Fin->aj->Prop} (G:A.handled=al) (I:ij it s.heap h1) (P:∀h',ij it s.heap h'->Q al {s with heap:=h'}):
  aw (aq prog w) A.in1 (do let e ← newExc (.type "StopIteration") [];Tk e) R (λe W=>aw (aq prog w) A (match (Except.error e:Except ak (Option ak)) with
   | .ok (ac v)=>pure (ac v)
   | .ok al=>unsupported "iter:the-iterator's-class-has-lost-its-__next__-amid-the-walk"
   | .error e=>do if ← jo e (.type "StopIteration") then pure al else throw e) Q E W) {s with heap:=h1}:=by
 refine aa (aa (cX ?_ (by size_fits)));refine aa (m:=qI _ _) (cO (a:=dg) (by first | rfl | (simp only [qI];rfl)) ?_);refine cX ?_ (by size_fits);dsimp only [Tk];refine aa (Uh ?_);refine ag (show A.in1.handled=al from G ..) (aa (af (KY ?_)));refine aa (cW (T:= "StopIteration") (b:=true) ⟨_,aM _ rfl,rfl⟩ To ?_);exact af (P _ ((I.push _).push _))
theorem z5 {e:cz} {Q:Option ak->aj->Prop} (l:s.heap.IsKeyIter it d i des.size ep) (f:s.heap.get? d=ac ⟨.type "dict",al,.dict des ep,#[]⟩) (I:des[i]? =ac e)
  (P:∀h',h'.IsKeyIter it d (i+1) des.size ep->eA it s.heap h'->Q (ac e.key) {s with heap:=h'}):aw (aq prog w) A (k9 (.ref it)) Q E s:=by
 refine bP (id l) λo V G hd=>?_;refine aa (gP (ck (name:=eC "__next__") l.typeIs dj
  (bo dj l.typeIs kK ?_ (kq _))))
 refine aa (af (aa (aa (aa ?_))));refine dK l.typeIs (af (aa (ma V hd ?_)));show aw _ _ (if (cy d==dg)=au then _ else _) _ _ s;refine ag (if_neg (show ¬((cy d==dg)=au) from aZ) ..) ?_;refine aa (af (aa (cb f rfl ?_)));refine ag (if_neg (by simp) ..) (aa (af (aa (dP f rfl ?_))));refine ag (if_neg (by simp) ..) (af ?_);simp only [show ¬((i:Int)<0) from by lia,if_false,jI,I];refine aa (aa (dK l.typeIs (af (aa (jS l.typeIs ?_)))));show aw _ _ (uu (.ref it) 1 (dV ((i:Int)+1))>>=_) _ _ s;refine aa (gq V hd (by simp) ?_);have p:(s.heap.update it (dk (·.setIfInBounds 1 (dV ((i:Int)+1))))).IsKeyIter it d (i+1) des.size ep:=
  ⟨_,bh _ V (fP (cG hd _)),(mE ..).trans G,by rw [cG hd];simp [dV]⟩
 refine aa (bc (aa (jS (s:={s with heap:=s.heap.update it (dk (·.setIfInBounds 1 (dV ((i:Int)+1))))}) p.typeIs ?_)));exact af (af ⟨_,rfl,af (P _ p (bN ..))⟩)
theorem CM {Q:Option ak->aj->Prop} (l:s.heap.IsKeyIter it d i des.size ep) (f:s.heap.get? d=ac ⟨.type "dict",al,.dict des ep,#[]⟩) (G:A.handled=al) (I:des[i]? =al)
  (P:∀h',ij it s.heap h'->Q al {s with heap:=h'}):aw (aq prog w) A (k9 (.ref it)) Q E s:=by
 refine bP (id l) λo V J hd=>?_;refine aa (gP (ck (name:=eC "__next__") l.typeIs dj
  (bo dj l.typeIs kK ?_ (kq _))))
 refine aa (af (aa (aa (aa ?_))));refine dK l.typeIs (af (aa (ma V hd ?_)));show aw _ _ (if (cy d==dg)=au then _ else _) _ _ s;refine ag (if_neg (show ¬((cy d==dg)=au) from aZ) ..) ?_;refine aa (af (aa (cb f rfl ?_)));refine ag (if_neg (by simp) ..) (aa (af (aa (dP f rfl ?_))));refine ag (if_neg (by simp) ..) (af ?_);simp only [show ¬((i:Int)<0) from by lia,if_false,jI,I];refine aa (aa (dK l.typeIs (af ?_)));show aw _ _ (uu (.ref it) 0 .none>>=_) _ _ s;refine aa (gq V hd (by simp) ?_);refine xG G (bN ..).extBut P
theorem z6 {e:cz} {Q:Option ak->aj->Prop} (l:s.heap.IsValIter it d i des.size ep) (f:s.heap.get? d=ac ⟨.type "dict",al,.dict des ep,#[]⟩) (I:des[i]? =ac e)
  (P:∀h',h'.IsValIter it d (i+1) des.size ep->eA it s.heap h'->Q (ac e.val) {s with heap:=h'}):aw (aq prog w) A (k9 (.ref it)) Q E s:=by
 refine bP (id l) λo V G hd=>?_;refine aa (gP (ck (name:=eC "__next__") l.typeIs eU
  (bo eU l.typeIs vg ?_ (uy _))))
 refine aa (af (aa (aa (aa ?_))));refine gx l.typeIs (af (aa (ma V hd ?_)));show aw _ _ (if (cy d==dg)=au then _ else _) _ _ s;refine ag (if_neg (show ¬((cy d==dg)=au) from aZ) ..) ?_;refine aa (af (aa (cb f rfl ?_)));refine ag (if_neg (by simp) ..) (aa (af (aa (dP f rfl ?_))));refine ag (if_neg (by simp) ..) (af ?_);simp only [show ¬((i:Int)<0) from by lia,if_false,jI,I];refine aa (aa (gx l.typeIs (af (aa (pJ l.typeIs ?_)))));show aw _ _ (uu (.ref it) 1 (dV ((i:Int)+1))>>=_) _ _ s;refine aa (gq V hd (by simp) ?_);have p:(s.heap.update it (dk (·.setIfInBounds 1 (dV ((i:Int)+1))))).IsValIter it d (i+1) des.size ep:=
  ⟨_,bh _ V (fP (cG hd _)),(mE ..).trans G,by rw [cG hd];simp [dV]⟩
 refine aa (bc (aa (pJ (s:={s with heap:=s.heap.update it (dk (·.setIfInBounds 1 (dV ((i:Int)+1))))}) p.typeIs (aa (pJ (s:={s with heap:=s.heap.update it (dk (·.setIfInBounds 1 (dV ((i:Int)+1))))}) p.typeIs ?_)))));exact af (af ⟨_,rfl,af (P _ p (bN ..))⟩)
theorem CN {Q:Option ak->aj->Prop} (l:s.heap.IsValIter it d i des.size ep) (f:s.heap.get? d=ac ⟨.type "dict",al,.dict des ep,#[]⟩) (G:A.handled=al) (I:des[i]? =al)
  (P:∀h',ij it s.heap h'->Q al {s with heap:=h'}):aw (aq prog w) A (k9 (.ref it)) Q E s:=by
 refine bP (id l) λo V J hd=>?_;refine aa (gP (ck (name:=eC "__next__") l.typeIs eU
  (bo eU l.typeIs vg ?_ (uy _))))
 refine aa (af (aa (aa (aa ?_))));refine gx l.typeIs (af (aa (ma V hd ?_)));show aw _ _ (if (cy d==dg)=au then _ else _) _ _ s;refine ag (if_neg (show ¬((cy d==dg)=au) from aZ) ..) ?_;refine aa (af (aa (cb f rfl ?_)));refine ag (if_neg (by simp) ..) (aa (af (aa (dP f rfl ?_))));refine ag (if_neg (by simp) ..) (af ?_);simp only [show ¬((i:Int)<0) from by lia,if_false,jI,I];refine aa (aa (gx l.typeIs (af ?_)));show aw _ _ (uu (.ref it) 0 .none>>=_) _ _ s;refine aa (gq V hd (by simp) ?_);refine xG G (bN ..).extBut P
end
section
variable {n:Nat} {A:bw} {E:ak->aj->Prop} {ρ ρ':List ay} {st st':List PO} {s:aj} {h h0 h1 h2 h':bM} {tk:Nat}
inductive jQ (ρ:List ay) (h:bM) (it:ay) (n i:Nat):PV->wT->Prop
 | list {j a} (e:ρ[j]? =ac a) (x:h.IsListIter it a i):jQ ρ h it n i (.loc j) .list
 | tup {j a} (e:ρ[j]? =ac a) (x:h.IsTupleIter it a i):jQ ρ h it n i (.loc j) .tup
 | range {j} (x:IsRangeIter h it i ((n:Int) - i) 1):jQ ρ h it n i (.loc j) .range
 | str {y t} (x:h.IsStrIter it "str_ascii_iterator" y t i):jQ ρ h it n i (.str y) .str
 | dict {j a ep} (e:ρ[j]? =ac a) (x:h.IsKeyIter it a i n ep):jQ ρ h it n i (.loc j) (.dict ep)
 | vals {j d a ep} (e:ρ[d]? =ac a) (x:h.IsValIter it a i n ep):jQ ρ h it n i (.loc j) (.vals d ep)
theorem jQ.keep {it:ay} {m i:Nat} {I:PV} {G:wT} (x:jQ ρ h it m i I G) (k:∀o,h.get? it=ac o->h'.get? it=ac o) (r:List ay):jQ (ρ++r) h' it m i I G:=by
 have up:∀{j:Nat} {a:ay},ρ[j]? =ac a->(ρ++r)[j]? =ac a:=λe=>by refine ag (ax (ao.mp e).1) ?_;exact e
 induction x using jQ.casesOn with
 | list e x=>refine ae x λo h1 h2=>?_;clear x;exact .list (up e) ⟨o,k o h1,h2⟩
 | tup e x=>refine ae x λo h1 h2=>?_;clear x;exact .tup (up e) ⟨o,k o h1,h2⟩
 | range x=>exact .range (k _ x)
 | str x=>refine ae x λo h1 h2=>?_;clear x;exact .str ⟨o,k o h1,h2⟩
 | dict e x=>refine ae x λo h1 h2=>?_;clear x;exact .dict (up e) ⟨o,k o h1,h2⟩
 | vals e x=>refine ae x λo h1 h2=>?_;clear x;exact .vals (up e) ⟨o,k o h1,h2⟩
theorem jQ.obj {it:ay} {m i:Nat} {I:PV} {G:wT} (x:jQ ρ h it m i I G):∃o vs,h.get? it=ac o∧o.data=.fields vs∧∀q t,vs[1]? ≠ac (.str q t):=by
 induction x using jQ.casesOn with
 | list e x=>refine bP x λo h1 _ h2=>?_;clear x;exact ⟨o,_,h1,h2,by simp⟩
 | tup e x=>refine bP x λo h1 _ h2=>?_;clear x;exact ⟨o,_,h1,h2,by simp⟩
 | range x=>exact ⟨_,_,x,rfl,by simp [dV]⟩
 | str x=>refine bP x λo h1 _ h2=>?_;clear x;exact ⟨o,_,h1,h2,by simp⟩
 | dict e x=>refine bP x λo h1 _ h2=>?_;clear x;exact ⟨o,_,h1,h2,by simp⟩
 | vals e x=>refine bP x λo h1 _ h2=>?_;clear x;exact ⟨o,_,h1,h2,by simp⟩
theorem tZ (m:Nat):nD 0 m 1=m:=by
 unfold nD;refine ag (if_pos (by decide) ..) (kV (λY=>?_) λY=>?_)
 ·refine ag (Vc ..) ?_;exact by lia
 ·exact by lia
theorem eZ.size {es:List (bJ × PV × PV)} {des:Array cz} {h:bM} (R:eZ ρ h es des.toList) (f:bJ × PV × PV->jc):des.size=(es.map f).length:=by exact ag (ar ..) (ag (R.length ..) (ag (bu ..) rfl))
theorem xH (W:dO) {V:PV} {v:ak} {all:List jc × wT} {Q:ak->aj->Prop} (G:aY ρ st s.heap) (J:VR ρ V v) (O:rn st V all)
  (P:∀o,jQ ρ (s.heap.push o) s.heap.objs.size all.1.length 0 V all.2->Q (.ref s.heap.objs.size) {s with heap:=s.heap.push o}):aw (aq prog w) A (Ou v) Q E s:=by
 induction O using rn.casesOn with
 | str h1 h2=>refine VR.estr J λt=>?_;exact wpAny_pyIter_ascii h2 (P _ (.str ⟨_,aM _ rfl,rfl,rfl⟩))
 | list I hl=>
  cases J with | loc hi=>
  refine cK (G.at hi I) λvs m o1 y=>uz ⟨_,o1,rfl,_,rfl⟩ (P _ (.list hi ⟨_,aM _ rfl,rfl,rfl⟩))
 | tup I hl=>
  cases J with | loc hi=>
  refine cK (G.at hi I) λvs m o1 y=>wpAny_pyIter_tuple ⟨_,o1,rfl,_,rfl⟩ (P _ (.tup hi ⟨_,aM _ rfl,rfl,rfl⟩))
 | dict I hl=>refine VR.eloc J λY hi=>?_;refine bP (G.at hi I) λdes o1 R _=>?_;exact sQ (k6 W G hi) o1 (P _ (.dict hi ⟨_,aM _ rfl,rfl,by refine bZ (R.size ..) ?_;rfl⟩))
 | @range _ m I hl=>
  cases J with | loc hi=>
  refine fH (G.at hi I) λt u v l=>wpAny_pyIter_range l (small_one (by decide) (by decide) (by lia) (by lia)) (P _ (.range ?_));refine ag (tZ ..) (ag (ar ..) (ag (f6 ..) ?_));exact aM s.heap (o:={cls:=.type "range_iterator",data:=.fields #[dV 0,dV m,dV 1]}) rfl
 | vals I S hl=>refine ae J.iloc ?_;intro _ f hi;refine ag f (ae (G.at hi I) λr e2 o1=>?_);refine bP (G.at e2 S) λdes p R _=>?_;exact zZ o1 p (P _ (.vals e2 ⟨_,aM _ rfl,rfl,by refine bZ (R.size ..) ?_;rfl⟩))
theorem jw {α:Type} {l:List α} {f:α->jc} {i:Nat} {p:jc} (h:(l.map f)[i]? =ac p):∃c,l[i]? =ac c∧f c=p:=by rw [jF] at h;exact aF.mp h
theorem BK {it:ay} {i:Nat} {r:PV} {p:PV} {all:List jc × wT} {Q:Option ak->aj->Prop} (G:aY ρ st s.heap) (f:rn st r all) (I:jQ ρ s.heap it all.1.length i r all.2) (W:all.1[i]? =ac (.inl p))
  (P:∀h' tk v,VR ρ p v->jQ ρ h' it all.1.length (i+1) r all.2->eA it s.heap h'->Q (ac v) {s with heap:=h',toks:=tk}):aw (aq prog w) A (k9 (.ref it)) Q E s:=by
 induction f using rn.casesOn with
 | str h1 h2=>
  cases I with | str x=>
  refine ae (jw W) λc e1 e2=>?_;rcases e2 with _ | _;exact wpAny_pyNext_ascii_item x (by refine bZ (cH) ?_;exact e1) λh' x' J=>P h' _ _ (.str _ _) (.str x') J
 | list O hl=>
  cases I with | list hi x=>
  refine cK (G.at hi O) λvs m o1 z=>ae (jw W) λc e1 e2=>?_;cases e2;refine ae (z.get e1) λv S V=>?_;exact Il x ⟨_,o1,rfl,_,rfl⟩ (by refine bZ (cH) ?_;exact S) λh' x' J=>P h' s.toks _ V (.list hi x') J
 | tup O hl=>
  cases I with | tup hi x=>
  refine cK (G.at hi O) λvs m o1 z=>ae (jw W) λc e1 e2=>?_;cases e2;refine ae (z.get e1) λv S V=>?_;exact wpAny_pyNext_tuple_item x ⟨_,o1,rfl,_,rfl⟩ (by refine bZ (cH) ?_;exact S) λh' x' J=>P h' s.toks _ V (.tup hi x') J
 | dict O hl=>
  cases I with | dict hi x=>
  refine bP (G.at hi O) λdes o1 R _=>ae (jw W) λc e1 e2=>?_;rcases e2 with _ | _;refine ae (R.get e1) λen S V=>?_;rw [← R.size] at x P;exact z5 x o1 (by refine bZ (cH) ?_;exact S) λh' x' J=>P h' s.toks _ V.kv (.dict hi x') J
 | @range _ m O hl=>
  cases I with | range x=>
  refine ae (jw W) λc e1 e2=>?_;rcases e2 with _ | _;refine aI (ao.mp e1) λl e3=>?_;rw [List.getElem_range] at e3;subst e3;rw [f6] at l;rw [ar,f6] at x P;refine wpAny_pyNext_range_item x (by omega) λh' x' J=>P h' _ _ (.int _ _) (.range ?_) J;rw [show ((m:Int) - (i+1:Nat))=(m:Int) - i - 1 by omega];exact x'
 | vals O y hl=>
  cases I with | vals e2 x=>
  refine bP (G.at e2 y) λdes o2 R _=>ae (jw W) λc e1 Y=>?_;rcases Y with _ | _;refine ae (R.get e1) λen S V=>?_;rw [← R.size] at x P;exact z6 x o2 (by rw [← cH];exact S) λh' x' J=>P h' s.toks _ V.vv (.vals e2 x') J
theorem FH {it:ay} {i:Nat} {l:PV} {all:List jc × wT} {Q:Option ak->aj->Prop} (S:A.handled=al) (G:aY ρ st s.heap) (V:rn st l all) (I:jQ ρ s.heap it all.1.length i l all.2) (p:all.1[i]? =al)
  (P:∀h',ij it s.heap h'->Q al {s with heap:=h'}):aw (aq prog w) A (k9 (.ref it)) Q E s:=by
 have J:=List.getElem?_eq_none_iff.mp p;induction V using rn.casesOn with
 | str h1 h2=>
  cases I with | str x=>
  rw [ar,bu] at J;exact wpAny_pyNext_ascii_end S x (eD.mpr J) P
 | list O hl=>
  cases I with | list hi x=>
  refine cK (G.at hi O) λvs m o1 f=>?_;rw [ar,f.length,bu] at J;exact Iw S x ⟨_,o1,rfl,_,rfl⟩ (eD.mpr J) P
 | tup O hl=>
  cases I with | tup hi x=>
  refine cK (G.at hi O) λvs m o1 f=>?_;rw [ar,f.length,bu] at J;exact wpAny_pyNext_tuple_end S x ⟨_,o1,rfl,_,rfl⟩ (eD.mpr J) P
 | dict O hl=>
  cases I with | dict hi x=>
  refine bP (G.at hi O) λdes o1 R _=>?_;rw [← R.size] at x J;exact CM x o1 S (eD.mpr J) P
 | range O hl=>cases I with | range x=>exact wpAny_pyNext_range_end S x (by omega) P
 | vals O W hl=>
  cases I with | vals e2 x=>
  refine bP (G.at e2 W) λdes y R _=>?_;rw [← R.size] at x J;exact CN x y S (eD.mpr J) P
end
section
variable {n:Nat} {E:Lv} {A:bw} {fe env:Env} {pe:bD} {ρ ρ':List ay} {st st':List PO} {s:aj} {h h0 h1 h2 h':bM} {tk:Nat} {x:KX}
theorem m3 {id y:aU} {v:PV}:∀{l:List (aU × PV)},(nO id v l).lookup y=if y=id then ac v else l.lookup y
 | []=>by
  simp only [nO,List.lookup_cons,List.lookup_nil];by_cases q:y=id
  ·subst q;simp
  ·have:(y==id)=am:=by simpa using q
   exact ag (this ..) (ag (if_neg q ..) rfl)
 | e::r=>by
  obtain ⟨m,u⟩:=e;unfold nO;by_cases q:m=id
  ·refine bZ q (ag (if_pos rfl ..) (ag (List.lookup_cons ..) (ag (List.lookup_cons ..) ?_)));by_cases G:y=m
   ·subst G;simp
   ·have:(y==m)=am:=by simpa using G
    exact ag (this ..) (ag (if_neg G ..) rfl)
  ·refine ag (if_neg q ..) (ag (List.lookup_cons ..) (ag (List.lookup_cons ..) (ag (m3 (l:=r) ..) ?_)));by_cases G:y=m
   ·subst G;simp [q]
   ·have:(y==m)=am:=by simpa using G
    exact ag (this ..) rfl
theorem iW.locals (G:aY ρ st h) (F:eH ρ h env pe) {m:aU->Option ak} (J:h'.Ns env.locals m) (O:eA env.locals h h'):iW ρ env.locals h ρ st h':=by refine ae F.some λo V hd=>?_;refine gz J λo' es ep I l _=>?_;clear J;exact ⟨⟨[],by simp,by simp⟩,G.junk F.out F.base V (λvs e=>absurd e (hd vs)) O.extBut,λb S e Y P=>⟨S.slots,(O.2 b P).trans e,λY=>rfl⟩,⟨o',I,λvs e=>by cases (l).symm.trans e⟩⟩
theorem n0 {id:aU} {J:PV} {v:ak} {k:bD->List PO->Prop} {X:ak->aj->Prop} (hl:pe.sc.names.lookup id=ac .local) (h:k (pe.set id J) st) (G:aY ρ st s.heap) (F:eH ρ s.heap env pe) (l:VR ρ J v):
  aw (aq prog w) A (storeName env id v) (Ek s ρ env k) X s:=by
 refine ae F.ns λm P V=>?_;have W:env.scope.kind=.function:=F.sc▸F.kind;refine jT (by unfold Env.kindOf;refine ag (F.sc ..) hl) P (λh' I S=>?_) (by refine ag (W ..) ?_;rfl);refine ⟨h',s.toks+1,ρ,st,pe.set id J,rfl,(iW.locals G F I S),⟨F.sc,F.kind,F.glob,F.blt,⟨_,I,λz f e O=>?_⟩,F.out,F.base,F.cells,F.tab⟩,h⟩;rw [show (pe.set id J).loc=nO id J pe.loc from rfl,m3] at e;split at e
 ·rename_i q;refine bZ (fm e) ⟨v,by exact ag (if_pos q ..) rfl,l⟩
 ·rename_i q;refine ae (V z f e O) λu e1 e2=>?_;exact ⟨u,by refine ag (if_neg q ..) ?_;exact e1,e2⟩
theorem CO {id:aU} {J:PV} {v:ak} {k:bD->List PO->Prop} {X:ak->aj->Prop} (hl:pe.sc.names.lookup id=ac .cell) (h:∃c o,pe.cells.lookup id=ac c∧st[c]? =ac (.cell o)∧k pe (st.set c (.cell (ac J)))) (G:aY ρ st s.heap) (F:eH ρ s.heap env pe) (W:VR ρ J v):
  aw (aq prog w) A (storeName env id v) (Ek s ρ env k) X s:=by
 refine bz h λc o h1 h2 h=>ae (F.cells id c h1) λa e1 e2=>?_;obtain ⟨p,e3,S,y,V,hd,_⟩:=G.objs _ _ h2;obtain rfl:=ss e2 e3;refine wpAny_storeName_cell (F.sc▸F.kind) (by unfold Env.kindOf;refine ag (F.sc ..) hl) e1 ⟨S,V,hd⟩ λh' O P=>?_;refine ae O λo' I l=>?_;clear O;have f:sB ρ h' a (.cell (ac J)):=⟨o',_,I,l,W⟩;exact ⟨h',s.toks,ρ,_,pe,rfl,(Ev.upd G e2 V P (λt=>by obtain ⟨_,_,_,q⟩:=t;rw [hd] at q;cases q) (λvs q=>by rw [hd] at q;cases q) f).toL F.some F.out,F.go (Ev.upd G e2 V P (λt=>by obtain ⟨_,_,_,q⟩:=t;rw [hd] at q;cases q) (λvs q=>by rw [hd] at q;cases q) f),h⟩
theorem LB {t:iR Unit} {k:bD->List PO->Prop} (G:aY ρ st s.heap) (y:iW ρ env.locals s.heap ρ' st' h')
  (z:aw (aq prog w) A t (Ek {s with heap:=h',toks:=tk} ρ' env k) (jL {s with heap:=h',toks:=tk} ρ' env.locals x) {s with heap:=h',toks:=tk}):
  aw (aq prog w) A t (Ek s ρ env k) (jL s ρ env.locals x) {s with heap:=h',toks:=tk}:=
 aP z (λY Y a=>a.pre G y) λY Y a=>a.pre G y
theorem sR (S:cL n E):∀(I:List aC) (ps:List PV) (vs:List ak) (pe:bD) (st:List PO) (ρ:List ay) (s:aj) (k:bD->List PO->Prop),EK E x I ps pe st k->eW A ρ s.heap fe n->aY ρ st s.heap->eH ρ s.heap env pe->eI ρ ps vs->
  aw (aq prog w) A (Ui ((jl I env).map (·.2)) vs) (Ek s ρ env k) (jL s ρ env.locals x) s:=by
 intro I;induction I with
 | nil=>
  intro ps vs pe st ρ s k h M G F r;induction ps using aX with
  | cons _ _=>exact h.elim
  | nil=>
  refine ag (eI.inil r) (Ee ⟨s.heap,s.toks,ρ,st,pe,rfl,(Ev.refl G).toL F.some F.out,F,h⟩)
 | cons t I ih=>
  intro ps vs pe st ρ s k h M G F r;induction ps using aX with
  | nil=>exact h.elim
  | cons p ps=>
  refine bz r.icons λv us l ra rr=>ag l (ah h λhs h=>?_);refine ag (sE env _ hs) (Ef (aP (S.asg t p pe st _ x h A fe env ρ s _ M G F ra) (λY s' W=>?_) λY Y z=>z));refine cY W λh2 t2 V P O J y f q=>?_;clear W;refine ag J (LB G y (ih ps _ O P V _ k q (M.goL y) y.good f (y.pres rr)))
theorem sT {G:List aC} (h:G.all cx=au) (env:Env):(jl G env).length=G.length∧(jl G env).findIdx? (·.1)=al:=by
 induction G with
 | nil=>exact ⟨rfl,rfl⟩
 | cons t G P=>refine ah (aD.mp h) λh1 h2=>?_;refine ah (P h2) λI J=>ag (sE env G h1) ?_;exact ⟨congrArg (· +1) I,by refine ag (OB) ?_;simp [J]⟩
theorem CP (Bs:dO) (S:cL n E) {t:aC} {pv:PV} {v:ak} {k:bD->List PO->Prop} (h:vz K E pv pe st k x t) (M:eW A ρ s.heap fe (n+1)) (G:aY ρ st s.heap) (F:eH ρ s.heap env pe) (f:VR ρ pv v):
  aw (aq prog w) A (assign t env v) (Ek s ρ env k) (jL s ρ env.locals x) s:=by
 induction h using vz.casesOn with
 | loc e h=>exact mG (n0 e h G F f)
 | cell e hc hs h=>exact mG (CO e ⟨_,_,hc,hs,h⟩ G F f)
 | tup I hx hl W hns h=>subst I;refine VR.eloc f λY hi=>cK (G.at hi hx) λvs m o1 r1=>ah (sT hns env) λg1 g2=>OE M.handled ⟨_,o1,rfl,_,rfl⟩ (by refine ag (g1 ..) (ag (W ..) (ag ((r1.length) ..) ?_));simp) g2 λh' hk=>?_;have hfr:=aS (h:=s.heap) (aG s.heap.objs.size);have y:=Ev.sub G (λb o e=>hk b o (λz=>by rw [z,hfr] at e;exact n1 e) e);exact LB (tk:=s.toks) G (y.toL F.some F.out) (sR S _ _ vs.toList pe st ρ {s with heap:=h'} k h ((M.go y).less) y.good (F.go y) r1)
 | @attr o name pos h=>
  rw [show assign (.Attribute o name pos) env v=(do
   let V ← lx [v] (eM o env)
   OY pos.atName
   lx [v,V] (O8 V name v)
   release [v,V] []) from rfl]
  refine aa (bc (aP (S.ev o pe st _ x h A fe env ρ s M.less G F) (λV s' I=>?_) λY Y z=>z.toL F.some F.out));refine cY I λh' tk' ρ' st' po J y r q=>?_;clear I;subst J;refine aa (cr (aa (bc ?_)));refine aP (tY Bs q y.good r (y.pre f)) (λY s' I=>?_) λY Y z=>z;refine gS I λh2 t2 p l eq4 O P=>?_;clear I;refine ag eq4 (Eg ⟨h2,t2,p,l,pe,rfl,(y.trans G O).toL F.some F.out,F.go (y.trans G O),P⟩)
 | @sub o i pos h=>refine ag (arm_assign_Subscript ..) ?_;refine aa (bc (aP (S.ev o pe st _ x h A fe env ρ s M.less G F) (λV s' I=>?_) λY Y z=>z.toL F.some F.out));refine cY I λh' tk' ρ' st' po J y r q=>?_;clear I;subst J;refine aa (bc (aP (S.ev i pe st' _ x q A fe env ρ' _ (M.go y).less y.good (F.go y)) (λiv s' I=>?_) λY Y z=>(z.pre G y).toL F.some F.out));refine cY I λh2 t2 p l pi J O ri P=>?_;clear I;subst J;refine aa (cr (aa (bc ?_)));(refine nN P ?_;clear P;intro j es ep kb e4 g1 g2 g3 P;subst e4);refine VR.eloc (O.pre r) λY hj=>Ft (by have:=M.units;have:cT=9900:=rfl;exact by lia) O.good hj g1 ri g2 (O.pre (y.pre f)) g3 λh3 t3 ep' y3=>Eg ⟨h3,t3,_,_,pe,rfl,((y.trans G O).trans G y3).toL F.some F.out,F.go ((y.trans G O).trans G y3),P ep'⟩
end
section
variable {n:Nat} {E:Lv} {A:bw} {fe env:Env} {pe:bD} {ρ ρ':List ay} {st st':List PO} {s:aj} {h h0 h1 h2 h':bM} {tk:Nat} {x:KX}
theorem T9 {t:iR Ea} {k:dL->bD->List PO->Prop} (G:aY ρ st s.heap) (y:iW ρ env.locals s.heap ρ' st' h')
  (z:aw (aq prog w) A t (oG {s with heap:=h',toks:=tk} ρ' env k) (jL {s with heap:=h',toks:=tk} ρ' env.locals x) {s with heap:=h',toks:=tk}):
  aw (aq prog w) A t (oG s ρ env k) (jL s ρ env.locals x) {s with heap:=h',toks:=tk}:=
 aP z (λY Y a=>a.pre G y) λY Y a=>a.pre G y
theorem FI {N:vf->Prop} {t:iR Ea} {k:dL->bD->List PO->Prop} (G:aY ρ st s.heap) (y:iW ρ env.locals s.heap ρ' st' h')
  (z:fE N (aq prog w) A t (oG {s with heap:=h',toks:=tk} ρ' env k) (jL {s with heap:=h',toks:=tk} ρ' env.locals x) {s with heap:=h',toks:=tk}):
  fE N (aq prog w) A t (oG s ρ env k) (jL s ρ env.locals x) {s with heap:=h',toks:=tk}:=
 cf z (λY Y a=>a.pre G y) λY Y a=>a.pre G y
theorem Nm {k:dL->bD->List PO->Prop} (F:eH ρ' h' env pe) (y:iW ρ env.locals s.heap ρ' st' h') (q:k .next pe st'):oG s ρ env k .next {s with heap:=h',toks:=tk}:=
 ⟨h',tk,ρ',st',.next,pe,rfl,y,F,.next,q⟩
theorem xI (F:eH ρ h env pe):Vy env=am:=by unfold Vy;have:env.scope.kind=.function:=F.sc▸F.kind;refine ag (this ..) ?_;rfl
theorem rB (S:cL n E) {e:aC} {pos:cP} {k:dL->bD->List PO->Prop} (O:∀env:Env,env.scope=pe.sc->iu e al pos.line env=pure am) (h:E.ev e pe st (λY I=>k .next pe I) x)
  (M:eW A ρ s.heap fe n) (G:aY ρ st s.heap) (F:eH ρ s.heap env pe):
  aw (aq prog w) A (exec (.Expr e pos) env) (oG s ρ env k) (jL s ρ env.locals x) s:=by
 refine Tp ?_ (xI F) (O env F.sc);exact eJ S h M G F (λY Y z=>z.toL F.some F.out) λh' l ρ' st' W v y V P J f q=>Nm J (y.toL F.some F.out) q
theorem xJ {N:vf->Prop} (S:fK N n E) {t:aC} {b o:List cg} {pos:cP} {k:dL->bD->List PO->Prop} (h:E.evT t pe st (λc I=>match c with
  | true=>execs E b pe I k x
  | false=>execs E o pe I k x) x)
  (M:eW A ρ s.heap env n) (G:aY ρ st s.heap) (F:eH ρ s.heap env pe) (O:env.frame=ac env.locals):
  fE N (aq prog w) A (exec (.If t b o pos) env) (oG s ρ env k) (jL s ρ env.locals x) s:=by
 refine My (cf (fS (S.evT t pe st _ x h A env env ρ s M G F)) (λc W P=>?_) λY Y z=>z.toL F.some F.out);refine gS P λh' l ρ' st' J y q=>?_;clear P;refine ag J ?_;induction c with
 | true=>exact FI G (y.toL F.some F.out) (iG S b pe st' ρ' _ k q (M.go y) y.good (F.go y) O)
 | false=>exact FI G (y.toL F.some F.out) (iG S o pe st' ρ' _ k q (M.go y) y.good (F.go y) O)
theorem t6 (S:cL n E) {t:aC} {b o:List cg} {pos:cP} {k:dL->bD->List PO->Prop} (h:E.evT t pe st (λc I=>match c with
  | true=>execs E b pe I k x
  | false=>execs E o pe I k x) x)
  (M:eW A ρ s.heap env n) (G:aY ρ st s.heap) (F:eH ρ s.heap env pe) (J:env.frame=ac env.locals):
  aw (aq prog w) A (exec (.If t b o pos) env) (oG s ρ env k) (jL s ρ env.locals x) s:=jz (xJ S.toN h M G F J)
theorem pj {N:vf->Prop} (S:fK N n E) {e:aC} {pos:cP} {k:dL->bD->List PO->Prop} (h:E.ev e pe st (λv I=>k (.ret v) pe I) x)
  (M:eW A ρ s.heap fe n) (G:aY ρ st s.heap) (F:eH ρ s.heap env pe):
  fE N (aq prog w) A (exec (.Return (ac e) pos) env) (oG s ρ env k) (jL s ρ env.locals x) s:=by
 refine zy (lk S h M G F (λY Y z=>z.toL F.some F.out) λh' l ρ' st' O v y W V J P q=>⟨h',l,ρ',st',.ret O,pe,rfl,y.toL F.some F.out,J,.ret P,q⟩)
theorem pm (S:cL n E) {e:aC} {pos:cP} {k:dL->bD->List PO->Prop} (h:E.ev e pe st (λv I=>k (.ret v) pe I) x)
  (M:eW A ρ s.heap fe n) (G:aY ρ st s.heap) (F:eH ρ s.heap env pe):
  aw (aq prog w) A (exec (.Return (ac e) pos) env) (oG s ρ env k) (jL s ρ env.locals x) s:=jz (pj S.toN h M G F)
theorem eI.reverse {ps:List PV} {vs:List ak} (h:eI ρ ps vs):eI ρ ps.reverse vs.reverse:=by
 induction h with
 | nil=>exact .nil
 | cons a _ P=>refine ag (eE ..) (ag (eE ..) ?_);exact P.snoc a
theorem BL {α β:Type}:∀(a:List α) (b:List β),a.length=b.length->a.reverse.zip b.reverse=(a.zip b).reverse
 | [],[],_=>rfl
 | x::a,y::b,h=>by
  have h':a.length=b.length:=by simpa using h
  refine ag (eE ..) (ag (eE ..) (ag (oK (by simpa using h') ..) (ag (BL a b h' ..) ?_)));simp
 | [],_::_,h=>by simp at h
 | _::_,[],h=>by simp at h
theorem v3 {X:ak->aj->Prop}:∀(names:List aU) (ps:List PV) (vs:List ak) (pe:bD) (st:List PO) (ρ:List ay) (s:aj) (f:bD->List PO->Prop),names.length=ps.length->(∀m∈names,pe.sc.names.lookup m=ac .local)->f ((names.zip ps).foldl (λp q=>p.set q.1 q.2) pe) st->
  aY ρ st s.heap->eH ρ s.heap env pe->eI ρ ps vs->
  aw (aq prog w) A (Ui (names.map λn=>bindName env n) vs) (Ek s ρ env f) X s:=by
 intro names;induction names with
 | nil=>
  intro ps vs pe st ρ s k hl _ h G F r;induction ps using aX with
  | cons _ _=>exact nomatch hl
  | nil=>
  refine ag (eI.inil r) (Ee ⟨s.heap,s.toks,ρ,st,pe,rfl,(Ev.refl G).toL F.some F.out,F,h⟩)
 | cons m ms ih=>
  intro ps vs pe st ρ s k hl V h G F r;induction ps using aX with
  | nil=>exact nomatch hl
  | cons p ps=>
  refine bz r.icons λv us l ra rr=>ag l (Ef (Tq (aP (n0 (k:=λO st'=>O=pe.set m p∧st'=st) (V m aA) ⟨rfl,rfl⟩ G F ra) (λY s' I=>?_) λY Y z=>z)));refine iA I λh2 t2 S P pe2 J y W q1 q2=>?_;clear I;refine ag J ?_;subst q1 q2;refine aP (ih ps _ (pe.set m p) P S _ k (Vd hl) (λq hq=>V q (aE _ hq)) h y.good W (y.pres rr)) (λY s' I=>I.pre G y) λY Y z=>z
theorem pn {N:vf->Prop} (S:fK N n E) {t e:aC} {pos:cP} {k:dL->bD->List PO->Prop} (I:∀env:Env,env.scope=pe.sc->ef [t] e pos.line env=pure am) (l:cx t=au) (P:∀env:Env,env.scope=pe.sc->dN [t] e env=pure al)
  (h:E.ev e pe st (λv W=>E.asg t v pe W (λV J=>k .next V J) x) x) (M:eW A ρ s.heap fe n) (G:aY ρ st s.heap) (F:eH ρ s.heap env pe):
  fE N (aq prog w) A (exec (.Assign [t] e pos) env) (oG s ρ env k) (jL s ρ env.locals x) s:=by
 refine zz ?_ (I env F.sc) (P env F.sc);refine lk S h M G F (λY Y z=>z.toL F.some F.out) λh' f ρ' st' pv v y M' G' r rv q=>ag (show (jl [t] env).map (·.2)=[assign t env] from congrArg (Tr (·.2)) (sE env [] l)) ?_;refine fS (aP (S.asg t pv pe st' _ x q A fe env ρ' {s with heap:=h',toks:=f} v M' G' r rv) (λY s' p=>?_) λY Y z=>z.pre G (y.toL F.some F.out));refine cY p λh2 t2 ρ2 J pe2 O y2 F2 q2=>?_;clear p;refine ag O (Nm F2 ((y.toL F.some F.out).trans G y2) q2)
theorem kR (S:cL n E) {t e:aC} {pos:cP} {k:dL->bD->List PO->Prop}
  (h:(∀env:Env,env.scope=pe.sc->ef [t] e pos.line env=pure am)∧
   ((cx t=au∧(∀env:Env,env.scope=pe.sc->dN [t] e env=pure al)∧E.ev e pe st (λv J=>E.asg t v pe J (λr st2=>k .next r st2) x) x)∨
    ∃names O kk tp,t=.Tuple O kk tp∧(∀env:Env,env.scope=pe.sc->dN [t] e env=pure (ac names))∧(∀m∈names,pe.sc.names.lookup m=ac .local)∧
     E.ev e pe st (λv J=>∃i xs,v=.loc i∧J[i]? =ac (.tup xs)∧xs.length=names.length∧k .next (((names.zip xs).reverse).foldl (λp q=>p.set q.1 q.2) pe) J) x))
  (M:eW A ρ s.heap fe n) (G:aY ρ st s.heap) (F:eH ρ s.heap env pe):
  aw (aq prog w) A (exec (.Assign [t] e pos) env) (oG s ρ env k) (jL s ρ env.locals x) s:=by
 refine ah h λI h=>?_;rcases h with ⟨l,P,h⟩ | ⟨names,O,kk,tp,rfl,P,hn,h⟩
 ·exact jz (pn S.toN I l P h M G F)
 ·refine Assign_Tuple_swapped ?_ (I env F.sc) (P env F.sc);refine eJ S h M G F (λY Y z=>z.toL F.some F.out) λh' tk' ρ' st' pv v y M' G' F' rv q=>?_;(refine d6 q ?_;clear q;intro i xs e2 hx hl q;subst e2);refine VR.eloc rv λY hi=>?_;obtain ⟨a',e1,vs,m,o1,r1⟩:=G'.objs _ _ hx;refine ag (ss hi e1) (ag ((show names.length=vs.size by rw [← hl,(r1.length)];simp) ..) ?_);refine wpAny_unpackItems_tuple M.handled ⟨_,o1,rfl,_,rfl⟩ λh2 hk=>?_;have f:=aS (h:=h') (aG h'.objs.size);have V:=Ev.sub G' (λb o e=>hk b o (λz=>by rw [z,f] at e;exact n1 e) e);have hz:names.reverse.zip xs.reverse=(names.zip xs).reverse:=by exact BL names xs hl.symm
  refine aP (v3 (env:=env) names.reverse xs.reverse vs.toList.reverse pe st' ρ' {s with heap:=h2,toks:=tk'} (λp q=>k .next p q) (by simp [hl]) (λm hm=>hn m (by simpa using hm)) (by rw [hz];exact q) V.good (F'.go V) (V.pres r1.reverse)) (λY s' hv=>?_) λY Y z=>z;refine cY hv λh3 t3 ρ3 st3 pe3 W y3 F3 q3=>?_;clear hv;refine ag W (Nm F3 (((y.trans G V).toL F.some F.out).trans G y3) q3)
end
section
variable {n:Nat} {E:Lv} {A:bw} {fe env:Env} {pe:bD} {ρ ρ':List ay} {st st':List PO} {s:aj} {h h0 h1 h2 h':bM} {tk:Nat} {x:KX}
theorem jg {target:aC} {it:ay} {v:ak} {c:String} {o:Obj} {X:ak->aj->Prop} {Q:Unit->aj->Prop} (V:s.heap.get? it=ac o) (J:o.cls=.type c)
  (O:(["enumerate", "zip", "dict_itemiterator", "dict_reverseitemiterator", "odict_iterator", "itertools.zip_longest", "itertools.pairwise"]:List String).contains c=am) (P:Q () s):
  aw (aq prog w) A (i9 target (.ref it) v) Q X s:=by
 have G:aw (aq prog w) A (do
   let (.ref r,.ref a):=(cy it,v) | return
   let o ← load r
   match o.cls,o.data with
   | .type n,.fields vs=>
    if ["enumerate", "zip", "dict_itemiterator", "dict_reverseitemiterator", "odict_iterator", "itertools.zip_longest", "itertools.pairwise"].contains n&&vs[0]? ==ac (dV a) then
     rule "for.unpacks-the-owned-tuple"
     updateField r 0 .none
   | _,_=>pure ()) Q X s:=by
  induction v <;> try exact af P
  refine aa (gD V ?_);refine ag (J ..) ?_;obtain ⟨S,W,I,f⟩:=o;induction I with
  | fields vs=>show aw _ _ (if (_&&_)=au then _ else _) _ _ _;refine ag (O ..) (ag (ig ..) (mu (by decide) ?_));exact af P
  | _=>exact af P
 rcases target with _ | _ <;> first | exact G | exact af P
theorem LC {target:aC} {it:ay} {v:ak} {m i:Nat} {J:PV} {G:wT} {X:ak->aj->Prop} {Q:Unit->aj->Prop} (I:jQ ρ s.heap it m i J G) (P:Q () s):
  aw (aq prog w) A (i9 target (.ref it) v) Q X s:=by
 induction I using jQ.casesOn with
 | list e x=>refine bP x λo h1 h2 _=>?_;clear x;exact jg h1 h2 (by decide) P
 | tup e x=>refine bP x λo h1 h2 _=>?_;clear x;exact jg h1 h2 (by decide) P
 | range x=>exact jg x rfl (by decide) P
 | str x=>refine bP x λo h1 h2 _=>?_;clear x;exact jg h1 h2 (by decide) P
 | dict e x=>refine bP x λo h1 h2 _=>?_;clear x;exact jg h1 h2 (by decide) P
 | vals e x=>refine bP x λo h1 h2 _=>?_;clear x;exact jg h1 h2 (by decide) P
theorem eH.junk (F:eH ρ h env pe) {c:ay} (J:ij c h h2) (G:env.locals≠c):eH ρ h2 env pe:=by refine ae F.ns λm I O=>?_;exact ⟨F.sc,F.kind,F.glob,F.blt,⟨m,pd I λo e=>⟨o.slots,J _ o G e,λY=>rfl⟩,O⟩,F.out,F.base,F.cells,F.tab⟩
theorem CQ {r:ak->aj->Prop} {e:ak} {Y:aj} {L:ay} (G:aY ρ st s.heap) (hf:env.frame=ac L) (I:(s.heap.get? L).isSome=au) (S:L∉ρ)
  (M:eW A ρ s.heap env n) (hE:∀s2,jL s ρ L x e s2->r e s2)
  (z:jL s ρ L x e Y):rh (aq prog w) A env (λe W=>oz (aq prog w) A env r e W) e Y:=by
 refine cY z λh2 l p f i O y X q=>?_;clear z;refine ag O (ae ((M.goL y).frames) λV P Fr=>?_);refine Ni (h₀:=s.heap) (s:={s with heap:=h2,toks:=l}) P Fr hf y.good (λb e=>y.there G e) X λh3 s3 x3=>?_;have J:=x3;refine fH J λa o vs qq=>?_;clear J;obtain ⟨rfl,_,_,ho,_,hd,_,T,oT,ts,h1,_⟩:=qq;refine aa (dp ho hd h1 ?_);refine mu (by simp) (vV (s:={s with heap:=h3,toks:=l}) env.frame s3.good x3 λh4 s4 x4=>?_);exact hE _ ⟨h4,l,p,f,i,rfl,wV.evL I (by refine aI (bd.mp I) λo e=>?_;exact y.notin e S) y (s3.trans s4),x4.x,q⟩
theorem qP {G:aC} {v:PV} {k:bD->List PO->Prop} (h:kP E G pe st k x (.inl v)):E.asg G v pe st k x:=by cases h;assumption
theorem BM {I:PV} {all:List jc × wT} (h:rn st I all) {i:Nat} {it:jc} (e:all.1[i]? =ac it):∃p,it=.inl p:=by induction h <;> (refine ae (jw e) ?_;intro c _ G;refine bZ G ?_)<;> exact ⟨_,rfl⟩
theorem CR {I:aC} {body:List cg} {G:List PO->Prop} {l:List jc} {k:dL->bD->List PO->Prop} (h:mM E I body G l pe st k x):G st:=by rcases l with _ | _ <;> exact h.1
def FJ (s:aj) (ρ:List ay) (env:Env) (J:List ay->bM->Nat->Prop) (i:Nat) (kk:bD->List PO->Prop) (_:Unit) (W:aj):Prop:=
 ∃G O h2 P I,W={s with heap:=h2,toks:=P}∧iW ρ env.locals s.heap G O h2∧eH G h2 env I∧J G h2 i∧kk I O
def LD {N:vf->Prop} {O:aC} {body:List cg} {it:ak} {all:List jc} {P:List PO->Prop} {k:dL->bD->List PO->Prop} {J:List ay->bM->Nat->Prop} {ρ0:List ay} {V:List PO} {h0:bM} {t0:Nat}:Prop:=∀(Cl:wU N) (S:fK N n E) (G:aY ρ st s.heap) (hLs:(s.heap.get? env.locals).isSome=au) (p:env.locals∉ρ) (M:eW A ρ s.heap env n) (hf:env.frame=ac env.locals) (l:∀{ρ1 st1 h1 ρ2 st2 h2 i},aY ρ1 st1 h1->J ρ1 h1 i->iW ρ1 env.locals h1 ρ2 st2 h2->J ρ2 h2 i) (next:∀{i item ρ1 st1 h1 t1 pe1 kk},all[i]? =ac item->P st1->iW ρ env.locals s.heap ρ1 st1 h1->eH ρ1 h1 env pe1->J ρ1 h1 i->kP E O pe1 st1 kk x item->
   aw (aq prog w) A (k9 it) (λr I=>∃v,r=ac v∧aw (aq prog w) A (i9 O it v) (λY W=>aw (aq prog w) A (assign O env v) (FJ s ρ env J (i+1) kk) (jL s ρ env.locals x) W) (jL s ρ env.locals x) I) (jL s ρ env.locals x) {s with heap:=h1,toks:=t1}) (z:∀{i ρ1 st1 h1 t1 pe1},all.length≤i->P st1->iW ρ env.locals s.heap ρ1 st1 h1->eH ρ1 h1 env pe1->J ρ1 h1 i->
   aw (aq prog w) A (k9 it) (λr I=>r=al∧∃h2,I={s with heap:=h2,toks:=t1}∧iW ρ env.locals s.heap ρ1 st1 h2∧eH ρ1 h2 env pe1) (jL s ρ env.locals x) {s with heap:=h1,toks:=t1}) (y0:iW ρ env.locals s.heap ρ0 V h0) (F0:eH ρ0 h0 env pe) (J0:J ρ0 h0 0) (q:mM E O body P all pe V k x),fR N (aq prog w) A (.forLoop O it body [] env) (λr y=>match r with | .ok f=>oG s ρ env k f y | .error e=>oz (aq prog w) A env (jL s ρ env.locals x) e y) {s with heap:=h0,toks:=t0}
noncomputable def ee:=rm <| U λn=>U λE=>U λA=>U λenv=>U λpe=>U λρ=>U λst=>U λs=>U λx=>U λN=>U λO=>U λbody=>U λit=>U λall=>U λG=>U λk=>U λJ=>U λρ0=>U λI=>U λh0=>@LD n E A env pe ρ st s x N O body it all G k J ρ0 I h0
theorem uR {N tgt body it all src k J ρ0 st0 h0 t0}:@LD n E A env pe ρ st s x N tgt body it all src k J ρ0 st0 h0 t0:=jX (c:=ee) rfl (by
 intro Cl S G hLs hLρ M hf W next stop y0 F0 J0 q
 have up:∀e l,jL ee.2.2.2.2.2.2.2.1 ee.2.2.2.2.2.1 ee.2.2.2.1.locals ee.2.2.2.2.2.2.2.2.1 e l->rh (aq prog w) ee.2.2.1 ee.2.2.2.1 (λe s''=>oz (aq prog w) ee.2.2.1 ee.2.2.2.1 (jL ee.2.2.2.2.2.2.2.1 ee.2.2.2.2.2.1 ee.2.2.2.1.locals ee.2.2.2.2.2.2.2.2.1) e s'') e l:=
  λe l z=>CQ G hf hLs hLρ M (λY z=>z) z
 refine tU Cl (λkk l=>∃i P p h1 t1 f,l={ee.2.2.2.2.2.2.2.1 with heap:=h1,toks:=t1}∧iW ee.2.2.2.2.2.1 ee.2.2.2.1.locals ee.2.2.2.2.2.2.2.1.heap P p h1∧eH P h1 ee.2.2.2.1 f∧ee.2.2.2.2.2.2.2.2.2.2.2.2.2.2.2.2.1 P h1 i∧
  mM ee.2.1 ee.2.2.2.2.2.2.2.2.2.2.1 ee.2.2.2.2.2.2.2.2.2.2.2.1 ee.2.2.2.2.2.2.2.2.2.2.2.2.2.2.1 (ee.2.2.2.2.2.2.2.2.2.2.2.2.2.1.drop i) f p ee.2.2.2.2.2.2.2.2.2.2.2.2.2.2.2.1 ee.2.2.2.2.2.2.2.2.1∧kk=ee.2.2.2.2.2.2.2.2.2.2.2.2.2.1.length+1 - i) ?_ (ee.2.2.2.2.2.2.2.2.2.2.2.2.2.1.length+1) ⟨0,ee.2.2.2.2.2.2.2.2.2.2.2.2.2.2.2.2.2.1,ee.2.2.2.2.2.2.2.2.2.2.2.2.2.2.2.2.2.2.1,ee.2.2.2.2.2.2.2.2.2.2.2.2.2.2.2.2.2.2.2.1,ee.2.2.2.2.2.2.2.2.2.2.2.2.2.2.2.2.2.2.2.2,ee.2.2.2.2.1,rfl,y0,F0,J0,q,rfl⟩
 intro kk l q2;refine Mo q2 ?_;clear q2;intro i P p h1 t1 f e26 y1 F1 J1 q1 y;refine ag e26 (ag y ?_);have V:=CR q1;by_cases O:i <ee.2.2.2.2.2.2.2.2.2.2.2.2.2.1.length
 ·rw [iz O] at q1;refine fS <| wpAny_mono (next (cB O) V y1 F1 J1 q1.2) (λr s₁ I=>?_) up;(refine ae I ?_;clear I;intro v e1 I;refine ag e1 ?_);refine aP I (λY s₂ I=>aP I (λY s₃ I=>?_) up) up;refine iA I λρ3 st3 h3 t3 pe3 e5 y3 F3 J3 q3=>?_;clear I;refine ag e5 (cf (iG S ee.2.2.2.2.2.2.2.2.2.2.2.1 pe3 st3 ρ3 {ee.2.2.2.2.2.2.2.1 with heap:=h3,toks:=t3} _ q3 (M.goL y3) y3.good F3 hf) (λfl l hv=>?_) λY Y z=>up _ _ (z.pre G y3));refine pN hv λh4 t4 ρ4 st4 pf pe4 e6 y4 F4 rf q4=>?_;clear hv;refine ag e6 ?_;have y14:=y3.trans G y4;induction rf using uG.casesOn with
  | next=>exact ⟨ee.2.2.2.2.2.2.2.2.2.2.2.2.2.1.length+1 - (i+1),Nat.sub_lt_sub_left (mF O) (eQ i),i+1,ρ4,st4,h4,t4,pe4,rfl,y14,F4,W y3.good J3 y4,q4,rfl⟩
  | ret rv4=>exact ⟨h4,t4,ρ4,st4,_,pe4,rfl,y14,F4,.ret rv4,q4⟩
 ·have hle:=Rq O;rw [Im hle] at q1;refine fS <| wpAny_mono (stop hle V y1 F1 J1) (λr s₁ I=>?_) up;obtain ⟨rfl,h2,rfl,y2,F2⟩:=I;exact ja (Nm F2 y2 q1.2)) (n,E,A,env,pe,ρ,st,s,x,N,tgt,body,it,all,src,k,J,ρ0,st0,h0,t0)
theorem FK (S:cL n E) {O:aC} {body:List cg} {it:ak} {all:List jc} {V:List PO->Prop} {k:dL->bD->List PO->Prop} {J:List ay->bM->Nat->Prop} (G:aY ρ st s.heap) (z:(s.heap.get? env.locals).isSome=au) (W:env.locals∉ρ) (M:eW A ρ s.heap env n) (hf:env.frame=ac env.locals)
  (P:∀{ρ1 st1 h1 ρ2 st2 h2 i},aY ρ1 st1 h1->J ρ1 h1 i->iW ρ1 env.locals h1 ρ2 st2 h2->J ρ2 h2 i)
  (next:∀{i item ρ1 st1 h1 t1 pe1 kk},all[i]? =ac item->V st1->iW ρ env.locals s.heap ρ1 st1 h1->eH ρ1 h1 env pe1->J ρ1 h1 i->kP E O pe1 st1 kk x item->
   aw (aq prog w) A (k9 it) (λr I=>∃v,r=ac v∧aw (aq prog w) A (i9 O it v) (λY y=>aw (aq prog w) A (assign O env v) (FJ s ρ env J (i+1) kk) (jL s ρ env.locals x) y) (jL s ρ env.locals x) I) (jL s ρ env.locals x) {s with heap:=h1,toks:=t1})
  (p:∀{i ρ1 st1 h1 t1 pe1},all.length≤i->V st1->iW ρ env.locals s.heap ρ1 st1 h1->eH ρ1 h1 env pe1->J ρ1 h1 i->
   aw (aq prog w) A (k9 it) (λr I=>r=al∧∃h2,I={s with heap:=h2,toks:=t1}∧iW ρ env.locals s.heap ρ1 st1 h2∧eH ρ1 h2 env pe1) (jL s ρ env.locals x) {s with heap:=h1,toks:=t1})
  {ρ0:List ay} {l:List PO} {h0:bM} {t0:Nat} (y0:iW ρ env.locals s.heap ρ0 l h0) (F0:eH ρ0 h0 env pe) (J0:J ρ0 h0 0) (q:mM E O body V all pe l k x):
  gk (aq prog w) A (.forLoop O it body [] env) (λr s'=>match r with | .ok f=>oG s ρ env k f s' | .error e=>oz (aq prog w) A env (jL s ρ env.locals x) e s') {s with heap:=h0,toks:=t0}:=
 xd (uR rM S.toN G z W M hf @P @next @p y0 F0 J0 q)
theorem sU {h:bM} {s:aj} (G:aY ρ st s.heap) (y:Ev ρ s.heap ρ' st' h) {b:ay} (e:h.get? b=al):s.heap.get? b=al:=by
 cases q:s.heap.get? b with
 | none=>rfl
 | some o=>have:=y.there G (b:=b) (by refine ag (q ..) ?_;rfl);rw [e] at this;exact n3 this
theorem uS {N:vf->Prop} (Cl:wU N) (Bs:dO) (S:fK N n E) {tgt iter:aC} {body:List cg} {pos:cP} {k:dL->bD->List PO->Prop} (hns:nP iter=au)
  (h:E.ev iter pe st (λiv l=>∃all,rn l iv all∧mM E tgt body (λst=>rn st iv all) all.1 pe l k x) x)
  (M:eW A ρ s.heap env n) (G:aY ρ st s.heap) (F:eH ρ s.heap env pe) (hf:env.frame=ac env.locals):
  fE N (aq prog w) A (exec (.For tgt iter body [] pos) env) (oG s ρ env k) (jL s ρ env.locals x) s:=by
 have hLs:(s.heap.get? env.locals).isSome=au:=by refine ae F.some λo e _=>?_;refine ag (e ..) ?_;rfl
 refine IH Cl ?_ (Fl env hns);refine lk S h M G F (λY Y z=>z.toL F.some F.out) λh' tk' ρ' st' iv v y M' G' F' rv q=>ae q λall hsrc q=>xH (s:={s with heap:=h',toks:=tk'}) Bs G' rv hsrc λo I0=>?_;have V:=sU G y (aS (aG _));refine ah (im G' (aS (aG _))) λhitρ hitB=>?_;have W:h'.objs.size≠env.locals:=λe=>by rw [e] at V;rw [V] at hLs;exact n3 hLs
 have y0:=Ev.sub G' (λb o' e=>az o e);generalize h'.objs.size=it at*;refine uR Cl S (J:=λρ1 h1 i=>jQ ρ1 h1 it all.1.length i iv all.2∧it∉ρ1) G hLs F.out M hf ?_ ?_ ?_ ((y.toL F.some F.out).trans G (y0.toL F'.some F'.out)) (F'.go y0) ⟨I0,hitρ⟩ q
 ·intro ρ1 l h1 ρ2 st2 h2 i G1 q8 y;refine ah q8 ?_;clear q8;intro I hn;refine bz I.obj λoi vs O f _=>ae (y.keep it oi O hn W) λsl g4 hsl=>ae y.ext λr er _=>⟨er▸I.keep (λob e=>by obtain rfl:=fm (O.symm.trans e);exact ag (g4 ..) (ag (hsl ⟨vs,f⟩ ..) rfl)) r,y.notin O hn⟩
 ·intro i item ρ1 l h1 t1 pe1 kk hi P y1 F1 q12 q1;obtain ⟨I1,hn⟩:=q12;refine aI (BM P hi) λp eq1=>?_;subst eq1;refine bz I1.obj λoi vs O f hni=>BK (s:={s with heap:=h1,toks:=t1}) y1.good P I1 hi λh2 t2 v' rv2 I2 hs2=>⟨v',rfl,?_⟩;have y2:=y1.junk V W hn hitB O (λvs e=>by cases f.symm.trans e;exact hni) hs2.extBut;refine LC (s:={s with heap:=h2,toks:=t2}) I2 (aP (S.asg tgt p pe1 l _ x (qP q1) A env env ρ1 {s with heap:=h2,toks:=t2} v' (M.goL y2) y2.good (F1.junk hs2.extBut (fw W)) rv2) (λY s' hv=>?_) λY Y z=>z.pre G y2);refine cY hv λh3 t3 ρ3 st3 pe3 eq5 y3 F3 q3=>?_;clear hv;refine ag eq5 (bz I2.obj λoi vs O f _=>?_);refine ae (y3.keep it oi O hn W) λsl g4 hsl=>ae y3.ext λr er _=>⟨ρ3,st3,h3,t3,pe3,rfl,y2.trans G y3,F3,⟨er▸I2.keep (λob e=>by obtain rfl:=fm (O.symm.trans e);exact ag (g4 ..) (ag (hsl ⟨vs,f⟩ ..) rfl)) r,y3.notin O hn⟩,q3⟩
 ·rintro i ρ1 l h1 t1 pe1 hle P y1 F1 ⟨I1,hn⟩;refine bz I1.obj λoi vs O f hni=>FH (s:={s with heap:=h1,toks:=t1}) M.handled y1.good P I1 (pI hle) λh2 hs2=>⟨rfl,h2,rfl,?_,F1.junk hs2 (fw W)⟩;exact y1.junk V W hn hitB O (λvs e=>by cases f.symm.trans e;exact hni) hs2
theorem sV (V:dO) (S:cL n E) {J iter:aC} {body:List cg} {pos:cP} {k:dL->bD->List PO->Prop} (O:nP iter=au)
  (h:E.ev iter pe st (λP I=>∃all,rn I P all∧mM E J body (λst=>rn st P all) all.1 pe I k x) x)
  (M:eW A ρ s.heap env n) (G:aY ρ st s.heap) (F:eH ρ s.heap env pe) (W:env.frame=ac env.locals):
  aw (aq prog w) A (exec (.For J iter body [] pos) env) (oG s ρ env k) (jL s ρ env.locals x) s:=
 jz (uS rM V S.toN O h M G F W)
end
section
variable {n:Nat} {E:Lv} {A:bw} {fe env:Env} {pe:bD} {ρ ρ' ρ'':List ay} {st st' st'':List PO} {s:aj} {h h0 h1 h2 h' h'':bM} {L:ay} {tk:Nat} {x:KX}
theorem Ev.transL (G:aY ρ st h) (x:Ev ρ h ρ' st' h') (W:h.get? L=al) (y:iW ρ' L h' ρ'' st'' h''):Ev ρ h ρ'' st'' h'':=by
 refine ae x.ext λr e1 e2=>ae y.ext λY S J=>⟨⟨r++Y,by rw [S,e1,bI],λa I=>?_⟩,y.good,λb o e V=>?_⟩
 ·refine bk (bb.mp I) (λI=>?_) λI=>?_
  ·exact e2 a I
  ·cases q:h.get? a with
   | none=>rfl
   | some o=>have:=x.there G (b:=a) (by rw [q];rfl);rw [J a I] at this;exact n3 this
 ·refine ae (x.keep b o e V) λsl q l=>ae (y.keep b _ q (x.notin e V) (λz=>by rw [z,W] at e;exact n1 e)) λP p O=>⟨P,p,λf=>(O f).trans (l f)⟩
noncomputable abbrev BN (env:Env):aC->Bool->iR (ForInStep Bool):=λc r=>if r=au then do let ok ← tI c env (eM c env);pure (fV ok) else pure (fV r)
theorem qQ (env:Env):∀ifs:List aC,forIn ifs am (BN env)=(pure am:iR Bool)
 | []=>rfl
 | c::r=>by refine ag (fU ..) ?_;refine ag (pure_bind ..) (qQ env r)
theorem xK (S:cL n E):∀(ifs:List aC) (st:List PO) (ρ:List ay) (s:aj) (k:Bool->List PO->Prop),vy E pe x ifs st k->eW A ρ s.heap fe n->aY ρ st s.heap->eH ρ s.heap env pe->
  aw (aq prog w) A (forIn ifs au (BN env)) (CB s ρ k) (XK s ρ x) s:=by
 intro J;induction J with
 | nil=>intro st ρ s k h M G F;exact af ⟨s.heap,s.toks,ρ,st,rfl,.refl G,h⟩
 | cons c r V=>
  intro st ρ s k h M G F;refine ag (fU ..) (aa (aa (aP (S.evT c pe st _ x h A fe env ρ s M G F) (λb W O=>af ?_) λY Y z=>z)));refine gS O λh' l ρ' st' I y q=>?_;clear O;refine ag I ?_;induction b with
  | true=>exact aP (V st' ρ' {s with heap:=h',toks:=l} k q (M.go y) y.good (F.go y)) (λY Y a=>a.pre G y) λY Y a=>a.pre G y
  | false=>show aw _ _ (forIn r am (BN env)) _ _ _;refine ag (qQ ..) (af ⟨h',l,ρ',st',rfl,y,q⟩)
theorem CS {R:jk->aj->Prop} {y target iter:aC} {ifs:List aC} {scope:d9} {pos:cP} {it acc:ak} {env:Env} (I:Nat->aj->Prop)
  (turn:∀n s,I n s->aw (aq prog w) A (k9 it) (λr G=>match r with
   | none=>R (.ok .next) G
   | some v=>aw (aq prog w) A (i9 target it v) (λY J=>aw (aq prog w) A (assign target env v) (λY V=>
     aw (aq prog w) A (forIn ifs au (BN env)) (λok O=>
      if ok=au then aw (aq prog w) A (eM y env) (λx W=>
       aw (aq prog w) A (call (.builtin "list.append") [acc,x]) (λY f =>∃m,m <n∧I m f) (λY Y=>False) W) (λY Y=>False) O
      else ∃m,m <n∧I m O) (λY Y=>False) V) (λY Y=>False) J) (λY Y=>False) G) (λY Y=>False) s)
  (n:Nat) (h:I n s):
  gk (aq prog w) A (.compLoop (.ListComp y [⟨target,iter,ifs,0⟩] scope pos) 0 it acc env) R s:=by
 refine codeAny_loop rfl I (λn s hI=>?_) n h;show aw _ A ((compTurn (.ListComp y [⟨target,iter,ifs,0⟩] scope pos) 0 it acc env).onRaise (λx=>do wJ x env;yX x)) _ _ s;refine wpAny_noted (ag (compTurn_list ..) ?_);refine aa (cr (aa (aP (turn n s hI) (λr G P=>?_) λY Y h'=>h'.elim)));induction r with
 | none=>exact af P
 | some v=>
  refine aa (aP P (λY J l=>?_) λY Y h'=>h'.elim);refine aa (aP l (λY V p=>aa (aP p (λok O S=>?_) λY Y h'=>h'.elim)) λY Y h'=>h'.elim);induction ok with
  | false=>exact af ⟨rfl,S⟩
  | true=>exact aa (aa (aP S (λx W z=>aa (aP z (λY f h₅ =>af (af ⟨rfl,h₅⟩)) λY Y h'=>h'.elim)) λY Y h'=>h'.elim))
theorem Jg {it:ay} {m i:Nat} {J:PV} {G:wT} {X:ak->aj->Prop} {Q:ak->aj->Prop} (I:jQ ρ s.heap it m i J G) (h:Q (.ref it) s):aw (aq prog w) A (Ou (.ref it)) Q X s:=by
 induction I using jQ.casesOn with
 | list e x=>exact wpAny_pyIter_listiter x h
 | tup e x=>exact wpAny_pyIter_tupleiter x h
 | range x=>exact wpAny_pyIter_rangeiter x h
 | str x=>exact wpAny_pyIter_striter_ascii x h
 | dict e x=>exact wpAny_pyIter_keyiter x h
 | vals e x=>exact wpAny_pyIter_valiter x h
theorem z7 {G I:aC} {ifs:List aC} {J:PV} {all:List jc × wT} {l:Nat} {y:List jc} {k:List PO->Prop} (h:pP E G I ifs J all l y pe st k x):rn st J all:=by rcases y with _ | _ <;> exact h.1
theorem v4 {l:Nat} {D:ay} {xs:List PV} {O:PV} {v:ak} {Q:ak->aj->Prop} {X:ak->aj->Prop} (G:aY ρ st s.heap) (hi:ρ[l]? =ac D) (V:st[l]? =ac (.list xs)) (hl:xs.length≤1000) (f:VR ρ O v)
  (S:∀h',Ev ρ s.heap ρ (st.set l (.list (xs++[O]))) h'->Q .none {s with heap:=h'}):aw (aq prog w) A (call (.builtin "list.append") [.ref D,v]) Q X s:=by
 obtain ⟨p,e1,vs,m,o1,P⟩:=G.objs _ _ V;obtain rfl:=ss hi e1;have W:=P.length;refine OF tP ⟨_,o1,rfl⟩ Ma (KZ _ _) (Pb _ vs m v (by simp at W;exact TP ‹_› ‹_›)) ⟨o1,?_⟩;have I:=bh (tQ λxs=>xs.push v) o1 rfl;obtain ⟨J,hm'⟩:∃J,tQ (λxs=>xs.push v) ⟨.type "list",al,.seq vs m,#[]⟩=⟨.type "list",al,.seq (vs.push v) J,#[]⟩:=⟨_,rfl⟩;rw [hm'] at I;exact S _ (Ev.upd G hi o1 (bN ..) (by simp [j3]) (by simp) (⟨_,_,I,by simpa using P.snoc f⟩))
def LF {y P iter:aC} {ifs:List aC} {scope:d9} {pos J:cP} {k:KV} {use:Option (ak->iR Unit)} {Q X:ak->aj->Prop}:Prop:=∀(r:dO) (S:cL n E) (h:comp E y P iter ifs scope pe st k x) (M:eW A ρ s.heap fe n) (G:aY ρ st s.heap) (F:eH ρ s.heap env pe) (z:∀e W,XK s ρ x e W->X e W) (p:∀D C h2 l I O f V,Ev ρ s.heap I O h2->h2.Ns C f->s.heap.get? C=al->C∉I->B.get? C=al->VR I V (.ref D)->k V O->compPost (aq prog w) A X use Q (.ref D) C (.ok .next) {s with heap:=h2,toks:=l}),aw (aq prog w) A (comprehension (.ListComp y [⟨P,iter,ifs,0⟩] scope pos) scope env J (newList []) am (eM iter env) use) Q X s
noncomputable def ct:=rm <| U λn=>U λE=>U λA=>U λfe=>U λenv=>U λpe=>U λρ=>U λst=>U λs=>U λx=>U λy=>U λI=>U λiter=>U λifs=>U λscope=>U λpos=>U λG=>U λk=>U λuse=>U λQ=>@LF n E A fe env pe ρ st s x y I iter ifs scope pos G k use Q
theorem xL {elt tgt iter ifs scope pos fpos k use Q X}:@LF n E A fe env pe ρ st s x elt tgt iter ifs scope pos fpos k use Q X:=jX (c:=ct) rfl (by
 intro Bs S h M G F hX hEnd;obtain ⟨hkind,hcell,hnm,hns,cs,hcs,h⟩:=h;refine ae (sK F hcs) λclos hcl hclos=>?_;have hnames:∀y∈ct.2.2.2.2.2.2.2.2.2.2.2.2.2.2.1.names,y.2=.local->ct.2.2.2.2.2.2.2.2.2.2.2.2.2.2.1.names.lookup y.1=ac .local:=λy hy hl=>by have:=co.mp hnm y hy;rw [hl] at this;simpa using this
 refine wpAny_comprehension_free (use:=ct.2.2.2.2.2.2.2.2.2.2.2.2.2.2.2.2.2.2.1) rfl (Fl ct.2.2.2.2.1 hns) hcl hkind hnames (eJ S h M G F hX λh' tk' ρ' st' iv v y M' G' F' rv q=>?_);refine ae q λall hsrc q=>xH (s:={ct.2.2.2.2.2.2.2.2.1 with heap:=h',toks:=tk'}) Bs G' rv hsrc λo I0=>cX (qF (λy hy=>by simpa using co.mp hcell y hy) (by intro y hy;simp at hy) (λh₁ hns₁ hsb₁=>?_) hkind);dsimp only at hns₁ hsb₁ ⊢;generalize hH:h'.push o=H at hns₁ hsb₁ I0 ⊢;generalize hH2:H.push {cls:=.type "list",dict:=none,data:=.seq ([]:List ak).toArray}=H2 at hns₁ hsb₁ ⊢;have YH:Ev ρ' h' ρ' st' H:=Ev.sub G' (λb o' e=>hH▸az _ e);have hDnone:H.get? H.objs.size=al:=aS (aG _);have YH2:Ev ρ' H (ρ'++[H.objs.size]) (st'++[.list []]) H2:=by refine bZ (hH2 ..) ?_;exact Ev.push (po:=.list []) YH.good _ rfl ⟨_,0,aM _ rfl,.nil⟩
 generalize hD:H.objs.size=D at YH2 hDnone ⊢;have hCn:H2.get? H2.objs.size=al:=aS (aG _);generalize hC:H2.objs.size=C at hns₁ hsb₁ hCn ⊢;have k1:∀b o',H2.get? b=ac o'->h₁.get? b=ac o':=λb o' e=>hsb₁.extBut b o' (λz=>by rw [z,hCn] at e;exact n1 e) (az _ e);have Y1:Ev ct.2.2.2.2.2.2.1 ct.2.2.2.2.2.2.2.2.1.heap (ρ'++[D]) (st'++[.list []]) h₁:=((y.trans G YH).trans G YH2).trans G (Ev.sub YH2.good k1);have no:∀{h2:bM} {a:ay} {ρ2:List ay} {st2:List PO},Ev ct.2.2.2.2.2.2.1 ct.2.2.2.2.2.2.2.2.1.heap ρ2 st2 h2->h2.get? a=al->ct.2.2.2.2.2.2.2.2.1.heap.get? a=al:=λ{h2 a ρ2 st2} z e=>by
  cases q2:ct.2.2.2.2.2.2.2.2.1.heap.get? a with
  | none=>rfl
  | some o'=>have:=z.there G (b:=a) (by rw [q2];rfl);rw [e] at this;exact n3 this
 have hCs:ct.2.2.2.2.2.2.2.2.1.heap.get? C=al:=no ((y.trans G YH).trans G YH2) hCn;refine ah (im YH2.good hCn) λhCρ hCB=>?_;have hits:ct.2.2.2.2.2.2.2.2.1.heap.get? h'.objs.size=al:=no y (aS (aG _));refine ah (im G' (aS (aG _))) λhitρ' hitB=>?_;have hitH:∃oi,H.get? h'.objs.size=ac oi:=by refine cK I0.obj λoi _ e _=>?_;exact ⟨oi,e⟩
 have hitC:h'.objs.size≠C:=λe=>by
  refine aI hitH λoi e2=>?_;clear hitH;have:H2.get? h'.objs.size=ac oi:=by rw [← hH2];exact az _ e2
  rw [e,hCn] at this;exact n1 this
 have hitρ:h'.objs.size∉ρ'++[D]:=λm=>by
  refine bk (bb.mp m) (λm=>?_) λm=>?_
  ·exact hitρ' m
  ·exact (λe=>by refine aI hitH λoi e2=>?_;clear hitH;rw [e,hDnone] at e2;exact n1 e2) (aV.mp m)
 have I1:jQ (ρ'++[D]) h₁ h'.objs.size all.1.length 0 iv all.2:=I0.keep (λo' e=>k1 _ _ (by rw [← hH2];exact az _ e)) [D];have hl:(ρ'++[D])[st'.length]? =ac D:=by rw [← G'.len];simp
 generalize hlL:st'.length=lL at q hl;generalize h'.objs.size=it at hits hitB hitC hitρ I1 ⊢;clear hitH;have F1:eH (ρ'++[D]) h₁ {OA ct.2.2.2.2.2.2.2.2.2.2.2.2.2.2.1 C ct.2.2.2.2.1.globals clos ct.2.2.2.2.1.qual al .none (ac ct.2.2.2.2.1) ct.2.2.2.2.1.builtins with scope:=relabel ct.2.2.2.2.2.2.2.2.2.2.2.2.2.2.1 ct.2.2.2.2.1} ⟨eO ct.2.2.2.2.2.1.sc ct.2.2.2.2.2.2.2.2.2.2.2.2.2.2.1,[],cs,al⟩:=by
  refine ⟨?_,hkind,F.glob,F.blt,⟨_,hns₁,λy pv e Y=>by exact n1 e⟩,hCρ,hCB,λy c e=>?_,λi e=>by exact n1 e⟩
  ·show relabel ct.2.2.2.2.2.2.2.2.2.2.2.2.2.2.1 ct.2.2.2.2.1=eO ct.2.2.2.2.2.1.sc ct.2.2.2.2.2.2.2.2.2.2.2.2.2.2.1;delta relabel eO Env.kindOf;rw [F.sc]
  ·refine ae (hclos y c e) λa e1 e2=>⟨a,e1,Y1.up e2⟩
 generalize hcenv:({OA ct.2.2.2.2.2.2.2.2.2.2.2.2.2.2.1 C ct.2.2.2.2.1.globals clos ct.2.2.2.2.1.qual al .none (ac ct.2.2.2.2.1) ct.2.2.2.2.1.builtins with scope:=relabel ct.2.2.2.2.2.2.2.2.2.2.2.2.2.2.1 ct.2.2.2.2.1}:Env)=cenv at F1;have hcl2:cenv.locals=C:=by rw [← hcenv];rfl
 have loop:∀s₃:aj,s₃={ct.2.2.2.2.2.2.2.2.1 with heap:=h₁,toks:=tk'}->
   gk (aq prog w) ct.2.2.1 (.compLoop (.ListComp ct.2.2.2.2.2.2.2.2.2.2.1 [⟨ct.2.2.2.2.2.2.2.2.2.2.2.1,ct.2.2.2.2.2.2.2.2.2.2.2.2.1,ct.2.2.2.2.2.2.2.2.2.2.2.2.2.1,0⟩] ct.2.2.2.2.2.2.2.2.2.2.2.2.2.2.1 ct.2.2.2.2.2.2.2.2.2.2.2.2.2.2.2.1) 0 (.ref it) (.ref D) cenv) (compPost (aq prog w) ct.2.2.1 ct.2.2.2.2.2.2.2.2.2.2.2.2.2.2.2.2.2.2.2.2 ct.2.2.2.2.2.2.2.2.2.2.2.2.2.2.2.2.2.2.1 ct.2.2.2.2.2.2.2.2.2.2.2.2.2.2.2.2.2.2.2.1 (.ref D) C) s₃:=by
  rintro s₃ rfl;refine CS (λkk s'=>∃i ρ1 st1 h1 t1 pe1,s'={ct.2.2.2.2.2.2.2.2.1 with heap:=h1,toks:=t1}∧Ev ct.2.2.2.2.2.2.1 ct.2.2.2.2.2.2.2.2.1.heap ρ1 st1 h1∧eH ρ1 h1 cenv pe1∧jQ ρ1 h1 it all.1.length i iv all.2∧it∉ρ1∧ρ1[lL]? =ac D∧
   pP ct.2.1 ct.2.2.2.2.2.2.2.2.2.2.1 ct.2.2.2.2.2.2.2.2.2.2.2.1 ct.2.2.2.2.2.2.2.2.2.2.2.2.2.1 iv all lL (all.1.drop i) pe1 st1 (λst2=>ct.2.2.2.2.2.2.2.2.2.2.2.2.2.2.2.2.2.1 (.loc lL) st2) (λY Y=>False)∧i≤all.1.length∧kk=all.1.length+1 - i) ?_ (all.1.length+1)
   ⟨0,_,_,h₁,tk',_,rfl,Y1,F1,I1,hitρ,hl,by exact q,kE _,rfl⟩
  intro kk s' q2;refine jV q2 λi ρ1 st1 h1 t1 qa2y=>?_;clear q2;(first | refine vn qa2y λpe1 O y1 F1 I1 I P q1 hi V=>?_;clear qa2y;subst O;subst V | refine EA qa2y λpe1 O y1 F1 I1 I P q1 hi V=>?_;clear qa2y;subst O;subst V | refine EB qa2y λpe1 O y1 F1 I1 I P q1 hi V=>?_;clear qa2y;subst O;subst V | refine vo qa2y λpe1 O y1 F1 I1 I P q1 hi V=>?_;clear qa2y;subst O;subst V | refine zl qa2y λpe1 O y1 F1 I1 I P q1 hi V=>?_;clear qa2y;subst O;subst V | refine iA qa2y λpe1 O y1 F1 I1 I P q1 hi V=>?_;clear qa2y;subst O;subst V | refine EC qa2y λpe1 O y1 F1 I1 I P q1 hi V=>?_;clear qa2y;subst O;subst V | refine ED qa2y λpe1 O y1 F1 I1 I P q1 hi V=>?_;clear qa2y;subst O;subst V | refine EE qa2y λpe1 O y1 F1 I1 I P q1 hi V=>?_;clear qa2y;subst O;subst V | refine zm qa2y λpe1 O y1 F1 I1 I P q1 hi V=>?_;clear qa2y;subst O;subst V | refine cN qa2y λpe1 O J=>?_;clear qa2y;subst O;(first | refine vi J λy1 F1 I1 I P q1 hi l=>?_;clear J;subst l | refine mI J λy1 F1 I1 I P q1 hi l=>?_;clear J;subst l | refine sb J λy1 F1 I1 I P q1 hi l=>?_;clear J;subst l | refine jW J λy1 F1 I1 I P q1 hi l=>?_;clear J;subst l | refine fI J λy1 F1 I1 I P q1 hi l=>?_;clear J;subst l | refine vj J λy1 F1 I1 I P q1 hi l=>?_;clear J;subst l | refine pM J λy1 F1 I1 I P q1 hi l=>?_;clear J;subst l | refine zk J λy1 F1 I1 I P q1 hi l=>?_;clear J;subst l | refine cN J λy1 F1 W=>?_;clear J;(first | refine vh W λI1 I P q1 hi ea2yyy5=>?_;clear W;subst ea2yyy5 | refine zh W λI1 I P q1 hi ea2yyy5=>?_;clear W;subst ea2yyy5 | refine d6 W λI1 I P q1 hi ea2yyy5=>?_;clear W;subst ea2yyy5 | refine gz W λI1 I P q1 hi ea2yyy5=>?_;clear W;subst ea2yyy5 | refine r9 W λI1 I P q1 hi ea2yyy5=>?_;clear W;subst ea2yyy5 | refine jV W λI1 I P q1 hi ea2yyy5=>?_;clear W;subst ea2yyy5 | refine cN W λI1 I qa2yyyy=>?_;clear W;refine gQ qa2yyyy λP q1 hi ea2yyyy3=>?_;clear qa2yyyy;subst ea2yyyy3 | refine fH W λI1 I P qa2yyyy=>?_;clear W;refine eg qa2yyyy λq1 hi ea2yyyy2=>?_;clear qa2yyyy;subst ea2yyyy2 | refine nM W λI1 I P q1 qa2yyyy=>?_;clear W;refine ah qa2yyyy λhi ea2yyyy1=>?_;clear qa2yyyy;subst ea2yyyy1) | refine fH J λy1 F1 I1 W=>?_;clear J;refine pL W λI P q1 hi ea2yyy4=>?_;clear W;subst ea2yyy4 | refine nM J λy1 F1 I1 I W=>?_;clear J;refine gQ W λP q1 hi ea2yyy3=>?_;clear W;subst ea2yyy3 | refine jV J λy1 F1 I1 I P W=>?_;clear J;refine eg W λq1 hi ea2yyy2=>?_;clear W;subst ea2yyy2) | refine fH qa2y λpe1 O y1 J=>?_;clear qa2y;subst O;(first | refine kT J λF1 I1 I P q1 hi ea2yy6=>?_;clear J;subst ea2yy6 | refine zi J λF1 I1 I P q1 hi ea2yy6=>?_;clear J;subst ea2yy6 | refine zj J λF1 I1 I P q1 hi ea2yy6=>?_;clear J;subst ea2yy6 | refine gR J λF1 I1 I P q1 hi ea2yy6=>?_;clear J;subst ea2yy6 | refine gS J λF1 I1 I P q1 hi ea2yy6=>?_;clear J;subst ea2yy6 | refine Ex J λF1 I1 I P q1 hi ea2yy6=>?_;clear J;subst ea2yy6 | refine kU J λF1 I1 I P q1 hi ea2yy6=>?_;clear J;subst ea2yy6 | refine cN J λF1 I1 W=>?_;clear J;refine pL W λI P q1 hi ea2yyy4=>?_;clear W;subst ea2yyy4 | refine fH J λF1 I1 I W=>?_;clear J;refine gQ W λP q1 hi ea2yyy3=>?_;clear W;subst ea2yyy3 | refine nM J λF1 I1 I P W=>?_;clear J;refine eg W λq1 hi ea2yyy2=>?_;clear W;subst ea2yyy2 | refine jV J λF1 I1 I P q1 W=>?_;clear J;refine ah W λhi ea2yyy1=>?_;clear W;subst ea2yyy1));have hsrc1:=z7 q1;refine bz I1.obj λoi vsi hoi hdi hni=>?_;have hni':∀vs,oi.data=.fields vs->∀q t,vs[1]? ≠ac (.str q t):=λvs e=>by cases (hdi).symm.trans e;exact hni
  by_cases hlt:i <all.1.length
  ·obtain ⟨item,hitem⟩:∃item,all.1[i]? =ac item:=⟨all.1[i],by simp [hlt]⟩;refine aI (BM hsrc1 hitem) λp eq1=>?_;subst eq1;have hdrop:all.1.drop i=.inl p::all.1.drop (i+1):=by refine ag (iz hlt ..) ?_;congr 1;exact (ao.mp hitem).2
   rw [hdrop] at q1;refine BK (s:={ct.2.2.2.2.2.2.2.2.1 with heap:=h1,toks:=t1}) y1.good hsrc1 I1 hitem λh2 t2 v' rv2 I2 hs2=>?_;have y2:=y1.junk hits I hitB hoi hni' hs2.extBut;refine LC (s:={ct.2.2.2.2.2.2.2.2.1 with heap:=h2,toks:=t2}) I2 ?_;refine aP (S.asg ct.2.2.2.2.2.2.2.2.2.2.2.1 p pe1 st1 _ _ (qP q1.2) ct.2.2.1 ct.2.2.2.1 cenv ρ1 {ct.2.2.2.2.2.2.2.2.1 with heap:=h2,toks:=t2} v' (M.go y2) y2.good (F1.junk hs2.extBut (λe=>hitC (by rw [← hcl2,e]))) rv2) (λY s' hv=>?_) λY Y z=>by refine cY z λ_ _ _ _ _ _ _ _ f=>?_;clear z;exact f
   refine cY hv λh3 t3 ρ3 st3 pe3 eq5 y3 F3 q3=>?_;clear hv;refine ag eq5 ?_;rw [hcl2] at y3;have y13:=Ev.transL G y2 hCs y3;refine aP (xK (env:=cenv) S ct.2.2.2.2.2.2.2.2.2.2.2.2.2.1 st3 ρ3 {ct.2.2.2.2.2.2.2.2.1 with heap:=h3,toks:=t3} _ q3 (M.go y13) y13.good F3) (λb s' hv=>?_) λY Y z=>by refine cY z λ_ _ _ _ _ _ _ _ f=>?_;clear z;exact f
   refine gS hv λh4 t4 ρ4 st4 eq4 y4 q4=>?_;clear hv;refine ag eq4 ?_;have y14:=y13.trans G y4;have F4:=F3.go y4;obtain ⟨oi2,hoi2,hdi2⟩:∃oi2,h2.get? it=ac oi2∧∃vs,oi2.data=.fields vs:=by refine bz I2.obj λa b c d _=>?_;exact ⟨a,c,b,d⟩
   have keepIt:∀{h5:bM} {ρ5:List ay} {st5:List PO},iW ρ1 C h2 ρ5 st5 h5->(∀ob,h2.get? it=ac ob->h5.get? it=ac ob)∧it∉ρ5∧∃r,ρ5=ρ1++r:=λ{h5 ρ5 st5} z=>by refine ae (z.keep it oi2 hoi2 I hitC) λsl g4 hsl=>?_;refine ae z.ext λr er _=>⟨λob e=>?_,z.notin hoi2 I,r,er⟩;refine bZ (ss hoi2 e) ?_;rw [g4,hsl hdi2]
   have y24:=y3.trans y2.good (y4.toL (hcl2▸F3.some) (hcl2▸F3.out));induction b with
   | false=>obtain ⟨ki,kn,r,er⟩:=keepIt y24;exact ⟨all.1.length+1 - (i+1),by exact TW ‹_›,i+1,ρ4,st4,h4,t4,pe3,rfl,y14,F4,by rw [er];exact I2.keep ki r,kn,y24.up P,q4,hlt,rfl⟩
   | true=>refine eJ (s:={ct.2.2.2.2.2.2.2.2.1 with heap:=h4,toks:=t4}) S q4 (M.go y14) y14.good F4 (λY Y z=>by refine cY z λ_ _ _ _ _ _ _ _ f=>?_;clear z;exact f) λh5 t5 ρ5 st5 pv v y5 M5 G5 F5 rv5 q5=>?_;refine bP q5 λacc ha hal q5=>?_;have y25:=y24.trans y2.good (y5.toL (hcl2▸F4.some) (hcl2▸F4.out));have hl5:=y25.up P;refine v4 (s:={ct.2.2.2.2.2.2.2.2.1 with heap:=h5,toks:=t5}) G5 hl5 ha hal rv5 λh6 y6=>?_;have y26:=y25.trans y2.good (y6.toL (hcl2▸F5.some) (hcl2▸F5.out));obtain ⟨ki,kn,r,er⟩:=keepIt y26;exact ⟨all.1.length+1 - (i+1),by exact TW ‹_›,i+1,ρ5,_,h6,t5,pe3,rfl,(y14.trans G y5).trans G y6,F5.go y6,by rw [er];exact I2.keep ki r,kn,y26.up P,q5,hlt,rfl⟩
  ·have hin:i=all.1.length:=by exact Ux ‹_› ‹_›
   have hnone:all.1[i]? =al:=by simp [hin]
   rw [(show all.1.drop i=[] by rw [hin];simp)] at q1;refine FH (s:={ct.2.2.2.2.2.2.2.2.1 with heap:=h1,toks:=t1}) M.handled y1.good hsrc1 I1 hnone λh2 hs2=>?_;have y2:=y1.junk hits I hitB hoi hni' hs2;have F2:=F1.junk hs2 (λe=>hitC (by rw [← hcl2,e]));refine ae F2.ns λm2 hm2 _=>?_;rw [hcl2] at hm2;exact hEnd D C h2 t1 ρ1 st1 m2 (.loc lL) y2 hm2 hCs (hcl2▸F2.out) hCB (.loc P) q1.2
 refine ag hcenv ?_;exact codeAny_compStart_list (loop _ rfl) (Jg I1 (loop _ rfl))) (n,E,A,fe,env,pe,ρ,st,s,x,elt,tgt,iter,ifs,scope,pos,fpos,k,use,Q,X)
theorem z8 (Bs:dO) (S:cL n E) {I O iter:aC} {ifs:List aC} {scope:d9} {pos:cP} {k:KV} (h:comp E I O iter ifs scope pe st k x) (M:eW A ρ s.heap fe n) (G:aY ρ st s.heap) (F:eH ρ s.heap env pe):
  aw (aq prog w) A (eM (.ListComp I [⟨O,iter,ifs,0⟩] scope pos) env) (hV s ρ k) (XK s ρ x) s:=by
 refine ag (eval_ListComp ..) (xL Bs S h M G F (λY Y z=>z) λD C h2 t1 r p m2 pv y W P J V rv q=>?_);refine ⟨m2,W,λh3 l=>?_⟩;refine gz W λoc es ep f hd _=>?_;clear W;exact ⟨h3,t1,r,p,pv,rfl,y.junk P J V f (λvs e=>by cases (hd).symm.trans e) l.extBut,rv,q⟩
theorem xM (Bs:dO) (S:cL n E) {O l iter:aC} {ifs:List aC} {scope:d9} {id:aU} {tp pos J:cP} {k:dL->bD->List PO->Prop} (hsw:iu (.ListComp O [⟨l,iter,ifs,0⟩] scope pos) (ac (.Name id tp)) J.line env=pure au)
  (hl:pe.sc.names.lookup id=ac .local) (h:comp E O l iter ifs scope pe st (λv f=>k .next (pe.set id v) f) x) (M:eW A ρ s.heap fe n) (G:aY ρ st s.heap) (F:eH ρ s.heap env pe):
  aw (aq prog w) A (exec (.Assign [.Name id tp] (.ListComp O [⟨l,iter,ifs,0⟩] scope pos) J) env) (oG s ρ env k) (jL s ρ env.locals x) s:=by
 refine ag (exec_Assign_Name_used _ _ _ _ hsw ..) (aa (cr (aa ?_)));refine aa (aP (xL (use:=some (assign (.Name id tp) env)) (Q:=λY s'=>oG s ρ env k .next s') (X:=jL s ρ env.locals x) Bs S h M G F (λY Y z=>z.toL F.some F.out) ?_) (λY s' hq=>af (af hq)) λY Y e=>e);intro D C h2 t1 ρ1 f m2 pv y r P I hCB rv q;have V:C≠env.locals:=λe=>by refine ae F.some λo e2 _=>?_;rw [e,e2] at P;exact n2 P
 refine mG (aP (n0 (s:={s with heap:=h2,toks:=t1}) (k:=λpe' st'=>pe'=pe.set id pv∧st'=f) hl ⟨rfl,rfl⟩ y.good (F.go y) rv) (λY s' hv=>?_) λY Y z=>z);refine iA hv λh3 t3 ρ3 st3 pe3 eq5 y3 F3 eq8 eq9=>?_;clear hv;refine ag eq5 ?_;subst eq8;subst eq9;have W:h3.Ns C m2:=by refine gR r λo es ep ho hd hk hf=>?_;clear r;refine ae (y3.keep C o ho I V) λsl q1 _=>⟨_,es,ep,q1,hd,hk,hf⟩
 refine ⟨m2,W,λh4 p=>?_⟩;refine gR r λo es ep ho hd hk hf=>?_;clear r;refine gz W λo3 es3 ep3 ho3 hd3 _=>?_;clear W;exact Nm (F3.junk p.extBut (fw V)) (((y.toL F.some F.out).trans G y3).junk P V (y3.notin ho I) hCB ho3 (λvs e=>by cases (hd3).symm.trans e) p.extBut) q
end
section
variable {A:bw} {E:ak->aj->Prop} {s:aj} {d it:ay} {des:Array cz} {ep i:Nat}
theorem v6 {e:cz} {Q:ak->aj->Prop} (l:s.heap.IsKeyIter it d i des.size ep) (f:s.heap.get? d=ac ⟨.type "dict",al,.dict des ep,#[]⟩) (I:des[i]? =ac e)
  (P:∀h',h'.IsKeyIter it d (i+1) des.size ep->eA it s.heap h'->Q e.key {s with heap:=h'}):aw (aq prog w) A (Builtin.SmallTypes.nextOf (.ref it)) Q E s:=by
 refine bP (id l) λo V G hd=>?_;refine aa (ck (name:=eC "__next__") l.typeIs dj
  (bo dj l.typeIs kK ?_ (kq _)))
 refine aa (af (aa (aa (aa ?_))));refine dK l.typeIs (af (aa (ma V hd ?_)));show aw _ _ (if (cy d==dg)=au then _ else _) _ _ s;refine ag (if_neg (show ¬((cy d==dg)=au) from aZ) ..) ?_;refine aa (af (aa (cb f rfl ?_)));refine ag (if_neg (by simp) ..) (aa (af (aa (dP f rfl ?_))));refine ag (if_neg (by simp) ..) (af ?_);simp only [show ¬((i:Int)<0) from by lia,if_false,jI,I];refine aa (aa (dK l.typeIs (af (aa (jS l.typeIs ?_)))));show aw _ _ (uu (.ref it) 1 (dV ((i:Int)+1))>>=_) _ _ s;refine aa (gq V hd (by simp) ?_);have p:(s.heap.update it (dk (·.setIfInBounds 1 (dV ((i:Int)+1))))).IsKeyIter it d (i+1) des.size ep:=
  ⟨_,bh _ V (fP (cG hd _)),(mE ..).trans G,by rw [cG hd];simp [dV]⟩
 refine aa (bc (aa (jS (s:={s with heap:=s.heap.update it (dk (·.setIfInBounds 1 (dV ((i:Int)+1))))}) p.typeIs ?_)));exact af (af ⟨_,rfl,af (P _ p (bN ..))⟩)
theorem IsKeyIter.at {h h':bM} {n:Nat} (x:h.IsKeyIter it d i n ep) (e:∀o,h.get? it=ac o->h'.get? it=ac o):h'.IsKeyIter it d i n ep:=ae x λo V r=>⟨o,e _ V,r⟩
def xN (h:bM) (T:ay) (a b:ak):Prop:=∃G,h.get? T=ac {cls:=.type "tuple",data:=.seq #[a,b],slots:=G}
theorem xN.at {h h':bM} {T:ay} {a b:ak} (x:xN h T a b) (e:∀o,h.get? T=ac o->h'.get? T=ac o):xN h' T a b:=aI x λG q=>⟨G,e _ q⟩
theorem BO {T:ay} {a b v:ak} {k:Nat} {I:Array (Option ak)} {Q:Unit->aj->Prop} (G:s.heap.get? T=ac {cls:=.type "tuple",data:=.seq #[a,b],slots:=I})
  (h:∀h',h'.get? T=ac {cls:=.type "tuple",data:=.seq ((#[a,b]:Array ak).setIfInBounds k v),slots:=I}->eA T s.heap h'->Q () {s with heap:=h'}):
  aw (aq prog w) A (updateSeq T (·.setIfInBounds k v)) Q E s:=by
 refine wpAny_updateSeq G rfl (h _ ?_ (bN ..));refine ag (bh _ G rfl) ?_;simp [tQ]
structure ZD (h:bM) (z TI TO i1 i2 l1 d:ay) (f0:ak) (k:Nat) (n ep:Nat):Prop where
 z:Eu h z TI TO f0
 ti:xN h TI (.ref i1) (.ref i2)
 to:∃a b,xN h TO a b
 i1:h.IsListIter i1 l1 k
 i2:h.IsKeyIter i2 d k n ep
def FM {z I G i1 i2 l1:ay} {k:Nat} {xs:Array ak} {x:ak} {e:cz} {Q:Option ak->aj->Prop}:Prop:=∀(D:Ts z I G i1 i2 l1 d) (Z:ZD s.heap z I G i1 i2 l1 d .none k des.size ep) (J:s.heap.IsList l1 xs) (f:s.heap.get? d=ac ⟨.type "dict",al,.dict des ep,#[]⟩) (O:xs[k]? =ac x) (S:des[k]? =ac e) (P:∀h',ZD h' z I G i1 i2 l1 d (dV s.heap.objs.size) (k+1) des.size ep->IsPair h' s.heap.objs.size x e.key->
   (∀c o,c≠z->c≠G->c≠i1->c≠i2->s.heap.get? c=ac o->h'.get? c=ac o)->Q (ac (.ref s.heap.objs.size)) {s with heap:=h'}),aw (aq prog w) A (k9 (.ref z)) Q E s
noncomputable def cu:=rm <| U λA=>U λE=>U λs=>U λd=>U λdes=>U λep=>U λz=>U λG=>U λI=>U λi1=>U λi2=>U λl1=>U λk=>U λxs=>U λx=>U λe=>@FM A E s d des ep z G I i1 i2 l1 k xs x e
theorem Jh {z TI TO i1 i2 l1 k xs x e Q}:@FM A E s d des ep z TI TO i1 i2 l1 k xs x e Q:=jX (c:=cu) rfl (by
 intro D Z hl1 hod hx hy hQ;obtain ⟨hz,⟨sI,hTI⟩,⟨a,b,sO,hTO⟩,h1,h2⟩:=Z;refine aa (gP (ck (name:=eC "__next__") (⟨_,hz,rfl⟩) oM
  (bo oM (⟨_,hz,rfl⟩) Rx ?_ (Pc _))))
 show aw _ _ (OW (.ref cu.2.2.2.2.2.2.1) 2>>=_) _ _ _;refine aa (dp hz rfl (x:=.bool am) rfl ?_);refine aa (dp hz rfl (x:=.ref cu.2.2.2.2.2.2.2.1) rfl ?_);refine aa (ii hTI rfl ?_);refine aa (aa (dp hz rfl (x:=.none) rfl (af ?_)));refine aa (cS ?_);refine aa (dp hz rfl (x:=.ref cu.2.2.2.2.2.2.2.2.1) rfl ?_);refine aa (jq hz (by simp) λh₁ V J=>?_);replace V:Eu h₁ cu.2.2.2.2.2.2.1 cu.2.2.2.2.2.2.2.1 cu.2.2.2.2.2.2.2.2.1 .ellipsis:=V;refine aa ?_;simp only [List.zipIdx_cons,List.zipIdx_nil,fU,l9];refine aa (aa (rZ ?_));refine aa (wpAny_nextOf_list_item (h1.extBut J.extBut D.i1z) (hl1.extBut J.extBut D.l1z) hx λh₂ h1₂ P=>af ?_);have l:h₂.get? cu.2.2.2.2.2.2.2.2.1=ac {cls:=.type "tuple",data:=.seq #[a,b],slots:=sO}:=P.extBut _ _ D.TOi1 (J.extBut _ _ D.TOz hTO);refine aa (ii l rfl ?_);refine aa (BO l λh₃ y W=>?_);replace y:h₃.get? cu.2.2.2.2.2.2.2.2.1=ac {cls:=.type "tuple",data:=.seq #[cu.2.2.2.2.2.2.2.2.2.2.2.2.2.2.1,b],slots:=sO}:=y;refine aa (wX (af ?_));refine aa (aa (rZ ?_));have k3:∀c o,c≠cu.2.2.2.2.2.2.1->c≠cu.2.2.2.2.2.2.2.2.2.1->c≠cu.2.2.2.2.2.2.2.2.1->cu.2.2.1.heap.get? c=ac o->h₃.get? c=ac o:=λc o c1 c2 c3 q=>W.extBut _ _ c3 (P.extBut _ _ c2 (J.extBut _ _ c1 q));refine aa (v6 (IsKeyIter.at h2 λo q=>k3 _ o D.i2z D.i12.symm D.TOi2.symm q) (k3 _ _ D.l2z D.l2i1 D.l2TO hod) hy λh₄ h2₄ O=>af ?_);have r:h₄.get? cu.2.2.2.2.2.2.2.2.1=ac {cls:=.type "tuple",data:=.seq #[cu.2.2.2.2.2.2.2.2.2.2.2.2.2.2.1,b],slots:=sO}:=O.extBut _ _ D.TOi2 y;refine aa (ii r rfl ?_);refine aa (BO r λG I p =>?_);replace I :G.get? cu.2.2.2.2.2.2.2.2.1=ac {cls:=.type "tuple",data:=.seq #[cu.2.2.2.2.2.2.2.2.2.2.2.2.2.2.1,cu.2.2.2.2.2.2.2.2.2.2.2.2.2.2.2.1.key],slots:=sO}:=I;refine aa (wX (af (af ?_)));refine aa (ii I rfl ?_);refine aa (wpAny_newTuple ?_);have hsz:G.objs.size=cu.2.2.1.heap.objs.size:=by rw [p.1,O.1,W.1,P.1,J.1]
 have hk₅ :∀c o,c≠cu.2.2.2.2.2.2.1->c≠cu.2.2.2.2.2.2.2.2.1->c≠cu.2.2.2.2.2.2.2.2.2.1->c≠cu.2.2.2.2.2.2.2.2.2.2.1->cu.2.2.1.heap.get? c=ac o->G.get? c=ac o:=λc o c1 c2 c3 c4 q=>p.extBut _ _ c2 (O.extBut _ _ c4 (k3 c o c1 c3 c2 q));have hz₅ :Eu G cu.2.2.2.2.2.2.1 cu.2.2.2.2.2.2.2.1 cu.2.2.2.2.2.2.2.2.1 .ellipsis:=p.extBut _ _ D.TOz.symm (O.extBut _ _ D.i2z.symm (W.extBut _ _ D.TOz.symm (P.extBut _ _ D.i1z.symm V)));have h2₅ :G.IsKeyIter cu.2.2.2.2.2.2.2.2.2.2.1 cu.2.2.2.1 (cu.2.2.2.2.2.2.2.2.2.2.2.2.1+1) cu.2.2.2.2.1.size cu.2.2.2.2.2.1:=IsKeyIter.at h2₄ λo q=>p.extBut _ _ D.TOi2.symm q;have hzlt:cu.2.2.2.2.2.2.1 <G.objs.size:=lA hz₅;refine aa ?_;have hz₆ :Eu (G.push {cls:=.type "tuple",data:=.seq #[cu.2.2.2.2.2.2.2.2.2.2.2.2.2.2.1,cu.2.2.2.2.2.2.2.2.2.2.2.2.2.2.2.1.key]}) cu.2.2.2.2.2.2.1 cu.2.2.2.2.2.2.2.1 cu.2.2.2.2.2.2.2.2.1 .ellipsis:=az _ hz₅;refine aa (jq hz₆ (by simp) λh₇ f hs₇ =>?_);replace f :Eu h₇ cu.2.2.2.2.2.2.1 cu.2.2.2.2.2.2.2.1 cu.2.2.2.2.2.2.2.2.1 (dV G.objs.size):=f;refine jq f (by simp) λY S hs₈ =>?_;replace S :Eu Y cu.2.2.2.2.2.2.1 cu.2.2.2.2.2.2.2.1 cu.2.2.2.2.2.2.2.2.1 (dV G.objs.size):=S;have up:∀c o,c≠cu.2.2.2.2.2.2.1->G.get? c=ac o->Y.get? c=ac o:=λc o c1 q=>hs₈.extBut _ _ c1 (hs₇.extBut _ _ c1 (az _ q));have hT₈ :IsPair Y G.objs.size cu.2.2.2.2.2.2.2.2.2.2.2.2.2.2.1 cu.2.2.2.2.2.2.2.2.2.2.2.2.2.2.2.1.key:=hs₈.extBut _ _ (Ii hzlt) (hs₇.extBut _ _ (Ii hzlt) (aM _ rfl));rw [hsz] at S hT₈;refine af ⟨_,rfl,?_⟩;refine ag (hsz ..) ?_;exact af (hQ Y ⟨S,⟨_,up _ _ D.TIz (hk₅ _ _ D.TIz D.TITO D.TIi1 D.TIi2 hTI)⟩,⟨_,_,_,up _ _ D.TOz I⟩,(((h1₂.extBut W.extBut D.TOi1.symm).extBut O.extBut D.i12).extBut p.extBut D.TOi1.symm).at λo q=>up _ o D.i1z q,IsKeyIter.at h2₅ λo q=>up _ o D.i2z q⟩ hT₈ λc o c1 c2 c3 c4 q=>up c o c1 (hk₅ c o c1 c2 c3 c4 q))) (A,E,s,d,des,ep,z,TI,TO,i1,i2,l1,k,xs,x,e,Q)
theorem Nn {z S P i1 i2 l1:ay} {k n:Nat} {xs:Array ak} {Q:Option ak->aj->Prop} (hh:A.handled=al) (D:Ts z S P i1 i2 l1 d) (Z:ZD s.heap z S P i1 i2 l1 d .none k n ep)
  (r:s.heap.IsList l1 xs) (hx:xs[k]? =al)
  (hQ:∀h',(∀c o,c≠z->c≠P->c≠i1->c≠i2->s.heap.get? c=ac o->h'.get? c=ac o)->Q al {s with heap:=h'}):aw (aq prog w) A (k9 (.ref z)) Q E s:=by
 obtain ⟨hz,⟨sI,y⟩,⟨a,b,sO,hTO⟩,h1,h2⟩:=Z;refine aa (gP (ck (name:=eC "__next__") (⟨_,hz,rfl⟩) oM
  (bo oM (⟨_,hz,rfl⟩) Rx ?_ (Pc _))))
 show aw _ _ (OW (.ref z) 2>>=_) _ _ _;refine aa (dp hz rfl (x:=.bool am) rfl ?_);refine aa (dp hz rfl (x:=.ref S) rfl ?_);refine aa (ii y rfl ?_);refine aa (aa (dp hz rfl (x:=.none) rfl (af ?_)));refine aa (cS ?_);refine aa (dp hz rfl (x:=.ref P) rfl ?_);refine aa (jq hz (by simp) λl I G=>?_);replace I:Eu l z S P .ellipsis:=I;refine aa (aa (aa (rZ ?_)));refine aa (wpAny_nextOf_list_end hh (h1.extBut G.extBut D.i1z) (r.extBut G.extBut D.l1z) hx λp e J he=>?_);refine ae he λoe f V=>?_;clear he;have O:Eu p z S P .ellipsis:=J _ _ D.i1z.symm I;refine jq O (by simp) λh₃ Y W=>aa (cW (T:= "StopIteration") (b:=true) ⟨oe,W.extBut _ _ (λx=>by cases x;obtain rfl:=ss O f;simp at V) f,V⟩ To ?_);exact af (hQ _ λc o c1 Y c3 Y q=>W.extBut _ _ c1 (J _ _ c3 (G.extBut _ _ c1 q)))
noncomputable def OL (h:bM) (l1 d:ay) (m ep:Nat):bM:=
 ((((h.push {cls:=.type "list_iterator",data:=.fields #[.ref l1,.int 0 0]}).push {cls:=.type "dict_keyiterator",data:=.fields #[.ref d,.int 0 0,.int m 0,.int ep 0]}).push
    {cls:=.type "tuple",data:=.seq #[.ref h.objs.size,.ref (h.objs.size+1)]}).push {cls:=.type "tuple",data:=.seq #[.none,.none]}).push {cls:=.type "zip",data:=.fields #[.none,.bool am,.bool am,.ref (h.objs.size+2),.ref (h.objs.size+3)]}
theorem FN (h:bM) (l1 d:ay) (m ep:Nat):ZD (OL h l1 d m ep) (h.objs.size+4) (h.objs.size+2) (h.objs.size+3) h.objs.size (h.objs.size+1) l1 d .none 0 m ep:=by
 have G:∀(h:bM) (o:Obj),(h.push o).objs.size=h.objs.size+1:=λh o=>qG ..;have f:∀(h:bM) (o:Obj) (a:ay),o.isFreed=am->a=h.objs.size->(h.push o).get? a=ac o:=λh o a q e=>by rw [e];exact aM _ q
 refine ⟨f _ _ _ rfl (by simp only [G]),⟨#[],?_⟩,⟨.none,.none,#[],?_⟩,⟨{cls:=.type "list_iterator",data:=.fields #[.ref l1,.int 0 0]},?_,rfl,rfl⟩,⟨{cls:=.type "dict_keyiterator",data:=.fields #[.ref d,.int 0 0,.int m 0,.int ep 0]},?_,rfl,rfl⟩⟩
 ·exact az _ (az _ (f _ _ _ rfl (by simp only [G])))
 ·exact az _ (f _ _ _ rfl (by simp only [G]))
 ·exact az _ (az _ (az _ (az _ (f _ _ _ rfl rfl))))
 ·exact az _ (az _ (az _ (f _ _ _ rfl (by simp only [G]))))
theorem Ji (h:bM) (l1 d:ay) (m ep:Nat) (c:ay) (o:Obj) (e:h.get? c=ac o):(OL h l1 d m ep).get? c=ac o:=
 az _ (az _ (az _ (az _ (az _ e))))
theorem CU {l1:ay} {xs:Array ak} {Q:ak->aj->Prop} (hd:(d==gi)=am) (G:s.heap.IsList l1 xs) (V:s.heap.get? d=ac ⟨.type "dict",al,.dict des ep,#[]⟩)
  (h:Q (.ref (s.heap.objs.size+4)) {s with heap:=OL s.heap l1 d des.size ep}):
  aw (aq prog w) A (call (.type "zip") [.ref l1,.ref d]) Q E s:=by
 have I:Meets (Builtin.«zip.__new__» ⟨[.type "zip",.ref l1,.ref d],[]⟩) (λY R s=>s.heap.IsList l1 xs∧s.heap.get? d=ac ⟨.type "dict",al,.dict des ep,#[]⟩∧
   R (.ok (.ret (.ref (s.heap.objs.size+4)))) {s with heap:=OL s.heap l1 d des.size ep}):=
  .of_wp λprog w A R s h=>by obtain ⟨S,g,dd,tk,os⟩:=s;refine eg h λG P h=>?_;have O:=sub_zip;have J:bM.get? (aj.heap ⟨S.push {cls:=.type "list_iterator",data:=.fields #[.ref l1,.int 0 0]},g,dd,tk,os⟩) d=ac ⟨.type "dict",al,.dict des ep,#[]⟩:=az _ P;wp_walk using uz (G),sQ hd J;unfold OL at h;simp only [qG] at h ⊢;exact ⟨_,rfl,h⟩
 exact callType_new F.called_zip (by decide) (F.typeCall_zip_2 _ _) (F.newCall_zip_2 _ _) (λobj=>F.args_object_init_3 obj _ _) F.entry_zip_new I ⟨G,V,⟨_,(FN s.heap l1 d des.size ep).z,rfl⟩,h⟩
end
section
variable {n:Nat} {E:Lv} {A:bw} {fe env:Env} {pe:bD} {ρ ρ' ρ'':List ay} {st st' st'':List PO} {s:aj} {h h0 h1 h2 h' h'':bM} {L:ay} {tk:Nat} {x:KX}
def FO (W:List ay) (ρ:List ay) (h h':bM):Prop:=(∀c∈W,c∉ρ∧B.get? c=al∧∀o,h.get? c=ac o->∀vs,o.data=.fields vs->∀q t,vs[1]? ≠ac (.str q t))∧
 ∀b o,b∉W->h.get? b=ac o->h'.get? b=ac o
theorem aY.junks {W:List ay} (G:aY ρ st h) (J:FO W ρ h h'):aY ρ st h':=by
 refine ah J λI O=>?_;clear J;have S:∀P q,h.CodeRec P q->h'.CodeRec P q:=by intro P q l;refine fI l ?_;clear l;intro cc V vs t e1 e2 e3 f;refine ⟨cc,V,vs,t,e1,O cc V (λz=>?_) e2,e3,f⟩;exact (I cc z).2.2 V e2 vs e3 _ _ f
 refine ⟨λb o' e=>O b o' (λz=>by (first | obtain rfl:=ss ((I b z).2.1) e | exact sn e ((I b z).2.1) | exact sn ((I b z).2.1) e | exact n3 ((((I b z).2.1)).symm.trans e) | exact n4 ((((I b z).2.1)).symm.trans e) | exact n1 ((((I b z).2.1)).symm.trans e))) (G.base b o' e),G.nodup,G.len,G.fresh,λi po e=>?_⟩;refine ae (G.objs i po e) λa e1 e2=>⟨a,e1,e2.to (λo' q=>O a o' (λz=>(I a z).1 (aN e1)) q) (λb p o' q Y=>O b o' (λz=>(I b z).1 p) q) S⟩
theorem iW.junks {W:List ay} (y:iW ρ L h0 ρ' st' h1) (G:∀c∈W,h0.get? c=al∧c≠L) (J:FO W ρ' h1 h2):iW ρ L h0 ρ' st' h2:=
 ⟨y.ext,y.good.junks J,λb o' e O p=>by
  refine ae (y.keep b o' e O p) λS q P=>?_;exact ⟨S,J.2 b _ (λz=>by (first | obtain rfl:=ss ((G b z).1) e | exact sn e ((G b z).1) | exact sn ((G b z).1) e | exact n3 ((((G b z).1)).symm.trans e) | exact n4 ((((G b z).1)).symm.trans e) | exact n1 ((((G b z).1)).symm.trans e))) q,P⟩,by
  refine ae y.here λI q d=>?_;exact ⟨I,J.2 L I (λz=>(G L z).2 rfl) q,d⟩⟩
theorem eH.junks {W:List ay} (F:eH ρ h env pe) (J:∀b o,b∉W->h.get? b=wZ o->h2.get? b=wZ o) (G:env.locals∉W):eH ρ h2 env pe:=by refine ae F.ns λm I O=>?_;exact ⟨F.sc,F.kind,F.glob,F.blt,⟨m,pd I λo e=>⟨o.slots,J _ o G e,λY=>rfl⟩,O⟩,F.out,F.base,F.cells,F.tab⟩
theorem Jj {f:aC} {args:List aC} {pos:cP} (G:oN f=au):eM (.Call f args [] pos) env=(do Ba pos (← eM f env) [] (iU pos (dY args env)) (Bk pos (qH [] env))):=by rcases f with _ | _ <;> first | rfl | exact n3 G
theorem BP {N:vf->Prop} {f:aC} {args:List aC} {pos:cP} {k:KV} (P:dO) (S:fK N n E) (p:oN f=au) (hl:args.length <20) (r:args.all cx=au)
  (h:E.ev f pe st (λO I=>tT E pe x args I λvs J=>oO K O J∧E.call O vs J k x) x) (M:eW A ρ s.heap fe n) (G:aY ρ st s.heap) (F:eH ρ s.heap env pe):
  fE N (aq prog w) A (eM (.Call f args [] pos) env) (hV s ρ k) (XK s ρ x) s:=by
 refine ag (Jj p) (bY (lk S h M G F (λY Y z=>z) λh' tk' ρ' st' pv v y l W V rv q=>?_));exact Fj G y (nY (first:=[]) P S r hl q l W V rv .nil)
theorem No {f:aC} {args:List aC} {pos:cP} {k:KV} (P:dO) (S:cL n E) (V:oN f=au) (hl:args.length <20) (W:args.all cx=au)
  (h:E.ev f pe st (λO I=>tT E pe x args I λvs J=>oO K O J∧E.call O vs J k x) x) (M:eW A ρ s.heap fe n) (G:aY ρ st s.heap) (F:eH ρ s.heap env pe):
  aw (aq prog w) A (eM (.Call f args [] pos) env) (hV s ρ k) (XK s ρ x) s:=jz (BP P S.toN V hl W h M G F)
theorem FP {e1 e2:aC} {f:aU} {fp pos:cP} {Q:ak->aj->Prop} (Bs:dO) (S:cL n E) (I:([e1,e2]:List aC).all cx=au) (hf:pe.sc.names.lookup f=ac .globalImplicit) (hfz:f=("zip":aU)) (hg:jy K f=ac (.ty "zip"))
  {kk:List PV->St->Prop} (h:tT E pe x [e1,e2] st kk) (M:eW A ρ s.heap fe n) (G:aY ρ st s.heap) (F:eH ρ s.heap env pe) {X:ak->aj->Prop} (hX:∀e W,XK s ρ x e W->X e W)
  (hQ:∀h' tk ρ' st' ps vs,Ev ρ s.heap ρ' st' h'->eI ρ' ps vs->kk ps st'->aw (aq prog w) A (call (.type "zip") vs) Q X {s with heap:=h',toks:=tk}):
  aw (aq prog w) A (eM (.Call (.Name f fp) [e1,e2] [] pos) env) Q X s:=by
 refine Call_ (aP (zL (x:=x) (k:=λv st1=>v=.ty "zip"∧st1=st) Bs (by refine ag (hfz ..) ?_;decide) (.glob hf hg ⟨rfl,rfl⟩) G F) (λfv W J=>?_) hX);refine iA J λh' tk' ρ' st' pv O y r V l=>?_;clear J;refine ag O ?_;subst V;subst l;refine ag r.inv (Vz (P:=λY=>True) (by refine ag (iH I ..) ?_;rfl) (λY Y=>⟨.machine,.inr (.inl rfl),.now⟩) ?_);refine uQ I (aP (pZ S [e1,e2] st' ρ' {s with heap:=h',toks:=tk'} _ h (M.go y) y.good (F.go y)) (λvs W J=>?_) λY Y z=>hX _ _ (z.pre G y));refine cY J λh2' t2 ρ2 st2 pvs p y2 r q=>?_;clear J;refine ag p ⟨trivial,hQ _ _ _ _ _ _ (y.trans G y2) r q⟩
theorem v8 {l d:Nat} {all:List jc × wT} (h:mL l d st all):∃(xs:List PV) (es:List (bJ × PV × PV)) (ep:Nat),st[l]? =ac (.list xs)∧st[d]? =ac (.dict es ep)∧all.2=.zip ep∧xs.length=all.1.length∧es.length=all.1.length∧
  ∀(i:Nat) (it:jc),all.1[i]? =ac it->∃(a:PV) (c:bJ × PV × PV),xs[i]? =ac a∧es[i]? =ac c∧it=(Sum.inr (a,c.2.1):jc):=by
 induction h using mL.casesOn with
 | @mk xs es ep hx hd h1 h2=>refine ⟨xs,es,ep,hx,hd,rfl,by simp [h2],by simp [h2],λi it e=>?_⟩;refine ae (jw e) λI e1 G=>?_;obtain ⟨a,c⟩:=I;refine bZ G (ah (List.getElem?_zip_eq_some.mp e1) λP J=>?_);exact ⟨a,c,P,J,rfl⟩
theorem ZD.keep {z I J i1 i2 l1 d:ay} {V:ak} {k m ep:Nat} (Z:ZD h z I J i1 i2 l1 d V k m ep) (O:∀b∈[z,I,J,i1,i2],∀o,h.get? b=ac o->∃G,h'.get? b=ac {o with slots:=G}∧((∃vs,o.data=.fields vs)->G=o.slots)):ZD h' z I J i1 i2 l1 d V k m ep:=by
 obtain ⟨a1,⟨sI,W⟩,⟨a,b,sO,f⟩,⟨o4,l,y,S⟩,⟨o5,p,r,c5⟩⟩:=Z;have one:∀b∈[z,I,J,i1,i2],∀o,h.get? b=ac o->(∃vs,o.data=.fields vs)->h'.get? b=ac o:=λb Y o e hf=>by refine ae (O b Y o e) λG P q2=>?_;rw [P,q2 hf]
 refine ⟨one z (by simp) _ a1 ⟨_,rfl⟩,?_,⟨a,b,?_⟩,⟨o4,one i1 (by simp) _ l ⟨_,S⟩,y,S⟩,⟨o5,one i2 (by simp) _ p ⟨_,c5⟩,r,c5⟩⟩
 ·refine ae (O I (by simp) _ W) λG P _=>⟨G,P⟩
 ·refine ae (O J (by simp) _ f) λG P _=>⟨G,P⟩
def FQ {I e1 e2:aC} {f:aU} {P O pos:cP} {body:List cg} {k:dL->bD->List PO->Prop}:Prop:=∀(y:dO) (S:cL n E) (W:f=("zip":aU)) (p:([e1,e2]:List aC).all cx=au) (V:pe.sc.names.lookup f=ac .globalImplicit) (z:jy K f=ac (.ty "zip")) (h:tT E pe x [e1,e2] st λvs J=>∃l d all,vs=[.loc l,.loc d]∧mL l d J all∧mM E I body (λst=>mL l d st all) all.1 pe J k x) (M:eW A ρ s.heap env n) (G:aY ρ st s.heap) (F:eH ρ s.heap env pe) (r:env.frame=ac env.locals),aw (aq prog w) A (exec (.For I (.Call (.Name f P) [e1,e2] [] O) body [] pos) env) (oG s ρ env k) (jL s ρ env.locals x) s
noncomputable def fg:=rm <| U λn=>U λE=>U λA=>U λenv=>U λpe=>U λρ=>U λst=>U λs=>U λx=>U λG=>U λe1=>U λe2=>U λf=>U λJ=>U λI=>U λpos=>U λbody=>@FQ n E A env pe ρ st s x G e1 e2 f J I pos body
theorem pp {tgt e1 e2 f fp cp pos body k}:@FQ n E A env pe ρ st s x tgt e1 e2 f fp cp pos body k:=jX (c:=fg) rfl (by
 intro Bs S hfz hns hfl hg h M G F hf;have hLs:(fg.2.2.2.2.2.2.2.1.heap.get? fg.2.2.2.1.locals).isSome=au:=by refine ae F.some λo e _=>?_;refine ag (e ..) ?_;rfl
 refine wpAny_For (FP Bs S hns hfl hfz hg h M G F (λY Y z=>z.toL F.some F.out) λh' tk' ρ' st' ps vs y r q=>?_);(refine gz q ?_;clear q;intro l d all e3 hsrc q;subst e3);refine bz (ph r) λv1 v2 e2 r1 r2=>ag e2 ?_;cases r1 with | @loc _ la hl=>
 cases r2 with | @loc _ da hd=>
 have G':=y.good;refine vk (v8 hsrc) λxs es ep hx hdx hep hlx hle _=>cK (G'.at hl hx) λvs m o1 rr=>bP (G'.at hd hdx) λdes o2 R _=>CU (s:={fg.2.2.2.2.2.2.2.1 with heap:=h',toks:=tk'}) (k6 (s:={fg.2.2.2.2.2.2.2.1 with heap:=h',toks:=tk'}) Bs G' hd) ⟨_,o1,rfl,_,rfl⟩ o2 ?_;have hdl:des.size=all.1.length:=by exact bZ (hle ..) (ag (R.length ..) (ag (bu ..) rfl))
 have Z0:=FN h' la da des.size ep;have K0:=Ji h' la da des.size ep;generalize OL h' la da des.size ep=h1 at Z0 K0 ⊢;rw [hdl] at Z0;refine wpAny_pyIter_zip (s:={fg.2.2.2.2.2.2.2.1 with heap:=h1,toks:=tk'}) Z0.z ?_;have D:Ts (h'.objs.size+4) (h'.objs.size+2) (h'.objs.size+3) h'.objs.size (h'.objs.size+1) la da:=zipApart_new (lA o1) (lA o2);have ff:∀b,h'.objs.size≤b->fg.2.2.2.2.2.2.2.1.heap.get? b=al∧b≠fg.2.2.2.1.locals∧B.get? b=al∧b∉ρ':=λb O=>by have e:=aS (h:=h') O;have e2:=sU G y e;refine ah (im G' e) λq1 q2=>⟨e2,(λ(z:b=fg.2.2.2.1.locals)=>by rw [← z,e2] at hLs;exact n3 hLs),q2,q1⟩
 have WW:∀b∈[h'.objs.size+4,h'.objs.size+2,h'.objs.size+3,h'.objs.size,h'.objs.size+1],fg.2.2.2.2.2.2.2.1.heap.get? b=al∧b≠fg.2.2.2.1.locals∧B.get? b=al∧b∉ρ':=λb O=>ff b (by simp only [bj,iw,or_false] at O;exact by lia);have y0:=Ev.sub G' K0;have y1:=(y.toL F.some F.out).trans G (y0.toL (F.go y).some (F.go y).out);have F1:=(F.go y).go y0;clear ff K0 y0 hx hdx rr R o1 o2 hlx hle hdl;generalize h'.objs.size+4=z at*;generalize h'.objs.size+2=TI at*;generalize h'.objs.size+3=TO at*;generalize h'.objs.size+1=i2 at*;generalize h'.objs.size=i1 at*;have W5:∀{P:ay->Prop},P z->P TI->P TO->P i1->P i2->∀b∈[z,TI,TO,i1,i2],P b:=λa b c d e x hx=>by simp only [bj,iw,or_false] at hx;rcases hx with rfl | rfl | rfl | rfl | rfl <;> assumption
 have W4:∀c∈[z,TO,i1,i2],c∈[z,TI,TO,i1,i2]:=λc hc=>by simp only [bj,iw,or_false] at hc ⊢;rcases hc with h | h | h | h <;> simp [h]
 have objZ:∀{h1:bM} {i:Nat} {m},ZD h1 z TI TO i1 i2 la da .none i m ep->∀b∈[z,TI,TO,i1,i2],∃o,h1.get? b=ac o∧∀vs,o.data=.fields vs->∀q t,vs[1]? ≠ac (.str q t):=λ{h1 i m} Z=>by
  refine W5 ⟨_,Z.z,?_⟩ ?_ ?_ ?_ ?_
  ·rintro vs V q t e;cases V;simp at e
  ·refine aI Z.ti λ_ e=>⟨_,e,λvs V=>nomatch V⟩
  ·refine fH Z.to λ_ _ _ e=>⟨_,e,λvs V=>nomatch V⟩
  ·refine bP Z.i1 λ_ e _ g3=>⟨_,e,λvs V q t e=>by rw [g3] at V;cases V;simp at e⟩
  ·refine bP Z.i2 λ_ e _ g3=>⟨_,e,λvs V q t e=>by rw [g3] at V;cases V;simp at e⟩
 have junkW:∀{h1 h2:bM} {i:Nat} {m} {I:List ay},ZD h1 z TI TO i1 i2 la da .none i m ep->(∀b∈[z,TI,TO,i1,i2],b∉I)->(∀c o,c≠z->c≠TO->c≠i1->c≠i2->h1.get? c=ac o->h2.get? c=ac o)->FO [z,TO,i1,i2] I h1 h2:=λ{h1 h2 i m I} Z hn hk=>by
  refine ⟨λc hc=>⟨hn c (W4 c hc),(WW c (W4 c hc)).2.2.1,λo ho vs V=>?_⟩,λb o O e=>?_⟩
  ·refine ae (objZ Z c (W4 c hc)) λo' e g=>?_;obtain rfl:=fm (ho.symm.trans e);exact g vs V
  ·simp only [bj,iw,or_false,not_or] at O;exact hk b o O.1 O.2.1 O.2.2.1 O.2.2.2 e
 have W0:∀c∈[z,TO,i1,i2],fg.2.2.2.2.2.2.2.1.heap.get? c=al∧c≠fg.2.2.2.1.locals:=λc hc=>⟨(WW c (W4 c hc)).1,(WW c (W4 c hc)).2.1⟩;have keepJ:∀{I st1 h1 ρ2 st2 h2} {i:Nat},aY I st1 h1->(ZD h1 z TI TO i1 i2 la da .none i all.1.length ep∧(∀b∈[z,TI,TO,i1,i2],b∉I)∧I[l]? =ac la∧I[d]? =ac da)->iW I fg.2.2.2.1.locals h1 ρ2 st2 h2->
   (ZD h2 z TI TO i1 i2 la da .none i all.1.length ep∧(∀b∈[z,TI,TO,i1,i2],b∉ρ2)∧ρ2[l]? =ac la∧ρ2[d]? =ac da):=by
  intro I st1 h1 ρ2 st2 h2 i G1 q8 y;refine gQ q8 ?_;clear q8;intro Z hn e1 e2;refine ⟨Z.keep λb O o e=>y.keep b o e (hn b O) (WW b O).2.1,λb O=>?_,y.up e1,y.up e2⟩;refine ae (objZ Z b O) λo e _=>y.notin e (hn b O)
 refine FK S (J:=λI h1 i=>ZD h1 z TI TO i1 i2 la da .none i all.1.length ep∧(∀b∈[z,TI,TO,i1,i2],b∉I)∧I[l]? =ac la∧I[d]? =ac da) G hLs F.out M hf keepJ ?_ ?_ y1 F1 ⟨Z0,λb O=>(WW b O).2.2.2,hl,hd⟩ q
 ·intro i item I st1 h1 t1 pe1 kk hi p y1 F1 q12 q1;refine gQ q12 ?_;clear q12;intro Z1 hn hl1 hd1;refine vk (v8 p) λxs1 es1 ep1 hx1 hdx1 hep1 hlx1 hle1 hit=>?_;cases hep.symm.trans hep1;refine bz (hit i item hi) λpa pc g1 g2 e4=>?_;subst e4;refine cK (y1.good.at hl1 hx1) λvs1 m1 p1 rr1=>bP (y1.good.at hd1 hdx1) λdes1 p2 R1 _=>ae (rr1.get g1) λv1 b1 b2=>ae (R1.get g2) λen b3 b4=>?_;rw [cH] at b1 b3;have hdl1:des1.size=all.1.length:=by exact bZ (hle1 ..) (ag (R1.length ..) (ag (bu ..) rfl))
  rw [← hdl1] at Z1;cases q1 with
  | @two ts c0 tp _ _ ht tl tns q1=>
  refine ag ht (Jh (s:={fg.2.2.2.2.2.2.2.1 with heap:=h1,toks:=t1}) D Z1 ⟨_,p1,rfl,_,rfl⟩ p2 b1 b3 λh2 Z2 hT hk=>⟨_,rfl,?_⟩);refine wpAny_letOwnedTupleGo_zip (s:={fg.2.2.2.2.2.2.2.1 with heap:=h2,toks:=t1}) Z2.z λh3 hz3 W=>?_;dsimp only at hT Z2 W hz3 ⊢;have hTz:h1.objs.size≠z:=λe=>by have q:=aS (h:=h1) (aG _);rw [e] at q;cases q.symm.trans Z1.z
  have Z3:ZD h3 z TI TO i1 i2 la da .none (i+1) des1.size ep:=
   ⟨hz3,Z2.ti.at λo e=>W.extBut _ _ D.TIz e,(by refine cN Z2.to λa b e=>?_;exact ⟨a,b,e.at λo e=>W.extBut _ _ D.TOz e⟩),Z2.i1.at λo e=>W.extBut _ _ D.i1z e,IsKeyIter.at Z2.i2 λo e=>W.extBut _ _ D.i2z e⟩
  rw [hdl1] at Z3;have J3:=junkW Z1 hn (λc o c1 c2 c3 c4 e=>W.extBut _ _ c1 (hk c o c1 c2 c3 c4 e));have y3:=y1.junks W0 J3;have F3:=F1.junks J3.2 (λm=>(WW _ (W4 _ m)).2.1 rfl);obtain ⟨g1',g2'⟩:=sT tns fg.2.2.2.1;refine OE (s:={fg.2.2.2.2.2.2.2.1 with heap:=h3,toks:=t1}) M.handled ⟨_,(W.extBut _ _ hTz hT),rfl,_,rfl⟩ (by refine ag (g1' ..) (ag (tl ..) ?_);rfl) g2' λh4 hk4=>?_;have keep:∀b o,h3.get? b=ac o->h4.get? b=ac o:=λb o e=>hk4 b o (λz=>by have q:=aS (h:=h3) (aG _);rw [← z] at q;cases q.symm.trans e) e;have y34:=Ev.sub y3.good keep;have y4:=y3.trans G (y34.toL F3.some F3.out);refine aP (sR (A:=fg.2.2.1) (fe:=fg.2.2.2.1) (env:=fg.2.2.2.1) S ts [pa,pc.2.1] [v1,en.key] pe1 st1 I {fg.2.2.2.2.2.2.2.1 with heap:=h4,toks:=t1} _ q1 (M.goL y4) y4.good (F3.go y34) (.cons b2 (.cons b4.kv .nil))) (λY s' V=>?_) λY Y z=>z.pre G y4;refine cY V λh5 t5 ρ5 st5 pe5 e5 y5 F5 q5=>?_;clear V;refine ag e5 ⟨ρ5,st5,h5,t5,pe5,rfl,y4.trans G y5,F5,keepJ y4.good ⟨Z3.keep λb Y o e=>⟨o.slots,keep b o e,λY=>rfl⟩,hn,hl1,hd1⟩ y5,q5⟩
 ·intro i I st1 h1 t1 pe1 hle p y1 F1 q10;refine gQ q10 ?_;clear q10;intro Z1 hn hl1 hd1;refine vk (v8 p) λxs1 es1 ep1 hx1 hdx1 hep1 hlx1 hle1 _=>cK (y1.good.at hl1 hx1) λvs1 m1 p1 rr1=>Nn (s:={fg.2.2.2.2.2.2.2.1 with heap:=h1,toks:=t1}) M.handled D Z1 ⟨_,p1,rfl,_,rfl⟩ ?_ λh2 hk=>⟨rfl,h2,rfl,y1.junks W0 (junkW Z1 hn hk),F1.junks (junkW Z1 hn hk).2 (λm=>(WW _ (W4 _ m)).2.1 rfl)⟩;rw [eD];refine bZ (bu ..) (bZ (rr1.length ..) ?_);refine ag (hlx1 ..) ?_;exact hle) (n,E,A,env,pe,ρ,st,s,x,tgt,e1,e2,f,fp,cp,pos,body,k)
end
section
variable {n:Nat} {E:Lv} {A:bw} {fe env:Env} {pe:bD} {ρ ρ' ρ'':List ay} {st st' st'':List PO} {s:aj} {h h0 h1 h2 h' h'':bM} {L:ay} {tk:Nat} {x:KX} {k:KV}
def Ua (ρ:List ay) (ps:List (PV × PV)) (vs:List (ak × ak)):Prop:=eI ρ (ps.map (·.1)) (vs.map (·.1))∧eI ρ (ps.map (·.2)) (vs.map (·.2))
theorem CV {pos:cP} (S:cL n E):∀(ks:List (Option aC)) (es:List aC) (st:List PO) (ρ:List ay) (s:aj) (kk:List (PV × PV)->List PO->Prop),Pq E pe x ks es st kk->eW A ρ s.heap fe n->aY ρ st s.heap->eH ρ s.heap env pe->
  aw (aq prog w) A (evalPairs (pairTrees ks es env pos)) (λvs s'=>∃h' W ρ' st' ps,s'={s with heap:=h',toks:=W}∧Ev ρ s.heap ρ' st' h'∧Ua ρ' ps vs∧kk ps st') (XK s ρ x) s:=by
 intro J;induction J with
 | nil=>intro es st ρ s kk h M G F;exact ag h.1 (pairTrees_nil_walk ⟨s.heap,s.toks,ρ,st,[],rfl,.refl G,⟨.nil,.nil⟩,h.2⟩)
 | cons o kr V=>intro es st ρ s kk h M G F;refine gz h λke ve vr e1 e2 h=>ag e1 (ag e2 ?_);refine pairTrees_cons_walk (eJ S h M G F (λY Y z=>z) λh1 t1 ρ1 st1 kv v1 f M1 G1 F1 r1 q1=>?_);refine eJ (s:={s with heap:=h1,toks:=t1}) S q1 M1 G1 F1 (λY Y z=>z.pre G f) λh2 t2 r O vv v2 p M2 G2 F2 r2 q2=>aP (V vr O r {s with heap:=h2,toks:=t2} _ q2 M2 G2 F2) (λvs s' hv=>?_) λY Y a=>a.pre G (f.trans G p);refine cY hv λh3 t3 ρ3 P ps I y l q3=>?_;clear hv;refine ag I ?_;obtain ⟨p1,p2⟩:=l;exact ⟨h3,t3,ρ3,P,(kv,vv)::ps,rfl,(f.trans G p).trans G y,⟨.cons (y.pre (p.pre r1)) p1,.cons (y.pre r2) p2⟩,q3⟩
theorem xO {D:ay} {i:Nat} {X:ak->aj->Prop}:∀(ps:List (PV × PV)) (vs:List (ak × ak)) (st:List PO) (s:aj) (kk:List PO->Prop),Ua ρ ps vs->oP i ps st kk->A.units+10 <cT->aY ρ st s.heap->ρ[i]? =ac D->
  aw (aq prog w) A (Tt D vs) (λY s'=>∃h' p st',s'={s with heap:=h',toks:=p}∧Ev ρ s.heap ρ st' h'∧kk st') X s:=by
 intro S;induction S with
 | nil=>
  intro vs st s kk r h hu G hi;induction vs using aX with
  | cons a r'=>refine ah r λI _=>?_;clear r;exact nomatch I
  | nil=>unfold Tt;refine ag (l9 ..) (af ⟨s.heap,s.toks,st,rfl,.refl G,h⟩)
 | cons P ps V=>
  intro vs st s kk r h hu G hi;obtain ⟨a,v⟩:=P;induction vs using aX with
  | nil=>refine ah r λI _=>?_;clear r;exact nomatch I
  | cons b vs=>
  obtain ⟨va,vv⟩:=b;refine ah r λI W=>?_;clear r;cases I with | cons f I=>
  cases W with | cons rv W=>
  refine nN h λi' es ep kb e0 h1 h2 h3 h=>?_;cases e0;unfold Tt;refine ag (fU ..) (aa (aa (Nf G (by exact Up ‹_›) (gZ G f h2).1 (gZ G f h2).2 f rv hi h1 h3 λh' tk ep' y=>af ?_)));refine aP (V vs _ {s with heap:=h',toks:=tk} kk ⟨I,W⟩ (h ep') hu y.good hi) (λY s' hv=>?_) λY Y z=>z;refine gz hv λO t2 l J y2 q=>?_;clear hv;refine ag J ⟨O,t2,l,rfl,y.trans G y2,q⟩
theorem Jk {pos:cP} (h:k (.loc st.length) (st++[.dict [] 0])) (G:aY ρ st s.heap):aw (aq prog w) A (eM (.Dict [] [] pos) env) (hV s ρ k) (XK s ρ x) s:=
 wpAny_Dict_empty (gJ (po:=.dict [] 0) _ G rfl ⟨#[],aM _ rfl,.nil,.nil⟩ h)
theorem Np {ks:List (Option aC)} {vs:List aC} {pos:cP} (S:cL n E) (h0:ks≠[]) (h1:ks.all (·.isSome)=au) (h2:ks.length=vs.length) (h3:ks.length≤10)
  (h:Pq E pe x ks vs (st++[.dict [] 0]) λps l=>oP st.length ps l λI=>k (.loc st.length) I) (M:eW A ρ s.heap fe n) (G:aY ρ st s.heap) (F:eH ρ s.heap env pe):
  aw (aq prog w) A (eM (.Dict ks vs pos) env) (hV s ρ k) (XK s ρ x) s:=by
 ·refine wpAny_Dict_any h1 h2 h0 (by lia) ?_;have Y:Ev ρ s.heap (ρ++[s.heap.objs.size]) (st++[.dict [] 0]) (s.heap.push {cls:=.type "dict",data:=.dict #[]}):=Ev.push (po:=.dict [] 0) G _ rfl ⟨#[],aM _ rfl,.nil,by decide⟩;have hi:(ρ++[s.heap.objs.size])[st.length]? =ac s.heap.objs.size:=by refine bZ (G.len ..) ?_;simp
  refine aP (CV (pos:=pos) S ks vs (st++[.dict [] 0]) (ρ++[s.heap.objs.size]) {s with heap:=s.heap.push {cls:=.type "dict",data:=.dict #[]}} _ h (M.go Y) Y.good (F.go Y)) (λf s' O=>?_) λJ J z=>XK.pre (tk:=s.toks) G Y z;refine cY O λh' p ρ' st' ps V y pr q=>?_;clear O;refine ag V (aP (xO ps f st' {s with heap:=h',toks:=p} _ pr q (by have:=M.units;have:cT=9900:=rfl;exact Sl ‹_›) y.good (y.up hi)) (λJ s' O=>?_) λJ J z=>z);refine gz O λW t2 I P r q=>?_;clear O;refine ag P ⟨W,t2,ρ',I,.loc st.length,rfl,((Y.trans G y).trans G r),.loc (r.up (y.up hi)),q⟩
theorem qe (S:cL n E) {o:Option aC} {kk:Option PV->List PO->Prop} (h:Pr E pe x o st kk) (M:eW A ρ s.heap fe n) (G:aY ρ st s.heap) (F:eH ρ s.heap env pe):
  aw (aq prog w) A (evalPart o env) (λv W=>∃h' l ρ' st' po,W={s with heap:=h',toks:=l}∧Ev ρ s.heap ρ' st' h'∧VR ρ' (po.getD .none) v∧kk po st') (XK s ρ x) s:=by
 induction o with
 | none=>exact af ⟨s.heap,s.toks,ρ,st,al,rfl,.refl G,.none,h⟩
 | some e=>refine aP (S.ev e pe st _ x h A fe env ρ s M G F) (λv W J=>?_) λY Y z=>z;refine cY J λh' l ρ' st' O I y r q=>?_;clear J;refine ag I ⟨h',l,ρ',st',ac O,rfl,y,r,q⟩
theorem eI.take {ρ:List ay} {ps:List PV} {G:List ak} (r:eI ρ ps G):∀j:Nat,eI ρ (ps.take j) (G.take j):=by
 induction r with
 | nil=>intro j;refine ag (r5 ..) (ag (r5 ..) ?_);exact .nil
 | cons a r P=>intro j;induction j using eX with
  | zero=>exact .nil
  | succ j=>exact .cons a (P j)
theorem z9 {z:PV} {pl pu ps:Option PV} {v0 vl vu vs:ak} {e i:aC} {S:ay} {X:ak->aj->Prop} (q:sliced st k z pl pu ps) (G:aY ρ st s.heap) (f:VR ρ z v0) (l:VR ρ (pl.getD .none) vl) (y:VR ρ (pu.getD .none) vu) (p:VR ρ (ps.getD .none) vs)
  (J:s.heap.IsSliceOf S vl vu vs):aw (aq prog w) A (Ed e i v0 (.ref S)) (hV s ρ k) X s:=by
 have hsz:1001 <ek:=by decide
 induction q using sliced.casesOn with
 | @take _ xs m O h0 h1 hl h=>refine ae f.iloc λ_ e1 hi=>?_;refine ag e1 ?_;obtain rfl:=l.inv;obtain rfl:=p.inv;refine aI y.inv ?_;intro tt I;subst I;refine cK (G.at hi O) λus mm o1 P=>?_;have W:=P.length.trans bu;refine aI (nE h0) λr V=>?_;subst V;refine jv ⟨_,o1,rfl⟩ iV (ng ⟨_,o1,rfl,_,rfl⟩ J .none (.int _ tt) .none (λq=>nomatch q) ?_ (by lia));refine ag (R8 ..) ?_;exact gJ (po:=.list _) _ G rfl ⟨_,0,aM _ rfl,by refine ag (lc ..) ?_;exact (P.take r).mono _⟩ h
 | @takeP _ xs _ m O h0 h1 hl h=>refine VR.eloc f λY hi=>?_;obtain rfl:=l.inv;obtain rfl:=p.inv;refine aI y.inv ?_;intro tt I;subst I;obtain ⟨o1,oc,us,mm,od,P⟩:=G.at hi O;have W:=P.length.trans bu;refine aI (nE h0) λr V=>?_;subst V;refine jv ⟨_,o1,oc⟩ iV (ng ⟨_,o1,oc,_,od⟩ J .none (.int _ tt) .none (λq=>nomatch q) ?_ (by lia));refine ag (R8 ..) ?_;exact gJ (po:=.list _) _ G rfl ⟨_,0,aM _ rfl,by refine ag (lc ..) ?_;exact (P.take r).mono _⟩ h
 | rev O hl h=>refine VR.eloc f λY hi=>?_;obtain rfl:=l.inv;obtain rfl:=y.inv;refine aI p.inv ?_;intro tt I;subst I;refine cK (G.at hi O) λus mm o1 P=>?_;have W:=P.length.trans bu;refine jv ⟨_,o1,rfl⟩ iV (ng ⟨_,o1,rfl,_,rfl⟩ J .none .none (.int _ tt) (λq=>nomatch q) ?_ (by lia));refine ag (krv_pick ..) ?_;exact gJ (po:=.list _) _ G rfl ⟨_,0,aM _ rfl,by refine ag (lc ..) ?_;exact P.reverse.mono _⟩ h
 | barr O hq hl h=>refine ae f.iloc ?_;intro _ I hi;refine ag I ?_;subst hq;refine aI l.inv ?_;intro tl I;subst I;obtain ⟨tu,rfl⟩:=y.inv;obtain rfl:=p.inv;exact jv ⟨_,(G.at hi O),rfl⟩ jB.lookup (zY (G.at hi O) J hl (gJ (po:=.barr _) _ G rfl (aM _ rfl) h))
theorem Jl {a:aC} {l u sp:Option aC} {p pos:cP} (S:cL n E) (h:E.ev a pe st (λv V=>Bx E pe x v l u sp V k) x) (M:eW A ρ s.heap fe n) (G:aY ρ st s.heap) (F:eH ρ s.heap env pe):
  aw (aq prog w) A (eM (.Subscript a (.Slice l u sp p) pos) env) (hV s ρ k) (XK s ρ x) s:=by
 refine Subscript_ (eJ S h M G F (λY Y z=>z) λh0 t0 ρ0 st0 av v0 y0 M0 G0 r r0 q0=>?_);refine wpAny_Slice (aP (qe (s:={s with heap:=h0,toks:=t0}) S q0 M0 G0 r) (λvl s' J=>?_) λY Y z=>z.pre G y0);refine cY J λh1 t1 ρ1 V pl I P r1 q1=>?_;clear J;subst I;refine aP (qe (s:={s with heap:=h1,toks:=t1}) S q1 (M0.go P) P.good (r.go P)) (λvu s' J=>?_) λY Y z=>z.pre G (y0.trans G P);refine cY J λh2 t2 ρ2 st2 pu I W r2 q2=>?_;clear J;subst I;have O:=(y0.trans G P).trans G W;refine aP (qe (s:={s with heap:=h2,toks:=t2}) S q2 (M.go O) W.good ((r.go P).go W)) (λvs s' J=>?_) λY Y z=>z.pre G O;refine cY J λh3 t3 y st3 ps I f r3 q3=>?_;clear J;subst I;have yS:Ev y h3 y st3 (h3.push {cls:=.type "slice",data:=.fields #[vl,vu,vs]}):=Ev.sub f.good λb o e=>az _ e;refine aP (z9 (s:={s with heap:=h3.push {cls:=.type "slice",data:=.fields #[vl,vu,vs]},toks:=t3}) (X:=XK s ρ x) q3 yS.good (f.pre (W.pre (P.pre r0))) (f.pre (W.pre r1)) (f.pre r2) r3 (bM.IsSliceOf.new ..)) (λY Y z=>z.pre G ((O.trans G f).trans G yS)) λY Y z=>z
theorem P9 {a i:aC} {pos:cP} (S:cL n E) (h:E.ev a pe st (λv I=>E.ev i pe I (λw J=>jN w J k v) x) x) (M:eW A ρ s.heap fe n) (G:aY ρ st s.heap) (F:eH ρ s.heap env pe):
  aw (aq prog w) A (eM (.Subscript a i pos) env) (hV s ρ k) (XK s ρ x) s:=by
 refine Subscript_ (eJ S h M G F (λY Y z=>z) λh0 t0 ρ0 st0 av v0 O l W V r0 p=>?_);refine eJ (s:={s with heap:=h0,toks:=t0}) S p l W V (λY Y z=>z.pre G O) λh1 t1 ρ1 I iv v1 P M1 f F1 r y=>sC G (O.trans G P) (zW (s:={s with heap:=h1,toks:=t1}) (by have:=M.units;have:cT=9900:=rfl;exact Sl ‹_›) y f (P.pre r0) r)
end
theorem v9:eB (.type "list") "keys"=pure al:=by refine ag (cV ..) (ag (bS ..) ?_);kernel_rfl
theorem Aa:eB (.type "list") "__getattr__"=pure al:=by refine ag (cV ..) (ag (bS ..) ?_);kernel_rfl
theorem Ab:fG (.type "AttributeError") (.type "AttributeError")=pure au:=by refine ag (bQ ..) ?_;kernel_rfl
theorem wa {A:bw} {E:ak->aj->Prop} {s:aj} {e:ay} {o name:ak} {vs:Array ak} {Q:Unit->aj->Prop}
  (G:s.heap.get? e=ac ⟨.type "AttributeError",al,.fields vs,#[]⟩) (I:vs[6]? =ac (.int 0 0)) (J:vs[7]? =ac (.int 0 0))
  (P:∀h',eA e s.heap h'->(∃o,h'.get? e=ac o∧o.cls=.type "AttributeError")->Q () {s with heap:=h'}):aw (aq prog w) A (noteAttr (.ref e) o name) Q E s:=by
 refine aa (m:=lacksNameAndObj (.ref e)) (aa (cW (T:= "AttributeError") (b:=true) ⟨_,G,rfl⟩ Ab ?_));refine aa (gD G ?_);simp only [I,J];refine af (aa (cS (aa (ly ⟨_,G,rfl⟩ ?_))));refine aa (gD G (Io G (P _ (bN ..) ⟨_,bh _ G rfl,rfl⟩)))
section
variable {A:bw} {E:ak->aj->Prop} {h:bM} {g:Array Te} {d:Drawn} {t:Nat} {os:oA} {a:ay} {vs:Array ak} {n:Nat}
theorem wb {tk:ow} {Q:Fin->aj->Prop} (P:h.get? a=ac ⟨.type "list",al,.seq vs n,#[]⟩) (J:A.handled=al)
  (V:∀h' S e,(∀b o,h.get? b=ac o->h'.get? b=ac o)->(∃o,h'.get? e=ac o∧o.cls=.type "AttributeError")->E (.ref e) ⟨h',g,d,S,os⟩):
  aw (aq prog w) A (Builtin.«object.__getattribute__» ⟨[.ref a,.str "keys" tk],[]⟩) Q E ⟨h,g,d,t,os⟩:=by
 have f:(⟨h,g,d,t,os⟩:aj).TypeIs (.ref a) "list":=⟨_,P,rfl⟩;have W:=v9;repeat (any_goals wp_step)
 refine aa (wpAny_mkStr ?_ (by decide+kernel));refine aa ?_;simp only [newExc,S5];refine aa (cX ?_ (by size_fits));refine aa (m:=qI _ _) (cO (a:=dg) (by first | rfl | (simp only [qI];rfl)) ?_);refine cX ?_ (by size_fits);refine aa (oC ?_);refine aa ?_;generalize G:h.push _=H1;have k1:∀b o,h.get? b=ac o->H1.get? b=ac o:=λb o e=>G▸az _ e;refine wa (e:=H1.objs.size) (aM H1 rfl) rfl rfl λh' O I=>aa (Uh ?_);refine ag (J ..) (aa (af (KY ?_)));exact V h' _ _ (λb o e=>O.extBut b o (λz=>by have:=k1 b o e;rw [z,(aS (aG _))] at this;exact n1 this) (az _ (k1 b o e))) I
theorem xP {tk:ow} {R:jk->aj->Prop} (G:h.get? a=ac ⟨.type "list",al,.seq vs n,#[]⟩) (I:A.handled=al)
  (V:∀h' J e,(∀b o,h.get? b=ac o->h'.get? b=ac o)->(∃o,h'.get? e=ac o∧o.cls=.type "AttributeError")->R (.error (.ref e)) ⟨h',g,d,J,os⟩):
  gk (aq prog w) A (.call (.builtin "list.__getattribute__") ⟨[.ref a,.str "keys" tk],[]⟩) R ⟨h,g,d,t,os⟩:=
 qJ i3.plain F.entry_list_ga (i3.check _ _ _ _ _ _ _ _ (show (⟨h,g,d,t,os⟩:aj).TypeIs (.ref a) "list" from ⟨_,G,rfl⟩) (F.args_list_getattribute_2 _ _) (wb G I V))
theorem CW {tk:ow} {Q:ak->aj->Prop} (J:h.get? a=ac ⟨.type "list",al,.seq vs n,#[]⟩) (O:A.handled=al)
  (V:∀h' G e,(∀b o,h.get? b=ac o->h'.get? b=ac o)->(∃o,h'.get? e=ac o∧o.cls=.type "AttributeError")->E (.ref e) ⟨h',g,d,G,os⟩):
  aw (aq prog w) A (getAttrBy (.ref a) (.str "keys" tk) am) Q E ⟨h,g,d,t,os⟩:=by
 have f:(⟨h,g,d,t,os⟩:aj).TypeIs (.ref a) "list":=⟨_,J,rfl⟩;have S:=i3.lookup;have W:=i3.bind (.ref a);repeat (any_goals wp_step)
 refine xP J O λh' G e P I=>aa (cW (T:= "AttributeError") (b:=true) I Ab ?_);refine aa (m:=hookBehind (.type "list") al) (cO (a:=none) (show eB (.type "list") "__getattr__"=pure al from Aa) ?_);refine aa (m:=throw _) (KY ?_);exact V h' G e P I
theorem Nq {Q:Option ak->aj->Prop} {s:aj} (P:s.heap.get? a=ac ⟨.type "list",al,.seq vs n,#[]⟩) (J:A.handled=al)
  (V:∀h' G,(∀b o,s.heap.get? b=ac o->h'.get? b=ac o)->Q al {s with heap:=h',toks:=G}):
  aw (aq prog w) A (getAttr? (.ref a) "keys") Q E s:=by
 obtain ⟨h,g,d,t,os⟩:=s;refine aa (oC (aa (gP ?_)));refine CW P J λh' G e O I=>aa (cW (T:= "AttributeError") (b:=true) I Ab ?_);exact af (V h' G O)
end
theorem CX {st st':List PO} (O:∀(i:Nat) xs,st[i]? =ac (.tup xs)->st'[i]? =ac (.tup xs)) {a:PV} {k:bJ} (h:kC st a=ac k):kC st' a=ac k:=by
 induction a with
 | loc i=>refine ae (ai.mp h) λxs G h=>?_;refine ae (ai.mp G) λo G V=>ai.mpr ⟨xs,ai.mpr ⟨_,O i xs (G.trans (congrArg ac (se V))),rfl⟩,h⟩
 | _=>exact h
theorem m5 {st st':List PO} (O:∀(i:Nat) xs,st[i]? =ac (.tup xs)->st'[i]? =ac (.tup xs)):∀{xs:List PV} {es:List (bJ × PV × PV)},kW st xs=ac es->kW st' xs=ac es
 | [],es,h=>h
 | p::r,es,h=>by refine ae (ai.mp h) λq h0 h=>?_;refine ae (ai.mp h) λka h1 h2=>ae (aF.mp h2) λl I G=>bZ G (ae (xa h0) λi e1 e2=>?_);refine ai.mpr ⟨q,?_,ai.mpr ⟨ka,CX O h1,aF.mpr ⟨l,m5 O I,rfl⟩⟩⟩;refine ag e1 (ai.mpr ⟨i,rfl,ai.mpr ⟨[q.1,q.2],ai.mpr ⟨_,O i _ e2,rfl⟩,rfl⟩⟩)
theorem qR {st:List PO} {p:PV} {r:List PV} {es:List (bJ × PV × PV)} (h:kW st (p::r)=ac es):∃i a b ka l,p=.loc i∧st[i]? =ac (.tup [a,b])∧kC st a=ac ka∧kW st r=ac l∧es=(ka,a,b)::l:=by refine ae (ai.mp h) λq h0 h=>?_;refine ae (ai.mp h) λka h1 h2=>ae (aF.mp h2) λl I G=>ae (xa h0) λi e1 e2=>⟨i,q.1,q.2,ka,l,e1,e2,h1,I,G.symm⟩
noncomputable def uT:List (bJ × PV × PV)->List (bJ × PV × PV)->List (bJ × PV × PV)
 | [],es=>es
 | p::r,es=>uT r (lD p.1 p.2.1 p.2.2 es)
theorem sW {k:bJ} {a v:PV}:∀{es:List (bJ × PV × PV)},k∉es.map (·.1)->lD k a v es=es++[(k,a,v)]
 | [],_=>rfl
 | e::r,h=>by unfold lD;refine ag (if_neg (λq=>h (by simp [q])) ..) (ag (sW (λm=>h (by simp at m ⊢;exact .inr m)) ..) ?_);rfl
theorem qS:∀{r es:List (bJ × PV × PV)},((es++r).map (·.1)).Nodup->uT r es=es++r
 | [],es,_=>by simp [uT]
 | p::r,es,h=>by
  unfold uT;have G:p.1∉es.map (·.1):=λm=>by rw [dQ,fZ] at h;exact h.2.2 _ m _ (by simp) rfl
  refine ag (sW G ..) (ag (qS (by simpa using h) ..) ?_);simp
theorem xQ {k:bJ} {a v:PV}:∀{es:List (bJ × PV × PV)},(lD k a v es).length≤es.length+1
 | []=>by simp [lD]
 | e::r=>by unfold lD;refine kV (λY=>dZ _) λY=>ix xQ
theorem iJ:l7 un "dict.update.loop"=ac Builtin.«dict.update.loop»:=km (by kernel_rfl)
theorem iK:Ve "dict.update.loop"=au:=by decide+kernel
section
variable {A:bw} {E X:ak->aj->Prop} {ρ ρ0:List ay} {st:List PO} {s:aj} {k:KV} {h0:bM}
theorem CY {it la D:ay} {l i:Nat} {xs:List PV} {R:jk->aj->Prop} {st0:List PO} (G0:aY ρ0 st0 h0) (hh:A.handled=al) (hu:A.units+12 <cT) (hla:ρ[l]? =ac la) (hD:ρ[i]? =ac D) (hli:l≠i) (O:it∉ρ) (S:B.get? it=al) (G:h0.get? it=al):
  ∀(rest:List (bJ × PV × PV)) (j:Nat) (es:List (bJ × PV × PV)) (ep:Nat) (t:ow) (st:List PO) (s:aj),Ev ρ0 h0 ρ st s.heap->
  st[l]? =ac (.list xs)->st[i]? =ac (.dict es ep)->kW st (xs.drop j)=ac rest->es.length+rest.length≤1000->s.heap.IsListIter it la j->
  (∀h' tk ep',Ev ρ0 h0 ρ (st.set i (.dict (uT rest es) ep')) h'->R (.ok (.ret .none)) {s with heap:=h',toks:=tk})->
  gk (aq prog w) A (.builtin "dict.update.loop" ⟨[.ref D,.ref it,.int j t,.none],[]⟩) R s:=by
 intro rest;induction rest with
 | nil=>
  intro j es ep t st s y hx hd V hl W hR;obtain ⟨a',e1,vs,m,o1,rr⟩:=y.good.objs _ _ hx;obtain rfl:=ss e1 hla;refine zc iJ (ag (kM iK _ ..) ?_);have hnil:xs.drop j=[]:=by
   cases q:xs.drop j with
   | nil=>rfl
   | cons p r=>rw [q] at V;refine iA (qR V) λ_ _ _ _ _ _ _ _ _ e=>n5 e
  have hlen:=rr.length;refine bP (id W) λoi P _ f=>aa (Iw hh W ⟨_,o1,rfl,_,rfl⟩ (by simp at hnil hlen ⊢;exact RI ‹_› ‹_›) λh' hs=>?_);refine aa (m:=Builtin.Dict.addKeywords D []) (af (af ?_));have hset:st.set i (.dict es ep)=st:=by
   apply uq;intro q;by_cases hq:i=q
   ·subst hq;rw [bL (ao.mp hd).1];exact hd.symm
   ·rw [bn hq]
  have:=hR h' s.toks ep (by rw [show uT [] es=es from rfl,hset];exact y.junk G O S P (λvs e q t z=>by rw [f] at e;cases e;simp at z) hs);exact this
 | cons p rest ih=>
  intro j es ep t st s y hx hd V hl W hR;obtain ⟨a',e1,vs,m,o1,rr⟩:=y.good.objs _ _ hx;obtain rfl:=ss hla e1;refine zc iJ (ag (kM iK _ ..) ?_);have hlt:j <xs.length:=by refine Nat.lt_of_not_le λhle=>?_;rw [Im hle] at V;cases V
  have J:xs.drop j=xs[j]::xs.drop (j+1):=by rw [iz hlt]
  rw [J] at V;refine iA (qR V) λq a b ka es' hpj hq hka hrest hpe=>?_;cases hpe;refine ae (rr.get (i:=j) (p:=xs[j]) (by simp [hlt])) λv g1 g2=>?_;rw [hpj] at g2;cases g2 with | @loc _ qa hqa=>
  refine bP (id W) λoi P _ f=>aa (Il W ⟨_,o1,rfl,_,rfl⟩ (by simpa using g1) λh' Y hs=>?_);have y':=y.junk G O S P (λvs e q t z=>by rw [f] at e;cases e;simp at z) hs.extBut;obtain ⟨a',e1,us,m',o2,r2⟩:=y'.good.objs _ _ hq;refine ag (ss hqa e1) (bz (ph r2) λva vb hus ra rb=>?_);dsimp only;refine aa (bc ?_);refine aa (wpAny_tryCatch ?_);refine aa (ly (T:= "tuple") (s:={s with heap:=h'}) ⟨_,o2,rfl⟩ ?_);refine ag (if_pos (by decide) ..) (aa (ii (s:={s with heap:=h'}) o2 rfl (af ?_)));simp only [Option.getD_some,hus];refine bc ?_;have I:=gZ (s:={s with heap:=h'}) y'.good ra hka;refine Nf (s:={s with heap:=h'}) y'.good (by show A.units+1+8 <cT;exact Ut ‹_›) I.1 I.2 ra rb hD hd (by simp at hl;exact La ‹_›) λh2 tk ep2 y2=>af ⟨gH _ (by decide+kernel),?_⟩;have hm:∀(z:Nat) zs,st[z]? =ac (.tup zs)->(st.set i (.dict (lD ka a b es) ep2))[z]? =ac (.tup zs):=λz zs e=>by
   have:i≠z:=λw=>by subst w;cases (hd).symm.trans e
   rw [bn this];exact e
  have hI2:h2.IsListIter it la (j+1):=by refine bP Y λo3 g3 g4 g5=>?_;clear Y;refine ae (y2.keep it o3 g3 O) λsl k1 k2=>⟨o3,?_,g4,g5⟩;rw [k1,k2 ⟨_,g5⟩]
  refine ag ((show dV ((j:Int)+1)=Es ((j+1:Nat):Int) 0 by rfl) ..) ?_;refine ih (j+1) (lD ka a b es) ep2 0 _ {s with heap:=h2,toks:=tk} (y'.trans G0 y2) ?_ ?_ (m5 hm hrest) ?_ hI2 ?_
  ·rw [bn (fw hli)];exact hx
  ·rw [bL ((ao.mp hd).1)]
  ·have:=xQ (k:=ka) (a:=a) (v:=b) (es:=es);simp at hl;lia
  ·intro h3 tk3 ep3 y3;rw [List.set_set] at y3;exact hR h3 tk3 ep3 y3
def FR {P:ay} {l:Nat} {xs:List PV} {es:List (bJ × PV × PV)} {Q:ak->aj->Prop}:Prop:=∀(J:dO) (G:aY ρ st s.heap) (O:A.handled=al) (W:A.units+20 <cT) (I:ρ[l]? =ac P) (f:st[l]? =ac (.list xs)) (V:kW st xs=ac es) (S:(es.map (·.1)).Nodup) (hl:es.length≤1000) (h:∀h' tk ep,Ev ρ s.heap (ρ++[s.heap.objs.size]) (st++[.dict es ep]) h'->Q (.ref s.heap.objs.size) {s with heap:=h',toks:=tk}),aw (aq prog w) A (call (.type "dict") [.ref P]) Q E s
noncomputable def cC:=rm <| U λA=>U λE=>U λρ=>U λst=>U λs=>U λP=>U λl=>U λxs=>U λes=>@FR A E ρ st s P l xs es
theorem rC {la l xs es Q}:@FR A E ρ st s la l xs es Q:=jX (c:=cC) rfl (by
 intro Bs G hh hu f hx hp hn hl h;refine Tu (Q₁:=λobj J=>obj=.ref cC.2.2.2.2.1.heap.objs.size∧J={cC.2.2.2.2.1 with heap:=cC.2.2.2.2.1.heap.push {cls:=.type "dict",data:=.dict #[]}}) F.kt_called_dict (F.kt_typeCall_dict_1 _) F.entry_dict_init (kt_code_dict_new _ ⟨rfl,rfl⟩) ?_;intro obj J q2;refine ah q2 ?_;clear q2;intro V y;refine ag V (ag y ?_);have Y:Ev cC.2.2.1 cC.2.2.2.2.1.heap (cC.2.2.1++[cC.2.2.2.2.1.heap.objs.size]) (cC.2.2.2.1++[.dict [] 0]) (cC.2.2.2.2.1.heap.push {cls:=.type "dict",data:=.dict #[]}):=Ev.push (po:=.dict [] 0) G _ rfl ⟨#[],aM _ rfl,.nil,by decide⟩;have W:(cC.2.2.2.2.1.heap.push {cls:=.type "dict",data:=.dict #[]}).get? cC.2.2.2.2.1.heap.objs.size=ac {cls:=.type "dict",data:=.dict #[]}:=aM _ rfl;have hD:(cC.2.2.1++[cC.2.2.2.2.1.heap.objs.size])[cC.2.2.2.1.length]? =ac cC.2.2.2.2.1.heap.objs.size:=by rw [← G.len];simp
 have p:cC.2.2.2.2.2.2.1 <cC.2.2.2.1.length:=(ao.mp hx).1;generalize hDD:cC.2.2.2.2.1.heap.objs.size=D at*;generalize hH:cC.2.2.2.2.1.heap.push {cls:=.type "dict",data:=.dict #[]}=H at*;have P:(cC.2.2.2.1++[PO.dict [] 0])[cC.2.2.2.2.2.2.1]? =ac (.list cC.2.2.2.2.2.2.2.1):=by rw [ax p];exact hx
 have I:=Y.up f;obtain ⟨a',e1,vs,m,o1,rr⟩:=Y.good.objs _ _ P;obtain rfl:=ss I e1;have hT:(aj.mk H cC.2.2.2.2.1.gens cC.2.2.2.2.1.drawn cC.2.2.2.2.1.toks cC.2.2.2.2.1.os).TypeIs (.ref D) "dict":=⟨_,W,rfl⟩;refine ⟨hT,F.args_dict_init_2 _ _,?_⟩;refine aa (aa (eN hT ?_));refine af ?_;show aw _ _ (Builtin.Dict.updateFrom "dict.__init__" D (.ref cC.2.2.2.2.2.1) [] .none) _ _ _;refine aa (ly (T:= "list") ⟨_,o1,rfl⟩ ?_);refine ag (if_pos (by decide) ..) (aa (Nq o1 hh λh1 t1 k1=>?_));have S:=Y.trans G (Ev.sub Y.good k1);refine aa (cS ?_);refine aa (uz (s:={cC.2.2.2.2.1 with heap:=h1,toks:=t1}) ⟨_,k1 _ _ o1,rfl,_,rfl⟩ ?_);have kI:∀b o,h1.get? b=ac o->(h1.push {cls:=.type "list_iterator",data:=.fields #[.ref cC.2.2.2.2.2.1,.int 0 0]}).get? b=ac o:=λb o e=>az _ e;have hI:(h1.push {cls:=.type "list_iterator",data:=.fields #[.ref cC.2.2.2.2.2.1,.int 0 0]}).IsListIter h1.objs.size cC.2.2.2.2.2.1 0:=⟨_,aM _ rfl,rfl,rfl⟩;refine ah (im S.good (aS (aG _))) λf1 f2=>?_;have r:cC.2.2.2.2.1.heap.get? h1.objs.size=al:=by
  cases q:cC.2.2.2.2.1.heap.get? h1.objs.size with
  | none=>rfl
  | some o=>have:=S.there G (b:=h1.objs.size) (by rw [q];rfl);rw [(aS (aG _))] at this;exact n3 this
 refine af ⟨gH _ (by decide+kernel),?_⟩;have mono:∀(z:Nat) zs,cC.2.2.2.1[z]? =ac (.tup zs)->(cC.2.2.2.1++[PO.dict [] 0])[z]? =ac (.tup zs):=λz zs e=>by rw [ax (ao.mp e).1];exact e
 refine CY (xs:=cC.2.2.2.2.2.2.2.1) G (by exact hh) (by show cC.1.units+1+12 <cT;exact Uu ‹_›) I hD (by lia) f1 f2 r cC.2.2.2.2.2.2.2.2.1 0 [] 0 0 (cC.2.2.2.1++[.dict [] 0]) {cC.2.2.2.2.1 with heap:=_,toks:=t1} (S.trans G (Ev.sub S.good kI)) P (by simp) (by exact m5 mono hp) (by simpa using hl) hI λh3 t3 O y3=>?_;rw [qS (by exact hn)] at y3;rw [(show (cC.2.2.2.1++[PO.dict [] 0]).set cC.2.2.2.1.length (.dict ([]++cC.2.2.2.2.2.2.2.2.1) O)=cC.2.2.2.1++[.dict cC.2.2.2.2.2.2.2.2.1 O] by simp)] at y3;exact ⟨rfl,h h3 t3 O y3⟩) (A,E,ρ,st,s,la,l,xs,es,Q)
end
open Builtin in
section
theorem xR:eB (.type "bytearray") "__bytes__"=pure al:=by refine ag (cV ..) (ag (bS ..) ?_);kernel_rfl
theorem xT:eB (.type "bytearray") "__index__"=pure al:=by refine ag (cV ..) (ag (bS ..) ?_);kernel_rfl
theorem lN:eB (.type "bytearray") "__buffer__"=pure (ac (.builtin "bytearray.__buffer__")):=by refine ag (cV ..) (ag (bS ..) ?_);kernel_rfl
theorem nI:eB (.type "bytearray") "__release_buffer__"=pure (ac (.builtin "bytearray.__release_buffer__")):=by refine ag (cV ..) (ag (bS ..) ?_);kernel_rfl
theorem wc:fG (.type "bytearray") (.type "bytearray")=pure au:=by refine ag (bQ ..) ?_;kernel_rfl
end
section
variable {A:bw} {E:ak->aj->Prop} {s:aj}
theorem Ac {l:ay} {o:Obj} {nm:String} {Q:Bool->aj->Prop} (V:s.heap.get? l=ac o) (I:o.cls=.type "bytearray") (hl:eB (.type "bytearray") nm=pure (ac (.builtin ("bytearray."++nm))))
  (h1:("bytearray."++nm).endsWith ("."++nm)=au) (h2:("bytearray."++nm).dropRight (nm.length+1)= "bytearray") (h:Q au s):aw (aq prog w) A (Ew (.ref l) nm) Q E s:=by
 have G:s.TypeIs (.ref l) "bytearray":=⟨_,V,I⟩;refine aa (cM G hl ?_);dsimp only;refine ag (h1 ..) (fC (by rfl) ?_);have e:∀x:String,x= "bytearray"->aw (aq prog w) A (jo (.ref l) (.type x)) Q E s:=λx e=>by refine ag (e ..) ?_;exact cW G wc h
 exact e _ h2
theorem CZ {id:String} {l:ay} {b:Array UInt8} {G:Bool} {Q:Option (Array UInt8)->aj->Prop} (V:s.heap.get? l=ac ⟨.type "bytearray",al,.bytearray b 0,#[]⟩) (h:Q (ac b) s):aw (aq prog w) A (gV id (.ref l) G) Q E s:=by refine aa (cM (⟨_,V,rfl⟩) lN ?_);refine aa (Ac V rfl lN (by decide+kernel) (by decide+kernel) ?_);refine fC rfl (aa (cM (⟨_,V,rfl⟩) lN ?_));refine aa (aa (Ac V rfl nI (by decide+kernel) (by decide+kernel) (af ?_)));refine fC rfl (aa (nZ V (af h)))
def FS {l:ay} {b:Array UInt8} {Q:ak->aj->Prop}:Prop:=∀(V:s.heap.get? l=ac ⟨.type "bytearray",al,.bytearray b 0,#[]⟩) (hz:b.size≤1000) (P:∀t k,Q (.bytes b t) {s with toks:=k}),gk (aq prog w) A (.call (.builtin "bytes.__new__") ⟨[.type "bytes",.ref l],[]⟩) (wants Q E) s
noncomputable def n7:=rm <| U λA=>U λE=>U λs=>U λl=>U λb=>@FS A E s l b
theorem wd {l b Q}:@FS A E s l b Q:=jX (c:=n7) rfl (by
 intro V hz P;refine zd (aa (cO (F.bm_newCall _) (af ⟨Eh F.bm_plain _,zc F.bm_entry ?_⟩)));refine ag (kM F.bm_plain _ ..) (aa (cO (a:=true) rfl ?_));refine fC rfl (aa (cO F.bm_sub ?_));refine fC rfl (aa (cO (F.bm_bind _) ?_));refine aa (cO (a:=()) rfl ?_);refine aa (cO (a:=()) rfl ?_);refine fC rfl (aa (cM (⟨_,V,rfl⟩) xR ?_));refine aa (aa ?_);refine aa (gD V ?_);refine af (af ?_);refine fC rfl (aa (cM (⟨_,V,rfl⟩) xT ?_));refine bm_if_true rfl ?_;have tail:aw (aq prog w) n7.1.in1 (gV "bytes.__new__" (.ref n7.2.2.2.1) au) (λr W=>r=ac n7.2.2.2.2.1∧W=n7.2.2.1) (λY Y=>False) n7.2.2.1:=CZ V ⟨rfl,rfl⟩;first
  | show aw _ _ (gV "bytes.__new__" (.ref n7.2.2.2.1) au>>=_) _ _ _
  | (refine aa ?_;show aw _ _ (gV "bytes.__new__" (.ref l) au>>=_) _ _ _)
 refine aa (aP tail (λr W I=>?_) λY Y f=>f.elim);refine ah I λG J=>?_;clear I;refine ag G (ag J ?_);refine aa (cS ?_);have O:ek=16777216:=rfl;refine aa (wpAny_mkBytes ?_ (by lia));first
  | exact af (P _ _)
  | exact af (af (P _ _))
  | exact aa (af (af (P _ _)))
  | (show aw _ _ (if (gG "bytes"==gG "bytes")=au then _ else _) _ _ _;refine bm_if_true (by decide) ?_;first
     | exact af (P _ _)
     | exact aa (af (af (P _ _)))
     | exact af (af (P _ _)))) (A,E,s,l,b,Q)
theorem t8 {l:ay} {b:Array UInt8} {Q:ak->aj->Prop} (V:s.heap.get? l=ac ⟨.type "bytearray",al,.bytearray b 0,#[]⟩) (hz:b.size≤1000)
  (P:∀t k,Q (.bytes b t) {s with toks:=k}):aw (aq prog w) A (call (.type "bytes") [.ref l]) Q E s:=by
 refine Tu (Q₁:=λobj G=>G.TypeIs obj "bytes"∧Q obj G) K3 (F.bm_typeCall _) F.entry_object_init
  (wd V hz λt k=>⟨gb _ _ _,P t k⟩) λobj G I=>?_
 exact ⟨I.1,F.args_object_init_2 obj _,object_init_meets K3.init.lookup K3.made (by decide) prog w A.in1 _ G ⟨I.1,rfl,I.2⟩⟩
end
section
variable {n:Nat} {A:bw} {fe:Env} {ρ:List ay} {st:List PO} {s:aj} {k:KV}
theorem Nr (z:dO) {nm:String} {args:List PV} {vs:List ak} (h:jY st k nm args) (M:eW A ρ s.heap fe n) (G:aY ρ st s.heap) (V:eI ρ args vs) {X:ak->aj->Prop}:
  aw (aq prog w) A (call (.type nm) vs []) (hV s ρ k) X s:=by
 have hsz:1001 <ek:=by decide
 induction h using jY.casesOn with
 | listList I hl h=>refine ae (nA V) λv J r=>?_;subst J;refine VR.eloc r λY hi=>cK (G.at hi I) λvs m o1 S=>?_;have p:=S.length.trans bu;exact call_list_seq _ (.inl rfl) o1 rfl rfl (λh' c' P f=>vZ (tk:=s.toks) (po:=.list _) G P (aS (aG _)) ⟨_,_,f,S.mono _⟩ h) (by lia)
 | listRange I hl h=>
  refine ae (nA V) λv J r=>?_;subst J;cases r with | loc hi=>
  refine fH (G.at hi I) λt u v hr=>?_;refine call_list_range M.handled hr (small_one (by decide) (by decide) (by lia) (by lia)) (by
   unfold nD;refine ag (if_pos (by decide) ..) (kV (λY=>?_) λY=>?_)
   ·refine ag (Vc ..) ?_;exact by lia
   ·exact by lia) (by lia) λh' tk l c' P f O=>vZ (po:=.list _) G P (aS (aG _)) ⟨_,_,f,(xD O)⟩ h
 | dict I hp hn hl h=>refine ae (nA V) λv J r=>?_;refine ag J (VR.eloc r λY hi=>?_);exact rC z G M.handled (by have:=M.units;have:cT=9900:=rfl;exact by lia) hi I hp hn hl λh' tk ep y=>⟨h',tk,_,_,.loc st.length,rfl,y,.loc (by refine bZ (G.len ..) ?_;simp),h ep⟩
 | bytesList I W hl h=>
  refine ae (nA V) λv J r=>?_;subst J;refine VR.eloc r λY hi=>cK (G.at hi I) λvs m o1 S=>nL (Jf W S) λns g1 g2 g3 g4=>?_;have hv:vs.toList.length≤1000:=by refine bZ (S.length ..) ?_;exact hl
  exact call_bytes_ints (vs:=vs.toList) ⟨_,o1,rfl,m,by exact ag (K4 ..) rfl⟩ g1 g2 (by lia) M.handled λh' t tk P=>by refine ag (g4 ..) ?_;exact ⟨h',tk,ρ,st,_,rfl,Ev.sub G P,.bytes _ _,h⟩
 | bytesBarr I hz h=>refine ae (nA V) λv J r=>?_;subst J;refine VR.eloc r λY hi=>t8 (G.at hi I) hz λt k=>qN G (.bytes _ _) h
 | int h=>refine ae (nA V) λv J r=>?_;refine ag J (VR.eint r λY=>?_);exact call_int_int (jO G (.int _ _) h)
 | @range m h1 h2 h=>refine ae (nA V) λv J r=>?_;refine ag J (VR.eint r λt=>?_);refine call_range_1 (Fk (po:=.range m.toNat) _ G rfl ⟨s.toks,t,s.toks+1,?_⟩ h);refine ag (rH h1 ..) (aM _ rfl)
end
theorem nJ:U5 "bytes" "__lt__" "bytes.__lt__":=
 .of (owner:= "bytes") (n:= "__lt__") (by refine ag (cV ..) (ag (bS ..) ?_);kernel_rfl) (by decide+kernel) (by decide+kernel) (by decide+kernel)
  (by first | exact .inl (by decide+kernel) | exact .inr (by decide+kernel)) (by rw [bQ];kernel_rfl)
theorem sX:l7 un "bytes.__lt__"=ac Builtin.«bytes.__lt__»:=km (by kernel_rfl)
theorem t9 (a b:ak):OD "bytes.__lt__" ⟨[a,b],[]⟩:=by kernel_rfl
noncomputable abbrev m6 (b:Array UInt8):List Nat:=b.toList.map (·.toNat)
theorem xU:∀a b:List UInt8,(rI a b==.lt)=decide (a.map (·.toNat)<b.map (·.toNat))
 | [],[]=>by rfl
 | [],_::_=>by rfl
 | _::_,[]=>by rfl
 | x::xs,y::ys=>by
  unfold rI;by_cases h1:x <y
  ·refine ag (if_pos h1 ..) ?_;simp [pK,(jU).mp h1]
  ·refine ag (if_neg h1 ..) ?_;by_cases h2:y <x
   ·refine ag (if_pos h2 ..) ?_;have:=(jU).mp h2;simp [pK];exact by lia
   ·refine ag (if_neg h2 ..) (ag (xU xs ys ..) ?_);have:x.toNat=y.toNat:=by have a:=mt (jU).mpr h1;have b:=mt (jU).mpr h2;exact by lia
    simp [pK,this]
@[reducible] noncomputable def sY:PyProof.Rows.KeyKind where
 α:=List Nat
 blt a b:=decide (a <b)
 irrefl a:=by simpa using Bm a
 trans a b c h1 h2:=by simp only [decide_eq_true_eq] at*;exact Uj h1 h2
 negTrans a b c h:=by
  simp only [decide_eq_true_eq] at*;by_cases G:a <b
  ·exact .inl G
  ·exact .inr (List.lt_of_le_of_lt (qK.mp G) h)
 total a b h1 h2:=by simp only [decide_eq_false_iff_not] at*;exact Ry (qK.mp h2) (qK.mp h1)
 keyOf v:=match v with | .bytes x _=>ac (m6 x) | _=>al
 dflt:=[]
theorem sZ (b c:Array UInt8) (t u:ow):Ti (Builtin.«bytes.__lt__» ⟨[.bytes b t,.bytes c u],[]⟩) (.val (.bool (rI b.toList c.toList==.lt))):=by refine .of_wp λM A E s Q V=>?_;show aw M A (jo (.bytes c u) (.type "bytes")>>=λr=>_) _ E s;refine aa (cW (gb s c u) F.bm_sub ?_);exact af ⟨_,rfl,V⟩
section
variable {A:bw} {E:ak->aj->Prop} {s:aj}
theorem s5:sY.OneLt:=by
 intro prog w A E s x y a b Q G I h;have inv:∀{v:ak} {k:List Nat},sY.keyOf v=ac k->∃x t,v=.bytes x t∧m6 x=k:=λ{v} {k} h=>by induction v <;> first | exact n1 h | exact ⟨_,_,rfl,fm h⟩
 refine cK (inv G) λx t e1 e2=>ag e1 ?_;subst e2;refine cK (inv I) λy u e1 e2=>ag e1 ?_;subst e2;refine ag (oneLt'_eq ..) (aa (wpAny_cRoomFor_byValue rfl ?_));refine aa (wpAny_callSpecialIfBound?_slot (gb s x t) nJ ?_);refine jm nJ (gb s x t) sX (t9 _ _) (sZ x y t u) (fb ?_);refine ag (xU ..) h
theorem we {vs:List ak} (h1:∀v∈vs,Ei v=pure al) (h2:∀v∈vs,Tm v=pure (.type "bytes")) (W:vs≠[]):keyKind' vs.toArray=pure oneType':=by
 have J:∀l:List ak,(∀v∈l,Ei v=pure al)->l.mapM Ei=pure (l.map λY=>al):=by
  intro l;induction l with
  | nil=>intro _;simp
  | cons v l P=>intro h;refine ag (Tv ..) (ag (h v (by simp) ..) (ag (P λu I=>h u (by simp [I]) ..) ?_));simp
 have O:∀l:List ak,(∀v∈l,Tm v=pure (.type "bytes"))->l.mapM Tm=pure (l.map λY=>gG "bytes"):=by
  intro l;induction l with
  | nil=>intro _;simp
  | cons v l P=>intro h;refine ag (Tv ..) (ag (h v (by simp) ..) (ag (P λu I=>h u (by simp [I]) ..) ?_));simp
 refine ag (keyKind'_eq ..) (ag (Pd ..) (ag (J _ h1 ..) ?_));simp only [map_pure,pure_bind];refine ag (if_neg (by induction vs with | nil=>exact absurd rfl W | cons v r=>simp) ..) (ag (if_neg (by induction vs with | nil=>exact absurd rfl W | cons v r=>simp) ..) ?_);refine ag (oneTypeOnly'_eq ..) (ag (Pd ..) (ag (O _ h2 ..) ?_));simp only [map_pure,pure_bind];induction vs with
 | nil=>exact absurd rfl W
 | cons v r=>
  have G:((Tr (λY=>gG "bytes") (v::r)).toArray.all λx=>x==gG "bytes")=au:=by simp only [List.all_toArray,Vf,co];intro _ _;rfl
  refine ag ((show (Tr (λY=>gG "bytes") (v::r)).toArray[0]? =ac (gG "bytes") by rfl) ..) ?_;simp only [G,if_true,pure_bind,OG]
noncomputable def nk:ak->Array UInt8
 | .bytes b _=>b
 | _=>#[]
theorem C0 {ρ:List ay}:∀{bs:List (Array UInt8)} {vs:List ak},eI ρ (bs.map .bytes) vs->(∀v∈vs,∃b t,v=.bytes b t)∧vs.map nk=bs:=by
 intro I;induction I with
 | nil=>intro vs h;refine ag (eI.inil h) ⟨by simp,rfl⟩
 | cons b bs V=>
  intro vs h;cases h with
  | cons a r=>
   cases a with
   | bytes _ t=>
    refine ah (V r) λi1 i2=>⟨λv G=>?_,by simp [nk,i2]⟩;refine bk (bj.mp G) (λJ=>?_) λG=>?_
    ·subst J;exact ⟨_,_,rfl⟩
    ·exact i1 v G
theorem C1 {ρ:List ay}:∀{vs:List ak},(∀v∈vs,∃b t,v=.bytes b t)->eI ρ ((vs.map nk).map .bytes) vs:=by
 intro I;induction I with
 | nil=>intro _;exact .nil
 | cons v vs V=>intro h;refine cN (h v (by simp)) λb t G=>ag G (.cons (.bytes _ _) (V λu J=>h u (by simp [J])))
theorem Jm:∀{l:List (Array UInt8)},l.Nodup->(∀i j,i≤j->(S:j <l.length)->(hi:i <l.length)->¬m6 l[j]<m6 l[i])->l.Pairwise (λa b=>lE a b=au):=by
 intro l O h;rw [List.pairwise_iff_getElem];intro i j hi S J;refine ag (decide_eq_true_eq ..) (bk (Classical.em (m6 l[i]<m6 l[j])) (λq=>?_) λq=>?_)
 ·exact q
 ·exfalso;have e2:l[i]=l[j]:=by
   have inj:∀a b:List UInt8,a.map (·.toNat)=b.map (·.toNat)->a=b:=by intro a b G;exact List.map_inj_right (λx y I=>UInt8.toNat_inj.mp I) |>.mp G
   exact wK.mp (inj _ _ (Ry (qK.mp (h i j (cj ‹_›) S hi)) (qK.mp q)))
  have:=(mC hi O).mp (by exact ag (cB hi) (ag (cB S) (ag (e2 ..) rfl)):l[i]? =l[j]?);exact by lia
end
theorem C2:FG:=by
 intro A X s Q l vs bs ρ hh hl V hlen hn hQ;refine ah (C0 V) λf I=>?_;have Y:vs.length=bs.length:=by refine bZ (I ..) ?_;simp
 refine sortedK s5 hl (λp y=>?_) (λv1 v2 rest e=>?_) (by lia) λst' y hs=>?_
 ·rw [Tw] at y;refine cN (f _ (Vg y).2) λb t e=>⟨m6 b,by exact ag (e ..) rfl⟩
 ·subst e;refine we (λv V=>?_) (λv V=>?_) (nofun)
  ·refine cN (f v V) λb t O=>?_;subst O;rfl
  ·refine cN (f v V) λb t O=>?_;subst O;rfl
 ·have W:(r6 st').toList.Perm (vs.zip vs):=by refine bZ (Tw ..) ?_;exact Array.perm_iff_toList_perm.mp y
  have J:((r6 st').map (·.2)).toList=(r6 st').toList.map (·.1):=by refine ag (Array.toList_map ..) ?_;exact L9 λp S=>((λp S=>Vg (W.mem_iff.mp S)) p S).1.symm
  have G:((r6 st').toList.map (·.1)).Perm vs:=by
   have h1:=W.map (λp:ak × ak=>p.1);have h2:(vs.zip vs).map (λp:ak × ak=>p.1)=vs:=by have:=Rz (l₁:=vs) (l₂:=vs) (aG _);simpa using this
   rw [h2] at h1;exact h1
  refine aI (sortedAll_at s.heap vs ((r6 st').map (·.2))) λe he=>?_;have P:∀v∈(r6 st').toList.map (·.1),∃b t,v=.bytes b t:=λv V=>f v (G.mem_iff.mp V);generalize hO:(r6 st').toList.map (·.1)=out at G P J;refine hQ _ _ out (out.map nk) (s.heap.objs.size+1) e (λb o e=>sortedAll_old e) (C1 P) (by refine bZ (I ..) ?_;exact G.map _) ?_ (aS (dZ _)) ?_
  ·refine Jm ?_ λi j r hj hi=>?_
   ·exact (I▸G.map nk).nodup_iff.mpr hn
   ·have hsz:(r6 st').size=out.length:=by refine bZ (hO ..) ?_;simp
    have hps:(pairsOf vs).size=out.length:=by exact ag (pairsOf_size ..) (ag (G.length_eq ..) rfl)
    have z:j <out.length:=by simpa using hj
    have key:∀m (hm:m <out.length),KK sY (r6 st') m=m6 (nk out[m]):=λm hm=>by
     unfold KK;have hm':m <(r6 st').size:=by exact by lia
     refine ag (iy hm') ?_;dsimp only;have e1:out[m]=((r6 st')[m]).1:=by subst hO;simp
     refine bZ (e1 ..) (cN (P out[m] (Rr hm)) λb t e2=>?_);refine ag (e2 ..) ?_;rfl
    have:=hs i j r (by lia);unfold KeyOrd.kle at this;rw [key i (by simpa using hi),key j z] at this;simpa using this
  ·refine ag (he ..) ?_;rw [show ((r6 st').map (·.2))=out.toArray from by rw [← J]]
section
variable {n:Nat} {A:bw} {fe:Env} {ρ:List ay} {st:List PO} {s:aj} {k:KV}
theorem Nt (Bs:dO) {id:String} {args:List PV} {vs:List ak} (h:builtin st k id args) (M:eW A ρ s.heap fe n) (G:aY ρ st s.heap) (W:eI ρ args vs) {X:ak->aj->Prop}:
  aw (aq prog w) A (call (.builtin id) vs []) (hV s ρ k) X s:=by
 have hu:A.units+10 <cT:=by have:=M.units;have:cT=9900:=rfl;exact Sl ‹_›
 induction h using builtin.casesOn with
 | lenList V hl h=>refine ae (nA W) λv O r=>?_;subst O;refine VR.eloc r λY hi=>cK (G.at hi V) λvs m o1 J=>?_;have f:=J.length.trans bu;exact Calls.call_len_list ⟨_,o1,rfl,_,rfl⟩ (by exact Uw ‹_› ‹_›) (qN G (.int _ _) (by rw [← f];exact h))
 | lenDict V hl h=>refine ae (nA W) λv O r=>?_;refine ag O (VR.eloc r λY hi=>?_);refine bP (G.at hi V) λvs o1 J _=>?_;have f:=J.length.trans bu;exact CK (k6 Bs G hi) o1 (by exact RI ‹_› ‹_›) (qN G (.int _ _) (by rw [← f];exact h))
 | lenBarr V hl h=>refine ae (nA W) λv O r=>?_;subst O;refine VR.eloc r λY hi=>Nl (G.at hi V) hl (qN G (.int _ _) h)
 | lenBytes hl h=>refine ae (nA W) λv O r=>?_;subst O;refine VR.ebytes r λt=>len_bytes (by lia) (qN G (.int _ _) h)
 | max h=>refine bz (ph W) λv u I J S=>?_;subst I;cases J;refine VR.eint S λY=>?_;exact max_two_ints M.handled λh' tk z=>by rw [Jd];exact ⟨h',tk,ρ,st,_,rfl,Ev.sub G z,.int _ _,h⟩
 | min h=>refine bz (ph W) λv u I J S=>?_;subst I;cases J;refine VR.eint S λY=>?_;exact min_two_ints M.handled λh' tk z=>by rw [Je];exact ⟨h',tk,ρ,st,_,rfl,Ev.sub G z,.int _ _,h⟩
 | ord hc h=>refine ae (nA W) λv O r=>?_;subst O;refine VR.estr r λt=>P.ord_of_char (qN G (.int _ _) h)
 | strStr h=>refine bz (ph W) λv u I J S=>?_;subst I;cases S;refine VR.estr J λY=>jb (R9 (Tx:= "str") (by kernel_rfl) (by rw [bQ];kernel_rfl)) ⟨ic _ _ _,jO G (.bool _) h⟩
 | strBool h=>refine bz (ph W) λv u I J S=>?_;subst I;cases S;refine ag (VR.ibool J) (jb (isinstance_false_bool (by decide) (by kernel_rfl) (by rw [bQ];kernel_rfl)) (qN G (.bool _) h))
 | strInt h=>refine bz (ph W) λv u I J S=>?_;subst I;cases S;refine VR.eint J λY=>jb (K5 (by decide) (by kernel_rfl) (by rw [bQ];kernel_rfl)) (qN G (.bool _) h)
 | boolStr h=>refine bz (ph W) λv u I J S=>?_;subst I;cases S;refine VR.estr J λY=>jb (isinstance_false_str (by decide) (by kernel_rfl) (by rw [bQ];kernel_rfl)) (qN G (.bool _) h)
 | boolBool h=>refine bz (ph W) λv u I J S=>?_;subst I;cases S;refine ag (VR.ibool J) (jb (R9 (Tx:= "bool") (by kernel_rfl) (by rw [bQ];kernel_rfl)) ⟨PySem.typeIs_bool _ _,jO G (.bool _) h⟩)
 | boolInt h=>refine bz (ph W) λv u I J S=>?_;subst I;cases S;refine VR.eint J λY=>jb (K5 (by decide) (by kernel_rfl) (by rw [bQ];kernel_rfl)) (qN G (.bool _) h)
 | @sorted _ bs ys V hl hp hpw h=>refine ae (nA W) λv O r=>?_;subst O;refine VR.eloc r λY hi=>cK (G.at hi V) λvs m o1 rr=>?_;have hlt:∀{a b},lE a b=au->a.toList.map (·.toNat)<b.toList.map (·.toNat):=λh=>of_decide_eq_true h;refine C2 A X s _ _ vs.toList bs ρ M.handled ⟨_,o1,rfl,m,by rw [K4]⟩ rr hl (hp.nodup_iff.mp (hpw.imp (by rintro a b hab rfl;exact Bm _ (hlt hab)))) λh' tk us ys' c m' z hr hp' hpw' hc hg=>?_;have e2:ys'=ys:=List.Perm.eq_of_pairwise (λa b Y Y h1 h2=>absurd (Uj (hlt h1) (hlt h2)) (Bm _)) hpw' hpw (hp'.trans hp.symm);subst e2;exact vZ (po:=.list _) G z hc ⟨_,_,hg,hr.mono _⟩ h
 | append V hl h=>refine bz (ph W) λv u I J S=>?_;subst I;refine VR.eloc J λY hi=>cK (G.at hi V) λvs m o1 rr=>?_;have f:=rr.length.trans bu;refine OF tP ⟨_,o1,rfl⟩ Ma (KZ _ _) (Pb _ vs m u (by exact TP ‹_› ‹_›)) ⟨o1,?_⟩;exact ⟨_,_,ρ,_,.none,rfl,Ev.upd G hi o1 (bN ..) (λq=>absurd (Tz q.1) (by decide)) (by intro _ q;cases q) (po:=.list _) ⟨_,_,(bh (tQ λxs=>xs.push u) o1 rfl),by rw [OZ];exact rr.snoc S⟩,.none,h⟩
 | @pop _ v0 xs V hl h=>
  refine bz (ph W) λv u I J S=>ag I (VR.eloc J λY hi=>?_);refine VR.eint S λt=>cK (G.at hi V) λvs m o1 rr=>ae (rr.get (i:=0) (p:=v0) rfl) λy q1 q2=>?_;have hpos:0 <vs.size:=by rw [← (rr.length.trans bu)];exact Nat.succ_pos _
  refine OF R7 ⟨_,o1,rfl⟩ F.entry_list_pop (F.args_list_pop_2 _ _) (MeetsSeq.list_pop_at _ vs m 0 t 0 y (by decide) (by simp [seqIndex?,hpos]) (by rw [← cH];exact q1) (by rw [← (rr.length.trans bu)];exact dy (ix hl) (by decide) |>cj)) ⟨o1,?_⟩;have hr:eI ρ xs (vs.eraseIdxIfInBounds 0).toList:=by rw [show (vs.eraseIdxIfInBounds 0).toList=vs.toList.tail by simp [nc,hpos]];generalize vs.toList=l at rr;refine bz rr.icons ?_;intro _ _ e9 _ r;refine ag e9 r
  exact ⟨_,_,ρ,_,v0,rfl,Ev.upd G hi o1 (bN ..) (λq=>absurd (Tz q.1) (by decide)) (by intro _ q;cases q) (po:=.list xs) ⟨_,_,(bh (tQ λxs=>xs.eraseIdxIfInBounds 0) o1 rfl),hr⟩,q2,h⟩
 | dget V z h=>refine bz (ph W) λv u I J S=>?_;refine ag I (VR.eloc J λY hi=>?_);exact tW Bs hu G hi V S z λtk v r=>qN G r h
 | dgetD V z h=>refine gR (FF W) λv u t eq3 J S r3=>?_;refine ag eq3 (VR.eloc J λY hi=>?_);exact sF Bs hu G hi V S z r3 λtk v r=>qN G r h
 | dpop V hl z hp h=>refine bz (ph W) λv u I J S=>?_;refine ag I (VR.eloc J λY hi=>?_);refine xq [] al (.inl ⟨rfl,rfl⟩) Bs hu G hi V S z hl (λq=>nomatch hp.symm.trans q) λh' tk ep' p' v y q r=>?_;obtain rfl:=fm (hp.symm.trans q);exact ⟨h',tk,ρ,_,_,rfl,y,r,h ep'⟩
 | dpopD V hl z h=>
  refine gR (FF W) λv u t eq3 J S r3=>ag eq3 (VR.eloc J λY hi=>?_);refine xq [t] (ac t) (.inr ⟨t,rfl,rfl⟩) Bs hu G hi V S z hl (λq=>⟨t,rfl,λtk=>?_⟩) λh' tk ep' p' v y q r=>?_
  ·rw [q] at h;exact qN G r3 h
  ·rw [q] at h;exact ⟨h',tk,ρ,_,_,rfl,y,r,h ep'⟩
 | dvals V h=>refine ae (nA W) λv O r=>?_;subst O;refine VR.eloc r λY hi=>qb Bs G hi V (gJ (po:=.vals _) _ G rfl ⟨_,by rw [ax (ao.mp hi).1];exact hi,aM _ rfl⟩ h)
end
section
open Builtin Builtin.ObjectAttr
variable {A:bw} {E:ak->aj->Prop} {s:aj} {x C:ay}
theorem Ad (self:ak):OH self "__setattr__" [.type "Exception",.type "BaseException",.type "object"]=pure ():=by kernel_rfl
theorem lO:∀{l:List ak},zv l=au->(∀self,OH self "__setattr__" l=pure ())∧l.contains (.type "object")=au∧l.contains (.type "BaseException")=au
 | [],e=>n3 e
 | v::r,e=>by
  refine w5 e (λq e=>?_) λY e=>?_
  ·refine ag (beq_iff_eq.mp q) (ag (beq_iff_eq.mp e) ?_);exact ⟨Ad,by decide,by decide⟩
  ·refine ah (aD.mp e) λe1 e2=>aI (bd.mp e1) λc e3=>ag (nh e3) ?_;exact ⟨λself=>by refine ag (refuseLoop_ref ..) ?_;exact (lO e2).1 self,by exact ag (fN ..) (ag ((lO e2).2.1 ..) (ag (oF ..) rfl)),by exact ag (fN ..) (ag ((lO e2).2.2 ..) (ag (oF ..) rfl))⟩
theorem xV {M:l4} {W:Obj} {S:Option Obj} (X:K.In s.heap) (I:InstAt s.heap x W C S) (P:sq K C=au):
  ∃G,clsIn K C=ac G∧(∀self,OH self "__setattr__" G.mro=pure ())∧um M s.heap (jo (.ref x) (.type "object")) au∧um M s.heap (jo (.ref x) (.type "BaseException")) au:=by
 refine ae (kJ P) λG J V=>eg (lO V) λh1 h2 O=>?_;have ne:G.mro.isEmpty=am:=by cases q:G.mro with | nil=>rw [q] at V;cases V | cons _ _=>rfl
 exact ⟨G,J,h1,I.type.andThen (VA X (by unfold mroIn;exact ag (J ..) (ag (ku ..) (ag (if_neg (by rw [ne];decide) ..) (ag (h2 ..) rfl))))),I.type.andThen (VA X (by unfold mroIn;exact ag (J ..) (ag (ku ..) (ag (if_neg (by rw [ne];decide) ..) (ag (O ..) rfl)))))⟩
theorem Jn {R:jk->aj->Prop} {ox:Obj} {od:Option Obj} {name:aU} {tk:ow} {v:ak} (X:K.In s.heap) (I:InstAt s.heap x ox C od) (r:sq K C=au) (Y:UU K C name=ac al)
  (h:∀b,aw (aq prog w) A.in1 (storeInOwnDict (.ref x) (.ref C) (.str name tk) name v b)
   (λG W=>match G with | .done f=>R (.ok f) W | .again c'=>c'.quiet=au∧gk (aq prog w) A c' R W) (λe W=>R (.error e) W) s):
  gk (aq prog w) A (.call (.builtin "object.__setattr__") ⟨[.ref x,.str name tk,v],[]⟩) R s:=by
 have O:=PySem.F.store_object;refine nL (xV (M:=aq prog w) X I r) λP l z sub _=>qJ O.slot.plain O.entry (@Bj (aq prog w) _ _ s "object.__setattr__" "object" "__setattr__" (.ref x) [.str name tk,v] [] _ O.kind O.split sub (O.args (.ref x) (.str name tk) v) ?_);refine ae (ai.mp Y) λattr S h0=>?_;have p:um (aq prog w) s.heap (mroOf (.ref C)) P.mro:=(KT X l).andThen .now;have J:um (aq prog w) s.heap (storeTaker? attr) al:=by
  induction attr with
  | none=>exact .now
  | some a=>
   refine ae (aF.mp h0) λb V y=>(looks_takesIn X V).andThen ?_;induction b with
   | false=>exact .now
   | true=>exact n2 y
 refine ag (osa_eq ..) (ag (refuse_eq ..) ?_);refine aa (aa (I.type.here (aa (p.here ?_))));refine ag (z ..) (af (aa (I.type.here (aa ((oE X S).here (aa (J.here ?_)))))));exact h _
theorem Jo {l:Obj} {J:Option Obj} {name:aU} {v:ak} {expr:Bool} {Q:ak->aj->Prop} (X:K.In s.heap) (I:InstAt s.heap x l C J) (f:sq K C=au) (G:gC K (.ref C) "__getattribute__"=ac (ac (.builtin "BaseException.__getattribute__"))) (y:gC K (.ref C) "__getattr__"=ac al)
  (S:findObj K C J name=ac (.value v)) (V:handedIn v=au) (h:Q v {s with toks:=s.toks+1}):aw (aq prog w) A (getAttr (.ref x) name expr) Q E s:=by
 refine nL (xV (M:=aq prog w) X I f) λp r z _ sub=>?_;obtain ⟨W,g,d,t,os⟩:=s;have L0:=I.type (M:=aq prog w);have L1:=oE (M:=aq prog w) X G;have O:=oE (M:=aq prog w) X y;have P:=looks_find (M:=aq prog w) X I S;refine aa (oC (bc (aa (L0.at (aa (L1.at ?_))))));refine aa (O.at (aa (gP (bc ?_))));rw [show callGetattribute (.ref x) (.str name t) (.builtin "BaseException.__getattribute__") expr=TC (.builtin "BaseException.__getattribute__") (.ref x) (.str name t) from by induction expr <;> rfl];unfold TC;refine ag ((Bo).ga.bind ..) (aa (af ?_));refine kl (qJ (Bo).ga.plain PySem.F.entry_bexc_ga (@Bj (aq prog w) _ _ _ "BaseException.__getattribute__" "BaseException" "__getattribute__" (.ref x) [.str name t] [] _ (by decide+kernel) (by decide+kernel) sub (PySem.F.args_bexc_ga _ _) ?_));refine aa (af (aa (af (aa (L0.at (aa (P.at ?_)))))));refine af ?_;show aw _ _ (handedOut v) _ _ _;rw [Vb V];exact af h
end
def FT {h:bM} {C:ay}:Prop:=∀(X:K.In h) (e:nS K C=au),∃nm q N bs bm hdct sn sub ab col dd k0 k1 k2 k3 k5,h.get? C=ac (mH nm q C N bs bm hdct sn sub ab col dd k0 k1 k2 k3 k5 "Exception.__new__")∧
  bm.contains (.type "Exception")=au∧bm.contains (.type "BaseException")=au∧bm.contains (.type "AttributeError")=am∧bm.contains (.type "NameError")=am
noncomputable def Nu:=rm <| U λh=>@FT h
theorem s6 {h C}:@FT h C:=jX (c:=Nu) rfl (by intro X e;refine ae (kJ e) λo e1 e=>ae (kJ e) λcd e2 e=>?_;simp only [bq,beq_iff_eq,dJ] at e;refine ah e λf Y=>?_;clear e;(first | refine ah f λP y=>?_;clear f;(first | refine ah P λJ p=>?_;clear P;(first | refine ah J λI b1=>?_;clear J;(first | refine ah I λG S=>?_;clear I;(first | refine ah G λW O=>?_;clear G;refine ah W λa1 V=>?_;clear W | refine aI G λW O=>?_;clear G;refine ah W λa1 V=>?_;clear W | obtain ⟨⟨a1,V⟩,O⟩:=G) | refine aI I λG S=>?_;clear I;(first | refine ah G λW O=>?_;clear G;refine ah W λa1 V=>?_;clear W | refine aI G λW O=>?_;clear G;refine ah W λa1 V=>?_;clear W | obtain ⟨⟨a1,V⟩,O⟩:=G) | obtain ⟨⟨⟨a1,V⟩,O⟩,S⟩:=I) | refine aI J λI b1=>?_;clear J;(first | refine ah I λG S=>?_;clear I;(first | refine ah G λW O=>?_;clear G;refine ah W λa1 V=>?_;clear W | refine aI G λW O=>?_;clear G;refine ah W λa1 V=>?_;clear W | obtain ⟨⟨a1,V⟩,O⟩:=G) | refine aI I λG S=>?_;clear I;(first | refine ah G λW O=>?_;clear G;refine ah W λa1 V=>?_;clear W | refine aI G λW O=>?_;clear G;refine ah W λa1 V=>?_;clear W | obtain ⟨⟨a1,V⟩,O⟩:=G) | obtain ⟨⟨⟨a1,V⟩,O⟩,S⟩:=I) | obtain ⟨⟨⟨⟨a1,V⟩,O⟩,S⟩,b1⟩:=J) | refine aI P λJ p=>?_;clear P;(first | refine ah J λI b1=>?_;clear J;(first | refine ah I λG S=>?_;clear I;(first | refine ah G λW O=>?_;clear G;refine ah W λa1 V=>?_;clear W | refine aI G λW O=>?_;clear G;refine ah W λa1 V=>?_;clear W | obtain ⟨⟨a1,V⟩,O⟩:=G) | refine aI I λG S=>?_;clear I;(first | refine ah G λW O=>?_;clear G;refine ah W λa1 V=>?_;clear W | refine aI G λW O=>?_;clear G;refine ah W λa1 V=>?_;clear W | obtain ⟨⟨a1,V⟩,O⟩:=G) | obtain ⟨⟨⟨a1,V⟩,O⟩,S⟩:=I) | refine aI J λI b1=>?_;clear J;(first | refine ah I λG S=>?_;clear I;(first | refine ah G λW O=>?_;clear G;refine ah W λa1 V=>?_;clear W | refine aI G λW O=>?_;clear G;refine ah W λa1 V=>?_;clear W | obtain ⟨⟨a1,V⟩,O⟩:=G) | refine aI I λG S=>?_;clear I;(first | refine ah G λW O=>?_;clear G;refine ah W λa1 V=>?_;clear W | refine aI G λW O=>?_;clear G;refine ah W λa1 V=>?_;clear W | obtain ⟨⟨a1,V⟩,O⟩:=G) | obtain ⟨⟨⟨a1,V⟩,O⟩,S⟩:=I) | obtain ⟨⟨⟨⟨a1,V⟩,O⟩,S⟩,b1⟩:=J) | obtain ⟨⟨⟨⟨⟨a1,V⟩,O⟩,S⟩,b1⟩,p⟩:=P) | refine aI f λP y=>?_;clear f;(first | refine ah P λJ p=>?_;clear P;(first | refine ah J λI b1=>?_;clear J;(first | refine ah I λG S=>?_;clear I;(first | refine ah G λW O=>?_;clear G;refine ah W λa1 V=>?_;clear W | refine aI G λW O=>?_;clear G;refine ah W λa1 V=>?_;clear W | obtain ⟨⟨a1,V⟩,O⟩:=G) | refine aI I λG S=>?_;clear I;(first | refine ah G λW O=>?_;clear G;refine ah W λa1 V=>?_;clear W | refine aI G λW O=>?_;clear G;refine ah W λa1 V=>?_;clear W | obtain ⟨⟨a1,V⟩,O⟩:=G) | obtain ⟨⟨⟨a1,V⟩,O⟩,S⟩:=I) | refine aI J λI b1=>?_;clear J;(first | refine ah I λG S=>?_;clear I;(first | refine ah G λW O=>?_;clear G;refine ah W λa1 V=>?_;clear W | refine aI G λW O=>?_;clear G;refine ah W λa1 V=>?_;clear W | obtain ⟨⟨a1,V⟩,O⟩:=G) | refine aI I λG S=>?_;clear I;(first | refine ah G λW O=>?_;clear G;refine ah W λa1 V=>?_;clear W | refine aI G λW O=>?_;clear G;refine ah W λa1 V=>?_;clear W | obtain ⟨⟨a1,V⟩,O⟩:=G) | obtain ⟨⟨⟨a1,V⟩,O⟩,S⟩:=I) | obtain ⟨⟨⟨⟨a1,V⟩,O⟩,S⟩,b1⟩:=J) | refine aI P λJ p=>?_;clear P;(first | refine ah J λI b1=>?_;clear J;(first | refine ah I λG S=>?_;clear I;(first | refine ah G λW O=>?_;clear G;refine ah W λa1 V=>?_;clear W | refine aI G λW O=>?_;clear G;refine ah W λa1 V=>?_;clear W | obtain ⟨⟨a1,V⟩,O⟩:=G) | refine aI I λG S=>?_;clear I;(first | refine ah G λW O=>?_;clear G;refine ah W λa1 V=>?_;clear W | refine aI G λW O=>?_;clear G;refine ah W λa1 V=>?_;clear W | obtain ⟨⟨a1,V⟩,O⟩:=G) | obtain ⟨⟨⟨a1,V⟩,O⟩,S⟩:=I) | refine aI J λI b1=>?_;clear J;(first | refine ah I λG S=>?_;clear I;(first | refine ah G λW O=>?_;clear G;refine ah W λa1 V=>?_;clear W | refine aI G λW O=>?_;clear G;refine ah W λa1 V=>?_;clear W | obtain ⟨⟨a1,V⟩,O⟩:=G) | refine aI I λG S=>?_;clear I;(first | refine ah G λW O=>?_;clear G;refine ah W λa1 V=>?_;clear W | refine aI G λW O=>?_;clear G;refine ah W λa1 V=>?_;clear W | obtain ⟨⟨a1,V⟩,O⟩:=G) | obtain ⟨⟨⟨a1,V⟩,O⟩,S⟩:=I) | obtain ⟨⟨⟨⟨a1,V⟩,O⟩,S⟩,b1⟩:=J) | obtain ⟨⟨⟨⟨⟨a1,V⟩,O⟩,S⟩,b1⟩,p⟩:=P) | obtain ⟨⟨⟨⟨⟨⟨a1,V⟩,O⟩,S⟩,b1⟩,p⟩,y⟩:=f);obtain ⟨oc,od,odt,sl⟩:=o;obtain ⟨l⟩:=sl;obtain ⟨nm,bs,mro,ns,z,hd,sn,sub,ab,col,del⟩:=cd;have r:=ID e2;dsimp only at r a1 V O S;refine ⟨nm,z,ns,bs,mro.tail,hd,sn,sub,ab,col,od,nF l 0,nF l 1,nF l 2,nF l 3,nF l 5,(X _ _ e1).trans (congrArg ac ?_),b1,p,y,Y⟩;refine ag (r ..) (ag (a1 ..) ?_);refine ag (S ..) (congr (congr rfl (congrArg US.cls (congrArg (λm=>(⟨nm,bs,m,ns,z,hd,sn,sub,ab,col,am⟩:Em)) V))) (congrArg Array.mk O))) (h,C)
section
variable {M:l4} {A:bw} {E:ak->aj->Prop} {R:jk->aj->Prop} {h:bM} {g:Array Te} {d:Drawn} {t:Nat} {os:oA}
variable {nm q:aU} {C N:ay} {bs bm bmN:List ak} {hdct:Bool} {sn:List aU} {sub:List ak} {ab:Bool} {col:Option Bool} {dd:Option ay} {k0 k1 k2 k3 k5:Option ak} {Bn newId inN:String}
theorem ua (G:uA Bn newId inN bmN) (J:bm.contains (.type Bn)=au) {rest:List ak} {Q:Unit->aj->Prop} (I:h.get? C=ac (mH nm q C N bs bm hdct sn sub ab col dd k0 k1 k2 k3 k5 newId))
  (V:Q () ⟨h,g,d,t,os⟩):aw M A (j8 newId ⟨.ref C::rest,[]⟩) Q E ⟨h,g,d,t,os⟩:=by
 have l:=G.noStar;simp only [j8,G.newKind,G.newSplit,G.newRow];repeat (first | refine gW I ?_ | (refine lf I ?_;rw [(show (cy C::bm).contains (.type Bn)=au by exact ag (fN ..) (ag (J ..) (ag (oF ..) rfl)))]) | refine wpAny_staticBase_exc I ?_ | refine RA I ?_ | dsimp only [bne_self_eq_false,jp,if_false] | wp_step)
 exact V
theorem Jp (G:uA Bn newId inN bmN) (O:bm.contains (.type Bn)=au) (y:bm.contains (.type "AttributeError")=am) (P:bm.contains (.type "NameError")=am) {rest:List ak} (I:h.get? C=ac (mH nm q C N bs bm hdct sn sub ab col dd k0 k1 k2 k3 k5 newId))
  (W:R (.ok (.ret (.ref (h.objs.size+1)))) ⟨(h.push {cls:=.type "tuple",data:=.seq rest.toArray}).push
   {cls:=.ref C,data:=.fields #[.ref h.objs.size,.none,.none,.none,.bool am,.none]},g,d,t,os⟩) (hrest:rest.length≤ek):
  gk (aq prog w) A (.builtin newId ⟨.ref C::rest,[]⟩) R ⟨h,g,d,t,os⟩:=by
 have J:=G.ends;have S:(cy C::bm).contains (.type "AttributeError")=am:=by refine ag (fN ..) (ag (y ..) ?_);rfl
 have V:(cy C::bm).contains (.type "NameError")=am:=by refine ag (fN ..) (ag (P ..) ?_);rfl
 refine codeAny_builtinAt G.entry (Sa ?_);refine Sa (PySem.wpAt_stack λp below=>Mb ?_);wp_walk;refine Mb (ag (G.owner ..) ?_);repeat (first | with_reducible refine wpAny_madeHere_exc G.canon I ?_ | with_reducible refine gW I ?_ | (with_reducible refine lf I ?_;first | rw [(show (cy C::bm).contains (.type Bn)=au by exact ag (fN ..) (ag (O ..) (ag (oF ..) rfl)))] | rw [S] | rw [V]) | wp_step)
 show R _ _;refine ag (qG ..) W
theorem ub (O:uA Bn newId inN bmN) (S:bm.contains (.type Bn)=au) (y:bm.contains (.type "AttributeError")=am) (V:bm.contains (.type "NameError")=am) {rest:List ak} {Q:Fin->aj->Prop} {ini:ay}
  (X:K.In h) (f:gC K (.ref C) "__init__"=ac (ac (.ref ini))) (W:KL K (.ref ini)=au)
  (I:h.get? C=ac (mH nm q C N bs bm hdct sn sub ab col dd k0 k1 k2 k3 k5 newId))
  (l:gk (aq prog w) A (.call (.ref ini) ⟨.ref (h.objs.size+1)::rest,[]⟩) (λr P=>match r with | .ok (.ret v)=>v=.none∧Q (.done (.ret (.ref (h.objs.size+1)))) P | .ok _=>False | .error e=>E e P)
   ⟨(h.push {cls:=.type "tuple",data:=.seq rest.toArray}).push {cls:=.ref C,data:=.fields #[.ref h.objs.size,.none,.none,.none,.bool am,.none]},g,d,t,os⟩) (hrest:rest.length≤ek):
  aw (aq prog w) A (Builtin.«type.__call__» ⟨.ref C::rest,[]⟩) Q E ⟨h,g,d,t,os⟩:=by
 repeat (first | with_reducible refine gW I ?_ | with_reducible refine RA I ?_ | wp_step)
 refine codeAny_call_builtin_code (gH _ O.quiet) (ua O S I ?_);refine Jp O S y V I ?_ hrest;have k:∀b o,h.get? b=ac o->((h.push {cls:=.type "tuple",data:=.seq rest.toArray}).push {cls:=.ref C,data:=.fields #[.ref h.objs.size,.none,.none,.none,.bool am,.none]}).get? b=ac o:=λb o e=>az _ (az _ e);have G:K.In ((h.push {cls:=.type "tuple",data:=.seq rest.toArray}).push {cls:=.ref C,data:=.fields #[.ref h.objs.size,.none,.none,.none,.bool am,.none]}):=X.keeps k;have J:((h.push {cls:=.type "tuple",data:=.seq rest.toArray}).push
   {cls:=.ref C,data:=.fields #[.ref h.objs.size,.none,.none,.none,.bool am,.none]}).get? (h.objs.size+1)=ac
   {cls:=.ref C,data:=.fields #[.ref h.objs.size,.none,.none,.none,.bool am,.none]}:=by heap_get
 repeat (first | with_reducible refine gW J ?_ | (with_reducible refine lf (k _ _ I) ?_;rw [(show (cy C::bm).contains (.ref C)=au by simp)]) | wp_step)
 refine (oE G f).here (bc (aa ((bind_fn G (.ref (h.objs.size+1)) (beq_iff_eq.mp W)).here ?_)));refine aa (kl (oB (by exact l) λr P z=>?_));rcases r with e | (v | _ | _ | _)<;> first | exact z | exact z.elim | skip
 (refine ah z ?_;clear z;intro e0 z;refine ag e0 ?_);exact af (af z)
theorem FU (J:uA Bn newId inN bmN) (O:bm.contains (.type Bn)=au) (y:bm.contains (.type "AttributeError")=am) (P:bm.contains (.type "NameError")=am) {rest:List ak} {Q:ak->aj->Prop} {ini:ay}
  (X:K.In h) (S:gC K (.ref C) "__init__"=ac (ac (.ref ini))) (W:KL K (.ref ini)=au)
  (G:h.get? C=ac (mH nm q C N bs bm hdct sn sub ab col dd k0 k1 k2 k3 k5 newId))
  (V:gk (aq prog w) (A.under (.builtin "type.__call__" ⟨.ref C::rest,[]⟩)) (.call (.ref ini) ⟨.ref (h.objs.size+1)::rest,[]⟩) (λr I=>match r with | .ok (.ret v)=>v=.none∧Q (.ref (h.objs.size+1)) I | .ok _=>False | .error e=>E e I)
   ⟨(h.push {cls:=.type "tuple",data:=.seq rest.toArray}).push {cls:=.ref C,data:=.fields #[.ref h.objs.size,.none,.none,.none,.bool am,.none]},g,d,t,os⟩) (hrest:rest.length≤ek):
  aw (aq prog w) A (call (.ref C) rest) Q E ⟨h,g,d,t,os⟩:=by
 have f:=tc_lookup;have l:=tc_bind (.ref C);have p:(⟨h,g,d,t,os⟩:aj).TypeIs (.ref C) "type":=⟨_,G,rfl⟩;refine kl (zd ?_);show aw _ _ (callAny (.ref C) _) _ _ _;repeat (any_goals wp_step)
 refine ⟨rfl,?_⟩;refine codeAny_call_builtin_at (gH _ (by decide+kernel)) Tl (wpAny_check_type_call_sub G (ub (hrest:=hrest) J O y P X S W G ?_));refine oB V λr I z=>?_;rcases r with e | (v | _ | _ | _)<;> exact z
end
section
variable {A:bw} {E:ak->aj->Prop} {s:aj} {C e:ay}
def FV {name:aU} {v:ak} {G:Array ak} {Q:Unit->aj->Prop}:Prop:=∀(X:K.In s.heap) (O:setX K C name=au) (P:s.heap.get? e=ac ⟨.ref C,al,.fields G,#[]⟩) (V:∀h' tk I J t m,(∀b o,b≠e->s.heap.get? b=ac o->h'.get? b=ac o)->s.heap.get? I=al->I≠e->h'.get? e=ac ⟨.ref C,ac I,.fields G,#[]⟩->h'.get? I=ac ⟨.type "dict",al,.dict #[⟨J,.str name t,v⟩] m,#[]⟩->Q () {s with heap:=h',toks:=tk}),aw (aq prog w) A (O8 (.ref e) name v) Q E s
noncomputable def ce:=rm <| U λA=>U λE=>U λs=>U λC=>U λe=>U λname=>U λv=>U λG=>@FV A E s C e name v G
theorem xW {name v fvs Q}:@FV A E s C e name v fvs Q:=jX (c:=ce) rfl (by
 intro X r Y hq;unfold setX at r;simp only [bq,beq_iff_eq] at r;refine ah r λp a4=>?_;clear r;(refine ah p ?_;clear p;intro p a3;refine ah p λa1 a2=>?_;clear p);have I:InstAt ce.2.2.1.heap ce.2.2.2.2.1 ⟨.ref ce.2.2.2.1,al,.fields ce.2.2.2.2.2.2.2.1,#[]⟩ ce.2.2.2.1 al:=⟨Y,rfl,rfl,trivial⟩;refine set_plain X I a1 (Jn (s:={ce.2.2.1 with toks:=ce.2.2.1.toks+1}) X I a2 a3 λb=>?_);refine ae (kJ a4) λcd hc hd'=>?_;have he':({ce.2.2.1 with toks:=ce.2.2.1.toks+1}:aj).heap.get? ce.2.2.2.2.1=_:=Y;refine aa (af (aa (aa (qE he' (aa (um.here (s:={ce.2.2.1 with toks:=ce.2.2.1.toks+1}) (KT X hc) ?_))))));refine ag (hd' ..) (aa (wpAny_alloc ?_));generalize f:ce.2.2.1.heap.objs.size=D;have G:ce.2.2.1.heap.get? D=al:=f▸aS (aG _);have P:D≠ce.2.2.2.2.1:=λq=>by rw [q,Y] at G;exact n2 G
 have l:(ce.2.2.1.heap.push {cls:=.type "dict",data:=.dict #[]}).get? D=ac {cls:=.type "dict",data:=.dict #[]}:=f▸aM _ rfl;have k1:∀b o,ce.2.2.1.heap.get? b=ac o->(ce.2.2.1.heap.push {cls:=.type "dict",data:=.dict #[]}).get? b=ac o:=λb o q=>az _ q;have S:=k1 _ _ Y;generalize ce.2.2.1.heap.push {cls:=.type "dict",data:=.dict #[]}=H1 at l k1 S ⊢;refine aa (Io (s:={ce.2.2.1 with heap:=H1,toks:=ce.2.2.1.toks+1}) S (af ?_));have V:=bh (λo:Obj=>{o with dict:=some D}) S rfl;have J:(H1.update ce.2.2.2.2.1 λo=>{o with dict:=some D}).get? D=ac {cls:=.type "dict",data:=.dict #[]}:=(dG _ _ (fw P)).trans l;have k2:∀b o,b≠ce.2.2.2.2.1->ce.2.2.1.heap.get? b=ac o->(H1.update ce.2.2.2.2.1 λo=>{o with dict:=some D}).get? b=ac o:=λb o hb q=>(dG _ _ (fw hb)).trans (k1 b o q);dsimp only at V ⊢;generalize (H1.update ce.2.2.2.2.1 λo=>{o with dict:=some D})=H2 at V J k2 ⊢;refine aa (m:=Builtin.ObjectAttr.newKeyGuard D ce.2.2.2.2.2.1 (.str ce.2.2.2.2.2.1 ce.2.2.1.toks)) (af (aa ?_));refine aa (aa (Rt (af (aa (oC (aa (qE (s:={ce.2.2.1 with heap:=H2,toks:=ce.2.2.1.toks+1+1}) J ?_)))))));dsimp only;refine ag (Ik ..) (ag ((show (!(#[]:Array cz).any (·.key.isStr ce.2.2.2.2.2.1)&&(#[]:Array cz).any (·.refKey))=am by simp) ..) ?_);refine Ru (s:={ce.2.2.1 with heap:=H2,toks:=ce.2.2.1.toks+1+1}) J ?_;generalize hkh:(if ce.2.2.2.2.2.1.cps.isEmpty then (0:Int) else _)=kh;refine aI (lK ce.2.2.2.2.2.1 kh (.str ce.2.2.2.2.2.1 (ce.2.2.1.toks+1)) ce.2.2.2.2.2.2.1 [] (.type "dict") al 0 #[]) λm' O=>?_;have y:=bh (wY ce.2.2.2.2.2.1 kh (.str ce.2.2.2.2.2.1 (ce.2.2.1.toks+1)) ce.2.2.2.2.2.2.1) J (by refine ag (O ..) ?_;rfl);rw [O] at y;have W:(putE ce.2.2.2.2.2.1 kh (.str ce.2.2.2.2.2.1 (ce.2.2.1.toks+1)) ce.2.2.2.2.2.2.1 []).toArray=#[⟨kh,.str ce.2.2.2.2.2.1 (ce.2.2.1.toks+1),ce.2.2.2.2.2.2.1⟩]:=rfl;rw [W] at y;refine aa (wP y (by refine Rv ?_;simp) ?_);refine af (hq _ _ D kh (ce.2.2.1.toks+1) m' (λb o hb q=>?_) G P ?_ y)
 ·have hbD:D≠b:=λz=>by rw [z,q] at G;exact n2 G
  exact (dG _ _ hbD).trans (k2 b o hb q)
 ·exact (dG _ _ P).trans V) (A,E,s,C,e,name,v,fvs,Q)
def FW {ini:ay} {fd:ew} {an S V:aU} {W f l p:cP} {v:ak} {G:Array ak} {R:jk->aj->Prop}:Prop:=∀(y:dO) (z:vA K ini fd an S V W f l p) (r:setX K C an=au) (O:A.depth <qz) (J:∀b o,B.get? b=ac o->s.heap.get? b=ac o) (Y:s.heap.get? e=ac ⟨.ref C,al,.fields G,#[]⟩) (hq:∀h' tk I P t m,(∀b o,b≠e->s.heap.get? b=ac o->h'.get? b=ac o)->s.heap.get? I=al->I≠e->h'.get? e=ac ⟨.ref C,ac I,.fields G,#[]⟩->h'.get? I=ac ⟨.type "dict",al,.dict #[⟨P,.str an t,v⟩] m,#[]⟩->R (.ok (.ret .none)) {s with heap:=h',toks:=tk}),gk (aq prog w) A (.call (.ref ini) ⟨[.ref e,v],[]⟩) R s
noncomputable def bH:=rm <| U λA=>U λs=>U λC=>U λe=>U λini=>U λfd=>U λan=>U λI=>U λJ=>U λO=>U λP=>U λS=>U λV=>U λv=>U λG=>@FW A s C e ini fd an I J O P S V v G
theorem FX {ini fd an G p1 q0 q1 qa qs v fvs R}:@FW A s C e ini fd an G p1 q0 q1 qa qs v fvs R:=jX (c:=bH) rfl (by
 intro Bs hI h3 hroom V he hq;obtain ⟨hfd,hok,hbody,J,hds,hdl,hl0,hl1,hnc,hd0,hd1,hsole,hsw⟩:=hI;unfold zr at hok;simp only [bq,beq_iff_eq,dJ,wO,my,decide_eq_true_eq,co,za] at hok;refine ah hok λG hlc=>?_;clear hok;(refine ah G ?_;clear G;intro G hnn;(refine ah G ?_;clear G;intro G hcode;(refine ah G ?_;clear G;intro G hnd;(refine ah G ?_;clear G;intro G hkwa;(refine ah G ?_;clear G;intro G hkwo;(refine ah G ?_;clear G;intro G hvar;(refine ah G ?_;clear G;intro G hpos;(refine ah G ?_;clear G;intro G r;(refine ah G ?_;clear G;intro G hco;refine ah G λpa0 hgen=>?_;clear G;(first | refine ah pa0 λI W=>?_;clear pa0;refine ah I λO f=>?_;clear I | refine aI pa0 λI W=>?_;clear pa0;refine ah I λO f=>?_;clear I | obtain ⟨⟨O,f⟩,W⟩:=pa0))))))))));refine ae (vq K hfd) λo hlook hdat=>?_;have KI:K.In bH.2.1.heap:=Bs.kin.keeps V;have hl2:bH.2.2.2.2.2.1.params.args.length=2:=by have:=congrArg List.length J;simpa using this
 refine aI (bd.mp hds) λds hds=>?_;have hdl:=hdl ds hds;obtain ⟨P,hdlen,hdef⟩:∃P:List ak,P.length=ds.length∧((bH.2.2.2.2.2.1.defaults=.none∧P=[])∨∃T o Y n,bH.2.2.2.2.2.1.defaults=.ref T∧bH.2.1.heap.get? T=ac o∧o.data=.seq Y n∧Y.toList=P):=by
  refine bk (sk K hds) (λqo0=>?_) λqo1=>?_
  ·refine ah qo0 λe e1=>?_;clear qo0;subst e1;exact ⟨[],rfl,.inl ⟨e,rfl⟩⟩
  ·refine fI qo1 λT o its n e e1 e2 e3=>⟨its.toList,((qO (ρ:=[]) e3).length).symm,.inr ⟨T,o,its,n,e,KI _ _ e1,e2,rfl⟩⟩
 have hB:=k7 (s:=bH.2.1) (fd:=bH.2.2.2.2.2.1) (vs:=[.ref bH.2.2.2.1,bH.2.2.2.2.2.2.2.2.2.2.2.2.2.1]) (ds:=P) hpos hvar hkwo hkwa hnd (by simp [hl2]) (by simp [hl2]) (by lia) hdef;rw [J,hl2] at hB;rw [(show ([bH.2.2.2.2.2.2.2.1,bH.2.2.2.2.2.2.2.2.1].zip ([cy bH.2.2.2.1,bH.2.2.2.2.2.2.2.2.2.2.2.2.2.1]++P.drop (P.length - (2 - [cy bH.2.2.2.1,bH.2.2.2.2.2.2.2.2.2.2.2.2.2.1].length))))=[(bH.2.2.2.2.2.2.2.1,.ref bH.2.2.2.1),(bH.2.2.2.2.2.2.2.2.1,bH.2.2.2.2.2.2.2.2.2.2.2.2.2.1)] by rfl)] at hB;rw [J] at hnd;refine codeAny_call_function hroom (KI _ _ hlook) hdat hco hgen hbody (codeRec_of KI hcode) (hB _ _ _ _ ?_);refine ag (f ..) (ag (O ..) ?_);refine ag (W ..) ?_;refine qF (λy hy=>by simpa using co.mp hnc y hy) (λy hy=>by
  simp only [bj,iw,or_false] at hy;rcases hy with rfl | rfl
  ·exact hl0
  ·exact hl1) (λh1 hns hsb=>?_) r
 have hLn:bH.2.1.heap.get? bH.2.1.heap.objs.size=al:=aS (aG _);generalize hL:bH.2.1.heap.objs.size=L at hns hsb hLn ⊢;have p:∀b o,bH.2.1.heap.get? b=ac o->h1.get? b=ac o:=λb o q=>hsb.extBut b o (λz=>by rw [z,hLn] at q;exact nomatch q) (az _ q);refine ⟨(Bs.nolimit.keeps V).keeps p,codeAny_func ?_⟩;generalize henv:OA bH.2.2.2.2.2.1.scope L cJ [] (bH.2.2.2.2.2.1.qualname++ ".<locals>.") (ac bH.2.2.2.2.1) bH.2.2.2.2.2.1.code al jj=env;have S:env.scope=bH.2.2.2.2.2.1.scope:=by rw [← henv];rfl
 have l:env.locals=L:=by rw [← henv];rfl
 have hkof:∀y,env.kindOf y=bH.2.2.2.2.2.1.scope.names.lookup y:=λy=>by unfold Env.kindOf;rw [S]
 have kd:env.scope.kind=.function:=by rw [S];exact r
 refine wQ (Mc ?_ (hsole env S) (hsw env S));refine tM (kH (v:=bH.2.2.2.2.2.2.2.2.2.2.2.2.2.1) kd ((hkof bH.2.2.2.2.2.2.2.2.1).trans hl1) (l▸hns) (by simp) ?_) hd1;rw [show (jl [.Attribute (.Name bH.2.2.2.2.2.2.2.1 bH.2.2.2.2.2.2.2.2.2.1) bH.2.2.2.2.2.2.1 bH.2.2.2.2.2.2.2.2.2.2.2.1] env).map (·.2)=[assign (.Attribute (.Name bH.2.2.2.2.2.2.2.1 bH.2.2.2.2.2.2.2.2.2.1) bH.2.2.2.2.2.2.1 bH.2.2.2.2.2.2.2.2.2.2.2.1) env] from rfl];show aw _ _ (assign (.Attribute (.Name bH.2.2.2.2.2.2.2.1 bH.2.2.2.2.2.2.2.2.2.1) bH.2.2.2.2.2.2.1 bH.2.2.2.2.2.2.2.2.2.2.2.1) env bH.2.2.2.2.2.2.2.2.2.2.2.2.2.1) _ _ _;rw [show assign (.Attribute (.Name bH.2.2.2.2.2.2.2.1 bH.2.2.2.2.2.2.2.2.2.1) bH.2.2.2.2.2.2.1 bH.2.2.2.2.2.2.2.2.2.2.2.1) env bH.2.2.2.2.2.2.2.2.2.2.2.2.2.1=(do
   let ov ← lx [bH.2.2.2.2.2.2.2.2.2.2.2.2.2.1] (eM (.Name bH.2.2.2.2.2.2.2.1 bH.2.2.2.2.2.2.2.2.2.1) env)
   OY bH.2.2.2.2.2.2.2.2.2.2.2.1.atName
   lx [bH.2.2.2.2.2.2.2.2.2.2.2.2.2.1,ov] (O8 ov bH.2.2.2.2.2.2.1 bH.2.2.2.2.2.2.2.2.2.2.2.2.2.1)
   release [bH.2.2.2.2.2.2.2.2.2.2.2.2.2.1,ov] []) from rfl]
 refine aa (bc (tM (kH (v:=.ref bH.2.2.2.1) kd ((hkof bH.2.2.2.2.2.2.2.1).trans hl0) (l▸hns) (by
  have:(bH.2.2.2.2.2.2.2.1==bH.2.2.2.2.2.2.2.2.1)=am:=by simpa using (by simpa using hnd)
  simp [List.lookup_cons,this]) ?_) hd0))
 refine aa (cr (aa (bc ?_)));refine xW (s:={bH.2.1 with heap:=h1,toks:=_}) (KI.keeps p) h3 (p _ _ he) λh' tk dx hs t m hk hdx hde he' hdx'=>Eg (ja ?_);have hdxs:bH.2.1.heap.get? dx=al:=by
  cases z:bH.2.1.heap.get? dx with
  | none=>rfl
  | some o=>have:=p _ _ z;rw [hdx] at this;exact nomatch this
 exact hq h' tk dx hs t m (λb o hb q=>hk b o hb (p b o q)) hdxs hde he' hdx') (A,s,C,e,ini,fd,an,G,p1,q0,q1,qa,qs,v,fvs,R)
end
section
variable {M:l4} {A:bw} {E:ak->aj->Prop} {s:aj} {env:Env}
variable {nm q:aU} {C N:ay} {bs bm:List ak} {hdct:Bool} {sn:List aU} {sub:List ak} {ab:Bool} {col:Option Bool} {dd:Option ay} {k0 k1 k2 k3 k5:Option ak} {newId:String}
theorem Ae {x:iR ak} {Q:Ea->aj->Prop} (J:bm.contains (.type "BaseException")=au) (f:A.handled=al)
  (h:aw M A x (λv G=>∃e P t,v=.ref e∧G.heap.get? C=ac (mH nm q C N bs bm hdct sn sub ab col dd k0 k1 k2 k3 k5 newId)∧
   G.heap.get? e=ac ⟨.ref C,ac P,.fields #[.ref t,.none,.none,.none,.bool am,.none],#[]⟩∧E (.ref e) G) E s):
  aw M A (raiseStmt env (ac x) al) Q E s:=by
 refine aa (aP h (λv G I=>?_) λY Y x=>x);refine gR I λe P t O S W V=>?_;clear I;refine ag O ?_;obtain ⟨l,g,d,tk,os⟩:=G;repeat (first | with_reducible refine gW W ?_ | with_reducible refine gW S ?_ | (with_reducible refine lf S ?_;rw [(show (cy C::bm).contains (.type "BaseException")=au by refine ag (fN ..) ?_;refine ag (J ..) (ag (oF ..) rfl))]) | wp_step)
 exact wpAny_raiseNew_none f V
end
section
variable {n:Nat} {E:Lv} {A:bw} {fe env:Env} {pe:bD} {ρ ρ' ρ'':List ay} {st st' st'':List PO} {s:aj} {h h0 h1 h2 h' h'':bM} {L:ay} {tk:Nat} {x:KX}
theorem qf (Bs:dO) (S:cL n E) {cls:aU} {arg:aC} {np cp pos:cP} {k:dL->bD->List PO->Prop} {C ini:ay} {fd:ew} {an p0 p1:aU} {q0 q1 qa qs:cP}
  (hl:pe.sc.names.lookup cls=ac .globalImplicit) (hdb:(cls==("__debug__":aU))=am) (hg:jy K cls=ac (.ref C)) (hex:nS K C=au) (hfi:gC K (.ref C) "__init__"=ac (ac (.ref ini))) (hfn:KL K (.ref ini)=au)
  (hset:setX K C an=au) (hI:vA K ini fd an p0 p1 q0 q1 qa qs) (hns:cx arg=au) (hkeep:Ot K (.ref C)=au)
  (h:E.ev arg pe st (λv I=>x (I.length+1) (I++[.ns [(an,v)],.exc C I.length])) x)
  (M:eW A ρ s.heap fe n) (G:aY ρ st s.heap) (F:eH ρ s.heap env pe):
  aw (aq prog w) A (exec (.Raise (ac (.Call (.Name cls np) [arg] [] cp)) al pos) env) (oG s ρ env k) (jL s ρ env.locals x) s:=by
 refine zm (s6 (Bs.kin) hex) λnm q N bs bm hdct sn sub ab qay=>EG qay λcol dd k0 k1 k2 k3 k5 hC0 b1 b2 b3 b4=>?_;clear qay;refine ag (arm_exec_Raise ..) (aa (cr ?_));refine Ae (C:=C) (nm:=nm) (q:=q) (N:=N) (bs:=bs) (bm:=bm) (hdct:=hdct) (sn:=sn) (sub:=sub) (ab:=ab) (col:=col) (dd:=dd) (k0:=k0) (k1:=k1) (k2:=k2) (k3:=k3) (k5:=k5) (newId:= "Exception.__new__") b2 M.handled (aa ?_);refine Call_ (aP (zL (x:=x) (k:=λv I=>v=.ref C∧I=st) Bs hdb (.glob hl hg ⟨rfl,rfl⟩) G F) (λfv s' hv=>?_) λY Y z=>z.toL F.some F.out);refine iA hv λh1 t1 ρ1 I pv ea5 y1 r ea8 ea9=>?_;clear hv;subst ea5;subst ea8;subst ea9;obtain ⟨_,rfl⟩:=r.inv;have p:([arg]:List aC).all cx=au:=by simp [hns]
 refine Vz (P:=λh2=>K.In h2) (by refine ag (iH p ..) ?_;rfl) (λh2 X=>keeps_K hkeep h2 X) ?_;have hev:tT E pe x [arg] I (λvs J=>match vs with
   | [v]=>x (J.length+1) (J++[.ns [(an,v)],.exc C J.length])
   | _=>False):=⟨hns,h⟩
 refine uQ p (aP (pZ S [arg] I ρ1 {s with heap:=h1,toks:=t1} _ hev (M.go y1) y1.good (F.go y1)) (λvs s' hv=>?_) λY Y z=>(z.pre G y1).toL F.some F.out);rcases hv with ⟨h2,t2,V,J,pvs,rfl,y2,r,hx⟩;split at hx;rotate_left
 ·exact hx.elim
 rename_i v;refine ae (nA r) λval eq1 rv=>ag eq1 ?_;have y12:=y1.trans G y2;have f:=y12.good;have X2:K.In h2:=Bs.kin.keeps f.base;refine ⟨X2,?_⟩;have hC2:=f.base _ _ hC0;obtain ⟨hp,g,d,tk0,os⟩:=s;refine FU (rest:=[val]) (hrest:=by have:ek=16777216:=rfl;simp;exact wR _) (PySem.F.excBase_Exception) b1 b3 b4 X2 hfi hfn hC2 ?_;generalize hH3:((h2.push {cls:=.type "tuple",data:=.seq [val].toArray}).push {cls:=.ref C,data:=.fields #[.ref h2.objs.size,.none,.none,.none,.bool am,.none]})=h3;have k3:∀b o,h2.get? b=ac o->h3.get? b=ac o:=λb o e=>hH3▸az _ (az _ e);have he3:h3.get? (h2.objs.size+1)=ac ⟨.ref C,al,.fields #[.ref h2.objs.size,.none,.none,.none,.bool am,.none],#[]⟩:=by refine bZ (hH3 ..) ?_;heap_get
 have W:h2.get? (h2.objs.size+1)=al:=aS (dZ _);generalize hee:h2.objs.size+1=e at he3 W;refine FX (s:=⟨h3,g,d,t2,os⟩) (A:=A.under (.builtin "type.__call__" ⟨.ref C::[val],[]⟩)) Bs hI hset (by have:=M.depth;unfold qz;show A.depth+1 <_;lia) (λb o q=>k3 _ _ (f.base _ _ q)) he3 ?_;intro h4 t4 l hs t m k4 hdx hde y hdx4;dsimp only at k4 hdx;have k24:∀b o,h2.get? b=ac o->h4.get? b=ac o:=λb o q=>k4 b o (λz=>by rw [z,W] at q;exact nomatch q) (k3 b o q);have dx2:h2.get? l=al:=by
  cases z:h2.get? l with
  | none=>rfl
  | some o=>have:=k3 _ _ z;rw [hdx] at this;exact nomatch this
 have Ya:Ev V h2 (V++[l]) (J++[.ns [(an,v)]]) h4:=Ev.add f k24 dx2 ⟨_,m,hdx4,.cons (rv.mono _) .nil⟩;refine ah (im f W) λee1 ee2=>?_;have O:e∉V++[l]:=λmm=>by
  rcases bb.mp mm with mm | mm
  ·exact ee1 mm
  ·exact hde (aV.mp mm).symm
 have Yb:Ev V h2 (V++[l]++[e]) (J++[.ns [(an,v)]]++[.exc C J.length]) h4:=
  ⟨⟨[l,e],by simp,λa ha=>by simp only [bj,iw,or_false] at ha;rcases ha with rfl | rfl <;> assumption⟩,(Ya.good.add1 O ee2 ⟨l,_,_,by refine ag (ax (by simp [f.len])) ?_;exact (by refine bZ (f.len ..) ?_;simp),y⟩),Ya.keep⟩
 refine ⟨rfl,aa (cr (af ⟨e,l,_,rfl,k24 _ _ hC2,y,?_⟩))⟩;have hes:hp.get? e=al:=by
  cases z:hp.get? e with
  | none=>rfl
  | some o=>have:=y12.there G (b:=e) (by show (hp.get? e).isSome=au;refine ag (z ..) ?_;rfl);rw [W] at this;exact n3 this
 refine XK.toL F.some F.out ⟨h4,t4,_,_,J.length+1,rfl,(y12.trans G Yb),⟨e,_,_,rfl,?_,hes,y,⟨C,rfl⟩,rfl,by simp,.inl rfl⟩,by simpa using hx⟩;refine bZ (f.len ..) ?_;simp
theorem C3 {n:aU} {pos:cP} {m:aU->Option ak} {M:l4} {X:ak->aj->Prop} {Q:Unit->aj->Prop} (hl:env.kindOf n=ac .local) (W:s.heap.Ns env.locals m)
  (S:(env.scope.kind==.class ||(env.scope.kind==.module&&env.locals !=env.globals))=am)
  (f:∀h' v,h'.Ns env.locals (λy=>if y=n then v else m y)->eA env.locals s.heap h'->Q () {s with heap:=h',toks:=s.toks+1}):
  aw M A (do bindName env n .none;unbindBehindTheSuite env n pos) Q X s:=by
 refine aa (Tq (jT hl W (λV G J=>?_) S));refine rZ (aa (qx (aa ?_)));unfold deleteName;simp only [hl,S];refine ag (if_neg (by decide) ..) (aa (wpAny_nsDel_keeps G λP v I O=>?_));simp only [if_true,OG,Bool.not_true,jp,if_false];refine af (qx (f P v ?_ (J.trans O)));have e:(λy=>if y=n then v else m y)=(λy=>if y=n then v else if y=n then ac dg else m y):=by funext y;by_cases q:y=n <;> simp [q]
 refine ag (e ..) I
theorem C4 {id:aU} {pos:cP} {S:PV} {Q:ak->aj->Prop} {X:ak->aj->Prop} (J:dO) (hd:(id==("__debug__":aU))=am) (hl:pe.sc.names.lookup id=ac .globalImplicit) (h1:jy K id=ac S) (G:aY ρ st s.heap) (F:eH ρ s.heap env pe)
  (V:∀v,VR ρ S v->Q v s):aw (aq prog w) A (eM (.Name id pos) env) Q X s:=by
 refine tM ?_ hd;refine aI J.glob λmg P=>ae J.blt λl W O=>?_;have I:s.heap.Ns env.globals mg:=by refine ag (F.glob ..) ?_;exact P.keeps G.base
 refine ag (uI (F.sc▸F.kind) ((show env.kindOf id=pe.sc.names.lookup id by unfold Env.kindOf;exact ag (F.sc ..) rfl).trans hl)) ?_;refine Bt K h1 (λval q h1=>?_) λq f val e1 e2=>?_
 ·exact Ep I (mg_of J.kin P q) (V _ (xk h1))
 ·exact Eb I (mg_none_of J.kin P q) (by refine ag (F.blt ..) ?_;exact W.keeps G.base) ((O id f).trans e1) (V _ (xk e2))
def FY {e:aC} {cn en t an:aU} {ep O tp np ap sp hp pos:cP} {k:dL->bD->List PO->Prop} {C:ay}:Prop:=∀(Bs:dO) (S:cL n E) (P:t≠en) (l:pe.sc.names.lookup en=ac .local) (htl:pe.sc.names.lookup t=ac .local) (W:pe.sc.names.lookup cn=ac .globalImplicit) (V:(cn==("__debug__":aU))=am) (f:(en==("__debug__":aU))=am) (z:pe.loc.lookup en=al) (hsE:∀env:Env,env.scope=pe.sc->iu e al ep.line env=pure am) (hsA:∀env:Env,env.scope=pe.sc->ef [.Name t tp] (.Attribute (.Name en np) an ap) sp.line env=pure am) (hsB:∀env:Env,env.scope=pe.sc->dN [.Name t tp] (.Attribute (.Name en np) an ap) env=pure al) (r:jy K cn=ac (.ref C)) (p:nS K C=au) (y:EL K C an=au) (h:E.ev e pe st (λY I=>k .next pe I) (λi I=>∃d fs J,I[i]? =ac (.exc C d)∧I[d]? =ac (.ns fs)∧fs.lookup an=ac J∧uD J=au∧k .next (pe.set t J) I)) (M:eW A ρ s.heap env n) (G:aY ρ st s.heap) (F:eH ρ s.heap env pe) (hf:env.frame=ac env.locals),aw (aq prog w) A (exec (.Try [.Expr e ep] [.ExceptHandler (ac (.Name cn O)) (ac en) [.Assign [.Name t tp] (.Attribute (.Name en np) an ap) sp] hp] [] [] pos) env) (oG s ρ env k) (jL s ρ env.locals x) s
noncomputable def bT:=rm <| U λn=>U λE=>U λA=>U λenv=>U λpe=>U λρ=>U λst=>U λs=>U λx=>U λe=>U λcn=>U λen=>U λt=>U λan=>U λep=>U λG=>U λtp=>U λnp=>U λap=>U λsp=>U λI=>U λpos=>U λk=>@FY n E A env pe ρ st s x e cn en t an ep G tp np ap sp I pos k
theorem s7 {e cn en t an ep cp tp np ap sp hp pos k C}:@FY n E A env pe ρ st s x e cn en t an ep cp tp np ap sp hp pos k C:=jX (c:=bT) rfl (by
 intro Bs S hten hel htl hcl hcd hed hno hsE hsA hsB hgC hex O h M G F hf;have kd:bT.2.2.2.1.scope.kind=.function:=F.sc▸F.kind;have hpk:(bT.2.2.2.1.scope.kind==.class ||(bT.2.2.2.1.scope.kind==.module&&bT.2.2.2.1.locals !=bT.2.2.2.1.globals))=am:=by refine ag (kd ..) ?_;rfl
 have ko:∀id,bT.2.2.2.1.kindOf id=bT.2.2.2.2.1.sc.names.lookup id:=λid=>by unfold Env.kindOf;exact ag (F.sc ..) rfl
 have hLs:(bT.2.2.2.2.2.2.2.1.heap.get? bT.2.2.2.1.locals).isSome=au:=by refine ae F.some λo e _=>?_;refine ag (e ..) ?_;rfl
 refine Pi λQ' X' hQ Y=>wpAny_Try_except (wQ (Tp ?_ (xI F) (hsE bT.2.2.2.1 F.sc)));refine aP (S.ev bT.2.2.2.2.2.2.2.2.2.1 bT.2.2.2.2.1 bT.2.2.2.2.2.2.1 _ _ h bT.2.2.1 bT.2.2.2.1 bT.2.2.2.1 bT.2.2.2.2.2.1 bT.2.2.2.2.2.2.2.1 M G F) (λv s' hv=>?_) (λexc s' hx=>?_)
 ·refine cY hv λh' tk' ρ' st' pv eq5 y r q=>?_;clear hv;refine ag eq5 (ja (ja ?_));exact hQ _ _ (Nm (F.go y) (y.toL F.some F.out) q)
 ·refine nM hx λh1 t1 ρ1 st1 P=>?_;clear hx;obtain ⟨i,rfl,y,xr,d,fs,pv,q1,q2,q3,q4,q⟩:=P;refine ae ((M.go y).frames) λouter hfr Fr=>?_;have hLB:=y.notin (bd.mp hLs).choose_spec F.out;refine Ni (h₀:=bT.2.2.2.2.2.2.2.1.heap) (s:={bT.2.2.2.2.2.2.2.1 with heap:=h1,toks:=t1}) hfr Fr hf y.good (λb e=>y.there G e) xr λh2 V xn2=>vV (s:={bT.2.2.2.2.2.2.2.1 with heap:=h2,toks:=t1}) al V.good xn2 λh3 W xn3=>?_;have G3:=W.good;refine zm (s6 (Bs.kin) hex) λnm qq N bs bm hdct sn sub ab P=>EG P λcol dd k0 k1 k2 k3' k5 hC0 b1 b2 b3 b4=>?_;clear P;refine gz (id xn3) λa o3 vs3 eq3 hai rest=>?_;subst eq3;obtain ⟨a',ea,dx,vsx,slx,hdx,hox⟩:=G3.objs _ _ q1;rw [hai] at ea;obtain rfl:=i8 ea;refine wpAny_handleBy_cons (codeAny_handlers_test ?_) (by intro q;cases q);refine C4 (s:={bT.2.2.2.2.2.2.2.1 with heap:=h3,toks:=t1}) Bs hcd hcl hgC G3 (F.go (wV.ev y (V.trans W))) λc rc=>?_;obtain ⟨_,rfl⟩:=rc.inv;refine wpAny_excMatches_sub_self (G3.base _ _ hC0) hox rfl b2 (codeAny_handlers_suite_as ?_);refine vV (s:={bT.2.2.2.2.2.2.2.1 with heap:=h3,toks:=t1}) al G3 xn3 λh4 l xn4=>?_;have G4:=l.good;have p:=(V.trans W).trans l;have J:eH ρ1 h4 bT.2.2.2.1 bT.2.2.2.2.1:=F.go (wV.ev y p);refine ae J.ns λm4 hn4 hv4=>?_;have ra:VR ρ1 (.loc i) (.ref a):=.loc hai;refine jT ((ko bT.2.2.2.2.2.2.2.2.2.2.2.1).trans hel) hn4 (λh5 hn5 hs5=>?_) hpk;have G5:=(iW.locals G4 J hn5 hs5).good;refine wQ (Mc ?_ (hsA bT.2.2.2.1 F.sc) (hsB bT.2.2.2.1 F.sc));refine ag (OC ..) ?_;have e1:Uf (.Name bT.2.2.2.2.2.2.2.2.2.2.2.1 bT.2.2.2.2.2.2.2.2.2.2.2.2.2.2.2.2.2.1) bT.2.2.2.2.2.2.2.2.2.2.2.2.2.1 bT.2.2.2.1 (eM (.Name bT.2.2.2.2.2.2.2.2.2.2.2.1 bT.2.2.2.2.2.2.2.2.2.2.2.2.2.2.2.2.2.1) bT.2.2.2.1)=eM (.Name bT.2.2.2.2.2.2.2.2.2.2.2.1 bT.2.2.2.2.2.2.2.2.2.2.2.2.2.2.2.2.2.1) bT.2.2.2.1:=rfl;refine ag (e1 ..) (aa (tM (kH (v:=.ref a) kd ((ko bT.2.2.2.2.2.2.2.2.2.2.2.1).trans hel) hn5 (by simp) ?_) hed));refine aa (cr (aa (bc ?_)));refine nN (rR (s:={bT.2.2.2.2.2.2.2.1 with heap:=h5,toks:=t1+1}) G5 (.inr q1) q2 hai) λox dx' es mm hdx' I _ hdo R=>?_;unfold EL at (O);simp only [bq,beq_iff_eq] at (O);obtain ⟨⟨⟨⟨b1,b2⟩,b3⟩,a2⟩,a3⟩:=(O);refine ae (kJ a3) λattr ha a3=>ae ((vW (name:=bT.2.2.2.2.2.2.2.2.2.2.2.2.2.1) R).1 pv q3) λv g1 g2=>Jo (Bs.kin.keeps G5.base) I b3 b1 b2 (Vv a2 ha a3 g1) (qc g2 q4) (aa (qC (af ?_)));refine ag (show (jl [.Name bT.2.2.2.2.2.2.2.2.2.2.2.2.1 bT.2.2.2.2.2.2.2.2.2.2.2.2.2.2.2.2.1] bT.2.2.2.1).map (·.2)=[assign (.Name bT.2.2.2.2.2.2.2.2.2.2.2.2.1 bT.2.2.2.2.2.2.2.2.2.2.2.2.2.2.2.2.1) bT.2.2.2.1] from rfl ..) ?_;refine mG (jT ((ko bT.2.2.2.2.2.2.2.2.2.2.2.2.1).trans htl) hn5 (λh6 hn6 hs6=>?_) hpk);refine ja (C3 ((ko bT.2.2.2.2.2.2.2.2.2.2.2.1).trans hel) hn6 hpk λh7 v7 hn7 hs7=>?_);refine hQ _ _ (Nm (pe:=bT.2.2.2.2.1.set bT.2.2.2.2.2.2.2.2.2.2.2.2.1 pv) ⟨J.sc,J.kind,J.glob,J.blt,⟨_,hn7,λz pz f el=>?_⟩,J.out,J.base,J.cells,J.tab⟩ ((wV.evL hLs hLB (y.toL F.some F.out) p).trans G (iW.locals G4 J hn7 ((hs5.trans hs6).trans hs7))) q);rw [show (bT.2.2.2.2.1.set bT.2.2.2.2.2.2.2.2.2.2.2.2.1 pv).loc=nO bT.2.2.2.2.2.2.2.2.2.2.2.2.1 pv bT.2.2.2.2.1.loc from rfl,m3] at f;refine w5 f (λq f=>?_) λq f=>?_
  ·exact ⟨v,by simp [q,hten],bZ (fm f) g2⟩
  ·have hze:z≠bT.2.2.2.2.2.2.2.2.2.2.2.1:=λw=>by rw [w,hno] at f;exact nomatch f
   refine ae (hv4 z pz f el) λu u1 u2=>?_;exact ⟨u,by simp [q,hze,u1],u2⟩) (n,E,A,env,pe,ρ,st,s,x,e,cn,en,t,an,ep,cp,tp,np,ap,sp,hp,pos,k,C)
end
section
variable {n:Nat} {E:Lv}
theorem Jq (J:dO) (S:cL n E) {e:aC} {pe:bD} {st:List PO} {k:KV} {x:KX} (h:oQ K E pe st k x e) {A:bw} {fe env:Env} {ρ:List ay} {s:aj} (M:eW A ρ s.heap fe (n+1)) (G:aY ρ st s.heap) (F:eH ρ s.heap env pe):
  aw (aq prog w) A (eM e env) (hV s ρ k) (XK s ρ x) s:=by
 have I:=M.less;induction h using oQ.casesOn with
 | const r h=>exact I3 r h G
 | name hd h=>exact zL J hd h G F
 | tuple h=>exact I5 S h I G F
 | list h=>exact M7 S h I G F
 | dict0 h=>exact Jk h G
 | dict h0 h1 h2 O h=>exact Np S h0 h1 h2 O h I G F
 | bool h=>exact M8 S h I G F
 | not h=>exact P0 S h I G F
 | neg h=>exact P1 S h I G F
 | ife h=>exact P2 S h I G F
 | bin h=>exact I6 S h I G F
 | cmp y h=>exact P8 J S y h I G F
 | mcall h1 h2 O P h=>exact Jc J S h1 h2 O P h I G F
 | call h1 h2 O h=>exact No J S h1 h2 O h I G F
 | attr h1 h=>exact Nk J S h1 h M G F
 | slice h=>exact Jl S h I G F
 | sub h=>exact P9 S h I G F
 | comp h=>exact z8 J S h I G F
 | lam h1 h2 O P V W f l p h=>exact FC J h1 h2 O P V W f l p h G F
theorem C5 {e:aC} (h:zu e=au) (env:Env):tI e env (eM e env)=(do let v ← eM e env;OY e.pos;lx [v] (truthy v)):=by rcases e with _ | _ <;> first | rfl | exact n3 h
theorem FZ (r:dO) (S:cL n E) {e:aC} {pe:bD} {st:List PO} {k:Bool->List PO->Prop} {x:KX} (h:xc E pe st k x e) {A:bw} {fe env:Env} {ρ:List ay} {s:aj} (M:eW A ρ s.heap fe (n+1)) (G:aY ρ st s.heap) (F:eH ρ s.heap env pe):
  aw (aq prog w) A (tI e env (eM e env)) (CB s ρ k) (XK s ρ x) s:=by
 have J:=M.less;cases h with
 | not h=>exact P3 S h J G F
 | bool h=>exact M9 S h J G F
 | cmp hb h=>refine wpAny_isTrue_Compare1 (eJ S h J G F (λY Y z=>z) λh1 t1 ρ1 st1 pa va f M1 G1 F1 ra q1=>?_) hb;refine eJ (s:={s with heap:=h1,toks:=t1}) S q1 M1 G1 F1 (λY Y z=>z.pre G f) λh2 t2 ρ2 st2 pb vb p M2 G2 F2 rb q2=>aP (T8 (s:={s with heap:=h2,toks:=t2}) (X:=XK s ρ x) r (df (dD _ _) M2.units) G2 (p.pre ra) rb q2) (λc s' I=>?_) λY Y z=>z;refine jV I λh3 t3 W V pv O=>?_;clear I;obtain ⟨rfl,y3,P,t,rfl,q3⟩:=O;refine ag (VR.ibool P) (fb ⟨h3,t3,W,V,rfl,(f.trans G p).trans G y3,q3⟩)
 | plain he h=>refine wpAny_isTrue_value ?_ (C5 he env);refine aP (S.ev e pe st _ _ h A fe env ρ s J G F) (λv s' I=>?_) λY Y z=>z;refine jV I λh' l ρ' st' pv O=>?_;clear I;obtain ⟨rfl,y,P,b,rfl,q⟩:=O;refine ag P.inv (fb ⟨h',l,ρ',st',rfl,y,q⟩)
theorem C6 (P:dO) (S:cL n E) {e:cg} {pe:bD} {st:List PO} {k:dL->bD->List PO->Prop} {x:KX} (h:i4 K E pe st k x e) {A:bw} {env:Env} {ρ:List ay} {s:aj} (M:eW A ρ s.heap env (n+1)) (G:aY ρ st s.heap) (F:eH ρ s.heap env pe) (f:env.frame=ac env.locals):
  aw (aq prog w) A (exec e env) (oG s ρ env k) (jL s ρ env.locals x) s:=by
 have I:=M.less;induction h using i4.casesOn with
 | expr O h=>exact rB S O h I G F
 | assign O ht hw h=>exact kR S ⟨O,.inl ⟨ht,hw,h⟩⟩ I G F
 | swap O hw hn h=>exact kR S ⟨O,.inr ⟨_,_,_,_,rfl,hw,hn,h⟩⟩ I G F
 | acomp O hl h=>exact xM P S (O env F.sc) hl h I G F
 | ite h=>exact t6 S h I G F f
 | ret h=>exact pm S h I G F
 | forZip h1 h2 V W h=>exact pp P S h1 h2 V W h I G F f
 | loop h1 h=>exact sV P S h1 h I G F f
 | raise h1 h2 V W z Y h7 h8 h9 J h=>exact qf P S h1 h2 V W z Y h7 h8 h9 J h I G F
 | tri h2 V W z Y h7 h8 h9 J l p y r h=>exact s7 P S h2 V W z Y h7 h8 h9 J l p y r h I G F f
theorem C7 (I:dO) (S:cL n E) {f:PV} {args:List PV} {st:List PO} {k:KV} {x:KX} (h:lh K E args st k x f) {A:bw} {fe:Env} {ρ:List ay} {s:aj} {O:ak} {vs:List ak} (M:eW A ρ s.heap fe (n+1)) (G:aY ρ st s.heap) (J:VR ρ f O) (V:eI ρ args vs):
  aw (aq prog w) A (call O vs []) (hV s ρ k) (XK s ρ x) s:=by
 induction h using lh.casesOn with
 | fn W h=>refine ag (VR.iref J) ?_;refine kl (oB (BJ I S h M G V) λr l z=>?_);rcases r with e | (v | _ | _ | _)<;> exact z
 | cls hi h=>refine ag (VR.iref J) ?_;exact FE I S hi h M G V
 | bi h=>obtain rfl:=J.inv;exact Nt I h M G V
 | ty h=>obtain rfl:=J.inv;exact Nr I h M G V
 | lam hi P hl h=>exact FD I S hi P hl h M G J V
theorem C8 {C ini:ay} (h:nR K C=ac ini):gC K (.ref C) "__init__"=ac (ac (.ref ini))∧KL K (.ref ini)=au∧UV K C=au:=by refine ae (rK K h) λp e h=>?_;refine ah (jM h) λG q=>bZ q ?_;simp only [bq] at G;exact ⟨e,G.1.1,G.1.2⟩
theorem lP {a ini:ay} (W:(nQ K a).isSome=au) (hi:nR K a=ac ini):False:=by have O:=(C8 hi).2.2;unfold UV at O;refine aI (bd.mp W) λfd f=>ae (vq K f) λo e1 e2=>?_;obtain ⟨c,d,G,I⟩:=o;subst e2;simp [e1] at O
theorem Jr (J:dO) (S:cL n E) {a:ay} {args:List PV} {st:List PO} {k:KV} {x:KX} (W:(nQ K a).isSome=au) (h:lh K E args st k x (.ref a)) {A:bw} {fe:Env} {ρ:List ay} {s:aj} {vs:List ak} (M:eW A ρ s.heap fe (n+1)) (G:aY ρ st s.heap) (V:eI ρ args vs):
  gk (aq prog w) A (.call (.ref a) ⟨vs,[]⟩) (λr I=>match r with | .ok (.ret v)=>hV s ρ k v I | .ok _=>False | .error e=>XK s ρ x e I) s:=by
 cases h with
 | fn O h=>exact BJ J S h M G V
 | cls hi h=>exact (lP W hi).elim
theorem Af (I:dO) (S:cL n E):cL (n+1) (Cq K E) where
 ev:=λe pe st k x h A fe env ρ s M G F=>Jq I S h M G F
 evT:=λe pe st k x h A fe env ρ s M G F=>FZ I S h M G F
 exec:=λe pe st k x h A env ρ s M G F J=>C6 I S h M G F J
 asg:=λe p pe st k x h A fe env ρ s v M G F P=>CP I S h M G F P
 call:=λf args st k x h A fe ρ s l vs M G O V=>C7 I S h M G O V
 fn:=λa args st k x W h A fe ρ s vs M G V=>Jr I S W h M G V
theorem nn (G:dO):∀n,cL n (RL K n)
 | 0=>⟨λY Y Y Y Y h=>h.elim,λY Y Y Y Y h=>h.elim,λY Y Y Y Y h=>h.elim,λY Y Y Y Y Y h=>h.elim,λY Y Y Y Y h=>h.elim,λY Y Y Y Y Y h=>h.elim⟩
 | n+1=>Af G (nn G n)
end
namespace F
theorem mro_ba:mroOf (.type "bytearray")=pure [.type "bytearray",.type "object"]:=by refine ag (mroOf_type ..) ?_;kernel_rfl
theorem uc:eB (.type "bytearray") "__new__"=pure (ac (.builtin "bytearray.__new__")):=by refine ag (cV ..) (ag (bS ..) ?_);kernel_rfl
theorem lookup_ba_init:eB (.type "bytearray") "__init__"=pure (ac (.builtin "bytearray.__init__")):=by refine ag (cV ..) (ag (bS ..) ?_);kernel_rfl
theorem made_ba:Bind.madeBy (.type "bytearray")=pure (ac "bytearray.__new__"):=madeBy_type mro_ba uc (by decide+kernel)
theorem typeCall_ba (a:ak):checkTypeCall "bytearray" ⟨[a],[]⟩=pure ():=by kernel_rfl
theorem newCall_ba (a:ak):j8 "bytearray.__new__" ⟨[.type "bytearray",a],[]⟩=pure ():=by kernel_rfl
theorem entry_ba_new:l7 un "bytearray.__new__"=ac Builtin.«list.__new__»:=by have e:fastTable=λid=>entriesT.find (code id):=funext λY=>fastTable_eq_tree ..;refine ag (table_eq_fast ..) (ag (e ..) ?_);kernel_rfl
theorem entry_ba_init:l7 un "bytearray.__init__"=ac Builtin.«bytearray.__init__»:=km (by kernel_rfl)
theorem plain_ba_new:Ve "bytearray.__new__"=au:=by decide+kernel
theorem plain_ba_init:Ve "bytearray.__init__"=au:=by decide+kernel
theorem bad_ba_init:pR.contains "bytearray.__init__"=am:=by decide+kernel
theorem can_ba:((TE "bytearray").bind (·.mro.findSome? λt=>(TE t).bind λb=>if b.noNew then ac au else if b.attrs.any (·.1== "__new__") then ac am else al)).getD am=am:=by decide+kernel
theorem owner_ba:("bytearray.__new__".splitOn ".__new__").headD ""= "bytearray":=by simp+decide [String.splitOn,String.splitOnAux]
theorem bind_ba (self:ak):Vw (.builtin "bytearray.__init__") self=pure (.builtin "bytearray.__init__",[self]):=by kernel_rfl
end F
section
variable {A:bw} {E:ak->aj->Prop} {s:aj} {N:vf->Prop}
theorem xX (a:ak) {Q₁:ak->aj->Prop}
  (h:Q₁ (.ref s.heap.objs.size) {s with heap:=s.heap.push {cls:=.type "bytearray",data:=.bytearray #[]}}):
  gk (aq prog w) A (.call (.builtin "bytearray.__new__") ⟨[.type "bytearray",a],[]⟩) (wants Q₁ E) s:=by
 refine zd (aa (cO (F.newCall_ba a) (af ⟨Eh F.plain_ba_new _,codeAny_builtin_stack F.entry_ba_new rfl λp st=>?_⟩)));refine ag (kM F.plain_ba_new _ ..) ?_;have G:=wc;obtain ⟨I,g,d,tk,os⟩:=s;simp only [(F.owner_ba)];wp_walk;exact h
def LG {Q:ak->aj->Prop}:Prop:=∀(Cl:wU N) (b:ak) (I:fR N (aq prog w) A.in1 (.call (.builtin "bytearray.__init__") ⟨[.ref s.heap.objs.size,b],[]⟩) (λr G=>match r with | .ok (.ret v)=>v=.none∧Q (.ref s.heap.objs.size) G | .ok _=>False | .error e=>E e G) {s with heap:=s.heap.push {cls:=.type "bytearray",data:=.bytearray #[]}}),fE N (aq prog w) A (call (.type "bytearray") [b]) Q E s
noncomputable def s8:=rm <| U λA=>U λE=>U λs=>U λN=>@LG A E s N
theorem Js {Q}:@LG A E s N Q:=jX (c:=s8) rfl (by
 intro Cl b G;refine li Cl (fJ Cl ?_);refine cQ ⟨gH _ (by decide+kernel),pg,kX Cl PySem.F.entry_type_call ?_⟩;refine ag (bw.under_plain (weight_type_call_type "bytearray" [b] []) rfl ..) ?_;unfold Builtin.«type.__call__»;simp only [(show (gG "bytearray"==gG "type")=am by decide+kernel),F.can_ba,F.typeCall_ba,F.mro_ba,F.made_ba,pure_bind,jp,if_false,List.isEmpty_cons];refine cF (bc (kl (oB (xX b (Q₁:=λv W=>v=.ref s8.2.2.1.heap.objs.size∧W={s8.2.2.1 with heap:=s8.2.2.1.heap.push {cls:=.type "bytearray",data:=.bytearray #[]}}) (E:=λY Y=>False) ⟨rfl,rfl⟩) λr P I=>?_)));rcases r with e | (v | _ | _ | _)<;> first | exact I.elim | skip
 refine ah I λV J=>?_;clear I;subst V;refine ag J ?_;have O:Uk {s8.2.2.1 with heap:=s8.2.2.1.heap.push {cls:=.type "bytearray",data:=.bytearray #[]}} (.ref s8.2.2.1.heap.objs.size) "bytearray":=⟨_,aM _ rfl,rfl⟩;refine cF (cW O wc ?_);refine bY (gf ?_);refine cF (cM O F.lookup_ba_init ?_);refine gf (ag (F.bind_ba ..) ?_);refine bY (cQ (bY (li Cl (jd G λr W z=>?_))));rcases r with e | (v | _ | _ | _)<;> first | exact z | exact z.elim | skip
 (refine ah z ?_;clear z;intro e0 z;subst e0);exact cQ (cQ z)) (A,E,s,N,Q)
theorem xY:eB (.type "bytes") "__index__"=pure al:=by refine ag (cV ..) (ag (bS ..) ?_);kernel_rfl
theorem lQ:eB (.type "bytes") "__buffer__"=pure (ac (.builtin "bytes.__buffer__")):=by refine ag (cV ..) (ag (bS ..) ?_);kernel_rfl
theorem ud:eB (.type "bytes") "__release_buffer__"=pure al:=by refine ag (cV ..) (ag (bS ..) ?_);kernel_rfl
theorem F6 (v:ak):Builtin.Bytes.bindOptional "bytearray.__init__" "bytearray" ["source", "encoding", "errors"] [v] []=pure [ac v,al,al]:=by kernel_rfl
theorem wf (a v:ak):OD "bytearray.__init__" ⟨[a,v],[]⟩:=by kernel_rfl
theorem wg:builtinKind "bytearray.__init__"=ac .slot:=by decide+kernel
theorem ue:splitId "bytearray.__init__"=ac ("bytearray", "__init__"):=by decide+kernel
theorem Nv:fG (.type "bytes") (.type "bytes")=pure au:=by refine ag (bQ ..) ?_;kernel_rfl
theorem Nw {v:ak} {nm:String} {Q:Bool->aj->Prop} (G:s.TypeIs v "bytes") (hl:eB (.type "bytes") nm=pure al) (h:Q au s):aw (aq prog w) A (Ew v nm) Q E s:=by refine aa (cM G hl ?_);exact af h
theorem C9 {b:Array UInt8} {t:ow} {Q:Option (Array UInt8)->aj->Prop} (h:Q (ac b) s):aw (aq prog w) A (gV "bytearray.__init__" (.bytes b t) au) Q E s:=by
 have G:s.TypeIs (.bytes b t) "bytes":=gb _ _ _;refine aa (cM G lQ ?_);dsimp only;refine aa (aa (cM G lQ ?_));dsimp only;rw [show ("bytes.__buffer__".endsWith ("."++ "__buffer__"))=au by decide+kernel];refine fC rfl ?_;have e:∀(x:String) (Q:Bool->aj->Prop),x= "bytes"->Q au s->aw (aq prog w) A (jo (.bytes b t) (.type x)) Q E s:=λx Q e h=>by rw [e];exact cW G Nv h
 refine e _ _ (by decide+kernel) (fC rfl ?_);refine aa (cM G lQ ?_);refine aa (aa (Nw G ud (af ?_)));refine fC rfl (af h)
theorem xZ {l:ay} {x y:Array UInt8} {Q:Unit->aj->Prop} (V:s.heap.get? l=ac ⟨.type "bytearray",al,.bytearray x 0,#[]⟩) (f:y.size≤1000)
  (h:∀h',eA l s.heap h'->h'.get? l=ac ⟨.type "bytearray",al,.bytearray y 0,#[]⟩->Q () {s with heap:=h'}):aw (aq prog w) A (Builtin.Bytes.write (.ref l) λY=>y) Q E s:=by
 refine aa (gD V ?_);refine aa (Io V (wP (bh (RC λY=>y) V rfl) ?_ (h _ (bN ..) (bh (RC λY=>y) V rfl))));show (if ek <y.size then _ else _)=al;exact ag (if_neg (by have:ek=16777216:=rfl;lia) ..) rfl
end
section
variable {A:bw} {E:ak->aj->Prop} {s:aj} {N:vf->Prop}
def LH {l:ay} {b:Array UInt8} {t:ow} {R:jk->aj->Prop}:Prop:=∀(V:s.heap.get? l=ac ⟨.type "bytearray",al,.bytearray #[] 0,#[]⟩) (I:b.size≤1000) (G:∀h',eA l s.heap h'->h'.get? l=ac ⟨.type "bytearray",al,.bytearray b 0,#[]⟩->R (.ok (.ret .none)) {s with heap:=h'}),fR fq (aq prog w) A (.call (.builtin "bytearray.__init__") ⟨[.ref l,.bytes b t],[]⟩) R s
noncomputable def j4:=rm <| U λA=>U λs=>U λl=>U λb=>U λt=>@LH A s l b t
theorem Jt {l b t R}:@LH A s l b t R:=jX (c:=j4) rfl (by intro V S O;refine jZ fq.clo (Eh F.plain_ba_init _) F.bad_ba_init (Bj (i:= "bytearray.__init__") (owner:= "bytearray") (n:= "__init__") (self:=.ref j4.2.2.1) (rest:=[.bytes j4.2.2.2.1 j4.2.2.2.2.1]) (kw:=[]) wg ue (((KU (part:=none) V).andThen .now).andThen (um.of_pure wc)) (wf (.ref j4.2.2.1) (.bytes j4.2.2.2.1 j4.2.2.2.2.1)) (kX fq.clo F.entry_ba_init ?_));generalize j4.1.under (U0 "bytearray.__init__" ⟨[.ref j4.2.2.1,.bytes j4.2.2.2.1 j4.2.2.2.2.1],[]⟩)=A';refine cF (aa (Ac V rfl nI (by decide+kernel) (by decide+kernel) (af ?_)));refine ag (F6 ..) (bY (cQ ?_));refine cF (cO (a:=()) rfl (cF (cO (a:=()) rfl ?_)));refine bY (bY (xe ?_));refine cF (aa (gD V (af (cQ ?_))));refine ag (if_neg (by decide) ..) (cF (xZ V (kE _) λh1 e1 P=>?_));refine fS (aa (cO (a:=none) rfl ?_));refine fC rfl (aa (cO (a:=()) rfl ?_));have G:Uk {j4.2.1 with heap:=h1} (.bytes j4.2.2.2.1 j4.2.2.2.2.1) "bytes":=gb _ _ _;refine aa (cM G xY ?_);refine fC rfl (aa (C9 ?_));refine aa (cS (aa (xZ (s:={j4.2.1 with heap:=h1}) P S λh2 e2 J=>af (O h2 ⟨e2.1.trans e1.1,λc I=>(e2.2 c I).trans (e1.2 c I)⟩ J))))) (A,s,l,b,t,R)
end
noncomputable def F7 (e:aC):Bool:=b9 e.ctorIdx 16
noncomputable def xE (e:aC):Bool:=b9 e.ctorIdx 25 ||F7 e
noncomputable def xS (s:cg):Bool:=sS am (v:=s) (xAssign:=λt e Y=>lS am (v:=t) (x1:=λY=>F7 e)) (xIf:=λY Y Y Y=>au) (xReturn:=λY Y=>au)
 (xFor:=λY i Y Y Y=>eS am (v:=i) (xCall:=λY a Y Y=>lS am (v:=a) (x1:=λY=>au)))
noncomputable abbrev F8:KX:=λY Y=>False
inductive x9 (F:Lv) (args:List PV) (st:St) (k:KV):PV->Prop
 | ref {a:ay} (h:lh K F args st k F8 (.ref a)):x9 F args st k (.ref a)
 | ba {b:Array UInt8} (ha:args=[.bytes b]) (hb:b.size≤1000) (h:k (.loc st.length) (st++[.barr b])):x9 F args st k (.ty "bytearray")
noncomputable def F9 (P F:Lv):Lv where
 ev:=λe pe st k x=>P.ev e pe st k x∨(xE e=au∧oQ K F pe st k F8 e)
 evT:=P.evT
 exec:=λe pe st k x=>P.exec e pe st k x∨(xS e=au∧i4 K F pe st k F8 e)
 asg:=P.asg
 call:=λf args st k x=>P.call f args st k x∨x9 F args st k f
noncomputable def Ju:Nat->Lv
 | 0=>.bot
 | n+1=>F9 (RL K (n+1)) (Ju n)
section
variable {n:Nat} {F:Lv} {A:bw} {fe env:Env} {ρ:List ay} {st:St} {s:aj} {x:KX}
theorem ya {e:ak} {W:aj} (h:XK s ρ F8 e W) {p:Prop}:p:=by refine cY h λ_ _ _ _ _ _ _ _ f=>?_;clear h;exact f.elim
theorem Nx {e:ak} {W:aj} {L:ay} (h:jL s ρ L F8 e W) {p:Prop}:p:=by refine cY h λ_ _ _ _ _ _ _ _ f=>?_;clear h;exact f.elim
theorem Ga {b:Array UInt8} {k:KV} {vs:List ak} (O:b.size≤1000) (h:k (.loc st.length) (st++[.barr b])) (G:aY ρ st s.heap) (P:eI ρ [.bytes b] vs) {X:ak->aj->Prop}:
  fE fq (aq prog w) A (call (.type "bytearray") vs []) (hV s ρ k) X s:=by
 refine ae (nA P) λv J r=>ag J (VR.ebytes r λt=>?_);refine Js fq.clo _ (Jt (aM _ rfl) O λh' e g=>⟨rfl,?_⟩);have I:=aS (h:=s.heap) (aG s.heap.objs.size);exact vZ (po:=.barr b) G (λc o q=>(e.2 c (λz=>by rw [z,I] at q;exact n1 q)).trans (az _ q)) I g h
theorem yb (I:dO) (S:fK fq n F) {f:PV} {args:List PV} {k:KV} (h:x9 F args st k f) {J:ak} {vs:List ak} (M:eW A ρ s.heap fe (n+1)) (G:aY ρ st s.heap) (O:VR ρ f J) (V:eI ρ args vs):
  fE fq (aq prog w) A (call J vs []) (hV s ρ k) (XK s ρ x) s:=by
 induction h using x9.casesOn with
 | ref h=>
  refine ag (VR.iref O) ?_;cases h with
  | fn l h=>refine li fq.clo (jd (mY fq.clo I S h M.out G V) λr p z=>?_);rcases r with e | (v | _ | _ | _)<;> first | exact z | exact ya z
  | cls hi h=>exact cf (uP fq.clo I S hi h M G V) (λY Y z=>z) λY Y z=>ya z
 | ba P W h=>subst P;refine ag O.inv (Ga W h G V)
theorem Da (J:dO) (S:fK fq n F) {e:aC} {pe:bD} {k:KV} (P:xE e=au) (h:oQ K F pe st k F8 e) (M:eW A ρ s.heap fe (n+1)) (G:aY ρ st s.heap) (Fr:eH ρ s.heap env pe):
  fE fq (aq prog w) A (eM e env) (hV s ρ k) (XK s ρ x) s:=by
 refine cf (E:=XK s ρ F8) ?_ (λY Y z=>z) λY Y z=>ya z;induction h using oQ.casesOn with
 | tuple h=>exact xl S h M.less G Fr
 | mcall h1 h2 I O h=>exact xw J S h1 h2 I O h M.less G Fr
 | call h1 h2 I h=>exact BP J S h1 h2 I h M.less G Fr
 | _=>exact n3 P
theorem yc (V:dO) (S:fK fq n F) {e:cg} {pe:bD} {k:dL->bD->St->Prop} (P:xS e=au) (h:i4 K F pe st k F8 e) (M:eW A ρ s.heap env (n+1)) (G:aY ρ st s.heap) (Fr:eH ρ s.heap env pe) (J:env.frame=ac env.locals):
  fE fq (aq prog w) A (exec e env) (oG s ρ env k) (jL s ρ env.locals x) s:=by
 refine cf (E:=jL s ρ env.locals F8) ?_ (λY Y z=>z) λY Y z=>Nx z;induction h using i4.casesOn with
 | assign O y I h=>exact pn S O y I h M.less G Fr
 | @swap e _ _ names _ _ O I hn h=>
  cases e with
  | Call f a kw p=>have:=I {scope:=pe.sc,locals:=0,globals:=0,cells:=[],code:=.none} rfl;cases this
  | _=>exact n3 P
 | ite h=>exact xJ S h M.less G Fr J
 | ret h=>exact pj S h M.less G Fr
 | loop h1 h=>exact uS fq.clo V S h1 h M.less G Fr J
 | _=>exact n3 P
theorem yd (J:dO) {P:Lv} (I:cL (n+1) P) (S:fK fq n F):fK fq (n+1) (F9 P F) where
 ev:=λe pe st k x h A fe env ρ s M G Fr=>h.elim (λh=>fS (I.ev _ _ _ _ _ h _ _ _ _ _ M G Fr)) λh=>Da J S h.1 h.2 M G Fr
 evT:=I.evT
 exec:=λe pe st k x h A env ρ s M G Fr O=>h.elim (λh=>fS (I.exec _ _ _ _ _ h _ _ _ _ M G Fr O)) λh=>yc J S h.1 h.2 M G Fr O
 asg:=I.asg
 call:=λf args st k x h A fe ρ s p vs M G l V=>h.elim (λh=>fS (I.call _ _ _ _ _ h _ _ _ _ _ _ M G l V)) λh=>yb J S h M G l V
 fn:=λa args st k x W h A fe ρ s vs M G V=>h.elim (λh=>sr (I.fn _ _ _ _ _ W h _ _ _ _ _ M G V)) λh=>by
  cases h with | ref h=>
  cases h with
  | fn O h=>refine jd (mY fq.clo J S h M.out G V) λr y z=>?_;rcases r with e | (v | _ | _ | _)<;> first | exact z | exact ya z
  | cls hi h=>exact (lP W hi).elim
theorem s9 (G:dO):∀n,fK fq n (Ju n)
 | 0=>(show cL 0 .bot from nn G 0).toN
 | n+1=>yd G (nn G (n+1)) (s9 G n)
end
section
inductive gl {α β:Type} (R:α->β->Prop):List α->List β->Prop
 | nil:gl R [] []
 | cons {a b as bs} (h:R a b) (r:gl R as bs):gl R (a::as) (b::bs)
theorem gl.mono {α β:Type} {R S:α->β->Prop} (f:∀{a b},R a b->S a b) {as:List α} {bs:List β} (h:gl R as bs):gl S as bs:=by
 induction h with
 | nil=>exact .nil
 | cons h _ P=>exact .cons (f h) P
theorem gl.length {α β:Type} {R:α->β->Prop} {as:List α} {bs:List β} (h:gl R as bs):as.length=bs.length:=by
 induction h with
 | nil=>rfl
 | cons _ _ P=>exact congrArg (· +1) P
theorem gl.append {α β:Type} {R:α->β->Prop} {as cs:List α} {bs ds:List β} (h:gl R as bs) (g:gl R cs ds):gl R (as++cs) (bs++ds):=by
 induction h with
 | nil=>exact g
 | cons h _ P=>exact .cons h P
theorem gl.get {α β:Type} {R:α->β->Prop} {as:List α} {bs:List β} (h:gl R as bs):∀{i:Nat} {a:α},as[i]? =ac a->∃b,bs[i]? =ac b∧R a b:=by
 induction h with
 | nil=>intro i a e;exact n1 e
 | cons h _ P=>
  intro i a e;induction i using eX with
  | zero=>refine bZ (fm e) ?_;exact ⟨_,rfl,h⟩
  | succ i=>exact P e
theorem gl.map {α β γ δ:Type} {R:α->β->Prop} {S:γ->δ->Prop} {f:α->γ} {g:β->δ} (G:∀{a b},R a b->S (f a) (g b)) {as:List α} {bs:List β} (h:gl R as bs):gl S (as.map f) (bs.map g):=by
 induction h with
 | nil=>exact .nil
 | cons h _ P=>exact .cons (G h) P
theorem gl.lookup {α β G:Type} [BEq G] {R:α->β->Prop} {as:List (G × α)} {bs:List (G × β)} (h:gl (λa b=>a.1=b.1∧R a.2 b.2) as bs) (n:G):
  (∀a,as.lookup n=ac a->∃b,bs.lookup n=ac b∧R a b)∧(as.lookup n=al->bs.lookup n=al):=by
 induction h with
 | nil=>exact ⟨λa e=>(nomatch e),λY=>rfl⟩
 | @cons a b as bs h _ ih=>
  obtain ⟨x,a⟩:=a;obtain ⟨y,b⟩:=b;refine ah h λe h=>?_;subst e;refine ag (List.lookup_cons ..) (ag (List.lookup_cons ..) ?_);induction n==x with
  | true=>exact ⟨λa e=>by refine bZ (fm e) ?_;exact ⟨_,rfl,h⟩,λe=>(nomatch e)⟩
  | false=>exact ih
noncomputable abbrev bO:=List (Nat × Nat)
def Fz (μ:bO) (X:List Nat) (i:Nat):Prop:=(∀p∈μ,p.1≠i∧p.2≠i)∧i∉X
def n8 (μ:bO):List (aU × Nat)->List (aU × Nat)->Prop:=gl λa b=>a.1=b.1∧∃p,μ[a.2]? =ac p∧b.2=p.1
mutual
inductive TR (μ:bO) (X:List Nat) (st:St):TV->PV->Prop
 | none:TR μ X st .none .none
 | bool (b:Bool):TR μ X st (.bool b) (.bool b)
 | int (i:Int):TR μ X st (.int i) (.int i)
 | str (s:aU):TR μ X st (.str s) (.str s)
 | bytes (b:Array UInt8):TR μ X st (.bytes b) (.bytes b)
 | ref (a:ay):TR μ X st (.ref a) (.ref a)
 | bi (id:String):TR μ X st (.bi id) (.bi id)
 | ty (n:String):TR μ X st (.ty n) (.ty n)
 | opq {i}:TR μ X st .opq (.loc i)
 | barr {b i} (f:Fz μ X i) (h:st[i]? =ac (.barr b)):TR μ X st (.barr b) (.loc i)
 | range {n i} (f:Fz μ X i) (h:st[i]? =ac (.range n)):TR μ X st (.range n) (.loc i)
 | vals {j i p} (f:Fz μ X i) (hp:μ[j]? =ac p) (h:st[i]? =ac (.vals p.1)):TR μ X st (.vals j) (.loc i)
 | loc {j p} (hp:μ[j]? =ac p):TR μ X st (.loc j) (.loc p.1)
 | scr {xs ys i o} (f:Fz μ X i) (h:st[i]? =ac (.pin ys o)) (r:eK μ X st xs ys):TR μ X st (.scr xs) (.loc i)
 | lst {xs ys i} (f:Fz μ X i) (h:st[i]? =ac (.list ys)) (r:eK μ X st xs ys):TR μ X st (.lst xs) (.loc i)
 | tup {xs ys i} (f:Fz μ X i) (h:st[i]? =ac (.tup ys)) (r:eK μ X st xs ys):TR μ X st (.tup xs) (.loc i)
 | obj {C ns xs i d gs} (f:Fz μ X i) (fd:Fz μ X d) (h:st[i]? =ac (.inst C d)) (hd:st[d]? =ac (.ns gs)) (hn:gs.map (·.1)=ns) (r:eK μ X st xs (gs.map (·.2))):TR μ X st (.obj C ns xs) (.loc i)
 | dct {ks xs i es ep} (f:Fz μ X i) (h:st[i]? =ac (.dict es ep)) (hk:es.map (·.1)=ks) (r:eK μ X st xs (es.map (·.2.2))):TR μ X st (.dct ks xs) (.loc i)
 | lam {body scope cells i l} (f:Fz μ X i) (h:st[i]? =ac (.lam l)) (hb:l.body=body) (hs:l.scope=scope) (hc:n8 μ cells l.cells):TR μ X st (.lam body scope cells) (.loc i)
inductive eK (μ:bO) (X:List Nat) (st:St):List TV->List PV->Prop
 | nil:eK μ X st [] []
 | cons {v p vs ps} (h:TR μ X st v p) (r:eK μ X st vs ps):eK μ X st (v::vs) (p::ps)
end
def io (μ:bO) (X:List Nat) (st:St):List (aU × TV)->List (aU × PV)->Prop:=gl λa b=>a.1=b.1∧TR μ X st a.2 b.2
def iM (μ:bO) (X:List Nat) (st:St):List (bJ × TV × TV)->List (bJ × PV × PV)->Prop:=gl λa b=>a.1=b.1∧TR μ X st a.2.1 b.2.1∧TR μ X st a.2.2 b.2.2
def MR (μ:bO) (X:List Nat) (st:St) (p:Nat × Nat):MO->Prop
 | .inst C fs=>st[p.1]? =ac (.inst C p.2)∧∃gs,st[p.2]? =ac (.ns gs)∧io μ X st fs gs
 | .dict es _ g=>(g=λk=>cR k es)∧∃gs ep,st[p.1]? =ac (.dict gs ep)∧iM μ X st es gs
 | .list xs=>∃G,st[p.1]? =ac (.list G)∧eK μ X st xs G
 | .cell v=>∃o,st[p.1]? =ac (.cell o)∧match v,o with
  | some a,ac b=>TR μ X st a b
  | none,al=>True
  | _,_=>False
 | .codes P used=>st[p.1]? =ac (.codes P used)
structure eV (μ:bO) (X:List Nat) (T:List MO) (st:St):Prop where
 len:μ.length=T.length
 one:∀{i j:Nat} {p q:Nat × Nat},μ[i]? =ac p->μ[j]? =ac q->(p.1=q.1∨p.1=q.2∨p.2=q.1∨p.2=q.2)->i=j
 notX:∀p∈μ,p.1∉X∧p.2∉X
 lt:∀p∈μ,p.1 <st.length∧p.2 <st.length
 ltX:∀i∈X,i <st.length
 zero:∀{P used},T[0]? =ac (.codes P used)->μ[0]? =ac (0,0)
 objs:∀{j:Nat} {p:Nat × Nat} {o:MO},μ[j]? =ac p->T[j]? =ac o->MR μ X st p o
structure fQ (μ:bO) (T:List MO) (st:St) (μ':bO) (T':List MO) (st':St):Prop where
 ext:∃ν,μ'=μ++ν∧∀p∈ν,st.length≤p.1∧st.length≤p.2
 len:st.length≤st'.length
 keep:∀i,i <st.length->(∀p∈μ,p.1≠i∧p.2≠i)->st'[i]? =st[i]?
 ver:∀{j:Nat} {p:Nat × Nat} {es:List (bJ × TV × TV)} {v:Nat} {g:bJ->Option (TV × TV)},μ[j]? =ac p->T[j]? =ac (.dict es v g)->∃es' v' g',T'[j]? =ac (.dict es' v' g')∧v≤v'∧(v=v'->st'[p.1]? =st[p.1]?)
section
variable {μ μ' μ'':bO} {X X':List Nat} {st st' st'':St} {T T' T'':List MO}
theorem fQ.refl:fQ μ T st μ T st:=⟨⟨[],(bW _).symm,λY h=>(nomatch h)⟩,aG _,λY Y Y=>rfl,λY h=>⟨_,_,_,h,aG _,λY=>rfl⟩⟩
theorem fQ.slot (a:fQ μ T st μ' T' st') {j:Nat} {p:Nat × Nat} (h:μ[j]? =ac p):μ'[j]? =ac p:=by refine ae a.ext λν e _=>?_;refine ag (e ..) (ag (ax (ao.mp h).1) ?_);exact h
theorem fQ.trans (a:fQ μ T st μ' T' st') (b:fQ μ' T' st' μ'' T'' st''):fQ μ T st μ'' T'' st'':=by
 refine ae a.ext λν e1 h1=>ae b.ext λν' e2 h2=>⟨⟨ν++ν',by exact ag (e2 ..) (ag (e1 ..) (ag (bI ..) rfl)),λp G=>?_⟩,df a.len b.len,λi hi J=>?_,λG y=>?_⟩
 ·refine bk (bb.mp G) (λG=>?_) λG=>?_
  ·exact h1 p G
  ·exact ⟨df a.len (h2 p G).1,df a.len (h2 p G).2⟩
 ·refine (b.keep i (dh hi a.len) λp G=>?_).trans (a.keep i hi J);rw [e1] at G;refine bk (bb.mp G) (λG=>?_) λG=>?_
  ·exact J p G
  ·have:=h1 p G;exact ⟨by exact by lia,by exact by lia⟩
 ·refine gz (a.ver G y) λP l f W l1 k1=>gz (b.ver (a.slot G) W) λI V O S l2 k2=>⟨I,V,O,S,df l1 l2,λe=>(k2 (oH l2 (e▸l1))).trans (k1 (oH l1 (e▸l2)))⟩
theorem fQ.obj (a:fQ μ T st μ' T' st') {i:Nat} {o:PO} (f:Fz μ X i) (h:st[i]? =ac o):Fz μ' X i∧st'[i]? =ac o:=by
 refine ae a.ext λν e hν=>?_;have hi:=(ao.mp h).1;refine ⟨⟨λp G=>?_,f.2⟩,(a.keep i hi f.1).trans h⟩;rw [e] at G;refine bk (bb.mp G) (λG=>?_) λG=>?_
 ·exact f.1 p G
 ·have:=hν p G;exact ⟨by exact by lia,by exact by lia⟩
theorem n8.go (a:fQ μ T st μ' T' st') {cs ds:List (aU × Nat)} (h:n8 μ cs ds):n8 μ' cs ds:=h.mono λ⟨e,p,h1,h2⟩=>⟨e,p,a.slot h1,h2⟩
structure Mv (X:List Nat) (μ:bO) (st:St) (X':List Nat) (μ':bO) (st':St):Prop where
 slot:∀{j:Nat} {p:Nat × Nat},μ[j]? =ac p->μ'[j]? =ac p
 obj:∀{i:Nat} {o:PO},Fz μ X i->st[i]? =ac o->Fz μ' X' i∧st'[i]? =ac o
theorem fQ.mv (a:fQ μ T st μ' T' st'):Mv X μ st X μ' st':=⟨a.slot,a.obj⟩
theorem Mv.setX {i:Nat} {po:PO} (h:i∈X):Mv X μ st X μ (st.set i po):=⟨λh=>h,λf e=>⟨f,(bn (λq=>f.2 (by refine bZ (q ..) ?_;exact h))).trans e⟩⟩
theorem TR.mv (a:Mv X μ st X' μ' st') {v:TV} {p:PV} (h:TR μ X st v p):TR μ' X' st' v p:=
 TR.rec (motive_1:=λv p Y=>TR μ' X' st' v p) (motive_2:=λv p Y=>eK μ' X' st' v p) .none .bool .int .str .bytes .ref .bi .ty .opq
  (λf h=>ah (a.obj f h) λf h=>.barr f h) (λf h=>ah (a.obj f h) λf h=>.range f h) (λf G h=>ah (a.obj f h) λf h=>.vals f (a.slot G) h) (λG=>.loc (a.slot G))
  (λf h Y r=>ah (a.obj f h) λf h=>.scr f h r) (λf h Y r=>ah (a.obj f h) λf h=>.lst f h r) (λf h Y r=>ah (a.obj f h) λf h=>.tup f h r)
  (λf fd h hd P Y r=>ah (a.obj f h) λf h=>ah (a.obj fd hd) λfd hd=>.obj f fd h hd P r) (λf h O Y r=>ah (a.obj f h) λf h=>.dct f h O r)
  (λf h I S J=>ah (a.obj f h) λf h=>.lam f h I S (J.mono λq=>q.elim λe q=>q.elim λp q=>⟨e,p,a.slot q.1,q.2⟩)) .nil (λY Y h r=>.cons h r) h
theorem eK.inv {vs:List TV} {ps:List PV} (h:eK μ X st vs ps):match (generalizing:=false) vs with
 | []=>ps=[]
 | v::vs=>∃p G,ps=p::G∧TR μ X st v p∧eK μ X st vs G:=by
 induction h using eK.casesOn with
 | nil=>exact rfl
 | cons h r=>exact ⟨_,_,rfl,h,r⟩
theorem eK.mv (a:Mv X μ st X' μ' st') {v:List TV} {p:List PV} (h:eK μ X st v p):eK μ' X' st' v p:=by
 induction v generalizing p with
 | nil=>refine ag (h.inv ..) ?_;exact .nil
 | cons v vs P=>refine bz h.inv λq G e h r=>?_;refine ag e (.cons (h.mv a) (P r))
def UG (μ:bO) (X:List Nat) (st:St) (p:PV):TV->Prop
 | .none=>p=.none
 | .bool b=>p=.bool b
 | .int b=>p=.int b
 | .str b=>p=.str b
 | .bytes b=>p=.bytes b
 | .ref b=>p=.ref b
 | .bi b=>p=.bi b
 | .ty b=>p=.ty b
 | .opq=>True
 | .barr b=>∃i,p=.loc i∧Fz μ X i∧st[i]? =ac (.barr b)
 | .range n=>∃i,p=.loc i∧Fz μ X i∧st[i]? =ac (.range n)
 | .vals j=>∃i q,p=.loc i∧Fz μ X i∧μ[j]? =ac q∧st[i]? =ac (.vals q.1)
 | .loc j=>∃q,p=.loc q.1∧μ[j]? =ac q
 | .scr xs=>∃i G o,p=.loc i∧Fz μ X i∧st[i]? =ac (.pin G o)∧eK μ X st xs G
 | .lst xs=>∃i G,p=.loc i∧Fz μ X i∧st[i]? =ac (.list G)∧eK μ X st xs G
 | .tup xs=>∃i G,p=.loc i∧Fz μ X i∧st[i]? =ac (.tup G)∧eK μ X st xs G
 | .obj C ns xs=>∃i d gs,p=.loc i∧Fz μ X i∧Fz μ X d∧st[i]? =ac (.inst C d)∧st[d]? =ac (.ns gs)∧gs.map (·.1)=ns∧eK μ X st xs (gs.map (·.2))
 | .dct ks xs=>∃i es ep,p=.loc i∧Fz μ X i∧st[i]? =ac (.dict es ep)∧es.map (·.1)=ks∧eK μ X st xs (es.map (·.2.2))
 | .lam body scope cells=>∃i l,p=.loc i∧Fz μ X i∧st[i]? =ac (.lam l)∧l.body=body∧l.scope=scope∧n8 μ cells l.cells
theorem TR.inv {v:TV} {p:PV} (h:TR μ X st v p):UG μ X st p v:=by
 induction h using TR.casesOn with
 | opq=>exact trivial
 | barr f h=>exact ⟨_,rfl,f,h⟩
 | range f h=>exact ⟨_,rfl,f,h⟩
 | vals f G h=>exact ⟨_,_,rfl,f,G,h⟩
 | loc G=>exact ⟨_,rfl,G⟩
 | scr f h r=>exact ⟨_,_,_,rfl,f,h,r⟩
 | lst f h r=>exact ⟨_,_,rfl,f,h,r⟩
 | tup f h r=>exact ⟨_,_,rfl,f,h,r⟩
 | obj f fd h hd P r=>exact ⟨_,_,_,rfl,f,fd,h,hd,P,r⟩
 | dct f h O r=>exact ⟨_,_,_,rfl,f,h,O,r⟩
 | lam f h I S J=>exact ⟨_,_,rfl,f,h,I,S,J⟩
 | _=>exact rfl
theorem TR.iN {f:Prop} {v:TV} {p:PV} (r:TR μ X st v p) (h:tS False (v:=v) (xnone:=f)):p=.none∧f:=by
 cases v with
 | none=>exact ⟨r.inv,h⟩
 | _=>exact h.elim
theorem TR.iB {f:Bool->Prop} {v:TV} {p:PV} (r:TR μ X st v p) (h:lF v f):∃b,p=.bool b∧f b:=by
 cases v with
 | bool b=>exact ⟨b,r.inv,h⟩
 | _=>exact h.elim
theorem TR.iI {f:Int->Prop} {v:TV} {p:PV} (r:TR μ X st v p) (h:gT v f):∃b,p=.int b∧f b:=by
 cases v with
 | int b=>exact ⟨b,r.inv,h⟩
 | _=>exact h.elim
theorem TR.iS {f:aU->Prop} {v:TV} {p:PV} (r:TR μ X st v p) (h:vC v f):∃b,p=.str b∧f b:=by
 cases v with
 | str b=>exact ⟨b,r.inv,h⟩
 | _=>exact h.elim
theorem TR.iY {f:Array UInt8->Prop} {v:TV} {p:PV} (r:TR μ X st v p) (h:sx v f):∃b,p=.bytes b∧f b:=by
 cases v with
 | bytes b=>exact ⟨b,r.inv,h⟩
 | _=>exact h.elim
theorem TR.iT {f:List TV->Prop} {v:TV} {p:PV} (r:TR μ X st v p) (h:vD v f):∃xs i G,p=.loc i∧st[i]? =ac (.tup G)∧eK μ X st xs G∧f xs:=by
 cases v with
 | tup xs=>refine d6 r.inv λi G e _ h1 h2=>?_;exact ⟨xs,i,G,e,h1,h2,h⟩
 | _=>exact h.elim
theorem TR.iL {f:List TV->Prop} {v:TV} {p:PV} (r:TR μ X st v p) (h:pT v f):∃xs i G,p=.loc i∧Fz μ X i∧st[i]? =ac (.list G)∧eK μ X st xs G∧f xs:=by
 cases v with
 | lst xs=>refine d6 r.inv λi G e h0 h1 h2=>?_;exact ⟨xs,i,G,e,h0,h1,h2,h⟩
 | _=>exact h.elim
theorem TR.iO {f:Nat->Prop} {v:TV} {p:PV} (r:TR μ X st v p) (h:kY v f):∃j q,v=.loc j∧p=.loc q.1∧μ[j]? =ac q∧f j:=by
 cases v with
 | loc j=>refine ae r.inv λq e h1=>?_;exact ⟨j,q,rfl,e,h1,h⟩
 | _=>exact h.elim
theorem TR.iD {f:List bJ->List TV->Prop} {v:TV} {p:PV} (r:TR μ X st v p) (h:tS False (v:=v) (xdct:=f)):∃xs i es ep,p=.loc i∧st[i]? =ac (.dict es ep)∧eK μ X st xs (es.map (·.2.2))∧f (es.map (·.1)) xs:=by
 cases v with
 | dct ks xs=>refine jW r.inv λi es ep e _ h1 h2 G=>?_;exact ⟨xs,i,es,ep,e,h1,G,h2▸h⟩
 | _=>exact h.elim
theorem m7 {b:Bool} {p q:Prop} (h:br b p q):(b=au∧p)∨(b=am∧q):=by
 induction b with
 | true=>exact .inl ⟨rfl,h⟩
 | false=>exact .inr ⟨rfl,h⟩
theorem qT {α:Type} {l:List α} {f:α->Prop} (h:Ej l f):∃a,l=[a]∧f a:=by rcases l with _ | ⟨a,_ | ⟨b,_ | ⟨c,_ | _⟩⟩⟩<;> first | exact h.elim | exact ⟨a,rfl,h⟩
theorem LI {α:Type} {l:List α} {f:α->α->Prop} (h:II l f):∃a b,l=[a,b]∧f a b:=by rcases l with _ | ⟨a,_ | ⟨b,_ | ⟨c,_ | _⟩⟩⟩<;> first | exact h.elim | exact ⟨a,b,rfl,h⟩
theorem BQ {α:Type} {l:List α} {f:Prop} (h:Pz l f):l=[]∧f:=by rcases l with _ | ⟨a,_ | ⟨b,_ | ⟨c,_ | _⟩⟩⟩<;> first | exact h.elim | exact ⟨rfl,h⟩
theorem TR.go (a:fQ μ T st μ' T' st') {v:TV} {p:PV} (h:TR μ X st v p):TR μ' X st' v p:=h.mv a.mv
theorem eK.go (a:fQ μ T st μ' T' st') {v:List TV} {p:List PV} (h:eK μ X st v p):eK μ' X st' v p:=h.mv a.mv
end
end
section
variable {μ μ' μ'':bO} {X:List Nat} {st st' st'':St} {T T' T'':List MO}
theorem io.go (a:fQ μ T st μ' T' st') {fs gs} (h:io μ X st fs gs):io μ' X st' fs gs:=h.mono λ⟨e,r⟩=>⟨e,r.go a⟩
theorem iM.go (a:fQ μ T st μ' T' st') {fs gs} (h:iM μ X st fs gs):iM μ' X st' fs gs:=h.mono λ⟨e,r,q⟩=>⟨e,r.go a,q.go a⟩
theorem MR.go (a:fQ μ T st μ' T' st') {p:Nat × Nat} {o:MO} (h:MR μ X st p o) (h1:st'[p.1]? =st[p.1]?) (h2:st'[p.2]? =st[p.2]?):MR μ' X st' p o:=by
 induction o with
 | inst C fs=>obtain ⟨e1,gs,e2,r⟩:=h;exact ⟨h1.trans e1,gs,h2.trans e2,r.go a⟩
 | dict es _ _=>obtain ⟨q,gs,ep,e,r⟩:=h;exact ⟨q,gs,ep,h1.trans e,r.go a⟩
 | list xs=>refine ae h λG e r=>?_;clear h;exact ⟨G,h1.trans e,r.go a⟩
 | cell v=>refine ae h λo e r=>?_;clear h;refine ⟨o,h1.trans e,?_⟩;rcases v with _ | _ <;> rcases o with _ | _ <;> first | exact r.go a | exact r
 | codes P used=>exact h1.trans h
theorem eV.mem (R:eV μ X T st) {j:Nat} {p:Nat × Nat} (h:μ[j]? =ac p):∃o,T[j]? =ac o∧MR μ X st p o:=by have S:j <T.length:=R.len▸(ao.mp h).1;exact ⟨T[j],cB S,R.objs h (cB S)⟩
theorem eV.slot (R:eV μ X T st) {j:Nat} {o:MO} (h:T[j]? =ac o):∃p,μ[j]? =ac p∧MR μ X st p o:=by have S:j <μ.length:=R.len.symm▸(ao.mp h).1;exact ⟨μ[j],cB S,R.objs (cB S) h⟩
theorem fQ.app (R:eV μ X T st) (r:List PO):fQ μ T st μ T (st++r):=
 ⟨⟨[],(bW _).symm,λY h=>(nomatch h)⟩,by refine ag (aJ ..) ?_;exact dD _ _,λi hi Y=>ax hi,λG y=>⟨_,_,_,y,aG _,λY=>ax (R.lt _ (aN G)).1⟩⟩
theorem eV.app (R:eV μ X T st) (r:List PO):eV μ X T (st++r) where
 len:=R.len
 one:=R.one
 notX:=R.notX
 lt:=λp G=>by refine ag (aJ ..) ?_;exact ⟨dh (R.lt p G).1 (dD _ _),dh (R.lt p G).2 (dD _ _)⟩
 ltX:=λi hi=>by refine ag (aJ ..) ?_;exact dh (R.ltX i hi) (dD _ _)
 zero:=R.zero
 objs:=λG V=>(R.objs G V).go (fQ.app R r) (ax (R.lt _ (aN G)).1) (ax (R.lt _ (aN G)).2)
theorem eV.fz (R:eV μ X T st) {i:Nat} (hi:st.length≤i):Fz μ X i:=
 ⟨λp G=>⟨oD (dh (R.lt p G).1 hi),oD (dh (R.lt p G).2 hi)⟩,λh=>gO _ (dh (R.ltX i h) hi)⟩
def Gb {r:List PO} {p:Nat × Nat}:Prop:=∀(R:eV μ X T st) {o:MO} (h1:st.length≤p.1) (h2:st.length≤p.2) (G:p.1 <(st++r).length) (I:p.2 <(st++r).length) (J:∀P used,o≠.codes P used) (O:MR (μ++[p]) X (st++r) p o),eV (μ++[p]) X (T++[o]) (st++r)∧fQ μ T st (μ++[p]) (T++[o]) (st++r)
noncomputable def fh:=rm <| U λμ=>U λX=>U λst=>U λT=>U λr=>@Gb μ X st T r
theorem eV.new {r p}:@Gb μ X st T r p:=jX (c:=fh) rfl (by
 intro R o h1 h2 h3 h4 hc hm;have f:fQ fh.1 fh.2.2.2.1 fh.2.2.1 (fh.1++[fh.2.2.2.2.2]) (fh.2.2.2.1++[o]) (fh.2.2.1++fh.2.2.2.2.1):=⟨⟨[fh.2.2.2.2.2],rfl,λq V=>by refine ag (aV.mp V ..) ?_;exact ⟨h1,h2⟩⟩,(fQ.app R fh.2.2.2.2.1).len,λi hi Y=>ax hi,λhp z=>⟨_,_,_,by refine ag (ax (ao.mp z).1) ?_;exact z,aG _,λY=>ax (R.lt _ (aN hp)).1⟩⟩;have G:∀{j:Nat} {q:Nat × Nat},(fh.1++[fh.2.2.2.2.2])[j]? =ac q->(fh.1[j]? =ac q)∨(j=fh.1.length∧q=fh.2.2.2.2.2):=λ{j q} h=>by
  refine bk (lz j fh.1.length) (λS=>?_) λS=>?_
  ·rw [ax S] at h;exact .inl h
  ·rw [bA S] at h;refine aI (ao.mp h) λhl e=>?_;have l:j - fh.1.length=0:=by simpa using hl
   refine .inr ⟨by exact by lia,?_⟩;refine bZ (e ..) ?_;simp [l]
 refine ⟨⟨by refine ag (aJ ..) (ag (aJ ..) (ag (R.len ..) ?_));rfl,?_,?_,?_,?_,?_,?_⟩,f⟩
 ·intro i j q q' V y e;rcases G V with a | ⟨rfl,rfl⟩<;> rcases G y with b | ⟨rfl,rfl⟩
  ·exact R.one a b e
  ·have:=R.lt _ (aN a);exact by lia
  ·have:=R.lt _ (aN b);exact by lia
  ·rfl
 ·intro q V;rcases bb.mp V with V | V
  ·exact R.notX q V
  ·refine ag (aV.mp V ..) ⟨(R.fz h1).2,(R.fz h2).2⟩
 ·intro q V;rcases bb.mp V with V | V
  ·exact (R.app fh.2.2.2.2.1).lt q V
  ·refine ag (aV.mp V ..) ⟨h3,h4⟩
 ·exact (R.app fh.2.2.2.2.1).ltX
 ·intro P used e;refine bk (lz 0 fh.2.2.2.1.length) (λh0=>?_) λh0=>?_
  ·rw [ax h0] at e;exact f.slot (R.zero e)
  ·have:fh.2.2.2.1=[]:=w4 (VB.mp h0);rw [this] at e;obtain rfl:=fm e;exact absurd rfl (hc P used)
 ·intro j q o' V W;refine bk (G V) (λa=>?_) λJ=>?_
  ·have S:j <fh.2.2.2.1.length:=R.len▸(ao.mp a).1;rw [ax S] at W;have:=R.lt _ (aN a);exact (R.objs a W).go f (ax this.1) (ax this.2)
  ·refine ah J λI O=>?_;clear J;subst I;subst O;rw [R.len,bA (aG _),fx] at W;refine bZ (fm W) ?_;exact hm) (μ,X,st,T,r,p)
theorem eV.set (R:eV μ X T st) {j i:Nat} {p:Nat × Nat} {o o':MO} {po:PO} (I:μ[j]? =ac p) (V:T[j]? =ac o) (hi:i=p.1∨i=p.2) (hc:∀P used,o'=.codes P used->∃y G,o=.codes y G)
  (hv:∀es v g,o=.dict es v g->∃l W,o'=.dict l (v+1) W) (hm:∀f:fQ μ T st μ (T.set j o') (st.set i po),MR μ X (st.set i po) p o'):eV μ X (T.set j o') (st.set i po)∧fQ μ T st μ (T.set j o') (st.set i po):=by
 have f:fQ μ T st μ (T.set j o') (st.set i po):=⟨⟨[],(bW _).symm,λY h=>(nomatch h)⟩,by refine ag (fW ..) ?_;exact aG _,λk Y r=>by
  rw [bn];rcases hi with rfl | rfl
  ·exact (r p (aN I)).1
  ·exact (r p (aN I)).2,λ{k q es v g} J ht=>by
  by_cases e:j=k
  ·subst e;obtain rfl:=fm (V.symm.trans ht);refine cN (hv es v g rfl) λl W z=>⟨l,v+1,W,by exact ag (bL (ao.mp V).1) (ag (z ..) rfl),dZ _,λe=>absurd e (oD (eQ v))⟩
  ·refine ⟨es,v,g,by refine ag (bn e) ?_;exact ht,aG _,λY=>bn λe2=>e (R.one I J ?_)⟩;rcases hi with h | h
   ·exact .inl (h.symm.trans e2)
   ·exact .inr (.inr (.inl (h.symm.trans e2)))⟩
 refine ⟨⟨by refine ag (fW ..) ?_;exact R.len,R.one,R.notX,by refine ag (fW ..) ?_;exact R.lt,by refine ag (fW ..) ?_;exact R.ltX,?_,?_⟩,f⟩
 ·intro P used e;by_cases h0:j=0
  ·subst h0;rw [bL (ao.mp V).1] at e;refine cN (hc P used (i8 e)) λy G S=>?_;subst S;exact R.zero V
  ·rw [bn h0] at e;exact R.zero e
 ·intro k q o'' J O;by_cases e:j=k
  ·subst e;rw [bL (ao.mp V).1] at O;refine bZ (fm O) ?_;obtain rfl:=fm (I.symm.trans J);exact hm f
  ·rw [bn e] at O;have ne:∀x,(x=q.1∨x=q.2)->i≠x:=by
    rintro x hx rfl;refine e (R.one I J ?_);rcases hi with h | h <;> rcases hx with g | g
    ·exact .inl (h.symm.trans g)
    ·exact .inr (.inl (h.symm.trans g))
    ·exact .inr (.inr (.inl (h.symm.trans g)))
    ·exact .inr (.inr (.inr (h.symm.trans g)))
   exact (R.objs J O).go f (bn (ne _ (.inl rfl))) (bn (ne _ (.inr rfl)))
def ip {α β:Type} (X:List Nat) (R:bO->St->α->β->Prop) (μ:bO) (T:List MO) (st:St) (k:α->List MO->Prop) (y:β->St->Prop):Prop:=
 ∀⦃μ' st' T' a b⦄,fQ μ T st μ' T' st'->eV μ' X T' st'->R μ' st' a b->k a T'->y b st'
theorem ip.go {α β:Type} {R:bO->St->α->β->Prop} {k:α->List MO->Prop} {y:β->St->Prop} (h:ip X R μ T st k y) (f:fQ μ T st μ' T' st'):ip X R μ' T' st' k y:=λY Y Y Y Y g=>h (f.trans g)
abbrev RV (X:List Nat) (μ:bO) (st:St) (v:TV) (p:PV):Prop:=TR μ X st v p
abbrev UH (X:List Nat) (μ:bO) (st:St) (v:List TV) (p:List PV):Prop:=eK μ X st v p
abbrev RB (_:bO) (_:St) (a b:Bool):Prop:=a=b
def eG (X:List Nat) (μ:bO) (T:List MO) (st:St) (x:VX) (x':KX):Prop:=
 ∀⦃μ' st' T' C an v i d p⦄,fQ μ T st μ' T' st'->eV μ' X T' st'->st'[i]? =ac (.exc C d)->st'[d]? =ac (.ns [(an,p)])->TR μ' X st' v p->x C an v T'->x' i st'
theorem eG.go {x:VX} {x':KX} (h:eG X μ T st x x') (f:fQ μ T st μ' T' st'):eG X μ' T' st' x x':=λY Y Y Y Y Y Y Y Y g=>h (f.trans g)
theorem eG.no {x':KX}:eG X μ T st (λY Y Y Y=>False) x':=λY Y Y Y Y Y Y Y Y Y Y Y Y Y h=>h.elim
def uU (X:List Nat) (μ:bO) (st:St) (a:Nat ⊕ TV) (b:Nat):Prop:=match a with
 | .inl c=>∃p,μ[c]? =ac p∧b=p.1
 | .inr v=>∃p,Fz μ X b∧st[b]? =ac (.cell (ac p))∧TR μ X st v p
theorem uU.mv {μ μ':bO} {X X':List Nat} {st st':St} (m:Mv X μ st X' μ' st') {a:Nat ⊕ TV} {b:Nat} (h:uU X μ st a b):uU X' μ' st' a b:=by
 induction a with
 | inl c=>exact let ⟨p,h1,h2⟩:=h;⟨p,m.slot h1,h2⟩
 | inr v=>refine bP h λp f e r=>?_;clear h;refine ah (m.obj f e) λf e=>⟨p,f,e,r.mv m⟩
def jh (X:List Nat) (μ:bO) (st:St):List (aU × (Nat ⊕ TV))->List (aU × Nat)->Prop:=gl λa b=>a.1=b.1∧uU X μ st a.2 b.2
theorem jh.mv {μ μ':bO} {X X':List Nat} {st st':St} (m:Mv X μ st X' μ' st') {a b} (h:jh X μ st a b):jh X' μ' st' a b:=h.mono λ⟨e,h⟩=>⟨e,h.mv m⟩
structure fL (X:List Nat) (μ:bO) (st:St) (ve:aB) (pe:bD):Prop where
 sc:pe.sc=ve.sc
 loc:io μ X st ve.loc pe.loc
 cells:jh X μ st ve.cells pe.cells
 tab:∀i,ve.tab=ac i->∃p,μ[i]? =ac p∧pe.tab=ac p.1
theorem fL.go {ve:aB} {pe:bD} (h:fL X μ st ve pe) (f:fQ μ T st μ' T' st'):fL X μ' st' ve pe:=
 ⟨h.sc,h.loc.go f,h.cells.mv f.mv,λi e=>let ⟨p,a,b⟩:=h.tab i e;⟨p,f.slot a,b⟩⟩
inductive OM (X:List Nat) (μ:bO) (st:St):aO->dL->Prop
 | next:OM X μ st .next .next
 | ret {v p} (h:TR μ X st v p):OM X μ st (.ret v) (.ret p)
def ta (X:List Nat) (μ:bO) (T:List MO) (st:St) (k:aO->aB->List MO->Prop) (y:dL->bD->St->Prop):Prop:=
 ∀⦃μ' st' T' f g ve pe⦄,fQ μ T st μ' T' st'->eV μ' X T' st'->OM X μ' st' f g->fL X μ' st' ve pe->k f ve T'->y g pe st'
def tc (X:List Nat) (μ:bO) (T:List MO) (st:St) (k:aB->List MO->Prop) (y:bD->St->Prop):Prop:=
 ∀⦃μ' st' T' ve pe⦄,fQ μ T st μ' T' st'->eV μ' X T' st'->fL X μ' st' ve pe->k ve T'->y pe st'
theorem ta.go {k:aO->aB->List MO->Prop} {y:dL->bD->St->Prop} (h:ta X μ T st k y) (f:fQ μ T st μ' T' st'):ta X μ' T' st' k y:=λY Y Y Y Y Y Y g=>h (f.trans g)
theorem tc.go {k:aB->List MO->Prop} {y:bD->St->Prop} (h:tc X μ T st k y) (f:fQ μ T st μ' T' st'):tc X μ' T' st' k y:=λY Y Y Y Y g=>h (f.trans g)
theorem aQ {b:Bool} {p:Prop} (h:aW b p):b=au∧p:=by
 induction b with
 | true=>exact ⟨rfl,h⟩
 | false=>exact h.elim
theorem lT {α:Type} {o:Option α} {n:Prop} {s:α->Prop} (h:bV o n s):(o=al∧n)∨∃a,o=ac a∧s a:=by
 induction o with
 | none=>exact .inl ⟨rfl,h⟩
 | some a=>exact .inr ⟨a,rfl,h⟩
theorem lm {α:Type} {o:Option α} {n:Prop} (h:bV o n λY=>False):o=al∧n:=by
 induction o with
 | none=>exact ⟨rfl,h⟩
 | some a=>exact h.elim
theorem aR {α:Type} {o:Option α} {s:α->Prop} (h:bV o False s):∃a,o=ac a∧s a:=by
 induction o with
 | none=>exact h.elim
 | some a=>exact ⟨a,rfl,h⟩
end
structure qg (X:List Nat) (C d i:Nat) (μ0:bO) (T0:List MO) (st0:St) (μ:bO) (T:List MO) (st:St) (fs:List (aU × TV)):Prop where
 r0:eV μ0 X T0 st0
 hl:st0.length≤d
 f:fQ μ0 T0 st0 μ T st
 R:eV μ (d::i::X) T st
 ne:i≠d
 hi:st[i]? =ac (.inst C d)
 hd:∃gs,st[d]? =ac (.ns gs)∧io μ (d::i::X) st fs gs
structure pt (E:fX) (F:Lv):Prop where
 nm:1≤E.lev->∀{id pos pe st k' x' v},pe.sc.names.lookup id=ac .local->pe.loc.lookup id=ac v->(id==("__debug__":aU))=am->k' v st->F.ev (.Name id pos) pe st k' x'
 sa:2≤E.lev->∀{self q name qa pe st k' x' v w},pe.sc.names.lookup self=ac .local->pe.loc.lookup self=ac v->(self==("__debug__":aU))=am->rL K v name w st (k' pe)->F.asg (.Attribute (.Name self q) name qa) w pe st k' x'
 ev:∀{e ve T k x μ X st pe k' x'},E.ev e ve T k x->eV μ X T st->fL X μ st ve pe->ip X (RV X) μ T st k k'->eG X μ T st x x'->F.ev e pe st k' x'
 evT:∀{e ve T k x μ X st pe k' x'},E.evT e ve T k x->eV μ X T st->fL X μ st ve pe->ip X RB μ T st k k'->eG X μ T st x x'->F.evT e pe st k' x'
 exec:∀{e ve T k x μ X st pe k' x'},E.exec e ve T k x->eV μ X T st->fL X μ st ve pe->ta X μ T st k k'->eG X μ T st x x'->F.exec e pe st k' x'
 asg:∀{t v p ve T k x μ X st pe k' x'},E.asg t v ve T k x->eV μ X T st->fL X μ st ve pe->TR μ X st v p->tc X μ T st k k'->eG X μ T st x x'->F.asg t p pe st k' x'
 call:∀{f p vs ps T k x μ X st k' x'},E.call f vs T k x->eV μ X T st->TR μ X st f p->eK μ X st vs ps->ip X (RV X) μ T st k k'->eG X μ T st x x'->F.call p ps st k' x'
 ini:∀{C a vs ps T k μ X st d i μ0 T0 st0 k'},E.ini C a vs T k->qg X C d i μ0 T0 st0 μ T st []->eK μ (d::i::X) st vs ps->(∀{μ' st' T' fs},qg X C d i μ0 T0 st0 μ' T' st' fs->k fs T'->k' .none st')->F.call (.ref a) (.loc i::ps) st k' (λY Y=>False)
 fill:∀{C self s ve fs T k μ X st pe d i μ0 T0 st0 k'},E.fill C self s ve fs T k->qg X C d i μ0 T0 st0 μ T st fs->fL (d::i::X) μ st ve pe->pe.sc.names.lookup self=ac .local->pe.loc.lookup self=ac (.loc i)->(self==("__debug__":aU))=am->
  (∀{μ' st' T' fs'},qg X C d i μ0 T0 st0 μ' T' st' fs'->fL (d::i::X) μ' st' ve pe->k fs' T'->k' .next pe st')->F.exec s pe st k' (λY Y=>False)
section
variable {D:lB} {E:fX} {F:Lv} {μ μ':bO} {X:List Nat} {st st':St} {T T':List MO} {ve:aB} {pe:bD} {x:VX} {x':KX}
theorem TR.atom {v:TV} {p:PV} {a:AK} (h:TR μ X st v p) (e:eY v=ac a):kN p=ac a:=by cases h <;> first | exact e | cases e
theorem eK.atoms {vs:List TV} {ps:List PV}:∀{as:List AK},eK μ X st vs ps->dn (vs.map eY)=ac as->du ps=ac as:=by
 induction vs generalizing ps with
 | nil=>intro as h e;refine ag h.inv e
 | cons v vs P=>
  intro as h e;cases h with | @cons _ p _ ps h r=>
  rw [aT] at e;cases q:eY v with
  | none=>rw [q] at e;exact n1 e
  | some a=>rw [q] at e;refine ae (aF.mp e) λbs e1 G=>bZ G ?_;unfold du;refine ag (aT ..) (ag (h.atom q ..) ?_);exact congrArg (tJ (a::·)) (P r e1)
theorem eK.length {vs:List TV} {ps:List PV} (h:eK μ X st vs ps):vs.length=ps.length:=by
 induction vs generalizing ps with
 | nil=>refine ag h.inv ?_;rfl
 | cons v vs P=>refine bz h.inv ?_;intro _ _ G h r;refine ag G (congrArg (· +1) (P r))
theorem TR.key {v:TV} {p:PV} {k:bJ} (h:TR μ X st v p) (e:rp v=ac k):kC st p=ac k:=by
 induction h using TR.casesOn with
 | @tup xs ys i f h r=>refine ae (aF.mp e) λas e1 G=>?_;refine bZ G ?_;show (st[i]?.bind w6).bind _=_;refine ag (h ..) (congrArg (tJ bJ.tup) (r.atoms e1))
 | int _=>exact e
 | str _=>exact e
 | bytes _=>exact e
 | _=>exact n1 e
theorem td {xs G:List TV} (h:mf xs G=au):xs.length≤1000∧G.length≤1000:=by refine ah (aD.mp h) λa b=>?_;exact ⟨cI a,cI b⟩
theorem Gc {xs J:List TV} {ps I:List PV} (O:eK μ X st xs ps) (P:eK μ X st J I) {k:Bool->Prop} (h:bV (lH xs J) False k):∃as bs,du ps=ac as∧du I=ac bs∧k (decide (as=bs)):=by refine ae (aR h) λt e h=>?_;refine ae (ai.mp e) λas e1 e=>ae (aF.mp e) λbs e2 G=>?_;subst G;exact ⟨as,bs,O.atoms e1,P.atoms e2,h⟩
theorem BR {xs P:List TV} {ps O:List PV} {i j:Nat} {k y:Bool->Prop} (h1:st[i]? =ac (.list ps)) (h2:st[j]? =ac (.list O)) (G:eK μ X st xs ps) (I:eK μ X st P O) (h:IL xs P k) (J:∀t,k t->y t):zo st y (.loc i) (.loc j):=by
 refine ah (aQ h) λS h=>ah (td S) λl1 l2=>?_;rcases m7 h with ⟨_,h⟩ | ⟨e,h⟩
 rotate_left
 ·exact .len h1 h2 (by refine bZ (G.length ..) (bZ (I.length ..) ?_);exact Nat.ne_of_beq_eq_false e) (G.length▸l1) (I.length▸l2) (J _ h)
 ·refine bz (Gc G I h) λas bs e1 e2 h=>.list h1 h2 e1 e2 (G.length▸l1) (I.length▸l2) (J _ h)
theorem Gd (R:eV μ X T st) {a b:TV} {p q:PV} {k k':Bool->Prop} (V:TR μ X st a p) (S:TR μ X st b q) (h:Sp T a b k) (P:∀t,k t->k' t):zo st k' p q:=by
 cases a with
 | none=>refine ag V.inv ?_;refine ah (S.iN h) λeq0 h=>ag eq0 (.none (P _ h))
 | bool _=>refine ag V.inv ?_;refine ae (S.iB h) λ_ J h=>ag J (.bool (P _ h))
 | int _=>refine ag V.inv ?_;refine ae (S.iI h) λ_ J h=>ag J (.int (P _ h))
 | str _=>refine ag V.inv ?_;refine ae (S.iS h) λ_ J h=>ag J (.str (P _ h))
 | bytes _=>refine ag V.inv ?_;refine ae (S.iY h) λ_ J h=>ag J (.bytes (P _ h))
 | lst xs=>refine d6 V.inv λ_ _ f f1 h1 I=>?_;subst f;refine jW (S.iL h) λ_ _ _ G f2 h2 O h=>ag G (BR h1 h2 I O h P)
 | loc j=>
  refine ae V.inv λq J hp=>ag J (jW (S.iL h) λ_ _ _ G f2 h2 O h=>?_);refine ag G (ae (aR h) λo ho h=>?_);induction o with
  | list xs=>refine ae (R.objs hp ho) λps h1 I=>?_;exact BR h1 h2 I O h P
  | _=>exact h.elim
 | tup xs=>refine d6 V.inv λ_ _ f f1 h1 I=>?_;subst f;refine gR (S.iT h) λ_ _ _ G h2 O h=>ag G (ah (aQ h) λl h=>?_);refine ah (td l) λl1 l2=>bz (Gc I O h) λas bs e1 e2 h=>.tup h1 h2 e1 e2 (I.length▸l1) (O.length▸l2) (P _ h)
 | dct ks xs=>
  refine jW V.inv λi es ep G f1 h1 k1 I=>ag G ?_;subst k1;refine fI (S.iD h) λys j gs ep' eq4 h2 O h=>ag eq4 (ah (aQ h) λl h=>?_);simp only [bq,bd] at l;obtain ⟨⟨⟨⟨l,-⟩,-⟩,as,e1⟩,bs,e2⟩:=l;refine ah (td l) λl1 l2=>?_;have y:=I.length;have Y:=O.length;rw [ar] at y Y;refine .dict h1 h2 (I.atoms e1) (O.atoms e2) (y▸l1) (Y▸l2) (P _ ?_);rw [ar,ar] at h;have e3:∀(es:List (bJ × PV × PV)) (xs:List TV) (bs:List AK),eK μ X st xs (es.map (·.2.2))->dn (xs.map eY)=ac bs->∀key,(((es.map (·.1)).zip xs).lookup key).map eY=(dget key es).map λp=>kN p.2:=by
   intro es;induction es with
   | nil=>intro xs bs r e key;cases r;rfl
   | cons g es ih=>
    intro xs bs r e key;cases r with | @cons v _ vs _ h r=>
    rw [aT] at e;cases q:eY v with
    | none=>rw [q] at e;exact n1 e
    | some a=>
     rw [q] at e;refine ae (aF.mp e) λW e1 _=>?_;have:=ih vs W r e1 key;unfold dget at this ⊢;refine ag (aT ..) (ag (dz ..) (ag (List.lookup_cons ..) (ag (List.lookup_cons ..) ?_)));induction key==g.1 with
     | true=>exact congrArg ac (q.trans (h.atom q).symm)
     | false=>exact this
  have e4:∀(es:List (bJ × PV × PV)) (xs:List TV) (as:List AK),eK μ X st xs (es.map (·.2.2))->dn (xs.map eY)=ac as->
    (((es.map (·.1)).zip xs).all λe=>match ((gs.map (·.1)).zip ys).lookup e.1 with | some p=>decide (eY e.2=eY p) | none=>am)=es.all λe=>match dget e.1 gs with | some p=>decide (kN e.2.2=kN p.2) | none=>am:=by
   intro es;induction es with
   | nil=>intro xs as r e;cases r;rfl
   | cons g es ih=>
    intro xs as r e;cases r with | @cons v _ vs _ h r=>
    rw [aT] at e;cases q:eY v with
    | none=>rw [q] at e;exact n1 e
    | some a=>
     rw [q] at e;refine ae (aF.mp e) λW e1 _=>ag (aT ..) (ag (dz ..) (ag (iZ ..) (ag (iZ ..) (ag (ih vs W r e1 ..) ?_))));congr 1;have:=e3 gs ys bs O e2 g.1;dsimp only;refine ag (q ..) (ag (h.atom q ..) ?_);generalize ((gs.map (·.1)).zip ys).lookup g.1=o1,dget g.1 gs=o2 at this ⊢;induction o1 with
     | none=>induction o2 with
      | none=>rfl
      | some=>exact n1 this
     | some=>induction o2 with
      | none=>exact n2 this
      | some=>exact congrArg (λz=>decide (ac a=z)) (fm this)
  exact Eq.mp (congrArg (λb=>k (decide (es.length=gs.length)&&b)) (e4 es xs as I e1)) h
 | _=>exact h.elim
theorem g6 {a b:TV} {p q:PV} {k:Int->Int->Prop} (V:TR μ X st a p) (S:TR μ X st b q) (h:mP a b k):∃i j,p=.int i∧q=.int j∧k i j:=by refine ae (V.iI h) λi e h=>?_;refine ae (S.iI h) λj G h=>⟨i,j,e,G,h⟩
theorem Jv {op:l6} {a b:TV} {p q:PV} {k:VK} {y:KV} (R:eV μ X T st) (V:TR μ X st a p) (S:TR μ X st b q) (h:Cu op a b T k) (L:ip X (RV X) μ T st k y):mK st y op p q:=by
 have sm:∀{i:Int},bU i.natAbs (2 ^ 60)=au->mJ i:=λh=>cI h;have ps:∀{i:Int},bU 0 i.toNat=au->0 <i:=λ{i} h=>by have:0 <i.toNat:=cI h;exact by lia
 induction op with
 | Add=>
  cases a with
  | int _=>refine ag V.inv ?_;refine ae (S.iI h) λ_ J h=>ag J (.add (L .refl R (.int _) h))
  | lst xs=>
   refine d6 V.inv λ_ _ G z h1 P=>ag G (jW (S.iL h) λ_ _ _ I Y h2 W h=>?_);refine ag I (ah (aQ h) λhl h=>?_);have hl:=cI hl;rw [P.length,W.length] at hl;refine .cat h1 h2 hl (L (fQ.app R _) (R.app _) (.lst (R.fz (aG _)) (List.getElem?_concat_length ..) ?_) h);have ap:∀{as:List TV} {bs:List PV} {cs:List TV} {ds:List PV} {st:St},eK μ X st as bs->eK μ X st cs ds->eK μ X st (as++cs) (bs++ds):=by
    intro as;induction as with
    | nil=>intro bs cs ds st r O;refine ag r.inv O
    | cons a as f=>intro bs cs ds st r O;refine cN r.inv λ_ _ l=>?_;obtain ⟨rfl,h,r⟩:=l;exact .cons h (f r O)
   exact ap (P.go (fQ.app R _)) (W.go (fQ.app R _))
  | _=>exact h.elim
 | Sub=>refine bz (g6 V S h) λi j G I h=>?_;refine ag G (ag I ?_);exact .sub (L .refl R (.int _) h)
 | Mult=>refine bz (g6 V S h) λi j G I h=>?_;subst G;subst I;refine ah (aQ h) λh1 h=>ah (aQ h) λh2 h=>.mul (sm h1) (sm h2) (L .refl R (.int _) h)
 | Mod=>refine bz (g6 V S h) λi j G I h=>?_;subst G;subst I;refine ah (aQ h) λh1 h=>ah (aQ h) λh2 h=>.mod (ps h1) (sm h2) (L .refl R (.int _) h)
 | FloorDiv=>refine bz (g6 V S h) λi j G I h=>?_;subst G;subst I;refine ah (aQ h) λh1 h=>ah (aQ h) λh2 h=>.div (ps h1) (sm h2) (L .refl R (.int _) h)
 | _=>exact h.elim
end
section
variable {D:lB} {E:fX} {F:Lv} {μ μ':bO} {X:List Nat} {st st':St} {T T':List MO} {ve:aB} {pe:bD} {x:VX} {x':KX}
theorem eK.append {as:List TV}:∀{bs:List PV} {cs:List TV} {ds:List PV},eK μ X st as bs->eK μ X st cs ds->eK μ X st (as++cs) (bs++ds):=by
 induction as with
 | nil=>intro bs cs ds r G;refine ag r.inv G
 | cons a as P=>intro bs cs ds r G;refine cN r.inv λ_ _ I=>?_;obtain ⟨rfl,h,r⟩:=I;exact .cons h (P r G)
theorem eK.get {as:List TV}:∀{bs:List PV},eK μ X st as bs->∀{i:Nat} {v:TV},as[i]? =ac v->∃p,bs[i]? =ac p∧TR μ X st v p:=by
 induction as with
 | nil=>intro bs r i v e;exact n1 e
 | cons a as P=>
  intro bs r i v e;refine cN r.inv λ_ _ G=>?_;obtain ⟨rfl,h,r⟩:=G;induction i using eX with
  | zero=>refine bZ (fm e) ?_;exact ⟨_,rfl,h⟩
  | succ i=>exact P r e
theorem eK.take {as:List TV}:∀{bs:List PV},eK μ X st as bs->∀n,eK μ X st (as.take n) (bs.take n):=by
 induction as with
 | nil=>intro bs r n;refine ag r.inv (ag (r5 ..) (ag (r5 ..) ?_));exact .nil
 | cons a as P=>intro bs r n;refine cN r.inv λ_ _ G=>?_;obtain ⟨rfl,h,r⟩:=G;induction n using eX with
  | zero=>exact .nil
  | succ n=>exact .cons h (P r n)
theorem eK.reverse {as:List TV}:∀{bs:List PV},eK μ X st as bs->eK μ X st as.reverse bs.reverse:=by
 induction as with
 | nil=>intro bs r;refine ag r.inv .nil
 | cons a as P=>intro bs r;refine cN r.inv λ_ _ G=>?_;obtain ⟨rfl,h,r⟩:=G;refine ag (eE ..) (ag (eE ..) ?_);exact (P r).append (.cons h .nil)
theorem fa {es:List (bJ × TV × TV)} {gs:List (bJ × PV × PV)} (h:iM μ X st es gs) (k:bJ):(∀p:TV × TV,cR k es=ac p->∃q:PV × PV,dget k gs=ac q∧TR μ X st p.1 q.1∧TR μ X st p.2 q.2)∧(cR k es=al->dget k gs=al):=
 gl.lookup (R:=λ(p:TV × TV) (q:PV × PV)=>TR μ X st p.1 q.1∧TR μ X st p.2 q.2) h k
theorem qU {es:List (bJ × TV × TV)} {gs:List (bJ × PV × PV)} (h:iM μ X st es gs) (k:bJ):(cR k es).isSome=(dget k gs).isSome:=by
 cases q:cR k es with
 | none=>refine ag ((fa h k).2 q) ?_;rfl
 | some p=>refine ae ((fa h k).1 p q) λG e _=>?_;refine ag (e ..) ?_;rfl
theorem Ge {k:bJ} {key v:TV} {J I:PV} (O:TR μ X st key J) (G:TR μ X st v I):∀{es:List (bJ × TV × TV)} {gs:List (bJ × PV × PV)},iM μ X st es gs->iM μ X st (dq k key v es) (lD k J I gs):=by
 intro es gs h;induction h with
 | nil=>exact .cons ⟨rfl,O,G⟩ .nil
 | cons h r P=>
  unfold dq lD;refine ag (h.1 ..) (kV (λq=>ag (if_pos q ..) ?_) λq=>ag (if_neg q ..) ?_)
  ·exact .cons ⟨rfl,h.2.1,G⟩ r
  ·exact .cons h P
theorem ye {k:bJ}:∀{es:List (bJ × TV × TV)} {gs:List (bJ × PV × PV)},iM μ X st es gs->iM μ X st (ik k es) (pO k gs):=by
 intro es gs h;induction h with
 | nil=>exact .nil
 | cons h r P=>
  unfold ik pO;refine ag (h.1 ..) (kV (λq=>ag (if_pos q ..) ?_) λq=>ag (if_neg q ..) ?_)
  ·exact r
  ·exact .cons h P
theorem te {n:aU} {v:TV} {p:PV} (r:TR μ X st v p):∀{fs:List (aU × TV)} {gs:List (aU × PV)},io μ X st fs gs->io μ X st (j1.setT n v fs) (nO n p gs):=by
 intro fs gs h;induction h with
 | nil=>exact .cons ⟨rfl,r⟩ .nil
 | cons h t P=>
  unfold j1.setT nO;refine ag (h.1 ..) (kV (λq=>ag (if_pos q ..) ?_) λq=>ag (if_neg q ..) ?_)
  ·exact .cons ⟨rfl,r⟩ t
  ·exact .cons h P
theorem iP {d:TV} {p:PV} {k:List (bJ × TV × TV)->Nat->(bJ->Option (TV × TV))->Prop} (R:eV μ X T st) (r:TR μ X st d p) (h:nG T d k):∃j q es n gs ep,d=.loc j∧p=.loc q.1∧μ[j]? =ac q∧T[j]? =ac (gY es n)∧st[q.1]? =ac (.dict gs ep)∧iM μ X st es gs∧k es n (λk=>cR k es):=by
 refine d6 (r.iO h) λj q e1 e2 G h=>ae (aR h) λo V h=>?_;induction o with
 | dict es n g=>obtain ⟨e0,gs,ep,e,r⟩:=R.objs G V;subst e0;exact ⟨j,q,es,n,gs,ep,e1,e2,G,V,e,r,h⟩
 | _=>exact h.elim
theorem tf {j:Nat} {q:Nat × Nat} {es fs:List (bJ × TV × TV)} {n ep ep':Nat} {gs:List (bJ × PV × PV)} (R:eV μ X T st) (I:μ[j]? =ac q) (V:T[j]? =ac (gY es n)) (h0:st[q.1]? =ac (.dict gs ep)) {G:List (bJ × PV × PV)} (r:iM μ X st fs G):
  eV μ X (T.set j (gY fs (n+1))) (st.set q.1 (.dict G ep'))∧fQ μ T st μ (T.set j (gY fs (n+1))) (st.set q.1 (.dict G ep')):=
 R.set I V (.inl rfl) (λY Y e=>nomatch e) (λY Y Y e=>by cases e;exact ⟨_,_,rfl⟩) λf=>⟨rfl,G,ep',bL (ao.mp h0).1,r.go f⟩
theorem n9 {v:TV} {p:PV} (r:TR μ X st v p):rO v=isNone p:=by induction r using TR.casesOn <;> rfl
theorem TR.asStr {v:TV} {p:PV} {s:aU} (h:TR μ X st v p) (e:asStr v=ac s):p=.str s:=by
 cases v with
 | str b=>refine bZ (fm e) ?_;exact h.inv
 | _=>exact n1 e
theorem Gf {xs:List TV}:∀{ps:List PV} {ss:List aU},eK μ X st xs ps->ES xs=ac ss->ps=ss.map PV.str:=by
 induction xs with
 | nil=>intro ps ss r e;refine ag r.inv ?_;obtain rfl:=fm e;rfl
 | cons a as P=>intro ps ss r e;refine cN r.inv λ_ _ G=>?_;obtain ⟨rfl,h,r⟩:=G;refine ae (ai.mp e) λs e0 e=>ae (aF.mp e) λI e1 e2=>bZ e2 (ag (P r e1 ..) (ag (h.asStr e0 ..) ?_));rfl
theorem BS {op:ul} {a b:TV} {p q:PV} {k:Bool->Prop} {O:KV} (R:eV μ X T st) (V:TR μ X st a p) (S:TR μ X st b q) (h:nz op a b T k) (L:∀t,k t->O (.bool t) st):iC p q st O op:=by
 induction op with
 | Eq=>exact .eq (Gd R V S h λt y=>L t y)
 | NotEq=>exact .ne (Gd R (k:=λt=>k (!t)) V S h λt y=>L _ y)
 | Lt=>refine bz (g6 V S h) λi j e1 e2 h=>?_;exact .lt e1 e2 (L _ h)
 | LtE=>refine bz (g6 V S h) λi j e1 e2 h=>?_;exact .le e1 e2 (L _ h)
 | Gt=>refine bz (g6 V S h) λi j e1 e2 h=>?_;exact .gt e1 e2 (L _ h)
 | GtE=>refine bz (g6 V S h) λi j e1 e2 h=>?_;exact .ge e1 e2 (L _ h)
 | Is=>
  cases b with
  | none=>refine ag S.inv ?_;exact .isNone rfl (by refine bZ (n9 V ..) ?_;exact L _ h)
  | bool _=>refine ag S.inv ?_;refine ae (V.iB h) λ_ J h=>ag J (.isBool rfl rfl (L _ h))
  | _=>exact h.elim
 | IsNot=>refine ah (S.iN h) λG h=>?_;refine ag G ?_;exact .isNot rfl (by refine bZ (n9 V ..) ?_;exact L _ h)
 | In=>
  have go:nG T b (λY Y g=>bV (rp a) False λka=>k (g ka).isSome)->iC p q st O .In:=λh=>by refine kU (iP R S h) λj W es n gs ep P=>?_;refine kT P λ_ e2 _ _ h1 r h=>ae (aR h) λka e h=>?_;exact .inDict e2 h1 (V.key e) (by refine bZ (qU r ..) ?_;exact L _ h)
  cases b with
  | tup xs=>refine d6 S.inv λ_ _ I f h1 r=>?_;refine ag I (ae (V.iS h) λs J h=>?_);refine ag J (ae (aR h) λss e h=>?_);exact .inTup rfl (by refine ag (h1 ..) ?_;exact ag (Gf r e ..) rfl) rfl (L _ h)
  | _=>exact go h
 | NotIn=>refine kU (iP R S h) λj W es n gs ep P=>?_;refine kT P λ_ e2 _ _ h1 r h=>ae (aR h) λka e h=>?_;exact .notIn e2 h1 (V.key e) (by refine bZ (qU r ..) ?_;exact L _ h)
theorem nq {v:TV} {p:PV} (r:TR μ X st v p) (h:nT v=au):uD p=au:=by induction r using TR.casesOn <;> first | rfl | exact h
theorem Db {name:aU}:∀{xs:List TV} {gs:List (aU × PV)} {v:TV},eK μ X st xs (gs.map (·.2))->vG name (gs.map (·.1)) xs=ac v->∃p,gs.lookup name=ac p∧TR μ X st v p:=by
 intro xs gs;induction gs generalizing xs with
 | nil=>intro v r h;cases r;exact n1 h
 | cons g gs P=>
  intro v r h;cases r with | @cons w _ ws _ hr r=>
  refine ag (List.lookup_cons ..) ?_;have h':(if name=g.1 then ac w else vG name (gs.map (·.1)) ws)=ac v:=h;by_cases e:name=g.1
  ·rw [if_pos e] at h';refine bZ (fm h') (ag (show (name==g.1)=au from beq_iff_eq.mpr e ..) ?_);exact ⟨_,rfl,hr⟩
  ·rw [if_neg e] at h';refine ag (show (name==g.1)=am from beq_eq_false_iff_ne.mpr e ..) ?_;exact P r h'
theorem Gg (O:i5 K D) (S:pt E F) {v:TV} {p:PV} {name:aU} {k:VK} {y:KV} (R:eV μ X T st) (r:TR μ X st v p) (h:Lk D E v name T k) (L:ip X (RV X) μ T st k y):attr K F p name st y:=by
 cases v with
 | obj C ns xs=>refine vo r.inv λ_ _ gs P f fd hi hd hn rs=>?_;refine ag P ?_;subst hn;refine ah (aQ h) λh1 h=>ae (aR h) λw h2 h=>ah (aQ h) λG h=>ae (Db rs h2) λq e I=>⟨_,_,_,_,rfl,.inl hi,hd,.inl ⟨q,e,O.fld h1,nq I G,L .refl R I h⟩⟩
 | loc j=>
  refine ae r.inv λq J W=>ag J (ae (aR h) λo ho h=>?_);induction o with
  | inst C fs=>
   obtain ⟨h1,gs,h2,rf⟩:=R.objs W ho;refine ⟨_,_,_,_,rfl,.inl h1,h2,?_⟩;have h:bV (fs.lookup name) _ _:=h;cases e:fs.lookup name with
   | some w=>rw [e] at h;refine ah (aQ h) λG h=>ah (aQ h) λV h=>ae ((gl.lookup rf name).1 w e) λq' e' I=>.inl ⟨q',e',O.fld G,nq I V,L .refl R I h⟩
   | none=>rw [e] at h;refine ae (aR h) λf G h=>.inr ⟨f,O.prop G,S.call h R (.ref f) (.cons (.loc W) .nil) (λY Y Y Y Y g z l h=>?_) eG.no⟩;refine ah (aQ h) λV h=>⟨nq l V,L g z l h⟩
  | _=>exact h.elim
 | _=>exact h.elim
theorem yf (O:i5 K D) {v w:TV} {p q:PV} {name:aU} {k:List MO->Prop} {y:St->Prop} (R:eV μ X T st) (r:TR μ X st v p) (G:TR μ X st w q) (h:j1 D v name w T k) (L:∀{st' T'},fQ μ T st μ T' st'->eV μ X T' st'->k T'->y st'):rL K p name q st y:=by
 cases v with
 | loc j=>
  refine ae r.inv λq J I=>ag J (ae (aR h) λo V h=>?_);induction o with
  | inst C fs=>
   obtain ⟨h1,gs,h2,P⟩:=R.objs I V;refine ah (aQ h) λW h=>ah (aQ h) λl h=>?_;obtain ⟨S,f⟩:=R.set (i:=q.2) (po:=.ns (nO name _ gs)) (o':=.inst C (j1.setT name w fs)) I V (.inr rfl) (λY Y e=>nomatch e) (λY Y Y e=>nomatch e) λf=>
    ⟨(bn (λe=>by rw [e,h1] at h2;exact nomatch h2)).trans h1,_,bL (ao.mp h2).1,(te G P).go f⟩
   exact ⟨_,_,_,_,rfl,.inl h1,h2,O.set W,by refine bZ (P.length ..) ?_;exact cI l,L f S h⟩
  | _=>exact h.elim
 | _=>exact h.elim
theorem Gh (O:i5 K D) {v:TV} {p:PV} {name:aU} {k:TV->Prop} {y:PV->List PV->Prop} (R:eV μ X T st) (r:TR μ X st v p) (h:Ll D v name T k) (L:∀f q,TR μ X st f q->k f->y q [p]):meth K name st y p:=by
 cases v with
 | loc j=>
  refine ae r.inv λq J P=>?_;subst J;refine ae (aR h) λo V h=>?_;induction o with
  | inst C fs=>
   obtain ⟨h1,gs,h2,W⟩:=R.objs P V;have h:bV (fs.lookup name) _ _:=h;cases e:fs.lookup name with
   | some w=>rw [e] at h;exact h.elim
   | none=>rw [e] at h;refine ae (aR h) λf S h=>.inst h1 h2 ((gl.lookup W name).2 e) (O.meth S) (L _ _ (.ref f) h)
  | list xs=>
   refine ae (R.objs P V) λl h1 _=>?_;rcases m7 h with ⟨e,h⟩ | ⟨_,h⟩
   ·exact .append h1 (beq_iff_eq.mp e) (L _ _ (.bi _) h)
   refine bk (m7 h) (λG=>?_) λI=>?_
   ·refine ah G λe h=>.pop h1 (beq_iff_eq.mp e) (L _ _ (.bi _) h)
   ·refine ah I λ_ h=>h.elim
  | dict es ep g=>
   obtain ⟨_,l,ep,h1,_⟩:=R.objs P V;rcases m7 h with ⟨e,h⟩ | ⟨_,h⟩
   ·exact .dget h1 (beq_iff_eq.mp e) (L _ _ (.bi _) h)
   rcases m7 h with ⟨e,h⟩ | ⟨_,h⟩
   ·exact .dpop h1 (beq_iff_eq.mp e) (L _ _ (.bi _) h)
   refine bk (m7 h) (λG=>?_) λI=>?_
   ·obtain ⟨e,h⟩:=G;exact .dvals h1 (beq_iff_eq.mp e) (L _ _ (.bi _) h)
   ·obtain ⟨_,h⟩:=I;exact h.elim
  | _=>exact h.elim
 | _=>exact h.elim
end
section
variable {D:lB} {E:fX} {F:Lv} {μ μ':bO} {X:List Nat} {st st':St} {T T':List MO} {ve:aB} {pe:bD} {x:VX} {x':KX}
theorem cv {a b:Nat} (h:aH a b=au):a≤b:=cI h
theorem yg {α:Type} {xs:List α}:xs.getLast? =xs[xs.length - 1]? :=Cn ..
theorem ip.lay {k:VK} {y:KV} {v:TV} {po:PO} (R:eV μ X T st) (L:ip X (RV X) μ T st k y) (h:k v T) (r:TR μ X (st++[po]) v (.loc st.length)):y (.loc st.length) (st++[po]):=L (fQ.app R _) (R.app _) r h
theorem gg {po:PO}:(st++[po])[st.length]? =ac po:=by refine ag (bA (aG _)) (ag (fx ..) ?_);rfl
theorem Gi {a b:TV} {p q:PV} {k:VK} {y:KV} (R:eV μ X T st) (V:TR μ X st a p) (W:TR μ X st b q) (h:qM a b T k) (L:ip X (RV X) μ T st k y):jN q st y p:=by
 have dict:nG T a (λY Y g=>bV (rp b) False λS=>bV (g S) False λp=>k p.2 T)->jN q st y p:=λh=>by refine kU (iP R V h) λj q' es n gs ep z=>?_;refine kT z λ_ e1 _ _ h1 r h=>?_;clear z;subst e1;refine ae (aR h) λS e h=>ae (aR h) λw e2 h=>bP ((fa r S).1 w e2) λl e3 r1 r2=>.dict h1 (W.key e) e3 (L .refl R r2 h)
 cases a with
 | lst xs=>
  refine d6 V.inv λ_ _ I f h1 r=>?_;subst I;refine ae (W.iI h) λi J h=>?_;subst J;cases i with
  | ofNat j=>refine ah (aQ h) λh2 h=>?_;refine ah (aQ h) λP h=>ae (aR h) λw e h=>ae (r.get e) λl O G=>.list h1 rfl (r.length▸cv P) (.inl ⟨dW _,lw.mpr (cv h2),O⟩) (L .refl R G h)
  | negSucc n=>refine ah (aQ h) λh0 h=>?_;obtain rfl:=bC h0;refine ah (aQ h) λP h=>ae (aR h) λw e h=>?_;rw [yg,r.length] at e;refine ae (r.get e) λl O G=>?_;exact .list h1 rfl (r.length▸cv P) (.inr ⟨rfl,by refine ag (yg ..) ?_;exact O⟩) (L .refl R G h)
 | tup xs=>
  refine d6 V.inv λ_ _ I f h1 r=>?_;subst I;refine ae (W.iI h) λi J h=>?_;subst J;cases i with
  | ofNat j=>refine ah (aQ h) λh2 h=>?_;refine ah (aQ h) λP h=>ae (aR h) λw e h=>ae (r.get e) λl O G=>.tup h1 rfl (dW _) (lw.mpr (cv h2)) (r.length▸cv P) O (L .refl R G h)
  | negSucc n=>exact h.elim
 | _=>exact dict h
theorem qV {a b v:TV} {p q w:PV} {k:List MO->Prop} {y:St->Prop} (R:eV μ X T st) (V:TR μ X st a p) (S:TR μ X st b q) (l:TR μ X st v w) (h:sy a b v T k) (L:∀{st' T'},fQ μ T st μ T' st'->eV μ X T' st'->k T'->y st'):vw p q w st y:=by refine d6 (V.iO h) λY _ G _ _ h=>?_;subst G;refine kU (iP R V h) λz q' es n gs ep I=>kT I λe0 e1 P O h1 r h=>?_;clear I;subst e1;cases e0;refine ae (aR h) λW e h=>ah (aQ h) λh2 h=>⟨_,gs,ep,W,rfl,h1,S.key e,by refine bZ (r.length ..) ?_;exact cv h2,λep'=>?_⟩;obtain ⟨J,f⟩:=tf (ep':=ep') R P O h1 (Ge S l r);exact L f J h
theorem Ag {d:TV} {i:Nat}:∀{ps:List (TV × TV)} {G:List (PV × PV)} {T:List MO} {st:St} {k:List MO->Prop} {y:St->Prop},gl (λa b=>TR μ X st a.1 b.1∧TR μ X st a.2 b.2) ps G->eV μ X T st->TR μ X st d (.loc i)->vH d ps T k->
  (∀{st' T'},fQ μ T st μ T' st'->eV μ X T' st'->k T'->y st')->oP i G st y:=by
 intro ps;induction ps with
 | nil=>intro G T st k y r R I h L;cases r;exact L .refl R h
 | cons p ps P=>
  intro G T st k y r R I h L;cases r with | cons J r=>
  exact qV R I J.1 J.2 h λf O h'=>P (r.mono λ⟨a,b⟩=>⟨a.go f,b.go f⟩) O (I.go f) h' λg=>L (f.trans g)
theorem Dc {a:TV} {l u s:Option TV} {p:PV} {pl S ps:Option PV} {k:VK} {Y:KV} (R:eV μ X T st) (y:TR μ X st a p)
  (rl:∀{v},l=ac v->∃q,pl=ac q∧TR μ X st v q) (nl:l=al->pl=al) (z:∀{v},u=ac v->∃q,S=ac q∧TR μ X st v q) (nu:u=al->S=al) (rs:∀{v},s=ac v->∃q,ps=ac q∧TR μ X st v q) (ns:s=al->ps=al)
  (h:EU a l u s T k) (L:ip X (RV X) μ T st k Y):sliced st Y p pl S ps:=by
 cases a with
 | lst xs=>
  refine d6 y.inv λ_ _ O f h1 r=>?_;subst O;refine ah (lm h) λe1 h=>ag (nl e1 ..) (bk (lT h) (λV=>?_) λW=>?_)
  ·refine ah V λe2 h=>ae (aR h) λuv e3 h=>ae (z e3) λq J I=>?_;subst J;refine ag (ns e2 ..) (ae (I.iI h) λi J h=>?_);subst J;cases i with
   | negSucc _=>exact h.elim
   | ofNat n=>refine ah (aQ h) λh2 h=>?_;refine ah (aQ h) λG h=>.take h1 (dW _) (lw.mpr (cv h2)) (r.length▸cv G) (L.lay R h (.lst (R.fz (aG _)) gg ((r.take n).go (fQ.app R _))))
  ·refine ae W λsv e2 h=>ah (lm h) λe3 h=>ae (rs e2) λq J I=>ag J (ag (nu e3 ..) ?_);refine ae (I.iI h) λi J h=>ag J ?_;cases i with
   | ofNat _=>exact h.elim
   | negSucc n=>refine ah (aQ h) λh0 h=>?_;obtain rfl:=bC h0;refine ah (aQ h) λG h=>.rev h1 (r.length▸cv G) (L.lay R h (.lst (R.fz (aG _)) gg (r.reverse.go (fQ.app R _))))
 | scr xs=>
  refine gR y.inv λ_ _ _ P f h1 r=>?_;subst P;refine ah (lm h) λe1 h=>ah (lm h) λe2 h=>ae (aR h) λuv e3 h=>ae (z e3) λq J I=>?_;subst J;refine ag (nl e1 ..) (ag (ns e2 ..) ?_);refine ae (I.iI h) λi J h=>?_;subst J;cases i with
  | negSucc _=>exact h.elim
  | ofNat n=>refine ah (aQ h) λh2 h=>?_;refine ah (aQ h) λG h=>.takeP h1 (dW _) (lw.mpr (cv h2)) (r.length▸cv G) (L.lay R h (.lst (R.fz (aG _)) gg ((r.take n).go (fQ.app R _))))
 | barr b=>
  refine bP y.inv λ_ J f h1=>ag J (ah (lm h) λe1 h=>?_);refine ae (aR h) λlv e2 h=>ae (aR h) λuv e3 h=>ae (rl e2) λq1 J r1=>ag J (ae (z e3) λq2 J I=>?_);subst J;refine ag (ns e1 ..) (ae (r1.iI h) λi J h=>?_);refine ag J ?_;induction i with
  | negSucc _=>exact h.elim
  | ofNat n=>
   refine ah (aQ h) λh0 h=>?_;obtain rfl:=bC h0;refine ae (I.iI h) λi J h=>ag J ?_;induction i with
   | negSucc _=>exact h.elim
   | ofNat q=>refine ah (aQ h) λh2 h=>?_;refine ah (aD.mp h2) λh2 G=>?_;exact .barr h1 (by refine ag ((bC h2) ..) ?_;rfl) (cv G) (L.lay R h (.barr (R.fz (aG _)) gg))
 | _=>exact h.elim
theorem TR.asBy {v:TV} {p:PV} {s:Array UInt8} (h:TR μ X st v p) (e:asBy v=ac s):p=.bytes s:=by
 cases v with
 | bytes b=>cases e;exact h.inv
 | _=>cases e
theorem TR.asU8 {v:TV} {p:PV} {u:UInt8} (h:TR μ X st v p) (e:asU8 v=ac u):∃n:Nat,p=.int (aL n)∧n <256∧u=wW n:=by
 cases v with
 | int i=>
  induction i with
  | ofNat n=>
   have e:(match bU n 256 with | true=>wZ (wW n) | false=>Option.none)=wZ u:=e;cases q:bU n 256 with
   | true=>rw [q] at e;cases e;exact ⟨n,h.inv,cI q,rfl⟩
   | false=>rw [q] at e;cases e
  | negSucc n=>cases e
 | _=>cases e
theorem Dd {xs:List TV}:∀{ps:List PV} {bs:List (Array UInt8)},eK μ X st xs ps->mQ xs=ac bs->ps=bs.map .bytes:=by
 induction xs with
 | nil=>intro ps bs r e;refine ag r.inv (bZ (fm e) ?_);rfl
 | cons a as P=>intro ps bs r e;refine cN r.inv λ_ _ G=>?_;obtain ⟨rfl,h,r⟩:=G;refine ae (ai.mp e) λs e0 e=>ae (aF.mp e) λJ e1 e2=>bZ e2 (ag (P r e1 ..) (ag (h.asBy e0 ..) ?_));rfl
theorem De {xs:List TV}:∀{ps:List PV} {bs:List UInt8},eK μ X st xs ps->EV xs=ac bs->vx ps=ac bs:=by
 induction xs with
 | nil=>intro ps bs r e;refine ag r.inv e
 | cons a as S=>intro ps bs r e;refine bz r.inv λ_ _ G h V=>ag G (ae (ai.mp e) λu e0 e=>?_);refine ae (aF.mp e) λO e1 G=>bZ G (bP (h.asU8 e0) λn J P I=>?_);refine ag J (ag I ?_);refine ai.mpr ⟨(n:Int),rfl,?_⟩;refine ag (if_pos ⟨dW _,lw.mpr P⟩ ..) (ag (S V e1 ..) ?_);rfl
theorem Df {G:List (Array UInt8)}:eK μ X st (G.map .bytes) (G.map .bytes):=by
 induction G with
 | nil=>exact .nil
 | cons y G P=>exact .cons (.bytes y) P
theorem uV (b:Array UInt8):∀l,(IN b l).Perm (b::l)
 | []=>.refl _
 | c::r=>by
  unfold IN;refine kV (λh=>?_) λh=>?_
  ·exact .refl _
  ·exact ((uV b r).cons c).trans (.swap b c r)
theorem og:∀l,(mR l).Perm l
 | []=>.refl _
 | b::r=>(uV b _).trans ((og r).cons b)
theorem tg:∀{l},nj l=au->l.Pairwise (λa b=>lE a b=au)
 | [],_=>.nil
 | b::r,h=>by refine ah (aD.mp h) λh1 h2=>?_;exact .cons (λc G=>co.mp h1 c G) (tg h2)
end
section
variable {D:lB} {E:fX} {F:Lv} {μ μ':bO} {X:List Nat} {st st':St} {T T':List MO} {ve:aB} {pe:bD} {x:VX} {x':KX}
theorem eK.one {v:TV} {ps:List PV} (h:eK μ X st [v] ps):∃p,ps=[p]∧TR μ X st v p:=by refine bz h.inv λp I G h' r=>?_;refine ag G (ag r.inv ?_);exact ⟨_,rfl,h'⟩
theorem eK.two {v w:TV} {ps:List PV} (h:eK μ X st [v,w] ps):∃p q,ps=[p,q]∧TR μ X st v p∧TR μ X st w q:=by refine bz h.inv λp O G h' r=>?_;refine ag G (ae (eK.one r) λq J I=>?_);refine ag J ⟨_,_,rfl,h',I⟩
theorem eK.l1 {args:List TV} {ps:List PV} {f:TV->Prop} (r:eK μ X st args ps) (h:Ej args f):∃v p,ps=[p]∧TR μ X st v p∧f v:=by refine ae (qT h) λv J h=>?_;subst J;refine ae r.one λp e r=>⟨v,p,e,r,h⟩
theorem eK.l2 {args:List TV} {ps:List PV} {f:TV->TV->Prop} (r:eK μ X st args ps) (h:II args f):∃v w p q,ps=[p,q]∧TR μ X st v p∧TR μ X st w q∧f v w:=by refine cK (LI h) λv w G h=>?_;subst G;refine bz r.two λp q e r I=>⟨v,w,p,q,e,r,I,h⟩
theorem eK.l23 {args:List TV} {ps:List PV} {f:TV->TV->Prop} {g:TV->TV->TV->Prop} (r:eK μ X st args ps) (h:lS False (v:=args) (x2:=f) (x3:=g)):(∃v w p q,ps=[p,q]∧TR μ X st v p∧TR μ X st w q∧f v w)∨∃v w u p q o,ps=[p,q,o]∧TR μ X st v p∧TR μ X st w q∧TR μ X st u o∧g v w u:=by
 rcases args with _ | ⟨a,_ | ⟨b,_ | ⟨c,_ | _⟩⟩⟩
 ·exact h.elim
 ·exact h.elim
 ·refine bz r.two λp q e r I=>.inl ⟨_,_,p,q,e,r,I,h⟩
 ·refine cN r.inv λp S G=>?_;obtain ⟨rfl,J,r⟩:=G;refine bz (eK.two r) λq o e2 O P=>ag e2 (.inr ⟨_,_,_,p,q,o,rfl,J,O,P,h⟩)
 ·exact h.elim
theorem Jw {a:TV} {p:PV} {k:VK} {y:KV} (R:eV μ X T st) (r:TR μ X st a p) (h:PA a T k) (L:ip X (RV X) μ T st k y):builtin st y "len" [p]:=by
 cases a with
 | lst xs=>refine cN r.inv λ_ _ I=>?_;obtain ⟨rfl,f,h1,r⟩:=I;refine ah (aQ h) λh2 h=>.lenList h1 ((r.length)▸cv h2) (L .refl R (.int _) ((r.length)▸h))
 | barr b=>refine bP r.inv λ_ J f h1=>?_;refine ag J (ah (aQ h) λh2 h=>?_);exact .lenBarr h1 (cv h2) (L .refl R (.int _) h)
 | bytes b=>refine ag r.inv ?_;refine ah (aQ h) λh2 h=>.lenBytes (cv h2) (L .refl R (.int _) h)
 | loc j=>
  refine ae r.inv λq J G=>ag J (ae (aR h) λo V h=>?_);induction o with
  | dict es ep g=>obtain ⟨_,gs,ep,h1,r⟩:=R.objs G V;refine ah (aQ h) λh2 h=>.lenDict h1 ((r.length)▸cv h2) (L .refl R (.int _) ((r.length)▸h))
  | _=>exact h.elim
 | _=>exact h.elim
theorem Gj {a b:TV} {p q:PV} {k:VK} {y:KV} (R:eV μ X T st) (V:TR μ X st a p) (S:TR μ X st b q) (h:Lm a b T k) (L:ip X (RV X) μ T st k y):builtin st y "isinstance" [p,q]:=by
 cases b with
 | ty n=>
  refine ag S.inv ?_;rcases m7 h with ⟨e,h⟩ | ⟨_,h⟩
  ·obtain rfl:=beq_iff_eq.mp e;cases a with
   | str _=>refine ag V.inv ?_;exact .strStr (L .refl R (.bool _) h)
   | bool _=>refine ag V.inv ?_;exact .strBool (L .refl R (.bool _) h)
   | int _=>refine ag V.inv ?_;exact .strInt (L .refl R (.bool _) h)
   | _=>exact h.elim
  refine bk (m7 h) (λG=>?_) λI=>?_
  ·obtain ⟨e,h⟩:=G;obtain rfl:=beq_iff_eq.mp e;cases a with
   | str _=>refine ag V.inv ?_;exact .boolStr (L .refl R (.bool _) h)
   | bool _=>refine ag V.inv ?_;exact .boolBool (L .refl R (.bool _) h)
   | int _=>refine ag V.inv ?_;exact .boolInt (L .refl R (.bool _) h)
   | _=>exact h.elim
  ·obtain ⟨_,h⟩:=I;exact h.elim
 | _=>exact h.elim
noncomputable def jC:Cv->String
 | .len=> "len" | .max=> "max" | .min=> "min" | .ord=> "ord" | .isinstance=> "isinstance" | .sorted=> "sorted" | .append=> "list.append" | .lpop=> "list.pop" | .get=> "dict.get" | .dpop=> "dict.pop" | .values=> "dict.values"
noncomputable def qh:Cw->String
 | .list=> "list" | .dict=> "dict" | .bytes=> "bytes" | .int=> "int" | .range=> "range"
theorem dX {α:Type} {id k:String} {v b:α} {l:List (String × α)} {P:String->α->Prop} (h:((k,v)::l).lookup id=ac b) (h1:P k v) (h2:l.lookup id=ac b->P id b):P id b:=by
 rw [List.lookup_cons] at h;cases q:id==k with
 | true=>rw [q] at h;refine bZ (fm h) (ag (beq_iff_eq.mp q ..) ?_);exact h1
 | false=>rw [q] at h;exact h2 h
theorem Jx {id:String} {b:Cv} (h:MA id=ac b):id=jC b:=
 dX (P:=λid b=>id=jC b) h rfl λh=>dX (P:=λid b=>id=jC b) h rfl λh=>dX (P:=λid b=>id=jC b) h rfl λh=>dX (P:=λid b=>id=jC b) h rfl λh=>dX (P:=λid b=>id=jC b) h rfl λh=>
 dX (P:=λid b=>id=jC b) h rfl λh=>dX (P:=λid b=>id=jC b) h rfl λh=>dX (P:=λid b=>id=jC b) h rfl λh=>dX (P:=λid b=>id=jC b) h rfl λh=>dX (P:=λid b=>id=jC b) h rfl λh=>dX (P:=λid b=>id=jC b) h rfl λh=>nomatch h
theorem Jy {id:String} {b:Cw} (h:MB id=ac b):id=qh b:=
 dX (P:=λid b=>id=qh b) h rfl λh=>dX (P:=λid b=>id=qh b) h rfl λh=>dX (P:=λid b=>id=qh b) h rfl λh=>dX (P:=λid b=>id=qh b) h rfl λh=>dX (P:=λid b=>id=qh b) h rfl λh=>nomatch h
theorem tj {xs:List TV} {ps:List PV} {i:Nat} {k:VK} {y:KV} (R:eV μ X T st) (h1:st[i]? =ac (.list ps)) (r:eK μ X st xs ps) (h:EW xs T k) (L:ip X (RV X) μ T st k y):
  builtin st y "sorted" [.loc i]:=by
 refine ae (aR h) λbs e h=>ah (aQ h) λh2 h=>ah (aQ h) λG h=>?_;rw [Dd r e] at h1;exact .sorted h1 (cv h2) (og bs) (tg G) (L.lay R h (.lst (R.fz (aG _)) gg Df))
theorem yh {j:Nat} {q:Nat × Nat} {xs I:List TV} {ps G:List PV} (R:eV μ X T st) (J:μ[j]? =ac q) (V:T[j]? =ac (.list xs)) (h0:st[q.1]? =ac (.list ps)) (r:eK μ X st I G):
  eV μ X (T.set j (.list I)) (st.set q.1 (.list G))∧fQ μ T st μ (T.set j (.list I)) (st.set q.1 (.list G)):=
 R.set J V (.inl rfl) (λY Y e=>nomatch e) (λY Y Y e=>nomatch e) λf=>⟨G,bL (ao.mp h0).1,r.go f⟩
theorem Ny {b:Cv} {id:String} {args:List TV} {ps:List PV} {k:VK} {k':KV} (Fg:MA id=ac b) (R:eV μ X T st) (r:eK μ X st args ps) (h:Sq b args T k) (L:ip X (RV X) μ T st k k'):builtin st k' id ps:=by
 obtain rfl:=Jx Fg;induction b with
 | len=>refine bz (r.l1 h) λ_ p G ra h=>?_;refine ag G (Jw R ra h L)
 | max=>refine fI (r.l2 h) λ_ _ p q O P S h=>?_;subst O;refine bz (g6 P S h) λ_ _ G W h=>?_;subst G;subst W;exact .max (L .refl R (.int _) h)
 | min=>refine fI (r.l2 h) λ_ _ p q O P S h=>?_;subst O;refine bz (g6 P S h) λ_ _ G W h=>?_;subst G;subst W;exact .min (L .refl R (.int _) h)
 | ord=>refine bz (r.l1 h) λ_ p G ra h=>?_;refine ag G (ae (ra.iS h) λs Y h=>?_);refine ag Y ?_;obtain ⟨⟨cs⟩⟩:=s;refine ae (qT h) λc e h=>?_;subst e;refine ah (aQ h) λh1 h=>.ord (cv h1) (L .refl R (.int _) h)
 | isinstance=>refine fI (r.l2 h) λ_ _ p q O P S h=>?_;refine ag O (Gj R P S h L)
 | sorted=>
  refine bz (r.l1 h) λa p G ra h=>ag G ?_;cases a with
  | lst xs=>refine d6 ra.inv λ_ _ G f h1 rl=>?_;refine ag G (tj R h1 rl h L)
  | loc j=>
   refine ae ra.inv λq Y l=>ag Y (ae (aR h) λo z h=>?_);induction o with
   | list xs=>refine ae (R.objs l z) λys h1 r=>?_;exact tj R h1 r h L
   | _=>exact h.elim
  | _=>exact h.elim
 | append=>
  refine fI (r.l2 h) λ_ _ p q O P S h=>?_;subst O;refine d6 (P.iO h) λj _ G W l h=>ag G (ag W ?_);refine ae (aR h) λo z h=>?_;induction o with
  | list xs=>refine ae (R.objs l z) λys h1 r=>?_;refine ah (aQ h) λh2 h=>ah (yh R l z h1 (r.append (.cons S .nil))) λR' f=>.append h1 (r.length▸cv h2) (L f R' .none h)
  | _=>exact h.elim
 | lpop=>
  refine fI (r.l2 h) λ_ _ p q O P S h=>?_;subst O;refine d6 (P.iO h) λj _ G W l h=>ag G (ag W ?_);refine ae (S.iI h) λi Y h=>ag Y ?_;induction i with
  | negSucc _=>exact h.elim
  | ofNat n=>
   refine ah (aQ h) λh0 h=>?_;obtain rfl:=bC h0;refine ae (aR h) λo z h=>?_;induction o with
   | list xs=>
    refine ae (R.objs l z) λys h1 r=>?_;induction xs using aX with
    | nil=>exact h.elim
    | cons a xs=>refine cN r.inv λ_ _ V=>?_;obtain ⟨rfl,hr,r⟩:=V;refine ah (aQ h) λh2 h=>ah (yh R l z h1 r) λR' f=>.pop h1 (r.length▸cv h2) (L f R' (hr.go f) h)
   | _=>exact h.elim
 | get=>
  refine bk (r.l23 h) (λI=>?_) λJ=>?_
  ·refine fI I λ_ _ p q e4 P S h=>?_;clear I;subst e4;refine jV (iP R P h) λj q' es n gs V=>mI V λep _ e2 l z h1 y h=>?_;clear V;subst e2;refine ae (aR h) λka e h=>.dget h1 (S.key e) (bk (lT h) (λI=>?_) λJ=>?_)
   ·refine ah I λe2 h=>?_;clear I;refine ag ((fa y ka).2 e2) (L .refl R .none h)
   ·refine ae J λw e2 h=>?_;clear J;refine bP ((fa y ka).1 w e2) λw' e3 _ r4=>ag (e3 ..) (L .refl R r4 h)
  ·refine pN J λ_ _ _ p q u e6 P S r3 h=>?_;clear J;subst e6;refine jV (iP R P h) λj q' es n gs V=>mI V λep _ e2 l z h1 y h=>?_;clear V;subst e2;refine ae (aR h) λka e h=>.dgetD h1 (S.key e) (bk (lT h) (λI=>?_) λJ=>?_)
   ·refine ah I λe2 h=>?_;clear I;refine ag ((fa y ka).2 e2) (L .refl R r3 h)
   ·refine ae J λw e2 h=>?_;clear J;refine bP ((fa y ka).1 w e2) λw' e3 _ r4=>ag (e3 ..) (L .refl R r4 h)
 | dpop=>
  refine bk (r.l23 h) (λI=>?_) λJ=>?_
  ·refine fI I λ_ _ p q e4 P S h=>?_;clear I;subst e4;refine d6 (P.iO h) λj0 _ G _ _ h=>?_;subst G;refine kU (iP R P h) λj q' es n gs ep V=>kT V λe0 e1 l z h1 y h=>?_;clear V;subst e1;cases e0;refine ae (aR h) λka e h=>ah (aQ h) λh2 h=>ae (aR h) λw e2 h=>bP ((fa y ka).1 w e2) λw' e3 _ r4=>.dpop h1 (y.length▸cv h2) (S.key e) e3 λep'=>ah (tf (ep':=ep') R l z h1 (ye (k:=ka) y)) λR' f=>L f R' (r4.go f) h
  ·refine pN J λ_ _ _ p q u e6 P S r3 h=>?_;clear J;subst e6;refine d6 (P.iO h) λj0 _ G _ _ h=>?_;subst G;refine kU (iP R P h) λj q' es n gs ep V=>kT V λe0 e1 l z h1 y h=>?_;clear V;subst e1;cases e0;refine ae (aR h) λka e h=>ah (aQ h) λh2 h=>.dpopD h1 (y.length▸cv h2) (S.key e) (bk (lT h) (λI=>?_) λJ=>?_)
   ·refine ah I λe2 h=>ag ((fa y ka).2 e2) (L .refl R r3 h)
   ·refine ae J λw e2 h=>bP ((fa y ka).1 w e2) λw' e3 _ r4=>ag (e3 ..) ?_;intro ep';refine ah (tf (ep':=ep') R l z h1 (ye (k:=ka) y)) λR' f=>L f R' (r4.go f) h
 | values=>refine bz (r.l1 h) λ_ p G ra h=>?_;refine ag G (d6 (ra.iO h) λj0 _ G _ _ h=>?_);subst G;refine kU (iP R ra h) λj q' es n gs ep V=>kT V λe0 e1 l z h1 y h=>?_;clear V;subst e1;cases e0;exact .dvals h1 (L.lay R h (.vals (R.fz (aG _)) l gg))
theorem TR.asPair {v a b:TV} {p:PV} (h:TR μ X st v p) (e:asPair v=ac (a,b)):∃i x y,p=.loc i∧st[i]? =ac (.tup [x,y])∧TR μ X st a x∧TR μ X st b y:=by
 cases v with
 | tup xs=>rcases xs with _ | ⟨a,_ | ⟨b,_ | ⟨c,_ | _⟩⟩⟩<;> cases e;refine d6 h.inv λi O e _ h1 h2=>bz h2.two λx y G I J=>?_;subst G;exact ⟨i,x,y,e,h1,I,J⟩
 | _=>cases e
theorem Dg {xs:List TV}:∀{ps:List PV} {ks:List bJ} {vs:List TV},eK μ X st xs ps->pV xs=ac (ks,vs)->∃es,kW st ps=ac es∧es.map (·.1)=ks∧eK μ X st vs (es.map (·.2.2)):=by
 induction xs with
 | nil=>intro ps ks vs r e;cases r.inv;cases e;exact ⟨[],rfl,rfl,.nil⟩
 | cons a as V=>
  intro ps ks vs r e;refine bz r.inv λ_ _ I h f=>?_;subst I;refine ae (ai.mp e) λG e0 e=>?_;obtain ⟨a,b⟩:=G;refine ae (ai.mp e) λka e1 e=>ae (aF.mp e) λG e2 e=>?_;obtain ⟨W,z⟩:=G;cases e;refine bP (V f e2) λes e3 O P=>gR (h.asPair e0) λi p q J h1 l y=>?_;subst J;refine ⟨(ka,p,q)::es,?_,by refine bZ (O ..) ?_;rfl,.cons y P⟩;show (Bu st (.loc i)).bind _=_;have S:Bu st (.loc i)=ac (p,q):=by show (st[i]?.bind w6).bind Lg=_;exact ag h1 rfl
  refine ag S (ag (show (ac (p,q)).bind _=_ from ku ..) ?_);exact ag (l.key e1 ..) (ag (ku ..) (ag (e3 ..) rfl))
theorem Nz {b:Cw} {id:String} {args:List TV} {ps:List PV} {k:VK} {y:KV} (Fg:MB id=ac b) (R:eV μ X T st) (r:eK μ X st args ps) (h:Cx b args T k) (L:ip X (RV X) μ T st k y):jY st y id ps:=by
 obtain rfl:=Jy Fg;refine bz (r.l1 h) λa p G V h=>ag G ?_;induction b with
 | list=>
  cases a with
  | lst xs=>refine d6 V.inv λ_ _ G f h1 I=>?_;refine ag G (ah (aQ h) λh2 h=>?_);exact .listList h1 (I.length▸cv h2) (L.lay R h (.lst (R.fz (aG _)) gg (I.go (fQ.app R _))))
  | range m=>
   refine bP V.inv λ_ J f h1=>ag J (ah (aQ h) λh2 h=>?_);have Y:∀(l:List Nat) (st:St),eK μ X st (l.map λj=>TV.int (aL j)) (l.map λj=>PV.int (aL j)):=by
    intro l st;induction l with
    | nil=>exact .nil
    | cons a l P=>exact .cons (.int _) P
   exact .listRange h1 (cv h2) (L.lay R h (.lst (R.fz (aG _)) gg (Y _ _)))
  | _=>exact h.elim
 | dict=>
   refine jW (V.iL h) λ_ _ _ O f h1 I h=>ag O (ae (aR h) λS e h=>?_);obtain ⟨ks,vs⟩:=S;refine ah (aQ h) λh2 h=>ah (aQ h) λz h=>bP (Dg I e) λes e1 e2 e3=>?_;have hl:∀{ps:List PV} {es},kW st ps=ac es->es.length=ps.length:=by
    intro ps;induction ps with
    | nil=>intro es e;refine bZ (fm e) ?_;rfl
    | cons p ps P=>intro es e;refine ae (ai.mp e) λq _ e=>ae (ai.mp e) λka _ e=>ae (aF.mp e) λW e1 G=>bZ G (ag (bf ..) (ag (bf ..) (ag (P e1 ..) rfl)))
   refine .dict h1 e1 (by refine ag (e2 ..) ?_;exact of_decide_eq_true h2) (by refine ag (hl e1 ..) (bZ (I.length ..) ?_);exact cv z) λep=>L.lay R h (.dct (R.fz (aG _)) gg e2 (e3.go (fQ.app R _)))
 | bytes=>
  cases a with
  | lst xs=>refine d6 V.inv λ_ _ G f h1 I=>?_;refine ag G (ae (aR h) λbs e h=>?_);refine ah (aQ h) λh2 h=>.bytesList h1 (De I e) (I.length▸cv h2) (L .refl R (.bytes _) h)
  | barr b=>refine bP V.inv λ_ J f h1=>?_;refine ag J (ah (aQ h) λh2 h=>?_);exact .bytesBarr h1 (cv h2) (L .refl R (.bytes _) h)
  | _=>exact h.elim
 | int=>refine ae (V.iI h) λ_ J h=>?_;refine ag J (.int (L .refl R (.int _) h))
 | range=>refine ae (V.iI h) λ_ J h=>?_;refine ag J (ah (aQ h) λh1 h=>?_);refine ah (aQ h) λh2 h=>.range (of_decide_eq_true h1) (of_decide_eq_true h2) (L.lay R h (.range (R.fz (aG _)) gg))
end
section
variable {D:lB} {E:fX} {F:Lv} {μ μ':bO} {X:List Nat} {st st':St} {T T':List MO} {ve:aB} {pe:bD} {x:VX} {x':KX}
theorem px (S:pt E F):∀{es:List aC} {T:List MO} {st:St} {μ:bO} {k:Ct} {y:List PV->St->Prop},tV E ve x es T k->eV μ X T st->fL X μ st ve pe->ip X (UH X) μ T st k y->eG X μ T st x x'->tT F pe x' es st y:=by
 intro es;induction es with
 | nil=>intro T st μ k y h R O L _;exact L .refl R .nil h
 | cons e es P=>intro T st μ k y h R O L G;refine ah (aQ h) λh1 h=>⟨h1,S.ev h R O (λY Y Y Y Y f I r h=>P h I (O.go f) (λY Y Y Y Y g J V h=>L (f.trans g) J (.cons (r.go g) V) h) (G.go f)) G⟩
theorem oh {cs:List (aU × (Nat ⊕ TV))} {ds:List (aU × Nat)} (h:jh X μ st cs ds) {n:aU} {c:Nat ⊕ TV} (e:cs.lookup n=ac c):∃b,ds.lookup n=ac b∧uU X μ st c b:=
 (gl.lookup (R:=uU X μ st) h n).1 c e
theorem yi {v:PV} {w:TV} (h:EQ v=ac w):TR μ X st w v:=by
 induction v with
 | none=>refine bZ (fm h) ?_;exact .none
 | bool b=>refine bZ (fm h) ?_;exact .bool b
 | int b=>refine bZ (fm h) ?_;exact .int b
 | str b=>refine bZ (fm h) ?_;exact .str b
 | bytes b=>refine bZ (fm h) ?_;exact .bytes b
 | loc b=>exact n1 h
 | ref b=>refine bZ (fm h) ?_;exact .ref b
 | bi b=>refine bZ (fm h) ?_;exact .bi b
 | ty b=>refine bZ (fm h) ?_;exact .ty b
theorem yj {id:aU} {k:VK} {y:KV} (R:eV μ X T st) (O:fL X μ st ve pe) (h:bV (ve.cells.lookup id) False λc=>ER c T k) (L:ip X (RV X) μ T st k y):
  ∃c p,pe.cells.lookup id=ac c∧st[c]? =ac (.cell (ac p))∧y p st:=by
 refine ae (aR h) λc h1 h=>ae (oh O.cells h1) λb e G=>?_;induction c with
 | inr v=>refine bP G λp f e1 r=>?_;clear G;exact ⟨b,p,e,e1,L .refl R r h⟩
 | inl c=>
  refine ae G λq V I=>?_;clear G;subst I;refine ae (aR h) λo h2 h=>?_;induction o with
  | cell v=>
   induction v using cw with
   | none=>exact h.elim
   | some v=>
    refine ae (R.objs V h2) λo e1 r=>?_;induction o using cw with
    | none=>exact r.elim
    | some p=>exact ⟨_,p,e,e1,L .refl R r h⟩
  | _=>exact h.elim
theorem Gk (O:i5 K D) {id:aU} {k:VK} {y:KV} (R:eV μ X T st) (G:fL X μ st ve pe) (h:Lj D id ve T k) (L:ip X (RV X) μ T st k y):si K id pe st y:=by
 refine ae (aR h) λS h1 h=>?_;rw [← G.sc] at h1;induction S with
 | «local»=>refine ae (aR h) λv h2 h=>?_;refine ae ((gl.lookup G.loc id).1 v h2) λp e r=>.loc h1 e (L .refl R r h)
 | cell=>refine bz (yj R G h L) λc p e1 e2 h=>?_;exact .cell h1 e1 e2 h
 | free=>refine ah (aQ h) λh2 h=>?_;refine bz (yj R G h L) λc p e1 e2 h=>.free h1 e1 e2 (λe=>by rw [e] at h2;revert h2;decide) h
 | globalImplicit=>refine ae (aR h) λv h2 h=>?_;refine ae (aR h) λw I h=>.glob h1 (O.glob h2) (L .refl R (yi I) h)
 | _=>exact h.elim
theorem Gl (S:pt E F) {op:jD}:∀{es:List aC} {T:List MO} {st:St} {μ:bO} {k:VK} {y:KV},BA E ve x op es T k->eV μ X T st->fL X μ st ve pe->ip X (RV X) μ T st k y->eG X μ T st x x'->sj F pe x' op es st y:=by
 intro es;induction es with
 | nil=>intro T st μ k y h;exact h.elim
 | cons e es P=>
  intro T st μ k y h R O L G;induction es using aX with
  | nil=>exact S.ev h R O L G
  | cons e2 es=>
   refine S.ev h R O (λY Y Y Y Y f I r h=>?_) G;refine ae (r.iB h) λb J h=>ag J ⟨b,rfl,?_⟩;induction op <;> induction b
   ·exact L f I (.bool _) h
   ·exact P h I (O.go f) (L.go f) (G.go f)
   ·exact P h I (O.go f) (L.go f) (G.go f)
   ·exact L f I (.bool _) h
theorem Jz (S:pt E F) {op:jD}:∀{es:List aC} {T:List MO} {st:St} {μ:bO} {k:Bool->List MO->Prop} {y:Bool->St->Prop},IK E ve x op es T k->eV μ X T st->fL X μ st ve pe->ip X RB μ T st k y->eG X μ T st x x'->Cp F pe x' op es st y:=by
 intro es;induction es with
 | nil=>intro T st μ k y h R O L _;rcases op with _ | _ <;> exact L .refl R rfl h
 | cons e es P=>
  intro T st μ k y h R O L I;refine S.evT h R O (λY Y Y b Y f G r h=>?_) I;subst r;rcases op with _ | _ <;> induction b
  ·exact L f G rfl h
  ·exact P h G (O.go f) (L.go f) (I.go f)
  ·exact P h G (O.go f) (L.go f) (I.go f)
  ·exact L f G rfl h
theorem Ah {μ':bO} {st':St} {a:TV} {p q:PV} (h:EY a=au) (G:TR μ X st a p) (I:TR μ' X st' a q):p=q:=by
 cases a with
 | int i=>exact G.inv.trans I.inv.symm
 | _=>cases h
theorem Dh {μ':bO} {st':St} {xs:List TV}:∀{J O:List PV},mT xs=au->eK μ X st xs J->eK μ' X st' xs O->J=O:=by
 induction xs with
 | nil=>intro J O _ G I;exact G.inv.trans I.inv.symm
 | cons a xs S=>intro J O h G I;refine ah (aD.mp h) λh1 h2=>cN G.inv λ_ _ P=>?_;obtain ⟨rfl,a1,G⟩:=P;refine cN I.inv λ_ _ P=>?_;obtain ⟨rfl,V,I⟩:=P;exact ag (S h2 G I ..) (ag (Ah h1 a1 V ..) rfl)
def Gm {k:List TV->lI->Prop}:Prop:=∀{v:TV} {p:PV} (R:eV μ X T st) (r:TR μ X st v p) (h:Cy v T k),∃G g ps I,k G g∧eK μ X st G ps∧∀{μ' st' T'},fQ μ T st μ' T' st'->eV μ' X T' st'->pW g T'->rn st' p (ps.map .inl,I)
noncomputable def eP:=rm <| U λμ=>U λX=>U λst=>U λT=>@Gm μ X st T
theorem BU {k}:@Gm μ X st T k:=jX (c:=eP) rfl (by
 intro v p R r h;have Ec:∀{j:Nat} {p:Nat × Nat} {es n g μ' st' T'},eP.1[j]? =ac p->eP.2.2.2.1[j]? =ac (.dict es n g)->fQ eP.1 eP.2.2.2.1 eP.2.2.1 μ' T' st'->pW (ac (j,.dict es n g)) T'->st'[p.1]? =eP.2.2.1[p.1]? :=λG V f g=>by refine gz (f.ver G V) λes' v' g' e _ h=>?_;cases e.symm.trans g;exact h rfl
 have O:∀{es gs},iM eP.1 eP.2.1 eP.2.2.1 es gs->eK eP.1 eP.2.1 eP.2.2.1 (es.map (·.2.1)) (gs.map (·.2.1)):=λh=>by
  induction h with
  | nil=>exact .nil
  | cons h _ P=>exact .cons h.2.1 P
 have vals:∀{es gs},iM eP.1 eP.2.1 eP.2.2.1 es gs->eK eP.1 eP.2.1 eP.2.2.1 (es.map (·.2.2)) (gs.map (·.2.2)):=λh=>by
  induction h with
  | nil=>exact .nil
  | cons h _ P=>exact .cons h.2.2 P
 cases v with
 | lst xs=>obtain ⟨_,_,rfl,f,h1,r⟩:=r.inv;obtain ⟨h2,h⟩:=aQ h;exact ⟨_,_,_,.list,h,r,λg Y Y=>.list (g.obj f h1).2 (r.length▸cv h2)⟩
 | tup xs=>obtain ⟨_,_,rfl,f,h1,r⟩:=r.inv;obtain ⟨h2,h⟩:=aQ h;exact ⟨_,_,_,.tup,h,r,λg Y Y=>.tup (g.obj f h1).2 (r.length▸cv h2)⟩
 | str s=>
  cases r.inv;refine ah (aQ h) λh2 h=>ah (aD.mp h2) λh2 I=>?_;have W:∀l:List Nat,eK eP.1 eP.2.1 eP.2.2.1 (l.map λc=>TV.str ⟨#[c]⟩) (l.map λc=>PV.str ⟨#[c]⟩):=by
   intro l;induction l with
   | nil=>exact .nil
   | cons a l P=>exact .cons (.str _) P
  exact ⟨_,_,_,.str,h,W _,λY Y Y=>by refine ag (bx ..) ?_;exact .str (cv h2) I⟩
 | range n=>
  refine bP r.inv λ_ J f h1=>?_;subst J;refine ah (aQ h) λh2 h=>?_;have il:∀l:List Nat,eK eP.1 eP.2.1 eP.2.2.1 (l.map λj=>TV.int (aL j)) (l.map λj=>PV.int (aL j)):=by
   intro l;induction l with
   | nil=>exact .nil
   | cons a l P=>exact .cons (.int _) P
  exact ⟨_,_,_,.range,h,il _,λg Y Y=>by refine ag (bx ..) ?_;exact .range (g.obj f h1).2 (cv h2)⟩
 | loc j=>
  refine ae r.inv λp J G=>?_;subst J;refine ae (aR h) λo V h=>?_;induction o with
  | list xs=>refine ae (R.objs G V) λys h1 rx=>?_;refine ah (aQ h) λh2 h=>ah (aD.mp h2) λh2 I=>⟨_,_,ys,.list,h,rx,λ{μ' st' T'} f R' g=>?_⟩;refine ae (R'.objs (f.slot G) g) λys' h1' S=>ag (Dh h2 rx S ..) (.list h1' (S.length▸cv I))
  | dict es n g=>obtain ⟨_,gs,ep,h1,y⟩:=R.objs G V;refine ah (aQ h) λh2 h=>⟨_,_,gs.map (·.2.1),.dict ep,h,O y,λ{μ' st' T'} f R' g=>?_⟩;refine ag (bx ..) (.dict ((Ec G V f g).trans h1) (y.length▸cv h2))
  | _=>exact h.elim
 | vals j=>
  refine d6 r.inv λi p z f G h1=>?_;subst z;refine ae (aR h) λo V h=>?_;induction o with
  | dict es n g=>obtain ⟨_,gs,ep,I,y⟩:=R.objs G V;refine ah (aQ h) λh2 h=>⟨_,_,gs.map (·.2.2),.vals p.1 ep,h,vals y,λ{μ' st' T'} g R' hg=>?_⟩;refine ag (bx ..) (.vals (g.obj f h1).2 ((Ec G V g hg).trans I) (y.length▸cv h2))
  | _=>exact h.elim
 | _=>exact h.elim) (μ,X,st,T,k)
end
section
variable {D:lB} {E:fX} {F:Lv} {X:List Nat} {x:VX} {x':KX}
theorem yk (S:pt E F):∀{G:List aC} {vs:List TV} {ps:List PV} {ve:aB} {pe:bD} {T:List MO} {st:St} {μ:bO} {k:aB->List MO->Prop} {y:bD->St->Prop},BB E x G vs ve T k->eV μ X T st->fL X μ st ve pe->eK μ X st vs ps->tc X μ T st k y->eG X μ T st x x'->EK F x' G ps pe st y:=by
 intro G;induction G with
 | nil=>
  intro vs ps ve pe T st μ k y h R O r L _;induction vs using aX with
  | nil=>refine ag r.inv ?_;exact L .refl R O h
  | cons _ _=>exact h.elim
 | cons t G W=>
  intro vs ps ve pe T st μ k y h R O r L J;induction vs using aX with
  | nil=>exact h.elim
  | cons v vs=>refine cN r.inv λ_ _ l=>?_;obtain ⟨rfl,V,r⟩:=l;refine ah (aQ h) λh1 h=>⟨h1,S.asg h R O V (λY Y Y Y Y f P I h=>W h P I (r.go f) (L.go f) (J.go f)) J⟩
def LJ (X:List Nat) (μ:bO) (st:St):TV ⊕ (TV × TV)->jc->Prop
 | .inl v,.inl p=>TR μ X st v p
 | .inr (a,b),.inr (p,q)=>TR μ X st a p∧TR μ X st b q
 | _,_=>False
theorem LJ.go {μ μ':bO} {T T':List MO} {st st':St} (f:fQ μ T st μ' T' st') {a:TV ⊕ (TV × TV)} {b:jc} (h:LJ X μ st a b):LJ X μ' st' a b:=by rcases a with _ | _ <;> rcases b with _ | _ <;> first | exact h.elim | exact TR.go f h | exact ⟨TR.go f h.1,TR.go f h.2⟩
theorem Di (S:pt E F) {G:aC} {it:TV ⊕ (TV × TV)} {p:jc} {ve:aB} {pe:bD} {T:List MO} {st:St} {μ:bO} {k:aB->List MO->Prop} {y:bD->St->Prop} (h:gA E G it ve T k x) (R:eV μ X T st) (O:fL X μ st ve pe) (r:LJ X μ st it p) (L:tc X μ T st k y) (J:eG X μ T st x x'):kP F G pe st y x' p:=by
 induction it with
 | inl v=>induction p with
  | inl p=>exact .one (S.asg h R O r L J)
  | inr _=>exact r.elim
 | inr ab=>
  obtain ⟨a,b⟩:=ab;induction p with
  | inl _=>exact r.elim
  | inr f=>
   obtain ⟨p,q⟩:=f;induction G using ey with
   | Tuple P c tp=>refine cK (LI h) λ_ _ I h=>?_;subst I;refine ah (aQ h) λh1 h=>.two rfl rfl h1 (yk S h R O (.cons r.1 (.cons r.2 .nil)) L J)
   | _=>exact h.elim
theorem nt (S:pt E F):∀{b:List cg} {ve:aB} {pe:bD} {T:List MO} {st:St} {μ:bO} {k:aO->aB->List MO->Prop} {y:dL->bD->St->Prop},bl E b ve T k x->eV μ X T st->fL X μ st ve pe->ta X μ T st k y->eG X μ T st x x'->execs F b pe st y x':=by
 intro b;induction b with
 | nil=>intro ve pe T st μ k y h R O L _;exact L .refl R .next O h
 | cons s b V=>
  intro ve pe T st μ k y h R O L I;refine S.exec h R O (λY Y Y Y Y Y Y f J P G h=>?_) I;induction P using OM.casesOn with
  | next=>exact V h J G (L.go f) (I.go f)
  | ret r=>exact L f J (.ret r) G h
theorem BV (S:pt E F) {O:aC} {body:List cg} {g:lI} {G:St->Prop}:∀{y:List (TV ⊕ (TV × TV))} {ps:List jc} {ve:aB} {pe:bD} {T:List MO} {st:St} {μ:bO} {k:aO->aB->List MO->Prop} {V:dL->bD->St->Prop},
  gv E O body g y ve T k x->eV μ X T st->fL X μ st ve pe->gl (LJ X μ st) y ps->(∀{μ' st' T'},fQ μ T st μ' T' st'->eV μ' X T' st'->pW g T'->G st')->ta X μ T st k V->eG X μ T st x x'->mM F O body G ps pe st V x':=by
 intro y;induction y with
 | nil=>intro ps ve pe T st μ k V h R W r P L _;cases r;have h:=nU h;exact ⟨P .refl R h.1,L .refl R .next W h.2⟩
 | cons it y ih=>
  intro ps ve pe T st μ k V h R W r P L p;cases r with | cons hr r=>
  have h:=nU h;refine ⟨P .refl R h.1,Di S h.2 R W hr (λY Y Y Y Y f R1 l h=>nt S h R1 l (λY Y Y Y Y Y Y J z fl I h=>?_) (p.go f)) p⟩;induction fl using OM.casesOn with
  | next=>exact ih h z I (r.mono λq=>LJ.go (f.trans J) q) (λf3=>P ((f.trans J).trans f3)) (L.go (f.trans J)) (p.go (f.trans J))
  | ret q=>exact L (f.trans J) z (.ret q) I h
theorem Dj (S:pt E F):∀{es:List aC} {ve:aB} {pe:bD} {T:List MO} {st:St} {μ:bO} {k:Bool->List MO->Prop} {y:Bool->St->Prop},jA E ve es T k->eV μ X T st->fL X μ st ve pe->ip X RB μ T st k y->vy F pe x' es st y:=by
 intro es;induction es with
 | nil=>intro ve pe T st μ k y h R O L;exact L .refl R rfl h
 | cons e es P=>
  intro ve pe T st μ k y h R O L;refine S.evT h R O (λY Y Y b Y f G r h=>?_) eG.no;subst r;induction b with
  | true=>exact P h G (O.go f) (L.go f)
  | false=>exact L f G rfl h
end
section
variable {D:lB} {E:fX} {F:Lv} {X X':List Nat} {x:VX} {x':KX}
theorem io.mv {μ μ':bO} {st st':St} (a:Mv X μ st X' μ' st') {fs gs} (h:io μ X st fs gs):io μ' X' st' fs gs:=h.mono λ⟨e,r⟩=>⟨e,r.mv a⟩
theorem iM.mv {μ μ':bO} {st st':St} (a:Mv X μ st X' μ' st') {fs gs} (h:iM μ X st fs gs):iM μ' X' st' fs gs:=h.mono λ⟨e,r,q⟩=>⟨e,r.mv a,q.mv a⟩
theorem MR.mv {μ μ':bO} {st st':St} (a:Mv X μ st X' μ' st') {p:Nat × Nat} {o:MO} (h:MR μ X st p o) (h1:st'[p.1]? =st[p.1]?) (h2:st'[p.2]? =st[p.2]?):MR μ' X' st' p o:=by
 induction o with
 | inst C fs=>obtain ⟨e1,gs,e2,r⟩:=h;exact ⟨h1.trans e1,gs,h2.trans e2,io.mv a r⟩
 | dict es _ _=>obtain ⟨q,gs,ep,e,r⟩:=h;exact ⟨q,gs,ep,h1.trans e,iM.mv a r⟩
 | list xs=>refine ae h λG e r=>?_;clear h;exact ⟨G,h1.trans e,r.mv a⟩
 | cell v=>refine ae h λo e r=>?_;clear h;refine ⟨o,h1.trans e,?_⟩;rcases v with _ | _ <;> rcases o with _ | _ <;> first | exact TR.mv a r | exact r
 | codes P used=>exact h1.trans h
theorem fL.mv {μ μ':bO} {st st':St} (a:Mv X μ st X' μ' st') {ve:aB} {pe:bD} (h:fL X μ st ve pe):fL X' μ' st' ve pe:=
 ⟨h.sc,io.mv a h.loc,h.cells.mv a,λi e=>let ⟨p,q,r⟩:=h.tab i e;⟨p,a.slot q,r⟩⟩
theorem eV.setX {μ:bO} {T:List MO} {st:St} {i:Nat} {po:PO} (R:eV μ X T st) (h:i∈X):eV μ X T (st.set i po) where
 len:=R.len
 one:=R.one
 notX:=R.notX
 lt:=by refine ag (fW ..) ?_;exact R.lt
 ltX:=by refine ag (fW ..) ?_;exact R.ltX
 zero:=R.zero
 objs:=λG V=>by exact (R.objs G V).mv (Mv.setX h) (bn λe=>(R.notX _ (aN G)).1 (by refine bZ (e ..) ?_;exact h)) (bn λe=>(R.notX _ (aN G)).2 (by refine bZ (e ..) ?_;exact h))
theorem Mv.asides {μ:bO} {st:St} {L:List Nat} (r:List PO) (h1:∀l∈L,st.length≤l):Mv X μ st (L++X) μ (st++r):=
 ⟨λh=>h,λf e=>by
  have hi:=(ao.mp e).1;refine ⟨⟨f.1,λm=>?_⟩,(ax hi).trans e⟩;refine bk (bb.mp m) (λm=>?_) λm=>?_
  ·exact gO _ (dh hi (h1 _ m))
  ·exact f.2 m⟩
theorem eV.asides {μ:bO} {T:List MO} {st:St} {L:List Nat} (R:eV μ X T st) (r:List PO) (h1:∀l∈L,st.length≤l) (h2:∀l∈L,l <(st++r).length):eV μ (L++X) T (st++r):=by
 have J:=R.app r;have y:∀{i},i <st.length->i∉X->i∉L++X:=λhi n m=>by
  rcases bb.mp m with m | m
  ·exact gO _ (dh hi (h1 _ m))
  ·exact n m
 refine ⟨R.len,R.one,λp G=>⟨y (R.lt p G).1 (R.notX p G).1,y (R.lt p G).2 (R.notX p G).2⟩,J.lt,λi hi=>?_,R.zero,λG V=>?_⟩
 ·rcases bb.mp hi with m | m
  ·exact h2 i m
  ·exact J.ltX i m
 ·have:=R.lt _ (aN G);exact (R.objs G V).mv (Mv.asides r h1) (ax this.1) (ax this.2)
theorem Mv.aside {μ:bO} {st:St} {l:Nat} (r:List PO) (h1:st.length≤l):Mv X μ st (l::X) μ (st++r):=Mv.asides (L:=[l]) r λY h=>aV.mp h▸h1
theorem eV.aside {μ:bO} {T:List MO} {st:St} {l:Nat} (R:eV μ X T st) (r:List PO) (h1:st.length≤l) (h2:l <(st++r).length):eV μ (l::X) T (st++r):=R.asides (L:=[l]) r (λY h=>aV.mp h▸h1) λY h=>aV.mp h▸h2
theorem Mv.back {μ:bO} {st:St} {l:Nat}:Mv (l::X) μ st X μ st:=⟨λh=>h,λf e=>⟨⟨f.1,λm=>f.2 (aE _ m)⟩,e⟩⟩
theorem eV.back {μ:bO} {T:List MO} {st:St} {l:Nat} (R:eV μ (l::X) T st):eV μ X T st:=
 ⟨R.len,R.one,λp G=>⟨λm=>(R.notX p G).1 (aE _ m),λm=>(R.notX p G).2 (aE _ m)⟩,R.lt,λi hi=>R.ltX i (aE _ hi),R.zero,λG V=>(R.objs G V).mv Mv.back rfl rfl⟩
theorem fQ.setFar {G μ:bO} {T0 T:List MO} {I st:St} {l:Nat} {po:PO} (P:eV G X T0 I) (f:fQ G T0 I μ T st) (hl:I.length≤l):fQ G T0 I μ T (st.set l po):=
 ⟨f.ext,by refine ag (fW ..) ?_;exact f.len,λi hi V=>(bn (by lia)).trans (f.keep i hi V),λO y=>by refine gz (f.ver O y) λJ W S e h1 h2=>?_;have:=P.lt _ (aN O);exact ⟨J,W,S,e,h1,λq=>(bn (by lia)).trans (h2 q)⟩⟩
theorem Ai (S:pt E F) {elt tgt:aC} {ifs:List aC} {g:lI} {iv:PV} {all:List jc × wT} {l:Nat} {P:bO} {T0:List MO} {I:St} (R0:eV P X T0 I) (hl:I.length≤l)
  (hs:∀{μ' st' T'},fQ P T0 I μ' T' st'->eV μ' X T' st'->pW g T'->rn st' iv all) {k:Ct} {k':St->Prop}
  (L:∀{μ' st' T' acc G},fQ P T0 I μ' T' st'->eV μ' (l::X) T' st'->st'[l]? =ac (.list G)->eK μ' (l::X) st' acc G->k acc T'->k' st'):
  ∀{y:List TV} {ps:List PV} {ve:aB} {pe:bD} {T:List MO} {st:St} {μ:bO} {acc:List TV} {G:List PV},dH E elt tgt ifs g y ve T acc k->fQ P T0 I μ T st->eV μ (l::X) T st->fL (l::X) μ st ve pe->eK μ (l::X) st y ps->
   st[l]? =ac (.list G)->eK μ (l::X) st acc G->pP F elt tgt ifs iv all l (ps.map .inl) pe st k' (λY Y=>False):=by
 intro y;induction y with
 | nil=>intro ps ve pe T st μ acc G h f R Er r W ra;refine ag r.inv ?_;have h:=nU h;exact ⟨hs f R.back h.1,L f R W ra h.2⟩
 | cons it y ih=>
  intro ps ve pe T st μ acc G h f R Er r W ra;refine cN r.inv λ_ _ qq=>?_;obtain ⟨rfl,hr,r⟩:=qq;have z:∀{μ' T' st'},fQ μ T st μ' T' st'->st'[l]? =ac (.list G):=λg=>
   (g.keep l (R.ltX l (aA ..)) λp W=>⟨λe=>(R.notX p W).1 (by refine ag (e ..) ?_;exact aA ..),λe=>(R.notX p W).2 (by refine ag (e ..) ?_;exact aA ..)⟩).trans W
  have h:=nU h;refine ⟨hs f R.back h.1,.one (S.asg h.2 R Er hr (λY Y Y Y Y f1 R1 J h=>Dj S h R1 J λY Y Y b Y V R2 rb h=>?_) eG.no)⟩;subst rb;induction b with
  | true=>refine S.ev h R2 (J.go V) (λY Y Y Y Y f3 R3 rv h=>?_) eG.no;have O:=(f1.trans V).trans f3;refine ah (aQ h) λh1 h=>⟨G,z O,ra.length▸cv h1,?_⟩;exact ih h (fQ.setFar R0 (f.trans O) hl) (R3.setX (aA ..)) ((J.go V).go f3 |>.mv (Mv.setX (aA ..))) ((r.go O).mv (Mv.setX (aA ..))) (bL (R3.ltX l (aA ..))) (((ra.go O).append (.cons rv .nil)).mv (Mv.setX (aA ..)))
  | false=>exact ih h (f.trans (f1.trans V)) R2 (J.go V) (r.go (f1.trans V)) (z (f1.trans V)) (ra.go (f1.trans V))
end
section
variable {D:lB} {E:fX} {F:Lv} {X:List Nat} {x:VX} {x':KX} {μ:bO} {T:List MO} {st:St} {ve:aB} {pe:bD}
theorem qW {cells:List (aU × (Nat ⊕ TV))} {G:List (aU × Nat)} (h:jh X μ st cells G):∀{names:List (aU × fM)} {cs:List (aU × (Nat ⊕ TV))} {ds:List (aU × Nat)} {J:List (aU × (Nat ⊕ TV))},jh X μ st cs ds->lj cells names cs=ac J->∃I,gX G names ds=ac I∧jh X μ st J I:=by
 intro names;induction names with
 | nil=>intro cs ds J r e;refine bZ (fm e) ⟨ds,rfl,r⟩
 | cons n names P=>
  obtain ⟨n,S⟩:=n;intro cs ds J r e;induction S with
  | free=>refine ae (ai.mp e) λc e1 e=>?_;refine ae (oh h e1) λb h2 h1=>ae (P (cs:=(n,c)::cs) (ds:=(n,b)::ds) (.cons ⟨rfl,h1⟩ r) e) λI e3 O=>⟨I,?_,O⟩;unfold gX;refine ag (if_pos rfl ..) (ag (h2 ..) ?_);exact e3
  | _=>refine ae (P r e) λI e3 O=>?_;refine ⟨I,?_,O⟩;unfold gX;refine ag (if_neg (λq=>nomatch q) ..) e3
theorem oj {sc:d9} (h:rN sc=au):sc.kind=.function∧(sc.names.all λp=>decide (p.2≠.cell))=au:=by
 refine ah (aD.mp h) λh1 h2=>⟨beq_iff_eq.mp h1,?_⟩
 ·rw [co] at h2 ⊢;intro p G;exact decide_eq_true (bne_iff_ne.mp (h2 p G))
theorem eV.promote {l:Nat} {acc:List TV} {G:List PV} (R:eV μ (l::X) T st) (r:l∉X) (Y:st[l]? =ac (.list G)) (ra:eK μ (l::X) st acc G):eV (μ++[(l,l)]) X (T++[.list acc]) st:=by
 have z:∀q∈μ,q.1≠l∧q.2≠l:=λq V=>⟨λe=>(R.notX q V).1 (by refine ag (e ..) ?_;exact aA ..),λe=>(R.notX q V).2 (by refine ag (e ..) ?_;exact aA ..)⟩;have m:Mv (l::X) μ st X (μ++[(l,l)]) st:=⟨λh=>by refine ag (ax (ao.mp h).1) ?_;exact h,λ{i o} f e=>⟨⟨λq V=>by
  refine bk (bb.mp V) (λV=>?_) λV=>?_
  ·exact f.1 q V
  ·refine ag (aV.mp V ..) ?_;have:l≠i:=λe=>f.2 (by refine ag (e ..) ?_;exact aA ..);exact ⟨this,this⟩,λh=>f.2 (aE _ h)⟩,e⟩⟩
 have I:∀{j:Nat} {q:Nat × Nat},(μ++[(l,l)])[j]? =ac q->(μ[j]? =ac q)∨(j=μ.length∧q=(l,l)):=λ{j q} h=>by
  refine bk (lz j μ.length) (λS=>?_) λS=>?_
  ·rw [ax S] at h;exact .inl h
  ·rw [bA S] at h;refine aI (ao.mp h) λp e=>?_;have W:j - μ.length=0:=by simpa using p
   refine .inr ⟨by exact by lia,?_⟩;refine bZ (e ..) ?_;simp [W]
 refine ⟨by refine ag (aJ ..) (ag (aJ ..) (ag (R.len ..) ?_));rfl,?_,?_,?_,λi hi=>R.ltX i (aE _ hi),?_,?_⟩
 ·intro i j q q' V y e;rcases I V with a | ⟨rfl,rfl⟩<;> rcases I y with b | ⟨rfl,rfl⟩
  ·exact R.one a b e
  ·have:=z _ (aN a);exact by lia
  ·have:=z _ (aN b);exact by lia
  ·rfl
 ·intro q V;rcases bb.mp V with V | V
  ·exact ⟨λh=>(R.notX q V).1 (aE _ h),λh=>(R.notX q V).2 (aE _ h)⟩
  ·refine ag (aV.mp V ..) ⟨r,r⟩
 ·intro q V;rcases bb.mp V with V | V
  ·exact R.lt q V
  ·refine ag (aV.mp V ..) ⟨R.ltX l (aA ..),R.ltX l (aA ..)⟩
 ·intro P used e;refine bk (lz 0 T.length) (λh0=>?_) λh0=>?_
  ·rw [ax h0] at e;exact m.slot (R.zero e)
  ·have:T=[]:=w4 (VB.mp h0);rw [this] at e;exact nomatch e
 ·intro j q o' V O;refine bk (I V) (λa=>?_) λJ=>?_
  ·have S:j <T.length:=R.len▸(ao.mp a).1;rw [ax S] at O;exact (R.objs a O).mv m rfl rfl
  ·refine ah J λe0 e1=>?_;clear J;subst e0;subst e1;rw [R.len,bA (aG _),fx] at O;refine bZ (fm O) ⟨G,Y,ra.mv m⟩
theorem fQ.promote {G:bO} {T0:List MO} {I:St} {l:Nat} {o:MO} (f:fQ G T0 I μ T st) (hl:I.length≤l):fQ G T0 I (μ++[(l,l)]) (T++[o]) st:=by
 refine ae f.ext λν e h=>⟨⟨ν++[(l,l)],by exact ag (e ..) (ag (bI ..) rfl),λq V=>?_⟩,f.len,f.keep,λJ y=>?_⟩
 ·refine bk (bb.mp V) (λV=>?_) λV=>?_
  ·exact h q V
  ·refine ag (aV.mp V ..) ⟨hl,hl⟩
 ·refine gy (f.ver J y) λes v g e1 r=>?_;exact ⟨es,v,g,by refine ag (ax (ao.mp e1).1) ?_;exact e1,r⟩
theorem yl (S:pt E F) {y P iter:aC} {ifs:List aC} {scope:d9} {p:cP} {k:VK} {k':KV} (h:EZ D E y P iter ifs scope p ve T k x) (R:eV μ X T st) (V:fL X μ st ve pe) (L:ip X (RV X) μ T st k k') (Lx:eG X μ T st x x'):comp F y P iter ifs scope pe st k' x':=by
 refine ah (aQ h) λh1 h=>?_;simp only [bq] at h1;refine ah h1 λO h3=>?_;clear h1;refine ah O λh1 h2=>?_;clear O;refine ah (oj h1) λh4 h5=>ae (aR h) λcs e h=>ae (qW V.cells (.nil) e) λds e2 rc=>⟨h4,h5,h2,h3,ds,e2,S.ev h R V (λμ1 I T1 v p1 f G rv h=>?_) Lx⟩;refine gS (BU G rv h) λJ g ps r h ri Y=>?_;have hl:I.length≤I.length:=aG _;refine ⟨(ps.map .inl,r),Y .refl G ?_,Ai S G hl Y (λ{μ' st' T' acc pacc} f' R' hp ra h=>?_) h (fQ.app G _) (G.aside [PO.list []] hl (by refine ag (aJ ..) ?_;exact eQ _)) ?_ (ri.mv (Mv.aside _ hl)) gg .nil⟩
 ·rcases J with _ | _ <;> exact (nU h).1
 ·refine bk (m7 h) (λW=>?_) λl=>?_
  ·obtain ⟨_,h⟩:=W;have hT:T'.length=μ'.length:=R'.len.symm;rw [hT] at h;exact L (f.trans (fQ.promote f' hl)) (R'.promote (λq=>gO _ (G.ltX _ q)) hp ra) (.loc (p:=(I.length,I.length)) (by refine ag (bA (aG _)) (ag (fx ..) ?_);rfl)) h
  ·obtain ⟨_,h⟩:=l;exact L (f.trans f') R'.back (.lst ⟨λq z=>⟨λe=>(R'.notX q z).1 (by refine ag (e ..) ?_;exact aA ..),λe=>(R'.notX q z).2 (by refine ag (e ..) ?_;exact aA ..)⟩,λq=>gO _ (G.ltX _ q)⟩ hp (ra.mv Mv.back)) h
 ·exact ⟨by show eO pe.sc scope=_;exact ag (V.sc ..) rfl,.nil,(rc.mv f.mv).mv (Mv.aside _ hl),λi e=>nomatch e⟩
end
section
variable {D:lB} {E:fX} {F:Lv} {X:List Nat} {x:VX} {x':KX} {μ:bO} {T:List MO} {st:St} {ve:aB} {pe:bD}
theorem eV.lay {o:MO} {po:PO} (R:eV μ X T st) (G:∀P used,o≠.codes P used) (O:∀μ',Mv X μ st X μ' (st++[po])->MR μ' X (st++[po]) (st.length,st.length) o):
  eV (μ++[(st.length,st.length)]) X (T++[o]) (st++[po])∧fQ μ T st (μ++[(st.length,st.length)]) (T++[o]) (st++[po])∧TR (μ++[(st.length,st.length)]) X (st++[po]) (.loc T.length) (.loc st.length):=by
 have f:fQ μ T st (μ++[(st.length,st.length)]) T (st++[po]):=⟨⟨[_],rfl,λq V=>by refine ag (aV.mp V ..) ?_;exact ⟨aG _,aG _⟩⟩,(fQ.app R [po]).len,(fQ.app R [po]).keep,(fQ.app R [po]).ver⟩;have hl:st.length <(st++[po]).length:=by refine ag (aJ ..) ?_;exact eQ _
 have N:=R.new (r:=[po]) (p:=(st.length,st.length)) (o:=o) (aG _) (aG _) hl hl G (O _ f.mv);refine ⟨N.1,N.2,.loc (p:=(st.length,st.length)) ?_⟩;refine bZ (R.len ..) (ag (bA (aG _)) (ag (fx ..) ?_));rfl
theorem wi (S:pt E F) {o:Option aC} {k:Option TV->List MO->Prop} {y:Option PV->St->Prop} (h:IM E ve x o T k) (R:eV μ X T st) (O:fL X μ st ve pe)
  (L:ip X (λμ st (a:Option TV) (b:Option PV)=>match a,b with | some v,ac p=>TR μ X st v p | none,al=>True | _,_=>False) μ T st k y) (G:eG X μ T st x x'):Pr F pe x' o st y:=by
 induction o with
 | none=>exact L .refl R (a:=none) (b:=none) trivial h
 | some e=>exact S.ev h R O (λY Y Y v p f I r h=>L f I (a:=some v) (b:=some p) r h) G
abbrev UI (X:List Nat) (μ:bO) (st:St) (a:List TV) (b:List (PV × PV)):Prop:=gl (λa b=>TR μ X st a.1 b.1∧TR μ X st a.2 b.2) (E0.pairUp a) b
theorem JA (S:pt E F):∀{ks:List (Option aC)} {vs:List aC} {T:List MO} {st:St} {μ:bO} {k:Ct} {y:List (PV × PV)->St->Prop},tV E ve x (E0.pairE ks vs) T k->ks.all (·.isSome)=au->ks.length=vs.length->eV μ X T st->fL X μ st ve pe->ip X (UI X) μ T st k y->eG X μ T st x x'->Pq F pe x' ks vs st y:=by
 intro ks;induction ks with
 | nil=>
  intro vs T st μ k y h _ hl R O L _;induction vs using aX with
  | nil=>exact ⟨rfl,L .refl R (a:=[]) .nil h⟩
  | cons _ _=>cases hl
 | cons P ks r=>
  intro vs T st μ k y h J hl R O L G;induction vs using aX with
  | nil=>cases hl
  | cons e vs=>
   refine ah (aD.mp J) λp J=>?_;induction P with
   | none=>exact n3 p
   | some P=>refine ah (aQ h) λ_ h=>?_;refine ⟨_,_,_,rfl,rfl,S.ev h R O (λY Y Y Y Y f V z h=>?_) G⟩;refine ah (aQ h) λ_ h=>S.ev h V (O.go f) (λY Y Y Y Y g W r2 h=>?_) (G.go f);exact r h J (Vd hl) W ((O.go f).go g) (λY Y Y a b I l rs h=>L ((f.trans g).trans I) l (a:=_::_::a) (b:=_::b) (.cons ⟨(z.go g).go I,r2.go I⟩ rs) h) ((G.go f).go g)
theorem Dk:∀{cs:List (aU × (Nat ⊕ TV))} {ds G:List (aU × Nat)},jh X μ st cs ds->rP cs=ac G->n8 μ G ds:=by
 intro cs;induction cs with
 | nil=>intro ds G r e;cases r;refine bZ (fm e) .nil
 | cons c cs P=>
  intro ds G r e;obtain ⟨n,c⟩:=c;cases r with | cons h r=>
  induction c with
  | inl c=>refine ae (aF.mp e) λl e1 I=>?_;refine bZ I (.cons h (P r e1))
  | inr v=>exact n1 e
def Gn {k:VK} {y:KV}:Prop:=∀(O:i5 K D) (S:pt E F) {e:aC} (h:E0 D E e ve T k x) (R:eV μ X T st) (G:fL X μ st ve pe) (L:ip X (RV X) μ T st k y) (I:eG X μ T st x x'),oQ K F pe st y x' e
noncomputable def dC:=rm <| U λD=>U λE=>U λF=>U λX=>U λx=>U λx'=>U λμ=>U λT=>U λst=>U λve=>U λpe=>U λk=>@Gn D E F X x x' μ T st ve pe k
theorem Go {k k'}:@Gn D E F X x x' μ T st ve pe k k':=jX (c:=dC) rfl (by
 intro O S e h R I L J;induction e using ey with
 | Constant c kd p=>
  induction c with
  | none=>exact .const .none (L .refl R .none h)
  | bool b=>exact .const (.bool b) (L .refl R (.bool b) h)
  | int i=>exact .const (.int i) (L .refl R (.int i) h)
  | str s=>exact .const (.str s) (L .refl R (.str s) h)
  | bytes b=>exact .const (.bytes b) (L .refl R (.bytes _) h)
  | _=>exact h.elim
 | Name id p=>refine ah (aQ h) λh1 h=>?_;exact .name (by cases q:(id==("__debug__":aU)) with | false=>rfl | true=>rw [q] at h1;exact n3 h1) (Gk O R I h L)
 | Tuple es c p=>exact .tuple (px S h R I (λY Y Y Y Y f G r h=>by refine ah (aQ h) λh1 h=>?_;exact ⟨r.length▸cv h1,(L.go f).lay G h (.tup (G.fz (aG _)) gg (r.go (fQ.app G _)))⟩) J)
 | BoolOp op vs p=>exact .bool (Gl S h R I L J)
 | IfExp t b o p=>
  exact .ife (S.evT h R I (λY Y Y c Y f G rc h=>by
   subst rc;induction c with
   | true=>exact S.ev h G (I.go f) (L.go f) (J.go f)
   | false=>exact S.ev h G (I.go f) (L.go f) (J.go f)) J)
 | BinOp l op r p=>exact .bin (S.ev h R I (λY Y Y Y Y f G r1 h=>S.ev h G (I.go f) (λY Y Y Y Y g W r2 h=>Jv W (r1.go g) r2 h (L.go (f.trans g))) (J.go f)) J)
 | Attribute a name p=>refine ah (aQ h) λh1 h=>?_;exact .attr h1 (S.ev h R I (λY Y Y Y Y f G r h=>Gg O S G r h (L.go f)) J)
 | List es p=>
  exact .list (px S h R I (λμ1 st1 T1 vs ps f G r h=>by
   refine ah (aQ h) λh1 h=>⟨r.length▸cv h1,?_⟩;refine bk (m7 h) (λqo0=>?_) λqo1=>?_
   ·obtain ⟨_,h⟩:=qo0;refine eg (G.lay (o:=.list vs) (po:=.list ps) (λY Y e=>nomatch e) λμ' m=>⟨ps,gg,r.mv m⟩) λW f2 rl=>L (f.trans f2) W rl h
   ·obtain ⟨_,h⟩:=qo1;exact (L.go f).lay G h (.lst (G.fz (aG _)) gg (r.go (fQ.app G _)))) J)
 | UnaryOp op a p=>
  induction op with
  | Not=>exact .not (S.ev h R I (λY Y Y Y Y f G r h=>by refine ae (r.iB h) λb V h=>?_;refine ag V ⟨b,rfl,L f G (.bool _) h⟩) J)
  | USub=>exact .neg (S.ev h R I (λY Y Y Y Y f G r h=>by refine ae (r.iI h) λb V h=>?_;refine ag V ⟨b,rfl,L f G (.int _) h⟩) J)
  | _=>exact h.elim
 | Compare l ops z p=>refine ae (qT h) λop V h=>?_;refine ag V (ae (qT h) λr V h=>?_);refine ag V (ah (aQ h) λh1 h=>?_);exact .cmp (by cases q:gN op r with | false=>rfl | true=>rw [q] at h1;exact n3 h1) (S.ev h R I (λY Y Y Y Y f G r1 h=>S.ev h G (I.go f) (λY Y Y Y Y g W r2 h=>BS W (r1.go g) r2 h λt ht=>L (f.trans g) W (.bool t) ht) (J.go f)) J)
 | ListComp elt gens scope p=>refine ae (qT h) λpt0 V h=>?_;obtain ⟨tgt,iter,ifs,a⟩:=pt0;refine ag V (ah (aQ h) λh1 h=>?_);obtain rfl:=of_decide_eq_true h1;exact .comp (yl S h R I L J)
 | Call f args kws pos=>
  refine ah (BQ h) λeq0 h=>ag eq0 (ah (aQ h) λh1 h=>?_);refine ah (aD.mp h1) λh1 h2=>?_;have kp:∀{f:TV} {q:PV} {μ st},TR μ dC.2.2.2.1 st f q->ET dC.1 f=au->oO K q st:=λ{f q μ st} r hk=>by
   cases f with
   | ref a=>refine ag r.inv ?_;exact O.keep hk
   | bi _=>refine ag r.inv ?_;exact trivial
   | ty _=>refine ag r.inv ?_;exact trivial
   | lam _ _ _=>refine d6 r.inv λ_ _ eq2 f h _=>?_;refine ag eq2 ⟨_,h⟩
   | _=>exact n3 hk
  have plain:dC.2.1.ev f dC.2.2.2.2.2.2.2.2.2.1 dC.2.2.2.2.2.2.2.1 (λfv T1=>tV dC.2.1 dC.2.2.2.2.2.2.2.2.2.1 dC.2.2.2.2.1 args T1 λvs T2=>aW (ET dC.1 fv) (dC.2.1.call fv vs T2 dC.2.2.2.2.2.2.2.2.2.2.2.1 dC.2.2.2.2.1)) dC.2.2.2.2.1->oN f=au->oQ K dC.2.2.1 dC.2.2.2.2.2.2.2.2.2.2.1 dC.2.2.2.2.2.2.2.2.1 dC.2.2.2.2.2.2.2.2.2.2.2.2 dC.2.2.2.2.2.1 (.Call f args [] pos):=λh hn=>
   .call hn (cv h1) h2 (S.ev h R I (λY Y Y Y Y g G rf h=>px S h G (I.go g) (λY Y Y Y Y y W z h=>by refine ah (aQ h) λh3 h=>?_;exact ⟨kp (rf.go y) h3,S.call h W (rf.go y) z (L.go (g.trans y)) (J.go (g.trans y))⟩) (J.go g)) J)
  induction f using ey with
  | Attribute o name apos=>refine ah (aQ h) λh3 h=>?_;refine ah (aD.mp h3) λh3 h4=>?_;exact .mcall h3 (cv h1) h2 h4 (S.ev h R I (λY Y Y Y Y g G ro h=>Gh O G ro h λf q rf h=>px S h G (I.go g) (λY Y Y Y Y y W z h=>by refine ah (aQ h) λh5 h=>?_;exact ⟨kp (rf.go y) h5,S.call h W (rf.go y) (.cons (ro.go y) z) (L.go (g.trans y)) (J.go (g.trans y))⟩) (J.go g)) J)
  | _=>exact plain h rfl
 | Subscript a i p=>
  have plain:dC.2.1.ev a dC.2.2.2.2.2.2.2.2.2.1 dC.2.2.2.2.2.2.2.1 (λv T1=>dC.2.1.ev i dC.2.2.2.2.2.2.2.2.2.1 T1 (λw T2=>qM v w T2 dC.2.2.2.2.2.2.2.2.2.2.2.1) dC.2.2.2.2.1) dC.2.2.2.2.1->oQ K dC.2.2.1 dC.2.2.2.2.2.2.2.2.2.2.1 dC.2.2.2.2.2.2.2.2.1 dC.2.2.2.2.2.2.2.2.2.2.2.2 dC.2.2.2.2.2.1 (.Subscript a i p):=λh=>
   .sub (S.ev h R I (λY Y Y Y Y f G r1 h=>S.ev h G (I.go f) (λY Y Y Y Y g W r2 h=>Gi W (r1.go g) r2 h (L.go (f.trans g))) (J.go f)) J)
  induction i using ey with
  | Slice l u s sp=>
   exact .slice (S.ev h R I (λY Y Y v p f G r1 h=>wi S h G (I.go f) (λY Y Y lv lp f2 W rl h=>wi S h W ((I.go f).go f2) (λY Y Y uv up f3 R3 ru h=>wi S h R3 (((I.go f).go f2).go f3) (λY Y Y sv sp f4 R4 z h=>by
    refine Dc R4 (((r1.go f2).go f3).go f4) ?_ ?_ ?_ ?_ ?_ ?_ h (L.go (((f.trans f2).trans f3).trans f4))
    ·rintro v rfl;induction lp using cw with
     | none=>exact rl.elim
     | some q=>exact ⟨q,rfl,(TR.go f3 rl).go f4⟩
    ·rintro rfl;induction lp using cw with
     | none=>rfl
     | some q=>exact rl.elim
    ·rintro v rfl;induction up using cw with
     | none=>exact ru.elim
     | some q=>exact ⟨q,rfl,TR.go f4 ru⟩
    ·rintro rfl;induction up using cw with
     | none=>rfl
     | some q=>exact ru.elim
    ·rintro v rfl;induction sp using cw with
     | none=>exact z.elim
     | some q=>exact ⟨q,rfl,z⟩
    ·rintro rfl;induction sp using cw with
     | none=>rfl
     | some q=>exact z.elim) (((J.go f).go f2).go f3)) ((J.go f).go f2)) (J.go f)) J)
  | _=>exact plain h
 | Lambda args body scope pos=>
  refine ah (aQ h) λh1 h=>?_;simp only [bq,dJ] at h1;refine ah h1 λp0 h4=>?_;clear h1;(refine ah p0 ?_;clear p0;intro p0 h3;refine ah p0 λh1 h2=>?_;clear p0);refine ah (oj h2) λh5 h6=>ae (aR h) λcs e h=>ae (qW I.cells (.nil) e) λds e2 rcv=>ae (aR h) λcs' es h=>ae (aR h) λi e3 h=>ae (aR h) λo e4 h=>ae (I.tab i e3) λq hq ht=>?_;induction o with
  | codes P used=>
   refine ah (aQ h) λh7 h=>ah (R.set (po:=.codes P ((pos.line,pos.col)::used)) (o':=.codes P ((pos.line,pos.col)::used)) hq e4 (.inl rfl) (λY Y Y=>⟨_,_,rfl⟩) (λY Y Y e=>nomatch e) λf=>bL (ao.mp (R.objs hq e4)).1) λG f1=>.lam h1 h5 h3 h4 h6 e2 ht (R.objs hq e4) (λm=>?_) ?_
   ·have:(used.any λq=>b9 q.1 pos.line&&b9 q.2 pos.col)=au:=Ro.mpr ⟨_,m,by refine ag (jJ ..) (ag (jJ ..) ?_);rfl⟩;rw [this] at h7;exact nomatch h7
   ·have:=(L.go f1).lay (po:=.lam ⟨body,scope,ds⟩) G h (.lam (G.fz (aG _)) gg rfl rfl (Dk rcv es));rw [(fW)] at this;exact this
  | _=>exact h.elim
 | Dict ks vs p=>
  refine eg (R.lay (o:=gY [] 0) (po:=.dict [] 0) (λY Y e=>nomatch e) λμ' m=>⟨rfl,[],0,gg,.nil⟩) λG f1 rl=>?_;induction ks using aX with
  | nil=>refine ah (BQ h) λeq0 h=>?_;refine ag eq0 (.dict0 (L f1 G rl h))
  | cons ke ks=>refine ah (aQ h) λh1 h=>?_;simp only [bq] at h1;refine ah h1 λpt0 h3=>?_;clear h1;refine ah pt0 λh1 h2=>?_;clear pt0;exact .dict (λe=>nomatch e) h1 (bC h2) (cv h3) (JA S h h1 (bC h2) G (I.go f1) (λY Y Y Y Y f W z h=>Ag z W (rl.go f) h λg R3 h=>L ((f1.trans f).trans g) R3 ((rl.go f).go g) h) (J.go f1))
 | _=>exact h.elim) (D,E,F,X,x,x',μ,T,st,ve,pe,k,k')
end
section
variable {D:lB} {E:fX} {F:Lv} {X:List Nat} {x:VX} {x':KX} {μ:bO} {T:List MO} {st:St} {ve:aB} {pe:bD}
theorem JB (S:pt E F) {e:aC} {k:Bool->List MO->Prop} {y:Bool->St->Prop} (h:PM E e ve T k x) (R:eV μ X T st) (O:fL X μ st ve pe) (L:ip X RB μ T st k y) (G:eG X μ T st x x'):xc F pe st y x' e:=by
 have plain:E.ev e ve T (λv T1=>lF v (λb=>k b T1)) x->zu e=au->xc F pe st y x' e:=λh V=>
  .plain V (S.ev h R O (λY Y Y Y Y f I r h=>by refine ae (r.iB h) λb J h=>?_;subst J;exact ⟨b,rfl,L f I rfl h⟩) G)
 induction e using ey with
 | UnaryOp op a p=>
  induction op with
  | Not=>exact .not (S.evT h R O (λY Y Y Y Y f I r h=>by induction r;exact L f I rfl h) G)
  | _=>exact h.elim
 | BoolOp op vs p=>exact .bool (Jz S h R O L G)
 | IfExp t b o p=>exact h.elim
 | Compare l z rs p=>refine ae (qT h) λop J h=>?_;subst J;refine ae (qT h) λr J h=>?_;subst J;refine ah (aQ h) λh1 h=>.cmp (by cases q:gN op r with | false=>rfl | true=>rw [q] at h1;cases h1) (S.ev h R O (λY Y Y Y Y f I r1 h=>S.ev h I (O.go f) (λY Y Y Y Y g P r2 h=>BS P (r1.go g) r2 h λt W=>⟨t,rfl,L (f.trans g) P rfl W⟩) (G.go f)) G)
 | _=>exact plain h rfl
theorem fL.set {id:aU} {v:TV} {p:PV} (O:fL X μ st ve pe) (r:TR μ X st v p):fL X μ st (ve.set id v) (pe.set id p):=⟨O.sc,te r O.loc,O.cells,O.tab⟩
theorem JC (O:i5 K D) (S:pt E F) {t:aC} {v:TV} {p:PV} {k:aB->List MO->Prop} {k':bD->St->Prop} (h:PN D E t v ve T k x) (R:eV μ X T st) (G:fL X μ st ve pe) (J:TR μ X st v p) (L:tc X μ T st k k') (P:eG X μ T st x x'):vz K F p pe st k' x' t:=by
 induction t using ey with
 | Name id pos=>
  refine ae (aR h) λkd h1 h=>?_;rw [← G.sc] at h1;induction kd with
  | «local»=>exact .loc h1 (L .refl R (G.set J) h)
  | cell=>
   refine ae (aR h) λc h2 h=>ae (oh G.cells h2) λb e hc=>?_;induction c with | inr v=>exact h.elim | inl c=>
   refine ae hc λq hq l=>?_;clear hc;subst l;refine ae (aR h) λo V h=>?_;induction o with
   | cell w=>refine ae (R.objs hq V) λo e1 _=>?_;refine ah (R.set (po:=.cell (ac p)) (o':=.cell (ac v)) hq V (.inl rfl) (λY Y e=>nomatch e) (λY Y Y e=>nomatch e) λf=>⟨ac p,bL (ao.mp e1).1,J.go f⟩) λI f=>.cell h1 e e1 (L f I (G.go f) h)
   | _=>exact h.elim
  | _=>exact h.elim
 | Tuple ts c pos=>refine gR (J.iT h) λxs _ _ y h1 r h=>?_;subst y;refine ah (aQ h) λh2 h=>ah (aD.mp h2) λh2 h4=>ah (aD.mp h2) λh2 V=>.tup rfl h1 (r.length▸cv h2) ((bC V).trans r.length) h4 (yk S h R G r L P)
 | Attribute o name pos=>exact .attr (S.ev h R G (λY Y Y Y Y f I z h=>yf O I z (J.go f) h λg W h=>L (f.trans g) W (G.go (f.trans g)) h) P)
 | Subscript o i pos=>exact .sub (S.ev h R G (λY Y Y Y Y f I z h=>S.ev h I (G.go f) (λY Y Y Y Y g W ri h=>qV W (z.go g) ri (J.go (f.trans g)) h λg2 R3 h=>L ((f.trans g).trans g2) R3 (G.go ((f.trans g).trans g2)) h) (P.go f)) P)
 | _=>exact h.elim
end
section
variable {D:lB} {E:fX} {F:Lv} {X:List Nat} {x:VX} {x':KX} {μ:bO} {T:List MO} {st:St} {ve:aB} {pe:bD}
theorem Gp (e:aC) (t:Option aC) (l:Nat) (env:Env):iu e t l env=iu e t l (fc env.scope):=by induction env;rfl
theorem Gq (G:List aC) (e:aC) (env:Env):dN G e env=dN G e (fc env.scope):=by induction env;rfl
theorem Gr (G:List aC) (e:aC) (l:Nat) (env:Env):ef G e l env=ef G e l (fc env.scope):=match G with
 | [t]=>Gp e (ac t) l env
 | []=>rfl
 | _::_::_=>rfl
theorem qj {α:Type} {t:iR α} {o:α} (h:pU t=ac o):t=pure o:=by
 induction t with
 | pure a=>(first | subst h | refine ag (fm h) ?_);rfl
 | _=>(first | exact n1 h | exact n3 h | exact n2 h | exact h.elim | exact n4 h)
theorem qk {t:iR Bool} {b:Bool} (h:lG t b=au):t=pure b:=qj (beq_iff_eq.mp h)
theorem ol {α:Type} {l:List α} {a:α} (h:Lh l=ac a):l=[a]:=by rcases l with _ | ⟨b,_ | ⟨_,_ | ⟨_,_ | _⟩⟩⟩<;> cases h;rfl
theorem NA {α:Type} {l:List α} {a:α × α} (h:T5 l=ac a):l=[a.1,a.2]:=by rcases l with _ | ⟨b,_ | ⟨_,_ | ⟨_,_ | _⟩⟩⟩<;> cases h;rfl
theorem ji {e:aC} {q:aU × cP} (h:mO e=ac q):e=.Name q.1 q.2:=by
 induction e using ey with
 | Name s p=>(first | subst h | refine bZ (fm h) ?_);rfl
 | _=>(first | exact n1 h | exact n3 h | exact n2 h | exact h.elim | exact n4 h)
theorem uW {e:aC} {q:aC × aU × cP} (h:zB e=ac q):e=.Attribute q.1 q.2.1 q.2.2:=by
 induction e using ey with
 | Attribute o s p=>(first | subst h | refine bZ (fm h) ?_);rfl
 | _=>(first | exact n1 h | exact n3 h | exact n2 h | exact h.elim | exact n4 h)
theorem uX {e:aC} {q:aC × List aC × List OT × cP} (h:zC e=ac q):e=.Call q.1 q.2.1 q.2.2.1 q.2.2.2:=by
 induction e using ey with
 | Call o s k p=>(first | subst h | refine bZ (fm h) ?_);rfl
 | _=>(first | exact n1 h | exact n3 h | exact n2 h | exact h.elim | exact n4 h)
theorem Dl {e:aC} {q:aC × List kz × d9 × cP} (h:zD e=ac q):e=.ListComp q.1 q.2.1 q.2.2.1 q.2.2.2:=by
 induction e using ey with
 | ListComp o s k p=>(first | subst h | refine bZ (fm h) ?_);rfl
 | _=>(first | exact n1 h | exact n3 h | exact n2 h | exact h.elim | exact n4 h)
theorem Dm {e:cg} {q:aC × cP} (h:EP e=ac q):e=.Expr q.1 q.2:=by
 induction e using oy with
 | Expr s p=>(first | subst h | refine bZ (fm h) ?_);rfl
 | _=>(first | exact n1 h | exact n3 h | exact n2 h | exact h.elim | exact n4 h)
theorem qX {e:cg} {q:List aC × aC × cP} (h:oR e=ac q):e=.Assign q.1 q.2.1 q.2.2:=by
 induction e using oy with
 | Assign t s p=>(first | subst h | refine bZ (fm h) ?_);rfl
 | _=>(first | exact n1 h | exact n3 h | exact n2 h | exact h.elim | exact n4 h)
theorem Aj {s:cg} {q:aU × cP × aU × cP × aC × cP} (h:By s=ac q):s=.Assign [.Attribute (.Name q.1 q.2.1) q.2.2.1 q.2.2.2.1] q.2.2.2.2.1 q.2.2.2.2.2:=by refine ae (ai.mp h) λa h1 h=>?_;refine ae (ai.mp h) λt h2 h=>ae (ai.mp h) λb I h=>ae (aF.mp h) λy J G=>bZ G (ag (qX h1 ..) (ag (ol h2 ..) (ag (uW I ..) (ag (ji J ..) rfl))))
theorem Ak {a b:Option aC} {q:aU × aC} (h:Bz a b=ac q):b=al∧∃O P,a=ac (.Call (.Name q.1 O) [q.2] [] P):=by
 induction b with
 | some _=>(first | exact n1 h | exact n3 h | exact n2 h | exact h.elim | exact n4 h)
 | none=>
  refine ae (ai.mp h) λc h1 h=>ae (ai.mp h) λG h2 h=>?_;obtain ⟨f,as,kw,p⟩:=G;refine ae (ai.mp h) λy I h=>ae (ai.mp h) λarg J h=>?_;induction kw using aX with
  | cons _ _=>(first | exact n1 h | exact n3 h | exact n2 h | exact h.elim | exact n4 h)
  | nil=>(first | subst h | refine bZ (fm h) ?_);exact ⟨rfl,y.2,p,by exact ag (h1 ..) (ag (uX h2 ..) (ag (ji I ..) (ag (ol J ..) rfl)))⟩
theorem Gs {body:List cg} {S:List rW} {f J:List cg} {q:zE} (h:Li body S f J=ac q):f=[]∧J=[]∧body=[.Expr q.e q.ep]∧∃V O,S=[.ExceptHandler (ac (.Name q.cn V)) (ac q.en) [.Assign [.Name q.t q.tp] (.Attribute (.Name q.en' q.np) q.an q.ap) q.sp] O]:=by
 rcases f with _ | _
 ·rcases J with _ | _
  ·refine ae (ai.mp h) λb h1 h=>ae (ai.mp h) λe h2 h=>ae (ai.mp h) λP h3 h=>?_;obtain ⟨ty,en,hb,O⟩:=P;refine ae (aF.mp h) λw G I=>bZ I (ae (ai.mp G) λty e1 G=>?_);refine ae (ai.mp G) λen e2 G=>ae (ai.mp G) λcn e3 G=>ae (ai.mp G) λs W G=>ae (ai.mp G) λa l G=>ae (ai.mp G) λt p G=>ae (ai.mp G) λt r G=>ae (ai.mp G) λb z G=>ae (aF.mp G) λy Y I=>bZ I ⟨rfl,rfl,by exact ag (ol h1 ..) (ag (Dm h2 ..) rfl),cn.2,O,by exact ag (ol h3 ..) (ag (e1 ..) (ag (e2 ..) (ag (ji e3 ..) (ag (ol W ..) (ag (qX l ..) (ag (ol p ..) (ag (ji r ..) (ag (uW z ..) (ag (ji Y ..) rfl)))))))))⟩
  ·(first | exact n1 h | exact n3 h | exact n2 h | exact h.elim | exact n4 h)
 ·(first | exact n1 h | exact n3 h | exact n2 h | exact h.elim | exact n4 h)
theorem Gu {e:aC} (h:Lo e=au):∃o s p,e=.Tuple o s p:=by
 induction e using ey with
 | Tuple o s p=>exact ⟨o,s,p,rfl⟩
 | _=>(first | exact n1 h | exact n3 h | exact n2 h | exact h.elim | exact n4 h)
theorem Al (O:fL X μ st ve pe) {e:aC} {t:Option aC} {l:Nat} {b:Bool} (h:lG (iu e t l (fc ve.sc)) b=au):∀env:Env,env.scope=pe.sc->iu e t l env=pure b:=λenv G=>by refine ag (Gp ..) (ag (G ..) (ag (O.sc ..) ?_));exact qk h
theorem wj (O:fL X μ st ve pe) {G:List aC} {e:aC} {l:Nat} {b:Bool} (h:lG (ef G e l (fc ve.sc)) b=au):∀env:Env,env.scope=pe.sc->ef G e l env=pure b:=λenv I=>by refine ag (Gr ..) (ag (I ..) (ag (O.sc ..) ?_));exact qk h
theorem wk (O:fL X μ st ve pe) {G:List aC} {e:aC} {o:Option (List aU)} (h:pU (dN G e (fc ve.sc))=ac o):∀env:Env,env.scope=pe.sc->dN G e env=pure o:=λenv I=>by refine ag (Gq ..) (ag (I ..) (ag (O.sc ..) ?_));exact qj h
theorem Dn:∀{names:List aU} {xs:List TV} {ps:List PV} {ve:aB} {pe:bD},fL X μ st ve pe->eK μ X st xs ps->fL X μ st (((names.zip xs).reverse).foldl (λp q=>p.set q.1 q.2) ve) (((names.zip ps).reverse).foldl (λp q=>p.set q.1 q.2) pe):=by
 intro names;induction names with
 | nil=>intro xs ps ve pe O r;exact O
 | cons n names P=>
  intro xs ps ve pe O r;induction r using eK.casesOn with
  | nil=>exact O
  | cons h r=>refine ag (dz ..) (ag (dz ..) (ag (eE ..) (ag (eE ..) (ag (Pe ..) (ag (Pe ..) ?_)))));exact (P O r).set h
theorem qY {o:Option (Option (List aU))} (h:sz o=au):o=ac al:=beq_iff_eq.mp h
theorem JD {μ:bO} {st:St} {G:List TV}:∀{ps:List PV},eK μ X st G ps->gl (LJ X μ st) (G.map .inl) (ps.map .inl):=by
 induction G with
 | nil=>intro ps r;(first | refine aI r.inv ?_;intro _ I;subst I | refine ae r.iloc ?_;intro _ I _;subst I | refine bz r.icons ?_;intro _ _ I _ _;subst I | refine ag r.inv ?_ | cases r.inv);exact .nil
 | cons a l P=>intro ps r;refine cN r.inv λ_ _ J=>?_;obtain ⟨rfl,h,r⟩:=J;exact .cons h (P r)
theorem JE {μ:bO} {st:St} {es:List (bJ × TV × TV)}:∀{gs:List (bJ × PV × PV)} {xs:List TV} {ps:List PV},iM μ X st es gs->eK μ X st xs ps->gl (LJ X μ st) ((xs.zip es).map λp=>.inr (p.1,p.2.2.1)) ((ps.zip gs).map λp=>.inr (p.1,p.2.2.1)):=by
 induction es with
 | nil=>intro gs xs ps r q;cases r;refine ag (tO ..) (ag (tO ..) ?_);exact .nil
 | cons a l P=>
  intro gs xs ps r q;cases r with | cons h r=>
  induction q using eK.casesOn with
  | nil=>exact .nil
  | cons g q=>exact .cons ⟨g,h.2.1⟩ (P r q)
def Gv {D:lB} {iter a b:aC}:Prop:=∀(h:Lp D iter ve=ac (a,b)),∃I G,iter=.Call (.Name ("zip":aU) I) [a,b] [] G∧([a,b]:List aC).all cx=au∧ve.sc.names.lookup ("zip":aU)=ac .globalImplicit∧D.glob ("zip":aU)=ac (.ty "zip")
noncomputable def NB:=rm <| U λve=>U λD=>U λiter=>U λa=>@Gv ve D iter a
theorem Gw {D iter a b}:@Gv ve D iter a b:=jX (c:=NB) rfl (by intro h;refine ae (ai.mp h) λG h1 h=>?_;obtain ⟨f,as,kw,p⟩:=G;refine ae (ai.mp h) λG h2 h=>?_;obtain ⟨f,I⟩:=G;refine ae (ai.mp h) λG J h=>?_;obtain ⟨y,r⟩:=G;refine ah (jM h) λq e0=>?_;cases e0;refine ah (aD.mp q) λq V=>ah (aD.mp q) λq q4=>ah (aD.mp q) λq q3=>ah (aD.mp q) λq S=>ah (aD.mp q) λO P=>?_;exact ⟨I,p,by exact ag (uX h1 ..) (ag (ji h2 ..) (ag (NA J ..) (ag (wO.mp O ..) (ag ((beq_iff_eq.mp P) ..) rfl)))),by refine ag (iZ ..) (ag (iZ ..) (ag (S ..) (ag (q3 ..) ?_)));rfl,(beq_iff_eq.mp P)▸beq_iff_eq.mp q4,(beq_iff_eq.mp P)▸ae (ai.mp (beq_iff_eq.mp V)) λv W l=>W.trans (congrArg ac (IB l))⟩) (ve,D,iter,a,b)
theorem ym {D:lB} {cls:aU} {C:ay} (h:E3 D ve cls=ac C):ve.sc.names.lookup cls=ac .globalImplicit∧D.glob cls=ac (.ref C):=by refine ae (ai.mp h) λv h1 h=>?_;refine ae (ai.mp h1) λu h1 h2=>ah (jM h) λq e=>⟨beq_iff_eq.mp q,h1.trans (congrArg ac ((EH h2).trans (congrArg PV.ref e)))⟩
def Gx {k:aO->aB->List MO->Prop} {y:dL->bD->St->Prop}:Prop:=∀(O:i5 K D) (S:pt E F) {s:cg} (h:E6 D E s ve T k x) (R:eV μ X T st) (G:fL X μ st ve pe) (L:ta X μ T st k y) (I:eG X μ T st x x'),i4 K F pe st y x' s
noncomputable def Gy:=rm <| U λD=>U λE=>U λF=>U λX=>U λx=>U λx'=>U λμ=>U λT=>U λst=>U λve=>U λpe=>U λk=>@Gx D E F X x x' μ T st ve pe k
theorem yn {k k'}:@Gx D E F X x x' μ T st ve pe k k':=jX (c:=Gy) rfl (by
 intro O S s h R G L l;induction s using oy with
 | Expr e pos=>refine ah (aQ h) λh1 h=>?_;exact .expr (Al G h1) (S.ev h R G (λY Y Y Y Y f I Y h=>L f I .next (G.go f) h) l)
 | Assign ts e pos=>
  refine ae (qT h) λt eq1 h=>ag eq1 (bk (m7 h) (λJ=>?_) λV=>?_)
  ·obtain ⟨h1,h⟩:=J;refine ae (aR h) λo h2 h=>bk (lT h) (λJ=>?_) λV=>?_
   ·((first | refine ah J ?_ | refine aI J ?_);clear J;intro e0 h;subst e0);refine ah (aQ h) λy h=>?_
    exact .assign (wj G h1) y (wk G h2) (S.ev h R G (λY Y Y Y Y f I r h=>S.asg h I (G.go f) r (λY Y Y Y Y g R2 Er2 h=>L (f.trans g) R2 .next Er2 h) (l.go f)) l)
   ·((first | refine eg V ?_ | refine ae V ?_ | refine cN V ?_);clear V;intro names e1 h;subst e1);refine ah (aQ h) λy hE=>?_
    refine ah (aD.mp y) λy h4=>fH (Gu y) λelts kk tp z=>?_;subst z;refine .swap (wj G h1) (wk G h2) (λm hm=>by refine ag (G.sc ..) ?_;exact beq_iff_eq.mp (co.mp h4 m hm)) (S.ev hE R G (λY Y Y Y Y f I r h=>?_) l);refine fH (r.iT h) λxs _ _ qq=>?_;obtain ⟨rfl,h5,r,h⟩:=qq;obtain ⟨h6,h⟩:=aQ h;exact ⟨_,_,rfl,h5,r.length.symm.trans (bC h6),L f I .next (Dn (G.go f) r) h⟩
  ·obtain ⟨_,h⟩:=V;refine ae (aR h) λP e1 h=>?_;obtain ⟨id,tp⟩:=P;refine ae (aR h) λP e2 h=>?_;obtain ⟨elt,gens,scope,cp⟩:=P;refine ae (aR h) λP e3 h=>?_;obtain ⟨tgt,iter,ifs,a⟩:=P;cases ji e1;obtain rfl:=Dl e2;refine ag (ol e3) (ah (aQ h) λh1 h=>?_);refine ah (aD.mp h1) λh1 y=>ah (aD.mp h1) λh1 h2=>?_;obtain rfl:=of_decide_eq_true h1;exact .acomp (Al G h2) (by refine ag (G.sc ..) ?_;exact beq_iff_eq.mp y) (yl S h R G (λY Y Y Y Y f I r h=>L f I .next ((G.go f).set r) h) l)
 | If t b o p=>
  exact .ite (S.evT h R G (λY Y Y c Y f I rc h=>by
   (first | subst rc | obtain rfl:=fm rc);induction c with
   | true=>exact nt S h I (G.go f) (L.go f) (l.go f)
   | false=>exact nt S h I (G.go f) (L.go f) (l.go f)) l)
 | Return v p=>refine ae (aR h) λe eq1 h=>?_;refine ag eq1 (.ret (S.ev h R G (λY Y Y Y Y f I r h=>L f I (.ret r) (G.go f) h) l))
 | For tgt iter body orelse p=>
  refine ah (BQ h) λeq0 h=>ag eq0 (bk (lT h) (λJ=>?_) λV=>?_)
  ·(first | refine ah J λhz h=>?_;clear J | refine aI J λhz h=>?_;clear J | obtain ⟨hz,h⟩:=J);refine ah (aQ h) λh1 h=>.loop h1 (S.ev h R G (λμ1 st1 T1 v p1 f I rv h=>?_) l);refine gS (BU I rv h) λitems g ps tag h ri hs=>?_;exact ⟨(ps.map .inl,tag),hs .refl I (by rcases items with _ | _ <;> exact (nU h).1),BV S h I (G.go f) (JD ri) hs (L.go f) (l.go f)⟩
  ·refine ae V λpo10 hz h'=>?_;clear V;obtain ⟨a,b⟩:=po10;refine d6 (Gw hz) λfp cp eq2 h1 h2 y=>ag eq2 (.forZip rfl h1 (by refine ag (G.sc ..) ?_;exact h2) (O.glob y) (px S h' R G (λμ1 st1 T1 vs ps f I rs h=>?_) l));refine fI (rs.l2 h) λva vb _ _ eq4 r1 r2 h=>ag eq4 (jW (r1.iL h) λxs i ys z fl hl rl h=>?_);refine ag z (d6 (r2.iO h) λj q eq2 z hq h=>?_);refine ag eq2 (ag z ?_);refine ae (aR h) λo ho h=>?_;induction o with
   | dict es n g=>
    refine ah (aQ h) λh4 h=>ah (aD.mp h4) λh4 h5=>?_;obtain ⟨_,gs,ep,h6,re⟩:=I.objs hq ho;have hs:∀{μ' st' T'},fQ μ1 T1 st1 μ' T' st'->eV μ' Gy.2.2.2.1 T' st'->pW (ac (j,.dict es n g)) T'->mL _ q.1 st' (_,.zip ep):=λ{μ' st' T'} f' R' g=>by refine gz (f'.ver hq ho) λes' v' g' e _ h=>?_;cases e.symm.trans g;exact .mk (f'.obj fl hl).2 ((h rfl).trans h6) (rl.length▸cv h4) (rl.length▸re.length▸bC h5)
    exact ⟨_,_,_,rfl,hs .refl I (by cases hx:(xs.zip es)<;> rw [hx] at h <;> exact (nU h).1),BV S h I (G.go f) (JE re rl) hs (L.go f) (l.go f)⟩
   | _=>exact h.elim
 | Raise a b p=>
  refine ae (aR h) λP e0 h=>?_;obtain ⟨cls,arg⟩:=P;obtain ⟨rfl,_,_,rfl⟩:=Ak e0;refine ah (aQ h) λh1 h=>ah (aD.mp h1) λh1 h2=>ae (aR h) λC hC h=>ah (ym hC) λhl hg=>ae (aR h) λan e h=>ah (aQ h) λy h=>?_;obtain ⟨x1,x2,_,ini,fd,W,p1,q0,q1,qa,qs,x3,x4,x5⟩:=O.exn e;refine .raise (by refine ag (G.sc ..) ?_;exact hl) ((dJ _).mp h1) (O.glob hg) x1 x3 x4 x2 x5 h2 (O.keep y) (S.ev h R G (λμ1 st1 T1 v pv f I rv h=>?_) l);refine l (f.trans (fQ.app I _)) (I.app _) (d:=st1.length) ?_ ?_ (rv.go (fQ.app I _)) h
  ·refine ag (bA (dZ _)) (ag (H6 (aG _) ..) (ag (fx ..) ?_));rfl
  ·refine ag (bA (aG _)) (ag (fx ..) ?_);rfl
 | Try body hs orelse fin p=>
  refine ae (aR h) λq e0 h'=>?_;clear h;refine ah (aQ h') λh1 hE=>?_;clear h';simp only [Lq,bq,dJ,beq_iff_eq] at h1;refine ah h1 λW h10=>?_;clear h1;(refine ah W ?_;clear W;intro W h9;(refine ah W ?_;clear W;intro W h8;refine ah W λW h7=>ah W λW h6=>ah W λW h5=>ah W λW h4=>ah W λpa0 y=>?_;clear W;refine ah pa0 λh1 h2=>?_;clear pa0));refine ae (aR hE) λC hC h=>ah (ym hC) λhl hg=>ae (aR h) λan' e h=>ah (aQ h) λh11 hF=>?_;clear h;have hq:=beq_iff_eq.mp h11;subst hq;refine gQ (O.exn e) λx1 _ x2 _=>?_;obtain ⟨rfl,rfl,rfl,cp,hp,e3⟩:=Gs e0;rw [h1] at e3;refine ag e3 (.tri (beq_eq_false_iff_ne.mp h2) (by refine ag (G.sc ..) ?_;exact y) (by refine ag (G.sc ..) ?_;exact h4) (by refine ag (G.sc ..) ?_;exact hl) h5 h6 ((gl.lookup G.loc _).2 (my.mp h7)) (Al G h8) (wj G h9) (wk G (qY h10)) (O.glob hg) x1 x2)
   (S.ev hF R G (λY Y Y Y Y f I Y h=>L f I .next (G.go f) h) (λY Y Y Y Y v i d pv f I hi hd rv h=>?_))
  refine ah (aQ h) λh12 hL=>?_;clear h;simp only [bq,beq_iff_eq] at h12;refine ah h12 λP h14=>?_;clear h12;refine ah P λh12 h13=>?_;clear P;obtain ⟨⟩:=bC h12;refine bZ h13 ⟨d,_,pv,hi,hd,by exact ag (List.lookup_cons ..) (ag (beq_self_eq_true ..) rfl),nq rv h14,L f I .next ((G.go f).set rv) hL⟩
 | _=>exact h.elim) (D,E,F,X,x,x',μ,T,st,ve,pe,k,k')
end
section
variable {D:lB} {E:fX} {F:Lv} {X:List Nat} {x:VX} {x':KX} {μ:bO} {T:List MO} {st:St} {ve:aB} {pe:bD}
theorem JF:∀{ds:List PV} {ws:List TV},dn (ds.map EQ)=ac ws->eK μ X st ws ds:=by
 intro ds;induction ds with
 | nil=>intro ws e;refine bZ (fm e) .nil
 | cons a ds P=>
  intro ws e;cases h:EQ a with
  | none=>rw [aT,h] at e;exact n1 e
  | some w=>rw [aT,h] at e;refine ae (aF.mp e) λr e2 G=>bZ G (.cons (yi h) (P e2))
theorem JG:∀{ns:List aU} {vs:List TV} {ps:List PV},eK μ X st vs ps->io μ X st (ns.zip vs) (ns.zip ps):=by
 intro ns;induction ns with
 | nil=>intro vs ps r;exact .nil
 | cons n ns P=>
  intro vs ps r;induction r using eK.casesOn with
  | nil=>exact .nil
  | cons h r=>exact .cons ⟨rfl,h⟩ (P r)
theorem yo {fd:ew} {g:rt} (J:fd.params.args.map (·.arg)=g.params) (hd:kO K fd=ac g.dflts) {vs:List TV} {ps:List PV} {bs:List (aU × TV)} (r:eK μ X st vs ps) (h:mS g vs=ac bs):∃cs,Bv K fd ps=ac cs∧io μ X st bs cs∧cs.map (·.1)=g.params∧∃ds,cs=g.params.zip (ps++ds):=by
 unfold mS at h;refine w5 h (λh1 h=>?_) λY h=>n1 h;simp only [bq] at h1;refine ah h1 λG O=>?_;clear h1;refine ah G λh1 h2=>?_;clear G;refine ae (aF.mp h) λws e I=>bZ I ?_;have h2:=cv h2;have p:=r.length;refine ⟨g.params.zip (ps++g.dflts.drop (g.dflts.length - (g.params.length - vs.length))),?_,JG (r.append (JF e)),?_,_,rfl⟩
 ·unfold Bv;exact ag (hd ..) (ag (ku ..) (ag ((show fd.params.args.length=g.params.length by exact bZ (J ..) (ag (ar ..) rfl)) ..) (bZ (p ..) (ag (if_pos ⟨(cv h1),h2,(cv O)⟩ ..) (ag (J ..) rfl)))))
 ·rw [Rz];refine ag (aJ ..) (ag (List.length_drop ..) ?_);exact by lia
theorem Do {fz:Bool} {bs:List (aU × TV)} {cs:List (aU × PV)}:∀{names:List (aU × fM)} {as:List (aU × (Nat ⊕ TV))} {ds:List (aU × Nat)} {T:List MO} {st:St} {μ:bO},eV μ X T st->io μ X st bs cs->jh X μ st as ds->
  ∃μ',fQ μ T st μ' (dR fz bs names as T).2 (d7 cs names ds st).2∧eV μ' X (dR fz bs names as T).2 (d7 cs names ds st).2∧jh X μ' (d7 cs names ds st).2 (dR fz bs names as T).1 (d7 cs names ds st).1:=by
 intro names;induction names with
 | nil=>intro as ds T st μ R r c;exact ⟨μ,.refl,R,c⟩
 | cons n names W=>
  obtain ⟨n,S⟩:=n;intro as ds T st μ R r c;by_cases P:S=.cell
  ·refine ag P ?_;have e:d7 cs ((n,.cell)::names) ds st=d7 cs names ((n,st.length)::ds) (st++[.cell (cs.lookup n)]):=if_pos rfl;refine ag (e ..) ?_;have slot:∃μ',fQ μ T st μ' (dR fz bs names ((n,.inl T.length)::as) (T++[.cell (bs.lookup n)])).2 (d7 cs names ((n,st.length)::ds) (st++[.cell (cs.lookup n)])).2∧eV μ' X (dR fz bs names ((n,.inl T.length)::as) (T++[.cell (bs.lookup n)])).2 (d7 cs names ((n,st.length)::ds) (st++[.cell (cs.lookup n)])).2∧
     jh X μ' (d7 cs names ((n,st.length)::ds) (st++[.cell (cs.lookup n)])).2 (dR fz bs names ((n,.inl T.length)::as) (T++[.cell (bs.lookup n)])).1 (d7 cs names ((n,st.length)::ds) (st++[.cell (cs.lookup n)])).1:=by
    have l:∀μ',Mv X μ st X μ' (st++[.cell (cs.lookup n)])->MR μ' X (st++[.cell (cs.lookup n)]) (st.length,st.length) (.cell (bs.lookup n)):=λμ' m=>by
     refine ⟨cs.lookup n,gg,?_⟩;generalize st++[PO.cell (cs.lookup n)]=stt at m ⊢;cases e:bs.lookup n with
     | none=>refine ag ((gl.lookup r n).2 e ..) ?_;trivial
     | some a=>refine ae ((gl.lookup r n).1 a e) λb e2 y=>?_;refine ag (e2 ..) (TR.mv m y)
    refine eg (R.lay (o:=.cell (bs.lookup n)) (po:=.cell (cs.lookup n)) (λY Y e=>nomatch e) l) λf G t1=>bP (W (as:=(n,.inl T.length)::as) (ds:=(n,st.length)::ds) f (r.go G) (.cons ⟨rfl,(st.length,st.length),by refine bZ (R.len ..) (ag (bA (aG _)) (ag (fx ..) ?_));rfl,rfl⟩ (c.mv G.mv))) λμ' O I J=>?_;exact ⟨μ',G.trans O,I,J⟩
   induction fz with
   | false=>exact slot
   | true=>
    cases V:bs.lookup n with
    | none=>
     have e2:dR au bs ((n,.cell)::names) as T=dR au bs names ((n,.inl T.length)::as) (T++[.cell (bs.lookup n)]):=by show (match au,bs.lookup n with | true,ac v=>_ | _,o=>_)=_;exact ag (V ..) rfl
     refine ag (e2 ..) slot
    | some v=>
     have e2:dR au bs ((n,.cell)::names) as T=dR au bs names ((n,.inr v)::as) T:=by show (match au,bs.lookup n with | true,ac v=>_ | _,o=>_)=_;exact ag (V ..) rfl
     refine ag (e2 ..) (ae ((gl.lookup r n).1 v V) λp e3 z=>?_);have G:=fQ.app R [PO.cell (cs.lookup n)];refine bP (W (as:=(n,.inr v)::as) (ds:=(n,st.length)::ds) (R.app [PO.cell (cs.lookup n)]) (r.go G) (.cons ⟨rfl,p,R.fz (aG _),by refine bZ (e3 ..) ?_;exact gg,z.go G⟩ (c.mv G.mv))) λμ' O I J=>?_;exact ⟨μ',G.trans O,I,J⟩
  ·have e:d7 cs ((n,S)::names) ds st=d7 cs names ds st:=if_neg P;refine ag (e ..) (ag ((show dR fz bs ((n,S)::names) as T=dR fz bs names as T by induction S <;> first | rfl | exact absurd rfl P) ..) ?_);exact W R r c
theorem NC (O:i5 K D) (S:pt E F) {a:ay} {fd:rt} {vs:List TV} {ps:List PV} {k:VK} {W:KV} (hf:D.fn a=ac fd) (h:bV (mS fd vs) False λbinds=>bl E fd.body ⟨fd.scope,binds,(dR fd.fz binds fd.scope.names [] T).1,xf fd.tab T⟩ (dR fd.fz binds fd.scope.names [] T).2 (λf Y T1=>match f with
   | .next=>k .none T1
   | .ret v=>k v T1) x) (R:eV μ X T st) (r:eK μ X st vs ps) (L:ip X (RV X) μ T st k W) (p:eG X μ T st x x'):lh K F ps st W x' (.ref a):=by
 refine mI (O.fn hf) λg h1 h2 h3 h4 h5 h6 h7=>ae (aR h) λbinds e h=>bP (yo h5 h6 r e) λcs e2 l _=>?_;obtain ⟨μ',f,z,rc⟩:=Do (names:=fd.scope.names) R l .nil;refine .fn (by refine ag (h1 ..) ?_;rfl) ⟨g,fd.body,cs,h1,h2,h3,e2,?_⟩;refine ag (h4 ..) (nt S h z ⟨rfl,l.go f,rc,λi y=>?_⟩ (λY Y Y Y Y Y Y V J fl Y h=>?_) (p.go f))
 ·cases G:fd.tab with
  | false=>rw [G] at y;exact n1 y
  | true=>
   rw [G] at y;refine ae (ai.mp y) λo h0 y=>?_;induction o with
   | codes P used=>
    have y:(match b9 P 733 with | true=>ac 0 | false=>al)=ac i:=y;cases I:b9 P 733 with
    | false=>rw [I] at y;exact n1 y
    | true=>rw [I] at y;refine bZ (fm y) ?_;obtain rfl:=bC I;refine ⟨(0,0),f.slot (R.zero h0),?_⟩;refine ae (h7 G) λc e3 e4=>?_;show xb K g st=ac 0;unfold xb;refine ag ((R.objs (R.zero h0) h0) ..) (ag (e3 ..) ?_);exact if_pos e4
   | _=>exact n1 y
 ·induction fl using OM.casesOn with
  | next=>exact L (f.trans V) J .none h
  | ret q=>exact L (f.trans V) J q h
theorem Am {cs ds:List (aU × Nat)} (h:n8 μ cs ds):jh X μ st (cs.map λc=>(c.1,.inl c.2)) ds:=by
 induction h with
 | nil=>exact .nil
 | cons h _ P=>exact .cons h P
theorem An:∀{fs:List (aU × TV)} {gs:List (aU × PV)},io μ X st fs gs->gs.map (·.1)=fs.map (·.1)∧eK μ X st (fs.map (·.2)) (gs.map (·.2)):=λh=>by
 induction h with
 | nil=>exact ⟨rfl,.nil⟩
 | cons h _ P=>exact ⟨by exact ag (aT ..) (ag (aT ..) (ag (P.1 ..) (ag (h.1 ..) rfl))),.cons h.2 P.2⟩
theorem yp (O:i5 K D) (S:pt E F) {f:TV} {p:PV} {vs:List TV} {ps:List PV} {k:VK} {k':KV} (h:xg D E f vs T k x) (R:eV μ X T st) (I:TR μ X st f p) (r:eK μ X st vs ps) (L:ip X (RV X) μ T st k k') (P:eG X μ T st x x'):lh K F ps st k' x' p:=by
 cases f with
 | ref a=>
  refine ag I.inv ?_;rcases lT h with ⟨_,h⟩ | ⟨fd,hf,h⟩
  rotate_left
  ·exact NC O S hf h R r L P
  ·refine ae (aR h) λG e h=>?_;obtain ⟨i,b⟩:=G;refine .cls (O.ini e) ?_;have l1:st.length+1 <(st++[PO.ns [],.inst a st.length]).length:=by refine ag (aJ ..) ?_;exact eQ _
   have z:(st++[PO.ns [],.inst a st.length])[st.length]? =ac (.ns []):=by refine ag (bA (aG _)) (ag (fx ..) ?_);rfl
   have g1:(st++[PO.ns [],.inst a st.length])[st.length+1]? =ac (.inst a st.length):=by refine ag (bA (dZ _)) (ag (H6 (aG _) ..) (ag (fx ..) ?_));rfl
   induction b with
   | true=>have a1:∀l∈[st.length,st.length+1],st.length≤l:=λl h=>(bj.mp h).elim (λh=>Ij h.symm) λh=>aV.mp h▸dZ _;refine S.ini h ⟨R,aG _,fQ.app R _,R.asides (L:=[st.length,st.length+1]) _ a1 (λl h=>(bj.mp h).elim (λh=>dy (Ij h) (Pf l1)) λh=>aV.mp h▸l1),Nat.succ_ne_self _,g1,[],z,.nil⟩ (r.mv (Mv.asides (L:=[st.length,st.length+1]) _ a1)) (λ{μ' st' T' fs} H h=>⟨rfl,?_⟩);refine ae H.hd λgs hg rg=>?_;have fz:∀l∈[st.length,st.length+1],Fz μ' X l:=λl hl=>⟨λq hq=>⟨λe=>(H.R.notX q hq).1 (e▸f5 X hl),λe=>(H.R.notX q hq).2 (e▸f5 X hl)⟩,λm=>gO _ (dh (R.ltX l m) (a1 l hl))⟩;refine ah (An (io.mv Mv.back (io.mv Mv.back rg))) λe1 e2=>L H.f H.R.back.back (.obj (gs:=gs) (fz _ (aE _ (aA ..))) (fz _ (aA ..)) H.hi hg e1 e2) h
   | false=>refine ah (R.new (r:=[PO.ns [],.inst a st.length]) (p:=(st.length+1,st.length)) (o:=.inst a []) (dZ _) (aG _) l1 (Pf l1) (λY Y e=>nomatch e) ⟨g1,[],z,.nil⟩) λR1 W=>?_;have rl:TR (μ++[(st.length+1,st.length)]) X (st++[PO.ns [],.inst a st.length]) (.loc T.length) (.loc (st.length+1)):=.loc (p:=(st.length+1,st.length)) (by refine bZ (R.len ..) (ag (bA (aG _)) (ag (fx ..) ?_));rfl);refine S.call h R1 (.ref i) (.cons rl (r.go W)) (λY Y Y v p y R2 rv h=>?_) eG.no;refine ah (aQ h) λh2 h=>⟨Co ((n9 rv).symm.trans h2),L (W.trans y) R2 (rl.go y) h⟩
 | bi id=>refine ag I.inv ?_;refine ae (aR h) λb e h=>.bi (Ny e R r h L)
 | ty n=>refine ag I.inv ?_;refine ae (aR h) λb e h=>.ty (Nz e R r h L)
 | lam body scope cells=>refine sb I.inv λ_ _ J f h1 hb hs hc=>?_;refine ag J (ah (BQ h) λV h=>?_);subst V;refine ag r.inv (ah (aQ h) λh2 h=>?_);simp only [bq,dJ] at h2;refine ah h2 λG h4=>?_;clear h2;refine ah G λh2 h3=>?_;clear G;refine ah (oj h2) λh5 h6=>?_;subst hb hs;exact .lam h1 rfl (by unfold Bw;refine ag (h5 ..) (ag (h3 ..) (ag (h4 ..) (ag (h6 ..) ?_)));rfl) (S.ev h R ⟨rfl,.nil,Am hc,λi e=>nomatch e⟩ L P)
 | _=>exact h.elim
theorem qg.go {C d i:Nat} {G:bO} {T0:List MO} {I:St} {fs:List (aU × TV)} {μ':bO} {T':List MO} {st':St} (H:qg X C d i G T0 I μ T st fs) (f:fQ μ T st μ' T' st') (R:eV μ' (d::i::X) T' st'):qg X C d i G T0 I μ' T' st' fs:=by refine ae H.hd λgs J y=>?_;exact ⟨H.r0,H.hl,H.f.trans f,R,H.ne,((λl hl=>f.keep l (H.R.ltX l hl) λq V=>⟨λe=>(H.R.notX q V).1 (e▸hl),λe=>(H.R.notX q V).2 (e▸hl)⟩) i (aE _ (aA ..))).trans H.hi,gs,((λl hl=>f.keep l (H.R.ltX l hl) λq V=>⟨λe=>(H.R.notX q V).1 (e▸hl),λe=>(H.R.notX q V).2 (e▸hl)⟩) d (aA ..)).trans J,y.go f⟩
theorem yq (O:i5 K D) (S:pt E F) {C self s} {fs:List (aU × TV)} {k:List (aU × TV)->List MO->Prop} {d i:Nat} {J:bO} {T0:List MO} {I:St} {z:dL->bD->St->Prop} (h:EX D E C self s ve fs T k) (H:qg X C d i J T0 I μ T st fs) (P:fL (d::i::X) μ st ve pe)
  (hl:pe.sc.names.lookup self=ac .local) (hv:pe.loc.lookup self=ac (.loc i)) (hd:(self==("__debug__":aU))=am)
  (L:∀{μ' st' T' fs'},qg X C d i J T0 I μ' T' st' fs'->fL (d::i::X) μ' st' ve pe->k fs' T'->z .next pe st'):i4 K F pe st z (λY Y=>False) s:=by
 refine ae (aR h) λr e0 h=>?_;obtain ⟨y,qy,name,qa,e,pos⟩:=r;obtain rfl:=Aj e0
 ·refine ah (aQ h) λh1 hE=>?_;clear h;simp only [bq] at h1;refine ah h1 λG h6=>?_;clear h1;(refine ah G ?_;clear G;intro G h5;(refine ah G ?_;clear G;intro G h4;(refine ah G ?_;clear G;intro G h3;refine ah G λh1 h2=>?_;clear G)));obtain rfl:=beq_iff_eq.mp h2;refine .assign (wj P h5) rfl (wk P (qY h6)) (S.ev hE H.R P (λμ1 st1 T1 v p f W rv hk=>S.sa (cv h3) hl hv hd ?_) eG.no);have V:=H.go f W;refine ae V.hd λgs hg rg=>?_;have l:d∈d::i::X:=aA ..;refine ⟨i,C,d,gs,rfl,.inl V.hi,hg,O.set h1,rg.length▸cv h4,?_⟩;exact L ⟨H.r0,H.hl,fQ.setFar H.r0 V.f H.hl,W.setX l,H.ne,(bn H.ne.symm).trans V.hi,_,bL (W.ltX d l),te (rv.mv (Mv.setX l)) (io.mv (Mv.setX l) rg)⟩ ((P.go f).mv (Mv.setX l)) hk
theorem Dp (S:pt E F) {C self} {d i:Nat} {G:bO} {T0:List MO} {I:St} {k:List (aU × TV)->List MO->Prop} {y:dL->bD->St->Prop} (hl:pe.sc.names.lookup self=ac .local) (V:pe.loc.lookup self=ac (.loc i)) (hd:(self==("__debug__":aU))=am)
  (L:∀{μ' st' T' fs'},qg X C d i G T0 I μ' T' st' fs'->k fs' T'->y .next pe st'):∀{b:List cg} {fs:List (aU × TV)} {μ:bO} {T:List MO} {st:St},zF E C self b ve fs T k->qg X C d i G T0 I μ T st fs->fL (d::i::X) μ st ve pe->execs F b pe st y (λY Y=>False):=by
 intro b;induction b with
 | nil=>intro fs μ T st h H O;exact L H h
 | cons s b W=>intro fs μ T st h H O;exact S.fill h H O hl V hd λP J h=>W h P J
theorem BW (O:i5 K D) (S:pt E F) {C a:ay} {vs:List TV} {ps:List PV} {k:List (aU × TV)->List MO->Prop} {d i:Nat} {P:bO} {T0:List MO} {J:St} {y:KV} (h:MC D E C a vs T k) (H:qg X C d i P T0 J μ T st []) (r:eK μ (d::i::X) st vs ps)
  (L:∀{μ' st' T' fs},qg X C d i P T0 J μ' T' st' fs->k fs T'->y .none st'):lh K F (.loc i::ps) st y (λY Y=>False) (.ref a):=by
 refine ae (aR h) λfd hf h=>ae (aR h) λself W h=>aI (List.head?_eq_some_iff.mp W) λrest W=>?_;refine ae (aR h) λbinds e h=>ah (aQ h) λG hE=>?_;clear h;simp only [bq,dJ,beq_iff_eq] at G;refine ah G λI V=>?_;clear G;refine ah I λG h9=>?_;clear I;refine mI (O.fn hf) λg h1 h2 f z h5 h6 h7=>?_;obtain ⟨cs,e2,rb,_,ds,l⟩:=yo h5 h6 (.cons (.opq (i:=i)) r) e;refine .fn (by refine ag (h1 ..) ?_;rfl) ⟨g,fd.body,cs,h1,h2,f,e2,?_⟩;refine ag (z ..) ?_;have hc:∀{names:List (aU × fM)} {as:List (aU × Nat)} {st:St},names.all (λp=>p.2 !=.cell)=au->d7 cs names as st=(as,st):=by
  intro names;induction names with
  | nil=>intro as st _;rfl
  | cons n names ih=>intro as st h;refine ah (aD.mp h) λq1 q2=>(if_neg (bne_iff_ne.mp q1)).trans (ih q2)
 refine ag (hc G ..) (Dp (self:=self) S h9 ?_ V (λH h=>L H h) hE H ⟨rfl,rb,.nil,λi e=>nomatch e⟩);refine ag (l ..) (ag (W ..) ?_);exact ag (List.lookup_cons ..) (ag (beq_self_eq_true ..) rfl)
theorem Gz (O:i5 K D) (S:pt E F):pt (j2 D E) (Cq K F) where
 nm:=λ_ {id pos pe st k' x' v} h1 h2 J h4=>oQ.name J (.loc h1 h2 h4)
 sa:=λhl {self q name qa pe st k' x' v w} h1 h2 J h4=>.attr (S.nm (Nat.le_of_succ_le_succ hl) h1 h2 J h4)
 ev:=λh R G L I=>Go O S h R G L I
 evT:=λh R G L I=>JB S h R G L I
 exec:=λh R G L I=>yn O S h R G L I
 asg:=λh R G r L I=>JC O S h R G r L I
 call:=λh R P r L I=>yp O S h R P r L I
 ini:=λh H r L=>BW O S h H r L
 fill:=λh H G h1 h2 J L=>yq O S h H G h1 h2 J L
theorem wl (O:i5 K D):∀n,pt (vl D n) (RL K n)
 | 0=>⟨λh=>absurd h (K6 _),λh=>absurd h (K6 _),λh=>h.elim,λh=>h.elim,λh=>h.elim,λh=>h.elim,λh=>h.elim,λh=>h.elim,λh=>h.elim⟩
 | n+1=>Gz O (wl O n)
end
noncomputable def NE:List aU:=["_law_key", "of_string", "Text", "bytearray"]
noncomputable def xC (e:aC):Bool:=eS am (v:=e) (xCall:=λf Y Y Y=>eS am (v:=f) (xName:=λid Y=>NE.contains id) (xAttribute:=λY name Y=>name==("text_of_octets":aU)))
noncomputable def SV (e:aC):Bool:=eS (xC e) (v:=e) (xTuple:=λl Y Y=>lS am (v:=l.take 1) (x1:=xC))
noncomputable def ON (s:cg):Bool:=sS am (v:=s) (xAssign:=λY e Y=>xC e) (xReturn:=λo Y=>o.any SV) (xIf:=λY l Y Y=>lS am (v:=l.take 1) (x1:=λr=>sS am (v:=r) (xReturn:=λo Y=>o.any SV)))
 (xFor:=λt Y Y Y Y=>eS am (v:=t) (xName:=λid Y=>id==("go":aU)))
noncomputable def xF (a:ay):Bool:=b9 a 736 ||b9 a 697 ||b9 a 463 ||b9 a 93
def UJ (args:List TV) (T:List MO) (k:VK):Prop:=Ej args (λa=>sx a (λb=>aW (aH b.size 1000) (k (.barr b) T)))
noncomputable abbrev bB:VX:=λY Y Y Y=>False
noncomputable def GA (D:lB) (P F:fX):fX where
 lev:=P.lev
 ev:=λe ve T k x=>br (xE e&&SV e) (E0 D F e ve T k bB) (P.ev e ve T k x)
 evT:=P.evT
 exec:=λs ve T k x=>br (xS s&&ON s) (E6 D F s ve T k bB) (P.exec s ve T k x)
 asg:=P.asg
 call:=λf args T k x=>tS (P.call f args T k x) (v:=f) (xref:=λa=>br (xF a) (xg D F f args T k bB) (P.call f args T k x)) (xty:=λn=>br (n== "bytearray") (UJ args T k) (P.call f args T k x))
 ini:=MC D F
 fill:=λC self s ve fs T k=>br (xS s&&ON s) (EX D F C self s ve fs T k) (P.fill C self s ve fs T k)
noncomputable def lU (D:lB):Nat->fX
 | 0=>.bot
 | n+1=>GA D (vl D (n+1)) (lU D n)
theorem yr {b:Bool} {p q r:Prop} (h:br b p q) (h1:b=au->p->r) (h2:q->r):r:=by
 induction b with
 | true=>exact h1 rfl h
 | false=>exact h2 h
theorem Dq {D:lB} {P F:fX} {z y:Lv} (O:i5 K D) (G:pt P z) (S:pt F y):pt (GA D P F) (F9 z y) where
 nm:=λhl {id pos pe st k' x' v} h1 h2 V h4=>.inl (G.nm hl h1 h2 V h4)
 sa:=G.sa
 ev:=λh R I L J=>yr h (λe h=>.inr ⟨(aD.mp e).1,Go O S h R I L eG.no⟩) λh=>.inl (G.ev h R I L J)
 evT:=G.evT
 exec:=λh R I L J=>yr h (λe h=>.inr ⟨(aD.mp e).1,yn O S h R I L eG.no⟩) λh=>.inl (G.exec h R I L J)
 asg:=G.asg
 call:=λ{f p vs ps T k x μ X st k' x'} h R rf r L J=>by
  cases f with
  | ref a=>cases rf.inv;exact yr h (λe h=>.inr (.ref (yp O S h R (.ref a) r L eG.no))) λh=>.inl (G.call h R (.ref a) r L J)
  | ty n=>cases rf.inv;refine yr h (λe h=>?_) λh=>.inl (G.call h R (.ty n) r L J);obtain rfl:=beq_iff_eq.mp e;refine bz (r.l1 h) λa p l Y h=>?_;subst l;refine ae (Y.iY h) λb W h=>?_;subst W;refine ah (aQ h) λh1 h=>.inr (.ba rfl (cv h1) (L.lay R h (.barr (R.fz (aG _)) gg)))
  | _=>exact .inl (G.call h R rf r L J)
 ini:=λh H r L=>.inr (.ref (BW O S h H r L))
 fill:=λh H I h1 h2 V L=>yr h (λe h=>.inr ⟨(aD.mp e).1,yq O S h H I h1 h2 V L⟩) λh=>.inl (G.fill h H I h1 h2 V L)
theorem yt {D:lB} (O:i5 K D):∀n,pt (lU D n) (Ju n)
 | 0=>wl O 0
 | n+1=>Dq O (wl O (n+1)) (yt O n)
inductive V7 where
 | a | b | ni | nr | t | h | r
 deriving Nonempty
noncomputable def El (c:UInt8):Array UInt8:=#[c]
noncomputable def wm:Array UInt8:=#[116,114,117,101]
noncomputable def V7.cls:V7->Nat
 | .a=>0 | .b=>1 | .ni=>2 | .nr=>2 | .t=>3 | .h=>4 | .r=>5
noncomputable def V7.word:V7->List TV
 | .a=>[.str "word",.bytes (El 97)]
 | .b=>[.str "word",.bytes (El 98)]
 | .ni=>[.str "number",.int 1000000]
 | .nr=>[.str "number",.int 1000000]
 | .t=>[.str "boolean",.int 1]
 | .h=>[.str "number",.int 500000]
 | .r=>[.str "word",.bytes wm]
noncomputable def V7.key:V7->bJ
 | .a=>.tup [.str "word",.bytes (El 97)]
 | .b=>.tup [.str "word",.bytes (El 98)]
 | .ni=>.tup [.str "number",.int 1000000]
 | .nr=>.tup [.str "number",.int 1000000]
 | .t=>.tup [.str "boolean",.int 1]
 | .h=>.tup [.str "number",.int 500000]
 | .r=>.tup [.str "word",.bytes wm]
noncomputable def V7.kept:V7->TV
 | .a=>mh "name" (.bytes (El 97))
 | .b=>mh "name" (.bytes (El 98)) au
 | .ni=>mh "integer" (.int 1)
 | .nr=>mh "real" (.int 1000000)
 | .t=>mh "boolean" (.bool au)
 | .h=>mh "real" (.int 500000)
 | .r=>mh "name" (.bytes wm)
noncomputable def V7.mark:V7->bJ
 | .a=>.atom (.str "a")
 | .b=>.atom (.str "b")
 | .ni=>.atom (.int 1000000)
 | .nr=>.atom (.int 1000000)
 | .t=>.tup [.str "truth"]
 | .h=>.atom (.int 500000)
 | .r=>.atom (.str "true")
noncomputable def V7.what:V7->TV
 | .a=>.str "a"
 | .b=>.str "b"
 | .ni=>.int 1000000
 | .nr=>.int 1000000
 | .t=>.bool au
 | .h=>.int 500000
 | .r=>.str "true"
noncomputable def V7.markT:V7->TV
 | .t=>.tup [.str "truth"]
 | v=>v.what
noncomputable abbrev bX:=V7 × Int
noncomputable def dT (n:Int):TV:=mh "integer" (.int n)
noncomputable def bR (e:bX):bJ × TV × TV:=(e.1.key,.tup e.1.word,.tup [e.1.kept,dT e.2])
noncomputable def gm (e:bX):bJ × TV × TV:=(e.1.mark,e.1.markT,.tup [e.1.what,.int e.2])
noncomputable def d8 (c:Nat):List bX->Option bX
 | []=>al
 | e::r=>if e.1.cls=c then ac e else d8 c r
noncomputable def kD (v:V7) (n:Int):List bX->List bX
 | []=>[(v,n)]
 | e::r=>if e.1.cls=v.cls then (e.1,n)::r else e::kD v n r
noncomputable def yu (c:Nat):List bX->List bX
 | []=>[]
 | e::r=>if e.1.cls=c then r else e::yu c r
theorem fF (v w:V7):(v.key=w.key↔v.cls=w.cls)∧(v.mark=w.mark↔v.cls=w.cls):=by rcases v with _ | _ <;> rcases w with _ | _ <;> decide+kernel
theorem js (v:V7):∀L:List bX,cR v.key (L.map bR)=(d8 v.cls L).map λe=>(bR e).2
 | []=>rfl
 | e::L=>by
  have P:=js v L;unfold cR at P ⊢;refine ag (aT ..) (ag (List.lookup_cons ..) ?_);rw [d8];by_cases h:e.1.cls=v.cls
  ·refine ag (if_pos h ..) (ag (show (v.key==(bR e).1)=au from beq_iff_eq.mpr ((fF v e.1).1.mpr h.symm) ..) ?_);rfl
  ·refine ag (if_neg h ..) (ag (show (v.key==(bR e).1)=am from beq_eq_false_iff_ne.mpr λq=>h ((fF v e.1).1.mp q).symm ..) ?_);exact P
theorem lV (v:V7):∀L:List bX,cR v.mark (L.map gm)=(d8 v.cls L).map λe=>(gm e).2
 | []=>rfl
 | e::L=>by
  have P:=lV v L;unfold cR at P ⊢;refine ag (aT ..) (ag (List.lookup_cons ..) ?_);rw [d8];by_cases h:e.1.cls=v.cls
  ·refine ag (if_pos h ..) (ag (show (v.mark==(gm e).1)=au from beq_iff_eq.mpr ((fF v e.1).2.mpr h.symm) ..) ?_);rfl
  ·refine ag (if_neg h ..) (ag (show (v.mark==(gm e).1)=am from beq_eq_false_iff_ne.mpr λq=>h ((fF v e.1).2.mp q).symm ..) ?_);exact P
noncomputable def ln (k:bJ) (o:Option (TV × TV)) (g:bJ->Option (TV × TV)) (q:bJ):Option (TV × TV):=match decide (q=k) with
 | true=>o
 | false=>g q
theorem gn {k:bJ} {o:Option (TV × TV)} {g:bJ->Option (TV × TV)} (h:g k=o):g=ln k o g:=funext λq=>by
 unfold ln;by_cases e:q=k
 ·refine ag (decide_eq_true e ..) (ag (e ..) ?_);exact h
 ·exact ag (decide_eq_false e ..) rfl
set_option genInjectivity false in
structure Bd where
 E:List (bJ × TV × TV)
 N:List (bJ × TV × TV)
 m:Int
 a:Int
 v:Nat
 w:Nat
 deriving Nonempty
set_option genInjectivity false in
structure Z where
 u:List (Nat × Nat)
 pr:Option TV
 Ld:List Int
 md:Int
 v5:Nat
 used:Int
 last:Int
 Md:List (bJ × TV × TV)
 v7:Nat
 b0:Bd
 b1:Bd
 deriving Nonempty
noncomputable def BX (n:Nat) (m a:Int) (e:Nat):MO:=.inst 126 [("number",.int n),("most",.int m),("is_global",.bool am),("level",.int 0),("access",.int a),("entries",.loc e)]
noncomputable def GB:TV:=.obj 381 ["operands", "dicts", "frames", "saves", "gstates", "text", "row", "entries", "word", "path", "dash", "files", "system", "vm"] [.int 500,.int 20,.int 250,.int 15,.int 31,.int 65535,.int 65535,.int 65535,.int 127,.int 1500,.int 11,.int 15,.int 600,.int 16777216]
noncomputable def Ao (used last:Int):MO:=.inst 662 [("limits",GB),("is_global",.bool am),("saves",.lst []),("journal",.lst []),("made",.loc 7),("freed",.lst []),("used",.int used),("used_global",.int 0),("last_body",.int last),("last_save",.int 0)]
noncomputable def BY (n:Int) (c:Int):bJ × TV × TV:=(.atom (.int n),.int n,.tup [.int c,.bool am,.int 0])
noncomputable def BZ (m:Int):List (bJ × TV × TV):=[(.atom (.str "left"),.str "left",.loc 4),(.atom (.str "mixed"),.str "mixed",.int m)]
noncomputable abbrev qZ:=bJ->Option (TV × TV)
noncomputable def TG (z:Z) (P G p I:qZ) (gs:List MO):List MO:=
 .codes 733 z.u:: .cell (ac (.lst [.loc 8,.loc 10])):: .cell (ac (.loc 6)):: .cell z.pr:: .list (z.Ld.map TV.int)::gY (BZ z.md) z.v5::Ao z.used z.last::gY z.Md z.v7::
  BX 1 z.b0.m z.b0.a 9:: .dict z.b0.E z.b0.v P::BX 2 z.b1.m z.b1.a 11:: .dict z.b1.E z.b1.v G:: .dict z.b0.N z.b0.w p:: .dict z.b1.N z.b1.w I::gs
noncomputable abbrev getD (E:List (bJ × TV × TV)):qZ:=λk=>cR k E
noncomputable def TT (z:Z) (gs:List MO):List MO:=TG z (getD z.b0.E) (getD z.b1.E) (getD z.b0.N) (getD z.b1.N) gs
noncomputable def Z.b (z:Z):Bool->Bd
 | false=>z.b0
 | true=>z.b1
noncomputable def Z.set (z:Z) (i:Bool) (b:Bd):Z:=match i with
 | false=>{z with b0:=b}
 | true=>{z with b1:=b}
noncomputable def TA (z:Z) (i:Bool) (v:V7) (o:Option bX) (gs:List MO):List MO:=match i with
 | false=>TG z (ln v.key (o.map λe=>(bR e).2) (getD z.b0.E)) (getD z.b1.E) (ln v.mark (o.map λe=>(gm e).2) (getD z.b0.N)) (getD z.b1.N) gs
 | true=>TG z (getD z.b0.E) (ln v.key (o.map λe=>(bR e).2) (getD z.b1.E)) (getD z.b0.N) (ln v.mark (o.map λe=>(gm e).2) (getD z.b1.N)) gs
theorem q6 (z:Z) (i:Bool) (v:V7) {o:Option bX} {L:List bX} (G:(z.b i).E=L.map bR) (O:(z.b i).N=L.map gm) (h:d8 v.cls L=o) (gs:List MO):TT z gs=TA z i v o gs:=by
 have h1:=gn (k:=v.key) (g:=getD (z.b i).E) ((congrArg (cR v.key) G).trans ((js v _).trans (congrArg _ h)));have h2:=gn (k:=v.mark) (g:=getD (z.b i).N) ((congrArg (cR v.mark) O).trans ((lV v _).trans (congrArg _ h)));induction i with
 | false=>show TT z gs=TG z (ln _ _ (getD (z.b am).E)) _ (ln _ _ (getD (z.b am).N)) _ gs;refine bZ (h1 ..) (bZ (h2 ..) ?_);rfl
 | true=>show TT z gs=TG z _ (ln _ _ (getD (z.b au).E)) _ (ln _ _ (getD (z.b au).N)) gs;refine bZ (h1 ..) (bZ (h2 ..) ?_);rfl
noncomputable def Ap:rt:=cZ (eL 63) [] au
noncomputable def bE (i:Nat):cg:=Ap.body.getD i (.Pass default)
noncomputable def e0:aC:=.Name "" default
noncomputable def bG (s:cg):List cg:=sS [] (v:=s) (xFor:=λY Y b Y Y=>b)
noncomputable def ch (s:cg):aC:=sS e0 (v:=s) (xFor:=λt Y Y Y Y=>t)
noncomputable def yv (i:Nat):cg:=(bG (bE 3)).getD i (.Pass default)
noncomputable def m8:List (aU × (Nat ⊕ TV)):=[("pairs",.inl 3),("memory",.inl 2),("bodies",.inl 1)]
noncomputable def k8:Nat->Int->TV
 | 0,_=>V7.a.kept
 | 1,n=>mh "string" (.obj 147 ["body", "start", "many"] [.obj 93 ["number", "octets", "is_global", "level"] [.int n,.barr (El 97),.bool am,.int 0],.int 0,.int 1])
 | 2,_=>V7.b.kept
 | 3,_=>V7.ni.kept
 | 4,_=>V7.nr.kept
 | 5,_=>V7.t.kept
 | 6,_=>V7.h.kept
 | _,_=>V7.r.kept
noncomputable def v7:Nat->V7
 | 0=>.a | 1=>.a | 2=>.b | 3=>.ni | 4=>.nr | 5=>.t | 6=>.h | _=>.r
theorem Qa {x:Int} (h0:0≤x) (h1:x≤1000003):x.natAbs <2 ^ 60:=
 aI (nE h0) λn e=>ag (motive:=λx=>x≤1000003->x.natAbs <2 ^ 60) e (λh1=>dy (show n≤1000003 from UR.mp h1) (by decide)) h1
theorem NF {x:Int} {c:Int} (h:0≤x∧x≤c) (G:c≤1000003):x.natAbs <2 ^ 60:=Qa h.1 (cA h.2 G)
theorem Aq {x:Int} {c:Int} (h:0≤x∧x <c) (G:c≤1000003):x.natAbs <2 ^ 60:=NF ⟨h.1,gd h.2⟩ G
theorem Qb (j:Nat) (h:j <900):(100+aL j).natAbs <2 ^ 60:=Ip (show 100+j <1000 from Nat.add_lt_add_left h 100) (by decide)
theorem aK {b:Bool} {p:Prop} (h:b=au) (q:p):aW b p:=by refine ag h ?_;exact q
theorem yw {b:Bool} {p q:Prop} (h:b=au) (r:p):br b p q:=by refine ag h ?_;exact r
theorem iQ {b:Bool} {p q:Prop} (h:b=am) (r:q):br b p q:=by refine ag h ?_;exact r
theorem bg {a b:Nat} (h:a≤b):aH a b=au:=Ix h
theorem gh {a b:Nat} (h:a <b):bU a b=au:=Ix h
def B0 (Ld:List Int) (md:Int):Prop:=Ld.length≤24∧0≤md∧md <1000003
theorem Dr (k:VK) (u pr c L md v5 used last Md v7 b0 b1) (gs:List MO) (n:Nat) (m:Int):(vl D (n+12)).call (.ref 690) [.loc 5,.int m] (TT ⟨u,pr,c::L,md,v5,used,last,Md,v7,b0,b1⟩ gs) k bB=
  aW (mf ((c::L).map TV.int) []) (aW (aH (L.map TV.int).length 1000) (aW (bU 0 m.toNat) (aW (bU m.natAbs (2 ^ 60)) (k (.int (c.fmod m)) (TT ⟨u,pr,L,md,v5,used,last,Md,v7,b0,b1⟩ gs))))):=by kernel_rfl
noncomputable def dm (i:Nat):Int:=([2,3,4,5,7,8]:List Int).getD i 12
theorem GC (i:Nat):0 <dm i∧dm i <1000:=match i with
 | 0=>by decide
 | 1=>by decide
 | 2=>by decide
 | 3=>by decide
 | 4=>by decide
 | 5=>by decide
 | _+6=>(by decide:(0:Int)<12∧(12:Int)<1000)
theorem GD (k:VK) (u pr md v5 used last Md v7 b0 b1) (gs:List MO) (n:Nat) (i:Nat):(vl D (n+12)).call (.ref 690) [.loc 5,.int (dm i)] (TT ⟨u,pr,[],md,v5,used,last,Md,v7,b0,b1⟩ gs) k bB=
  aW (bU md.natAbs (2 ^ 60)) (k (.int ((((md*4801+97).fmod 1000003).fdiv 7).fmod (dm i))) (TT ⟨u,pr,[],(md*4801+97).fmod 1000003,v5+1,used,last,Md,v7,b0,b1⟩ gs)):=
 match i with
 | 0=>by kernel_rfl
 | 1=>by kernel_rfl
 | 2=>by kernel_rfl
 | 3=>by kernel_rfl
 | 4=>by kernel_rfl
 | 5=>by kernel_rfl
 | _+6=>by kernel_rfl
theorem nv {k:VK} {z:Z} {gs:List MO} {n:Nat} (i:Nat) (hz:B0 z.Ld z.md)
  (h:∀r Ld md v5,0≤r->r <dm i->B0 Ld md->k (.int r) (TT {z with Ld:=Ld,md:=md,v5:=v5} gs)):(vl D (n+12)).call (.ref 690) [.loc 5,.int (dm i)] (TT z gs) k bB:=by
 obtain ⟨u,pr,Ld,md,v5,used,last,Md,v7,b0,b1⟩:=z;refine eg hz λl m0 m1=>?_;clear hz;refine ah (GC i) λh0 h1=>?_;induction Ld using aX with
 | cons c L=>refine ag (Dr ..) ?_;have O:L.length+1≤24:=l;exact aK (by unfold mf;refine ag (ar ..) (aD.mpr ⟨bg (by show L.length+1≤1000;exact by lia),rfl⟩)) (aK (bg (by refine ag (ar ..) ?_;exact by lia)) (aK (gh (Vh.mpr h0)) (aK (gh (Aq ⟨gd h0,h1⟩ (by decide:(1000:Int)≤1000003))) (h _ L md v5 (eF _ h0) (fO _ h0) ⟨by exact cj ‹_›,m0,m1⟩))))
 | nil=>refine ag (GD ..) ?_;exact aK (gh (Aq ⟨m0,m1⟩ (by decide))) (h _ [] _ (v5+1) (eF _ h0) (fO _ h0) ⟨l,eF _ (by decide),fO _ (by decide)⟩)
set_option genCtorIdx false in
set_option genInjectivity false in
inductive Sh where
 | e0 | e1 (g nb w k wh:TV) | e2 (g nb w k wh kp:TV)
noncomputable def Sh.ctorIdx (x:Sh):Nat:=@Sh.casesOn (λY=>Nat) x 0 (λY Y Y Y Y=>1) (λY Y Y Y Y Y=>2)
noncomputable def Sh.loc:Sh->List (aU × TV)
 | .e0=>[]
 | .e1 g nb w k wh=>[("go",g),("way",w),("number",nb),("key",k),("what",wh)]
 | .e2 g nb w k wh kp=>[("go",g),("way",w),("number",nb),("key",k),("what",wh),("kept",kp)]
noncomputable def c9 (O:TV) (G:TV) (cnt:Int) (l:List (aU × TV)):aB:=⟨Ap.scope,("script",O)::("deck",.loc 5)::("least",G)::("knowns",.lst [.loc 12,.loc 13])::("count",.int cnt)::l,m8,ac 0⟩
noncomputable def Ds (O G:TV) (cnt:Int) (sh:Sh) (g:TV):aB:=(c9 O G cnt sh.loc).set "go" g
noncomputable abbrev CT:=TV->List TV->List MO->VK->VX->Prop
noncomputable def CL (n:Nat) (C:CT):fX:={vl D n with call:=C}
noncomputable def up (E:fX):Nat->fX
 | 0=>E
 | m+1=>j2 D (up E m)
theorem gu (n:Nat):∀m,up (CL n (vl D n).call) m=vl D (n+m)
 | 0=>rfl
 | m+1=>congrArg (j2 D) (gu n m)
theorem UK (O G:TV) (cnt:Int) (sh:Sh) (g:TV) (n:Nat) (T:List MO) (C:CT) (k:aO->aB->List MO->Prop):(up (CL (n+13) C) 3).exec (yv 0) (Ds O G cnt sh g) T k bB=
  C (.ref 690) [.loc 5,.int 2] T (λa T1=>C (.ref 690) [.loc 5,.int 4] T1 (λb I=>k .next (((Ds O G cnt sh g).set "way" b).set "number" a) I) bB) bB:=by
 induction sh <;> kernel_rfl
theorem Qc (O G:TV) (cnt:Int) (sh:Sh) (g:TV) (n:Nat) (T:List MO) (k:aO->aB->List MO->Prop):(vl D (n+16)).exec (yv 0) (Ds O G cnt sh g) T k bB=
  (vl D (n+13)).call (.ref 690) [.loc 5,.int 2] T (λa T1=>(vl D (n+13)).call (.ref 690) [.loc 5,.int 4] T1 (λb I=>k .next (((Ds O G cnt sh g).set "way" b).set "number" a) I) bB) bB:=by
 have e:=UK O G cnt sh g n T (vl D (n+13)).call k;rw [gu] at e;exact e
noncomputable def OO (s:cg):aC:=sS e0 (v:=s) (xAssign:=λt Y Y=>t.headD e0)
noncomputable abbrev Ar (O G:TV) (cnt:Int) (sh:Sh) (g I w:TV):aB:=((Ds O G cnt sh g).set "way" w).set "number" I
noncomputable abbrev Qd (O G:TV) (cnt:Int) (sh:Sh) (g I w k J:TV):aB:=((Ar O G cnt sh g I w).set "key" k).set "what" J
def JH (O G:TV) (cnt:Int) (sh:Sh) (g I w:TV) (n:Nat) (z:Z) (gs:List MO) (k:aO->aB->List MO->Prop):Prop:=(lU D (n+40)).exec (yv 1) (Ar O G cnt sh g I w) (TT z gs) k bB
def JI (P G:TV) (cnt:Int) (sh:Sh) (g O w:TV) (n:Nat) (z:Z) (gs:List MO) (k:aO->aB->List MO->Prop):Prop:=
  (vl D (n+37)).call (.ref 690) [.loc 5,.int 8] (TT z gs) (λa T1=>(lU D (n+38)).call (.ref 697) [.loc 6,a] T1 (λr I=>(lU D (n+39)).asg (OO (yv 1)) r (Ar P G cnt sh g O w) I (λe J=>k .next e J) bB) bB) bB
theorem JJ (O G:TV) (cnt:Int) (sh:Sh) (g I w:TV) (n:Nat) (z:Z) (gs:List MO) (k:aO->aB->List MO->Prop):JH O G cnt sh g I w n z gs k=JI O G cnt sh g I w n z gs k:=by induction sh <;> kernel_rfl
theorem Qe (O G:TV) (cnt:Int) (sh:Sh) (g I w:TV) (n:Nat) (z:Z) (gs:List MO) (k:aO->aB->List MO->Prop):(lU D (n+40)).exec (yv 1) (Ar O G cnt sh g I w) (TT z gs) k bB=
  (vl D (n+37)).call (.ref 690) [.loc 5,.int 8] (TT z gs) (λa T1=>(lU D (n+38)).call (.ref 697) [.loc 6,a] T1 (λr J=>(lU D (n+39)).asg (OO (yv 1)) r (Ar O G cnt sh g I w) J (λe P=>k .next e P) bB) bB) bB:=JJ O G cnt sh g I w n z gs k
theorem NG (O G:TV) (cnt:Int) (sh:Sh) (g I w a b:TV) (n:Nat) (T:List MO) (k:aB->List MO->Prop):(lU D (n+39)).asg (OO (yv 1)) (.tup [a,b]) (Ar O G cnt sh g I w) T k bB=k (Qd O G cnt sh g I w a b) T:=by induction sh <;> kernel_rfl
theorem Qf (z:Z) (gs:List MO) (n:Nat) (k:VK):(lU D (n+38)).call (.ref 697) [.loc 6,.int 1] (TT z gs) k bB=
  br (decide (16777216 <z.used+0+1)) False (aW (aH z.Md.length 1000) (k (.tup [k8 1 (z.last+1),.str "a"]) (TT {z with used:=z.used+1,last:=z.last+1,Md:=dq (.atom (.int (z.last+1))) (.int (z.last+1)) (.tup [.int 1,.bool am,.int 0]) z.Md,v7:=z.v7+1} gs))):=by kernel_rfl
theorem Qg (j:Nat) (z:Z) (gs:List MO) (n:Nat) (k:VK) (h:j <8) (h1:j≠1):(lU D (n+38)).call (.ref 697) [.loc 6,.int (aL j)] (TT z gs) k bB=k (.tup [k8 j 0,(v7 j).what]) (TT z gs):=by revert h1;refine So j h (λY=>?_) (λh=>absurd rfl h) (λY=>?_) (λY=>?_) (λY=>?_) (λY=>?_) (λY=>?_) (λY=>?_)<;> kernel_rfl
noncomputable def ib:Bool->Int
 | false=>0
 | true=>1
noncomputable def cq (m:Int):Int:=if 65535 <(if 2*m <8 then 8 else 2*m) then 65535 else if 2*m <8 then 8 else 2*m
noncomputable def d0 (I J:Int) (G:List (bJ × TV × TV)):List (bJ × TV × TV):=BY 1 I::BY 2 J::G
noncomputable def Qh (i:Bool) (c:Int) (I J:Int) (G:List (bJ × TV × TV)):List (bJ × TV × TV):=match i with
 | false=>d0 (I+c) J G
 | true=>d0 I (J+c) G
noncomputable def yx (v:V7) (kept:TV) (n:Int) (E:List (bJ × TV × TV)):List (bJ × TV × TV):=dq v.key (.tup v.word) (.tup [kept,dT n]) E
noncomputable def As (v:V7) (what:TV) (n:Int) (N:List (bJ × TV × TV)):List (bJ × TV × TV):=dq v.mark v.markT (.tup [what,.int n]) N
noncomputable def Qi:Option TV->List (aU × TV)
 | none=>[]
 | some v=>[("kept",v)]
noncomputable def mw (O G:TV) (cnt:Int) (g I w k J:TV) (f:Option TV):aB:=c9 O G cnt (("go",g)::("way",w)::("number",I)::("key",k)::("what",J)::Qi f)
theorem JK (O G:TV) (cnt:Int) (sh:Sh) (g I w k J:TV):∃f,Qd O G cnt sh g I w k J=mw O G cnt g I w k J f:=by
 induction sh with
 | e0=>exact ⟨al,rfl⟩
 | e1=>exact ⟨al,rfl⟩
 | e2 _ _ _ _ _ f=>exact ⟨ac f,rfl⟩
theorem JL (O G:TV) (cnt:Int) (g I w k J:TV) (f:Option TV):∃sh:Sh,mw O G cnt g I w k J f=c9 O G cnt sh.loc:=by
 induction f with
 | none=>exact ⟨.e1 g I w k J,rfl⟩
 | some v=>exact ⟨.e2 g I w k J v,rfl⟩
noncomputable def Bd.del (b:Bd) (v:V7):Bd:={b with E:=ik v.key b.E,N:=ik v.mark b.N,v:=b.v+1,w:=b.w+1}
noncomputable def Bd.put (b:Bd) (v:V7) (kept what:TV) (n:Int):Bd:={b with E:=yx v kept n b.E,N:=As v what n b.N,v:=b.v+1,w:=b.w+1}
abbrev need2 (b:Bd) (p:Prop):Prop:=aW (aH b.E.length 1000) (aW (aH b.N.length 1000) p)
def At (i:Bool) (j:Nat) (e:bX) (O G:TV) (cnt:Int) (f:Option TV) (g:TV) (w:Int) (I:Int) (n:Nat) (z:Z) (gs:List MO) (k:aO->aB->List MO->Prop):Prop:=(vl D (n+39)).exec (yv 2) (mw O G cnt g (.int (ib i)) (.int w) (k8 j I) (v7 j).what f) (TA z i (v7 j) (ac e) gs) k bB
def Au (i:Bool) (j:Nat) (e:bX) (O G:TV) (cnt:Int) (f:Option TV) (g:TV) (w:Int) (I:Int) (n:Nat) (z:Z) (gs:List MO) (k:aO->aB->List MO->Prop):Prop:=
  br (w==3) (need2 (z.b i) (k .next (mw O G cnt g (.int (ib i)) (.int w) (k8 j I) (v7 j).what f) (TT (z.set i ((z.b i).del (v7 j))) gs)))
   (need2 (z.b i) (k .next (mw O G (cnt+1) g (.int (ib i)) (.int w) (k8 j I) (v7 j).what (ac e.1.what)) (TT (z.set i ((z.b i).put (v7 j) e.1.kept e.1.what (cnt+1))) gs)))
theorem Av (i:Bool) (j:Nat) (h:j <8) (e:bX) (O G:TV) (cnt:Int) (f:Option TV) (g:TV) (w:Int) (I:Int) (n:Nat) (z:Z) (gs:List MO) (k:aO->aB->List MO->Prop):At i j e O G cnt f g w I n z gs k=Au i j e O G cnt f g w I n z gs k:=by induction i <;> induction f <;> refine So j h ?_ ?_ ?_ ?_ ?_ ?_ ?_ ?_ <;> kernel_rfl
theorem GE (i:Bool) (j:Nat) (h:j <8) (e:bX) (O G:TV) (cnt:Int) (f:Option TV) (g:TV) (w:Int) (I:Int) (n:Nat) (z:Z) (gs:List MO) (k:aO->aB->List MO->Prop):(vl D (n+39)).exec (yv 2) (mw O G cnt g (.int (ib i)) (.int w) (k8 j I) (v7 j).what f) (TA z i (v7 j) (ac e) gs) k bB=
  br (w==3) (need2 (z.b i) (k .next (mw O G cnt g (.int (ib i)) (.int w) (k8 j I) (v7 j).what f) (TT (z.set i ((z.b i).del (v7 j))) gs)))
   (need2 (z.b i) (k .next (mw O G (cnt+1) g (.int (ib i)) (.int w) (k8 j I) (v7 j).what (ac e.1.what)) (TT (z.set i ((z.b i).put (v7 j) e.1.kept e.1.what (cnt+1))) gs))):=Av i j h e O G cnt f g w I n z gs k
def Aw (i:Bool) (j:Nat) (S G:TV) (cnt:Int) (f:Option TV) (g:TV) (w:Int) (P:Int) (n:Nat) (z:Z) (J O:Int) (I:List (bJ × TV × TV)) (gs:List MO) (k:aO->aB->List MO->Prop):Prop:=(vl D (n+39)).exec (yv 2) (mw S G cnt g (.int (ib i)) (.int w) (k8 j P) (v7 j).what f) (TA {z with Md:=d0 J O I} i (v7 j) al gs) k bB
def Ax (i:Bool) (j:Nat) (S G:TV) (cnt:Int) (f:Option TV) (g:TV) (w:Int) (P:Int) (n:Nat) (z:Z) (J O:Int) (I:List (bJ × TV × TV)) (gs:List MO) (k:aO->aB->List MO->Prop):Prop:=
  br (w==3) (aW (aH (z.b i).N.length 1000) (k .next (mw S G cnt g (.int (ib i)) (.int w) (k8 j P) (v7 j).what f) (TA {z with Md:=d0 J O I} i (v7 j) al gs)))
   (aW (aH (z.b i).E.length 1000) (br (decide ((z.b i).m≤((z.b i).E.length:Int)))
    (aW (bU (z.b i).m.natAbs (2 ^ 60)) (br (decide (cq (z.b i).m≤(z.b i).m)) False (aW (bU (cq (z.b i).m - (z.b i).m).natAbs (2 ^ 60)) (br (decide (16777216 <z.used+0+16*(cq (z.b i).m - (z.b i).m))) False
     (aW (aH (d0 J O I).length 1000) (need2 (z.b i) (k .next (mw S G (cnt+1) g (.int (ib i)) (.int w) (k8 j P) (v7 j).what (ac (v7 j).what))
      (TT (({z with used:=z.used+16*(cq (z.b i).m - (z.b i).m),Md:=Qh i (16*(cq (z.b i).m - (z.b i).m)) J O I,v7:=z.v7+1}:Z).set i {(z.b i).put (v7 j) (v7 j).kept (v7 j).what (cnt+1) with m:=cq (z.b i).m}) gs))))))))
    (need2 (z.b i) (k .next (mw S G (cnt+1) g (.int (ib i)) (.int w) (k8 j P) (v7 j).what (ac (v7 j).what)) (TT (({z with Md:=d0 J O I}:Z).set i ((z.b i).put (v7 j) (v7 j).kept (v7 j).what (cnt+1))) gs)))))
theorem Ay (i:Bool) (j:Nat) (h:j <8) (S G:TV) (cnt:Int) (f:Option TV) (g:TV) (w:Int) (P:Int) (n:Nat) (z:Z) (J O:Int) (I:List (bJ × TV × TV)) (gs:List MO) (k:aO->aB->List MO->Prop):Aw i j S G cnt f g w P n z J O I gs k=Ax i j S G cnt f g w P n z J O I gs k:=by induction i <;> induction f <;> refine So j h ?_ ?_ ?_ ?_ ?_ ?_ ?_ ?_ <;> kernel_rfl
theorem GF (i:Bool) (j:Nat) (h:j <8) (S G:TV) (cnt:Int) (f:Option TV) (g:TV) (w:Int) (P:Int) (n:Nat) (z:Z) (J O:Int) (I:List (bJ × TV × TV)) (gs:List MO) (k:aO->aB->List MO->Prop):(vl D (n+39)).exec (yv 2) (mw S G cnt g (.int (ib i)) (.int w) (k8 j P) (v7 j).what f) (TA {z with Md:=d0 J O I} i (v7 j) al gs) k bB=
  br (w==3) (aW (aH (z.b i).N.length 1000) (k .next (mw S G cnt g (.int (ib i)) (.int w) (k8 j P) (v7 j).what f) (TA {z with Md:=d0 J O I} i (v7 j) al gs)))
   (aW (aH (z.b i).E.length 1000) (br (decide ((z.b i).m≤((z.b i).E.length:Int)))
    (aW (bU (z.b i).m.natAbs (2 ^ 60)) (br (decide (cq (z.b i).m≤(z.b i).m)) False (aW (bU (cq (z.b i).m - (z.b i).m).natAbs (2 ^ 60)) (br (decide (16777216 <z.used+0+16*(cq (z.b i).m - (z.b i).m))) False
     (aW (aH (d0 J O I).length 1000) (need2 (z.b i) (k .next (mw S G (cnt+1) g (.int (ib i)) (.int w) (k8 j P) (v7 j).what (ac (v7 j).what))
      (TT (({z with used:=z.used+16*(cq (z.b i).m - (z.b i).m),Md:=Qh i (16*(cq (z.b i).m - (z.b i).m)) J O I,v7:=z.v7+1}:Z).set i {(z.b i).put (v7 j) (v7 j).kept (v7 j).what (cnt+1) with m:=cq (z.b i).m}) gs))))))))
    (need2 (z.b i) (k .next (mw S G (cnt+1) g (.int (ib i)) (.int w) (k8 j P) (v7 j).what (ac (v7 j).what)) (TT (({z with Md:=d0 J O I}:Z).set i ((z.b i).put (v7 j) (v7 j).kept (v7 j).what (cnt+1))) gs))))):=Ay i j h S G cnt f g w P n z J O I gs k
theorem py (v:V7) (n:Int):∀L:List bX,yx v (match d8 v.cls L with | some e=>e.1.kept | none=>v.kept) n (L.map bR)=(kD v n L).map bR∧As v (match d8 v.cls L with | some e=>e.1.what | none=>v.what) n (L.map gm)=(kD v n L).map gm
 | []=>⟨rfl,rfl⟩
 | e::L=>by
  have P:=py v n L;unfold yx As at P ⊢;refine ag (aT ..) (ag (aT ..) ?_);rw [kD];rw [d8];rw [dq];rw [dq];by_cases h:e.1.cls=v.cls
  ·refine ag (if_pos h ..) (ag (if_pos h ..) ?_);refine ag (if_pos (show (bR e).1=v.key from (fF e.1 v).1.mpr h) ..) ?_;refine ag (if_pos (show (gm e).1=v.mark from (fF e.1 v).2.mpr h) ..) ?_;exact ⟨rfl,rfl⟩
  ·refine ag (if_neg h ..) (ag (if_neg h ..) ?_);refine ag (if_neg (λq=>h ((fF e.1 v).1.mp q):¬(bR e).1=v.key) ..) (ag (if_neg (λq=>h ((fF e.1 v).2.mp q):¬(gm e).1=v.mark) ..) ?_);refine ag (P.1 ..) (ag (P.2 ..) ?_);exact ⟨rfl,rfl⟩
theorem rT (v:V7):∀L:List bX,ik v.key (L.map bR)=(yu v.cls L).map bR∧ik v.mark (L.map gm)=(yu v.cls L).map gm
 | []=>⟨rfl,rfl⟩
 | e::L=>by
  refine ag (aT ..) (ag (aT ..) ?_);rw [yu];rw [ik];rw [ik];by_cases h:e.1.cls=v.cls
  ·refine ag (if_pos h ..) (ag (if_pos (show (bR e).1=v.key from (fF e.1 v).1.mpr h) ..) ?_);refine ag (if_pos (show (gm e).1=v.mark from (fF e.1 v).2.mpr h) ..) ?_;exact ⟨rfl,rfl⟩
  ·refine ag (if_neg h ..) (ag (if_neg (λq=>h ((fF e.1 v).1.mp q):¬(bR e).1=v.key) ..) ?_);refine ag (if_neg (λq=>h ((fF e.1 v).2.mp q):¬(gm e).1=v.mark) ..) (ag ((rT v L).1 ..) ?_);refine ag ((rT v L).2 ..) ⟨rfl,rfl⟩
def ND (L:List bX):Prop:=L.Pairwise λa b=>a.1.cls≠b.1.cls
theorem B1 {v:V7} {n:Int} {e:bX}:∀{L:List bX},e∈kD v n L->(∃d∈L,d.1.cls=e.1.cls)∨e.1.cls=v.cls
 | [],h=>by obtain rfl:=aV.mp h;exact .inr rfl
 | d::L,h=>by
  rw [kD] at h;by_cases q:d.1.cls=v.cls
  ·rw [if_pos q] at h;rcases bj.mp h with h | h
   ·refine ag h (.inr q)
   ·exact .inl ⟨e,aE _ h,rfl⟩
  ·rw [if_neg q] at h;rcases bj.mp h with h | h
   ·refine ag h (.inl ⟨_,aA ..,rfl⟩)
   ·exact (B1 h).imp (λ⟨d,m,q⟩=>⟨d,aE _ m,q⟩) id
theorem tm {v:V7} {n:Int}:∀{L:List bX},ND L->ND (kD v n L)
 | [],_=>List.pairwise_singleton ..
 | d::L,h=>by
  refine ah (me.mp h) λh1 h2=>?_;rw [kD];by_cases q:d.1.cls=v.cls
  ·refine ag (if_pos q ..) (me.mpr ⟨h1,h2⟩)
  ·refine ag (if_neg q ..) (me.mpr ⟨λe I=>?_,tm h2⟩);refine bk (B1 I) (λG=>?_) λw=>?_
   ·refine ae G λc m w=>bZ (w ..) (h1 c m)
   ·refine ag (w ..) q
theorem pA {c:Nat}:∀{L:List bX},(yu c L).Sublist L
 | []=>.slnil
 | d::L=>by
  rw [yu];by_cases q:d.1.cls=c
  ·refine ag (if_pos q ..) (Ig ..)
  ·refine ag (if_neg q ..) (pA.cons_cons _)
theorem lW {v:V7} {n:Int}:∀{L:List bX},(kD v n L).length=match d8 v.cls L with | some _=>L.length | none=>L.length+1
 | []=>rfl
 | d::L=>by
  have P:=lW (v:=v) (n:=n) (L:=L);rw [kD,d8];by_cases q:d.1.cls=v.cls
  ·refine ag (if_pos q ..) (ag (if_pos q ..) ?_);rfl
  ·refine ag (if_neg q ..) (ag (if_neg q ..) ?_);refine ag (bf ..) (ag (P ..) ?_);obtain ⟨⟩:=d8 v.cls L <;> rfl
structure mr (b:Bd) (L:List bX) (a least:Int):Prop where
 e:b.E=L.map bR
 n:b.N=L.map gm
 nd:ND L
 cap:(L.length:Int)≤b.m
 lo:least≤b.m
 m0:0≤b.m
 m1:b.m≤64
 a:b.a=a
 sm:∀e∈L,0≤e.2∧e.2 <999
structure GG where
 u:List (Nat × Nat)
 pr:Option TV
 a:Bool->Int
 l:Bool->Int
noncomputable abbrev Ls:=Bool->List bX
noncomputable def upd (i:Bool) (L:List bX) (p:Ls):Ls:=λj=>if j=i then L else p j
structure rU (f:GG) (t:Nat) (z:Z) (p:Ls):Prop where
 u:z.u=f.u
 pr:z.pr=f.pr
 deck:B0 z.Ld z.md
 made:∃c1 c2 Mr,z.Md=d0 c1 c2 Mr∧Mr.length≤t
 last:2≤z.last
 u0:0≤z.used
 u1:z.used≤16*(z.b0.m+z.b1.m)+t
 b:∀i,mr (z.b i) (p i) (f.a i) (f.l i)
theorem GH {m:Int} (h0:0≤m) (h:m≤30):cq m=if m <4 then 8 else 2*m:=by
 unfold cq;by_cases q:m <4
 ·refine ag (if_pos q ..) (ag (if_pos (show 2*m <8 by exact by lia) ..) ?_);rfl
 ·refine ag (if_neg q ..) (ag (if_neg (show ¬2*m <8 by exact by lia) ..) ?_);exact ag (if_neg (by lia) ..) rfl
theorem wn {m:Int} (h0:0≤m) (h:m≤29):m <cq m∧8≤cq m∧cq m≤64∧2*m≤cq m:=by refine ag (GH h0 (cA h (by decide))) (kV (λY=>?_) λY=>?_)<;> lia
theorem NH {m n:Int} (h0:0≤m) (h:m <n) (h1:n≤64):(n - m).natAbs <2 ^ 60:=Qa (K7 (gd h)) (cA (Int.sub_le_self _ h0) (cA h1 (by decide)))
theorem SW {u b m n:Int} {t:Nat} (I:u≤16*(b+m)+t) (G:b+n≤128) (y:t≤900):¬16777216 <u+0+16*(n - m):=by lia
theorem Qj {u m n:Int} (G:0≤u) (h:m <n):0≤u+16*(n - m):=Int.add_nonneg G (Int.mul_nonneg (by decide) (K7 (gd h)))
theorem mr.ne {b:Bd} {L:List bX} {a l:Int} (h:mr b L a l):b.E.length=L.length∧b.N.length=L.length:=⟨by refine ag (h.e ..) ?_;exact ag (ar ..) rfl,by refine ag (h.n ..) ?_;exact ag (ar ..) rfl⟩
theorem mr.need2 {b:Bd} {L:List bX} {a l:Int} (h:mr b L a l) {p:Prop} (q:p):need2 b p:=by have:=h.ne;have:=h.cap;have:=h.m1;exact aK (bg (by lia)) (aK (bg (by lia)) q)
theorem rU.sets {f:GG} {t:Nat} {z:Z} {p:Ls} (O:rU f t z p) {i:Bool} {G:Bd} {I:List bX} {used:Int} {Md:List (bJ × TV × TV)} {v7:Nat} (S:mr G I (f.a i) (f.l i)) (P:∃V W J,Md=d0 V W J∧J.length≤t) (h0:0≤used) (h1:used - 16*G.m≤z.used - 16*(z.b i).m):
  rU f t (({z with used:=used,Md:=Md,v7:=v7}:Z).set i G) (upd i I p):=by
 have h2:=O.u1;induction i with
 | false=>have h1:used - 16*G.m≤z.used - 16*z.b0.m:=h1;exact ⟨O.u,O.pr,O.deck,P,O.last,h0,(show used≤16*(G.m+z.b1.m)+t by exact by lia),λi=>match i with | false=>S | true=>O.b au⟩
 | true=>have h1:used - 16*G.m≤z.used - 16*z.b1.m:=h1;exact ⟨O.u,O.pr,O.deck,P,O.last,h0,(show used≤16*(z.b0.m+G.m)+t by exact by lia),λi=>match i with | false=>O.b am | true=>S⟩
theorem tn {v:V7} {n:Int} {e:bX}:∀{L:List bX},e∈kD v n L->e∈L∨e.2=n
 | [],h=>by obtain rfl:=aV.mp h;exact .inr rfl
 | d::L,h=>by
  rw [kD] at h;by_cases q:d.1.cls=v.cls
  ·rw [if_pos q] at h;rcases bj.mp h with h | h
   ·refine ag h (.inr rfl)
   ·exact .inl (aE _ h)
  ·rw [if_neg q] at h;rcases bj.mp h with h | h
   ·refine ag h (.inl (aA ..))
   ·exact (tn h).imp (aE _) id
theorem mr.put {b:Bd} {L:List bX} {a l:Int} (O:mr b L a l) (v:V7) (n:Int) (S:0≤n∧n <999) {m:Int} (I:b.m≤m) (G:m≤64) (J:d8 v.cls L=al->(L.length:Int)+1≤m):
  mr {b.put v (match d8 v.cls L with | some e=>e.1.kept | none=>v.kept) (match d8 v.cls L with | some e=>e.1.what | none=>v.what) n with m:=m} (kD v n L) a l where
 e:=(congrArg (yx _ _ _) O.e).trans (py v n L).1
 n:=(congrArg (As _ _ _) O.n).trans (py v n L).2
 nd:=tm O.nd
 cap:=by
  refine (?_:((kD v n L).length:Int)≤m);refine ag (lW ..) ?_;have:=O.cap;cases h:d8 v.cls L with
  | none=>exact J h
  | some _=>exact cA ‹_› ‹_›
 lo:=cA O.lo I
 m0:=cA O.m0 I
 m1:=G
 a:=O.a
 sm:=λe P=>(tn P).elim (O.sm e) λq=>q▸S
theorem mr.del {b:Bd} {L:List bX} {a l:Int} (O:mr b L a l) (v:V7):mr (b.del v) (yu v.cls L) a l where
 e:=(congrArg (ik _) O.e).trans (rT v L).1
 n:=(congrArg (ik _) O.n).trans (rT v L).2
 nd:=O.nd.sublist pA
 cap:=by have:=O.cap;have:=(pA (c:=v.cls) (L:=L)).length_le;refine (?_:((yu v.cls L).length:Int)≤b.m);exact by lia
 lo:=O.lo
 m0:=O.m0
 m1:=O.m1
 a:=O.a
 sm:=λe G=>O.sm e (pA.subset G)
def LK {V G:TV} {cnt:Int} {W:Option TV} {g:TV} {n:Nat} {z:Z} {gs:List MO} {k:aO->aB->List MO->Prop} {p:Ls} {t:Nat} {i:Bool} {j:Nat}:Prop:=∀{f:GG} (r:j <8) (w J:Int) (O:rU f t z p) (hl:(p i).length≤28) (Y:t≤900) (l:0≤cnt∧cnt≤900) (h:∀y P S I,0≤S∧S≤cnt+1->rU f t y P->(∀i,(P i).length≤(p i).length+1)->k .next (mw V G S g (.int (ib i)) (.int w) (k8 j J) (v7 j).what I) (TT y gs)),(vl D (n+39)).exec (yv 2) (mw V G cnt g (.int (ib i)) (.int w) (k8 j J) (v7 j).what W) (TT z gs) k bB
noncomputable def bF:=rm <| U λO=>U λG=>U λcnt=>U λf=>U λg=>U λn=>U λz=>U λgs=>U λk=>U λp=>U λt=>U λi=>@LK O G cnt f g n z gs k p t i
theorem GJ {sv least cnt kp g n z gs k p t} (i) (j):@LK sv least cnt kp g n z gs k p t i j:=jX (c:=bF) rfl (by
 intro f hj w kn O hl ht hc h;refine gy O.made λl y S hM lM=>?_;have G:=O.b bF.2.2.2.2.2.2.2.2.2.2.2.1;have r:=G.cap;have J:=O.u0;have hu1:=O.u1;have hub:(bF.2.2.2.2.2.2.1.b0.m+bF.2.2.2.2.2.2.1.b1.m)≤128:=by have h0:bF.2.2.2.2.2.2.1.b0.m≤64:=(O.b am).m1;have h1:bF.2.2.2.2.2.2.1.b1.m≤64:=(O.b au).m1;exact by lia
 have le:∀W,W.length≤(bF.2.2.2.2.2.2.2.2.2.1 bF.2.2.2.2.2.2.2.2.2.2.2.1).length+1->∀q,(upd bF.2.2.2.2.2.2.2.2.2.2.2.1 W bF.2.2.2.2.2.2.2.2.2.1 q).length≤(bF.2.2.2.2.2.2.2.2.2.1 q).length+1:=λW hL q=>by
  unfold upd;by_cases e:q=bF.2.2.2.2.2.2.2.2.2.2.2.1
  ·refine ag (if_pos e ..) (ag (e ..) ?_);exact hL
  ·refine ag (if_neg e ..) (dZ _)
 have Ec:∀b:Bd,bF.2.2.2.2.2.2.1.set bF.2.2.2.2.2.2.2.2.2.2.2.1 b=({bF.2.2.2.2.2.2.1 with used:=bF.2.2.2.2.2.2.1.used,Md:=bF.2.2.2.2.2.2.1.Md,v7:=bF.2.2.2.2.2.2.1.v7}:Z).set bF.2.2.2.2.2.2.2.2.2.2.2.1 b:=λb=>by rcases bF.2.2.2.2.2.2.2.2.2.2.2.1 with _ | _ <;> rfl
 cases V:d8 (v7 bF.2.2.2.2.2.2.2.2.2.2.2.2).cls (bF.2.2.2.2.2.2.2.2.2.1 bF.2.2.2.2.2.2.2.2.2.2.2.1) with
 | some e=>
  refine ag (q6 bF.2.2.2.2.2.2.1 bF.2.2.2.2.2.2.2.2.2.2.2.1 (v7 bF.2.2.2.2.2.2.2.2.2.2.2.2) G.e G.n V bF.2.2.2.2.2.2.2.1 ..) (ag (GE bF.2.2.2.2.2.2.2.2.2.2.2.1 bF.2.2.2.2.2.2.2.2.2.2.2.2 hj e ..) ?_);have P:=G.put (v7 bF.2.2.2.2.2.2.2.2.2.2.2.2) (bF.2.2.1+1) (by lia) (m:=(bF.2.2.2.2.2.2.1.b bF.2.2.2.2.2.2.2.2.2.2.2.1).m) (fD _) (G.m1) (λq=>by exact sn V q);rw [V] at P;cases hw:w==3 with
  | true=>refine yw rfl (G.need2 ?_);refine ag (Ec ..) (h _ _ _ _ (by lia) (O.sets (G.del _) O.made J (fD _)) (le _ (uB pA.length_le)))
  | false=>refine iQ rfl (G.need2 ?_);refine ag (Ec ..) ?_;exact h _ _ _ _ (by lia) (O.sets P O.made J (fD _)) (le _ (by refine ag (lW ..) (ag (V ..) ?_);exact dZ _))
 | none=>
  have hz:bF.2.2.2.2.2.2.1={bF.2.2.2.2.2.2.1 with Md:=d0 l y S}:=by exact bZ (hM ..) rfl
  have e0:TT bF.2.2.2.2.2.2.1 bF.2.2.2.2.2.2.2.1=TA {bF.2.2.2.2.2.2.1 with Md:=d0 l y S} bF.2.2.2.2.2.2.2.2.2.2.2.1 (v7 bF.2.2.2.2.2.2.2.2.2.2.2.2) al bF.2.2.2.2.2.2.2.1:=by refine ag (q6 bF.2.2.2.2.2.2.1 bF.2.2.2.2.2.2.2.2.2.2.2.1 (v7 bF.2.2.2.2.2.2.2.2.2.2.2.2) G.e G.n V bF.2.2.2.2.2.2.2.1 ..) ?_;exact bZ (hz ..) rfl
  refine ag (e0 ..) (ag (GF bF.2.2.2.2.2.2.2.2.2.2.2.1 bF.2.2.2.2.2.2.2.2.2.2.2.2 hj ..) ?_);refine ah G.ne λne1 ne2=>?_;cases hw:w==3 with
  | true=>refine yw rfl (aK (bg (by lia)) ?_);refine bZ (e0 ..) (h _ bF.2.2.2.2.2.2.2.2.2.1 _ _ (by lia) O λY=>dZ _)
  | false=>
   refine iQ rfl (aK (bg (by lia)) ?_);by_cases q:(bF.2.2.2.2.2.2.1.b bF.2.2.2.2.2.2.2.2.2.2.2.1).m≤((bF.2.2.2.2.2.2.1.b bF.2.2.2.2.2.2.2.2.2.2.2.1).E.length:Int)
   ·have qm:(bF.2.2.2.2.2.2.1.b bF.2.2.2.2.2.2.2.2.2.2.2.1).m≤28:=by exact by lia
    have I:=wn (G.m0) (cA qm (by decide));have P:=G.put (v7 bF.2.2.2.2.2.2.2.2.2.2.2.2) (bF.2.2.1+1) (by lia) (m:=cq (bF.2.2.2.2.2.2.1.b bF.2.2.2.2.2.2.2.2.2.2.2.1).m) (by lia) (by lia) (λY=>by exact by lia);rw [V] at P;refine yw (decide_eq_true q) (aK (gh (Qa (G.m0) (cA qm (by decide)))) (iQ (decide_eq_false (Bp.mpr I.1)) (aK (gh (NH (G.m0) I.1 I.2.2.1)) (iQ (decide_eq_false (by lia)) (aK (bg ?_) (G.need2 ?_))))))
    ·refine (?_:S.length+1+1≤1000);exact by lia
    ·refine h _ _ _ _ (by lia) (O.sets P ?_ (by lia) (show bF.2.2.2.2.2.2.1.used+16*(cq (bF.2.2.2.2.2.2.1.b bF.2.2.2.2.2.2.2.2.2.2.2.1).m - (bF.2.2.2.2.2.2.1.b bF.2.2.2.2.2.2.2.2.2.2.2.1).m) - 16*cq (bF.2.2.2.2.2.2.1.b bF.2.2.2.2.2.2.2.2.2.2.2.1).m≤bF.2.2.2.2.2.2.1.used - 16*(bF.2.2.2.2.2.2.1.b bF.2.2.2.2.2.2.2.2.2.2.2.1).m by exact by lia)) (le _ (by refine ag (lW ..) (ag (V ..) ?_);exact aG _));rcases bF.2.2.2.2.2.2.2.2.2.2.2.1 with _ | _ <;> exact ⟨_,_,_,rfl,lM⟩
   ·refine iQ (decide_eq_false q) (G.need2 ?_);have P:=G.put (v7 bF.2.2.2.2.2.2.2.2.2.2.2.2) (bF.2.2.1+1) (by lia) (m:=(bF.2.2.2.2.2.2.1.b bF.2.2.2.2.2.2.2.2.2.2.2.1).m) (fD _) (G.m1) (λY=>by exact by lia);rw [V] at P;refine ag ((show ({bF.2.2.2.2.2.2.1 with Md:=d0 l y S}:Z).set bF.2.2.2.2.2.2.2.2.2.2.2.1 ((bF.2.2.2.2.2.2.1.b bF.2.2.2.2.2.2.2.2.2.2.2.1).put (v7 bF.2.2.2.2.2.2.2.2.2.2.2.2) (v7 bF.2.2.2.2.2.2.2.2.2.2.2.2).kept (v7 bF.2.2.2.2.2.2.2.2.2.2.2.2).what (bF.2.2.1+1))=bF.2.2.2.2.2.2.1.set bF.2.2.2.2.2.2.2.2.2.2.2.1 ((bF.2.2.2.2.2.2.1.b bF.2.2.2.2.2.2.2.2.2.2.2.1).put (v7 bF.2.2.2.2.2.2.2.2.2.2.2.2) (v7 bF.2.2.2.2.2.2.2.2.2.2.2.2).kept (v7 bF.2.2.2.2.2.2.2.2.2.2.2.2).what (bF.2.2.1+1)) by exact bZ (hz ..) rfl) ..) (ag (Ec ..) ?_);exact h _ _ _ _ (by lia) (O.sets P O.made J (fD _)) (le _ (by refine ag (lW ..) (ag (V ..) ?_);exact aG _))) (sv,least,cnt,kp,g,n,z,gs,k,p,t,i,j)
theorem rU.deck' {f:GG} {t:Nat} {z:Z} {p:Ls} (O:rU f t z p) {Ld:List Int} {md:Int} (v5:Nat) (h:B0 Ld md):rU f t {z with Ld:=Ld,md:=md,v5:=v5} p:=
 ⟨O.u,O.pr,h,O.made,O.last,O.u0,O.u1,λi=>match i with | false=>O.b am | true=>O.b au⟩
theorem rU.text {f:GG} {t:Nat} {z:Z} {p:Ls} (O:rU f t z p) {v:TV × TV} (y:v=(.int (z.last+1),.tup [.int 1,.bool am,.int 0])):rU f (t+1) {z with used:=z.used+1,last:=z.last+1,Md:=dq (.atom (.int (z.last+1))) v.1 v.2 z.Md,v7:=z.v7+1} p:=by
 refine gy O.made λG I J P V=>?_;have hl:=O.last;have W:∀(k:bJ) (a b:TV) (l:List (bJ × TV × TV)),(dq k a b l).length≤l.length+1:=by
  intro k a b l;induction l with
  | nil=>exact aG _
  | cons d l S=>
   rw [dq];refine kV (λh=>?_) λh=>?_
   ·exact dZ _
   ·exact ix S
 refine ⟨O.u,O.pr,O.deck,⟨G,I,dq (.atom (.int (z.last+1))) v.1 v.2 J,?_,df (W _ _ _ _) (ix V)⟩,(show 2≤z.last+1 by exact by lia),(show 0≤z.used+1 by have:=O.u0;exact by lia),?_,λi=>match i with | false=>O.b am | true=>O.b au⟩
 ·show dq _ _ _ z.Md=_;rw [P,d0,dq,if_neg (show ¬(BY 1 G).1=.atom (.int (z.last+1)) from λq=>by
   have:(1:Int)=z.last+1:=by injection q with q;injection q
   exact by lia),dq,if_neg (show ¬(BY 2 I).1=.atom (.int (z.last+1)) from λq=>by
   have:(2:Int)=z.last+1:=by injection q with q;injection q
   exact by lia)]
  rfl
 ·show z.used+1≤16*(z.b0.m+z.b1.m)+((t+1:Nat):Int);have:=O.u1;refine ag (show ((t+1:Nat):Int)=(t:Int)+1 from rfl ..) ?_;exact by lia
theorem rU.le {f:GG} {t G:Nat} {z:Z} {p:Ls} (O:rU f t z p) (h:t≤G):rU f G z p:=by refine gy O.made λJ P I S V=>?_;have:=O.u1;exact ⟨O.u,O.pr,O.deck,⟨J,P,I,S,df V h⟩,O.last,O.u0,by exact by lia,O.b⟩
def JM (E:fX) (O:aB->List MO->Prop) (P:TV->aB->List MO->Prop) (g:TV) (ve:aB) (T:List MO):Prop:=
 E.asg (ch (bE 3)) g ve T (λI T1=>bl E (bG (bE 3)) I T1 (λf G J=>match f with | .next=>O G J | .ret v=>P v G J) bB) bB
theorem JN (n:Nat) (J:aB->List MO->Prop) (I:TV->aB->List MO->Prop) (g S G:TV) (cnt:Int) (sh:Sh) (T:List MO):JM (lU D (n+40)) J I g (c9 S G cnt sh.loc) T=
  (vl D (n+40)).exec (yv 0) (Ds S G cnt sh g) T (λV e1 T1=>match V with
   | .next=>(lU D (n+40)).exec (yv 1) e1 T1 (λW e2 O=>match W with
    | .next=>(vl D (n+40)).exec (yv 2) e2 O (λf e3 P=>match f with
     | .next=>J e3 P
     | .ret v=>I v e3 P) bB
    | .ret v=>I v e2 O) bB
   | .ret v=>I v e1 T1) bB:=by kernel_rfl
theorem tr {r m:Int} (h0:0≤r) (h:r <m):∃j:Nat,r=aL j∧(j:Int)<m:=⟨r.toNat,(rH h0).symm,by refine ag (rH h0 ..) ?_;exact h⟩
theorem JO {P G:TV} {cnt:Int} {sh:Sh} {g:TV} {n:Nat} {z:Z} {gs:List MO} {Kn:aB->List MO->Prop} {Kr:TV->aB->List MO->Prop} {p:Ls} {f:GG} {t:Nat} (O:rU f t z p) (hl:∀i,(p i).length≤28) (ht:t≤800) (hc:0≤cnt∧cnt≤900)
  (h:∀z' Y S J,0≤S∧S≤cnt+1->rU f (t+1) z' Y->(∀i,(Y i).length≤(p i).length+1)->Kn (c9 P G S (Sh.loc J)) (TT z' gs)):JM (lU D (n+40)) Kn Kr g (c9 P G cnt sh.loc) (TT z gs):=by
 refine ag (JN ..) ?_;have e1:=Qc P G cnt sh g (n+24) (TT z gs);rw [show n+24+16=n+40 from rfl] at e1;refine ag (e1 ..) (nv (n:=n+25) 0 O.deck λr Ld md v5 r0 r1 hd=>?_);have O1:=O.deck' v5 hd;refine nv (n:=n+25) 2 hd λw Ld md v5 w0 w1 hd=>?_;have O2:=O1.deck' v5 hd;clear O1;generalize hz2:({({z with Ld:=_,md:=_,v5:=_}:Z) with Ld:=Ld,md:=md,v5:=v5}:Z)=z2 at O2 ⊢;refine ag (Qe ..) (nv (n:=n+25) 5 O2.deck λq Ld md v5 q0 q1 hd=>?_);have I:=O2.deck' v5 hd;generalize hz3:({z2 with Ld:=Ld,md:=md,v5:=v5}:Z)=z3 at I ⊢;refine ae (tr q0 q1) λj eq1 hj=>?_;subst eq1;obtain ⟨i,rfl⟩:∃i,r=ib i:=by
  have:r=0∨r=1:=by have r1:r <2:=r1;exact by lia
  rcases this with e | e
  ·exact ⟨am,e⟩
  ·exact ⟨au,e⟩
 have W:j <8:=by have hj:(j:Int)<8:=hj;exact by lia
 have V:∀{z4:Z} (l:Int),rU f (t+1) z4 p->(lU D (n+39)).asg (OO (yv 1)) (.tup [k8 j l,(v7 j).what]) (Ar P G cnt sh g (.int (ib i)) (.int w)) (TT z4 gs) (λe y=>(vl D (n+40)).exec (yv 2) e y (λf3 e3 y=>match f3 with
     | .next=>Kn e3 y
     | .ret v=>Kr v e3 y) bB) bB:=by
  intro z4 l O4;refine ag (NG ..) (aI (JK P G cnt sh g (.int (ib i)) (.int w) (k8 j l) (v7 j).what) λkp e4=>?_);refine ag (e4 ..) (GJ (n:=n+1) i j W w l O4 (hl i) (by lia) hc λz' Y S kp' hc' O5 hp=>?_);refine aI (JL P G S g (.int (ib i)) (.int w) (k8 j l) (v7 j).what kp') λJ e5=>ag (e5 ..) (h z' Y S J hc' O5 hp)
 by_cases h1:j=1
 ·subst h1;have hu:=I.u1;have hub:(z3.b0.m+z3.b1.m)≤128:=by have h0:z3.b0.m≤64:=(I.b am).m1;have h1:z3.b1.m≤64:=(I.b au).m1;exact by lia
  refine gy I.made λc1 c2 Mr hM lM=>ag (Qf ..) (iQ (decide_eq_false (by lia)) (aK (bg (by refine ag (hM ..) ?_;show Mr.length+1+1≤1000;exact by lia)) ?_));exact V _ (I.text rfl)
 ·refine ag (Qg j _ _ _ _ W h1 ..) ?_;have:=V 0 (I.le (dZ t));exact this
theorem gB {L:List bX} (h:ND L) {e:bX} (m:e∈L):d8 e.1.cls L=ac e:=by
 induction L with
 | nil=>cases m
 | cons d L P=>
  refine ah (me.mp h) λh1 h2=>?_;rw [d8];refine bk (bj.mp m) (λq=>?_) λq=>?_
  ·exact ag (q ..) (ag (if_pos rfl ..) rfl)
  ·exact ag (if_neg (h1 e q) ..) (ag (P h2 q ..) rfl)
noncomputable def bi:Bool->Nat
 | false=>8
 | true=>10
noncomputable def ei:Bool->Nat
 | false=>9
 | true=>11
noncomputable def gp (e:bX):TV:=.tup [e.1.kept,dT e.2]
noncomputable def ft (e:bX):TV:=.tup e.1.word
noncomputable def Qk (s:cg):aC:=sS e0 (v:=s) (xReturn:=λo Y=>o.getD e0)
noncomputable def iq (e:aC):aC:=eS e0 (v:=e) (xListComp:=λe Y Y Y=>e)
noncomputable def ir (e:aC):aC:=eS e0 (v:=e) (xListComp:=λY g Y Y=>(g.head?.map (·.target)).getD e0)
noncomputable def LL (e:aC):d9:=eS default (v:=e) (xListComp:=λY Y s Y=>s)
noncomputable def Az:rt:=cZ (ry 10 2) [] am au
noncomputable def fu:aC:=Qk (Az.body.getD 0 (.Pass default))
noncomputable def uf (x:aU):Option TV->List (aU × TV)
 | none=>[]
 | some v=>[(x,v)]
noncomputable def om (i:Bool) (o:Option TV):aB:=⟨eO Az.scope (LL fu),uf "key" o,[("self",.inr (.loc (bi i)))],al⟩
theorem GK (i:Bool) (z:Z) (gs:List MO) (n:Nat) (k:VK) (x:VX):(vl D (n+10)).call (.ref 123) [.loc (bi i)] (TT z gs) k x=
  aW (aH (z.b i).E.length 1000) (dH (vl D (n+7)) (iq fu) (ir fu) [] (ac (ei i,gY (z.b i).E (z.b i).v)) ((z.b i).E.map (·.2.1)) (om i al) (TT z gs) [] λacc G=>k (.lst acc) G):=by
 induction i <;> kernel_rfl
theorem AA (i:Bool) (o:Option TV) (e:bX) (z:Z) (gs:List MO) (n:Nat) (P:TV->aB->List MO->Prop) (J:aB->List MO->Prop):
  (vl D (n+7)).asg (ir fu) (ft e) (om i o) (TA z i e.1 (ac e) gs) (λG T1=>jA (vl D (n+7)) G [] T1 λb I=>br b ((vl D (n+7)).ev (iq fu) G I (λv O=>P v G O) bB) (J G I)) bB=
  P (gp e) (om i (ac (ft e))) (TA z i e.1 (ac e) gs):=by
 obtain ⟨v,c⟩:=e;cases i <;> induction o <;> induction v <;> kernel_rfl
theorem GL (i:Bool) (z:Z) (gs:List MO):(TT z gs)[ei i]? =ac (gY (z.b i).E (z.b i).v):=by induction i <;> rfl
theorem tv {i:Bool} {z:Z} {gs:List MO} {n:Nat} {L:List bX} {a l:Int} (O:mr (z.b i) L a l) {k:Ct}:∀(M:List bX) (acc:List TV) (o:Option TV),(∀e∈M,e∈L)->acc.length+M.length≤1000->k (acc++M.map gp) (TT z gs)->
  dH (vl D (n+7)) (iq fu) (ir fu) [] (ac (ei i,gY (z.b i).E (z.b i).v)) (M.map ft) (om i o) (TT z gs) acc k:=by
 intro G;induction G with
 | nil=>intro acc o _ _ h;exact ⟨GL i z gs,by rw [gI,bW] at h;exact h⟩
 | cons e M V=>intro acc o I hl h;refine ⟨GL i z gs,?_⟩;refine ag ((q6 z i e.1 O.e O.n (gB O.nd (I e (aA ..))) gs) ..) (cast (AA i o e z gs n _ _).symm ?_);refine bZ ((q6 z i e.1 O.e O.n (gB O.nd (I e (aA ..))) gs) ..) ?_;rw [bf] at hl;refine aK (bg (by exact La ‹_›)) (V _ _ (λd hd=>I d (aE _ hd)) (by refine ag (aJ ..) (ag (bK ..) ?_);exact Pj ‹_›) ?_);refine ag (bI ..) h
theorem GM {i:Bool} {z:Z} {gs:List MO} {n:Nat} {L:List bX} {a l:Int} (O:mr (z.b i) L a l) {k:VK} {x:VX} (h:k (.lst (L.map gp)) (TT z gs)):(vl D (n+10)).call (.ref 123) [.loc (bi i)] (TT z gs) k x:=by have:=O.ne;have:=O.cap;have:=O.m1;refine ag (GK ..) (aK (bg (by lia)) ?_);refine ag ((show (z.b i).E.map (·.2.1)=L.map ft by refine ag (O.e ..) (ag (bx ..) ?_);rfl) ..) ?_;exact tv O L [] al (λY h=>h) (by refine ag (dA ..) ?_;exact Sj (K9 ‹_› ‹_›)) h
theorem NI (i:Bool) (z:Z) (gs:List MO) (n:Nat) (C:CT) (k:VK) (x:VX):(up (CL (n+10) C) 4).call (.ref 328) [.loc (bi i)] (TT z gs) k x=C (.ref 123) [.loc (bi i)] (TT z gs) (λv T1=>Cx .list [v] T1 k) x:=by induction i <;> kernel_rfl
theorem JP (i:Bool) (z:Z) (gs:List MO) (n:Nat) (k:VK) (x:VX):(vl D (n+14)).call (.ref 328) [.loc (bi i)] (TT z gs) k x=(vl D (n+10)).call (.ref 123) [.loc (bi i)] (TT z gs) (λv T1=>Cx .list [v] T1 k) x:=by have e:=NI i z gs n (vl D (n+10)).call k x;rw [gu] at e;exact e
theorem B2 {i:Bool} {z:Z} {gs:List MO} {n:Nat} {L:List bX} {a l:Int} (O:mr (z.b i) L a l) {k:VK} {x:VX} (h:k (.lst (L.map gp)) (TT z gs)):(vl D (n+14)).call (.ref 328) [.loc (bi i)] (TT z gs) k x:=by have:=O.cap;have:=O.m1;refine ag (JP i ..) ?_;exact GM O (aK (bg (by refine ag (ar ..) ?_;exact K9 ‹_› ‹_›)) h)
noncomputable def GN:V7->Option (Fin 3)
 | .a=>ac 0 | .b=>ac 1 | .r=>ac 2 | _=>al
noncomputable def Iq (c:Fin 3):Array UInt8:=[El 97,El 98].getD c.val wm
noncomputable def OP (c:Fin 3):aU:=(["a", "b"]:List aU).getD c.val "true"
noncomputable def codes (L:List bX):List (Fin 3):=L.filterMap λe=>GN e.1
theorem NJ (v w:V7):∀c,GN v=ac c->GN w=ac c->v.cls=w.cls:=by rcases v with _ | _ <;> rcases w with _ | _ <;> intro c h1 h2 <;> first | rfl | exact absurd (h1.trans h2.symm) (by decide) | exact nomatch h1
theorem GO {L:List bX} (h:ND L):(codes L).Nodup:=by refine List.Pairwise.filterMap _ (λa b G c I d hd=>?_) h;intro q;subst q;exact G (NJ _ _ _ (by first | exact I | exact hd) (by first | exact hd | exact I))
theorem UL:∀l:List (Fin 3),l.Nodup->(l.map Iq).length≤3∧nj (mR (l.map Iq))=au
 | [],_=>⟨by decide,by decide⟩
 | [x],_=>by revert x;decide+kernel
 | [x,y],h=>by revert x y;decide+kernel
 | [x,y,z],h=>by revert x y z;decide+kernel
 | x::y::z::w::r,h=>by exfalso;have G:[x,y,z,w].Nodup:=h.sublist (by have:[x,y,z,w]=(x::y::z::w::r).take 4:=rfl;refine ag (this ..) (O7 ..));revert G;clear h;revert x y z w;decide+kernel
noncomputable def GP:rt:=cZ (eL 38) []
noncomputable def oq (i:Nat):cg:=GP.body.getD i (.Pass default)
noncomputable def Ql (o:Option (TV × TV)):List (aU × TV):=match o with
 | none=>[]
 | some (a,b)=>[("key",a),("thing",b)]
noncomputable def hZ (i:Bool) (gs:List MO) (o:Option (TV × TV)):aB:=⟨GP.scope,("body",.loc (bi i))::("found",.loc (14+gs.length))::Ql o,[],al⟩
def pB (gs:List MO):Prop:=gs.length≤5
theorem tw {gs:List MO} (h:pB gs):gs=[]∨(∃a,gs=[a])∨(∃a b,gs=[a,b])∨(∃a b c,gs=[a,b,c])∨(∃a b c d,gs=[a,b,c,d])∨∃a b c d e,gs=[a,b,c,d,e]:=by
 match gs,h with
 | [],_=>exact .inl rfl
 | [a],_=>exact .inr (.inl ⟨_,rfl⟩)
 | [a,b],_=>exact .inr (.inr (.inl ⟨_,_,rfl⟩))
 | [a,b,c],_=>exact .inr (.inr (.inr (.inl ⟨_,_,_,rfl⟩)))
 | [a,b,c,d],_=>exact .inr (.inr (.inr (.inr (.inl ⟨_,_,_,_,rfl⟩))))
 | [a,b,c,d,e],_=>exact .inr (.inr (.inr (.inr (.inr ⟨_,_,_,_,_,rfl⟩))))
 | _::_::_::_::_::_::_,h=>exact absurd h (by unfold pB;simp only [bf];exact by lia)
def wo (i:Bool) (o:Option (TV × TV)) (e:bX) (acc:List TV) (z:Z) (gs:List MO) (n:Nat) (O:aB->List MO->Prop) (P:TV->aB->List MO->Prop):Prop:=gA (vl D (n+18)) (ch (oq 1)) (.inl (gp e)) (hZ i gs o) (TT z (gs++[.list acc])) (λI T1=>bl (vl D (n+18)) (bG (oq 1)) I T1 (λf G J=>match f with
   | .next=>O G J
   | .ret v=>P v G J) bB) bB
def wq (i:Bool) (o:Option (TV × TV)) (e:bX) (acc:List TV) (z:Z) (gs:List MO) (n:Nat) (J:aB->List MO->Prop) (G:TV->aB->List MO->Prop):Prop:=
  match GN e.1 with
   | some c=>aW (aH acc.length 1000) (J (hZ i gs (ac (e.1.kept,dT e.2))) (TT z (gs++[.list (acc++[.bytes (Iq c)])])))
   | none=>J (hZ i gs (ac (e.1.kept,dT e.2))) (TT z (gs++[.list acc]))
theorem wr (i:Bool) (o:Option (TV × TV)) (e:bX) (acc:List TV) (z:Z) {gs:List MO} (h:pB gs) (n:Nat) (J:aB->List MO->Prop) (G:TV->aB->List MO->Prop):wo i o e acc z gs n J G=wq i o e acc z gs n J G:=by obtain ⟨v,c⟩:=e;rcases tw h with rfl | ⟨_,rfl⟩ | ⟨_,_,rfl⟩ | ⟨_,_,_,rfl⟩ | ⟨_,_,_,_,rfl⟩ | ⟨_,_,_,_,_,rfl⟩<;> induction o <;> induction v <;> kernel_rfl
theorem AB (i:Bool) (o:Option (TV × TV)) (e:bX) (acc:List TV) (z:Z) {gs:List MO} (h:pB gs) (n:Nat) (J:aB->List MO->Prop) (O:TV->aB->List MO->Prop):gA (vl D (n+18)) (ch (oq 1)) (.inl (gp e)) (hZ i gs o) (TT z (gs++[.list acc])) (λI T1=>bl (vl D (n+18)) (bG (oq 1)) I T1 (λf G P=>match f with
   | .next=>J G P
   | .ret v=>O v G P) bB) bB=
  match GN e.1 with
   | some c=>aW (aH acc.length 1000) (J (hZ i gs (ac (e.1.kept,dT e.2))) (TT z (gs++[.list (acc++[.bytes (Iq c)])])))
   | none=>J (hZ i gs (ac (e.1.kept,dT e.2))) (TT z (gs++[.list acc])):=wr i o e acc z h n J O
def yy (i:Bool) (o:Option (TV × TV)) (xs:List TV) (z:Z) (gs:List MO) (n:Nat) (k:aO->aB->List MO->Prop):Prop:=(vl D (n+19)).exec (oq 2) (hZ i gs o) (TT z (gs++[.list xs])) k bB
def yz (i:Bool) (o:Option (TV × TV)) (xs:List TV) (z:Z) (gs:List MO) (n:Nat) (k:aO->aB->List MO->Prop):Prop:=
  bV (mQ xs) False λbs=>aW (aH bs.length 3) (aW (nj (mR bs)) (k (.ret (.lst ((mR bs).map .bytes))) (hZ i gs o) (TT z (gs++[.list xs]))))
theorem yA (i:Bool) (o:Option (TV × TV)) (xs:List TV) (z:Z) {gs:List MO} (h:pB gs) (n:Nat) (k:aO->aB->List MO->Prop):yy i o xs z gs n k=yz i o xs z gs n k:=by rcases tw h with rfl | ⟨_,rfl⟩ | ⟨_,_,rfl⟩ | ⟨_,_,_,rfl⟩ | ⟨_,_,_,_,rfl⟩ | ⟨_,_,_,_,_,rfl⟩<;> induction o <;> kernel_rfl
theorem Dt (i:Bool) (o:Option (TV × TV)) (xs:List TV) (z:Z) {gs:List MO} (h:pB gs) (n:Nat) (k:aO->aB->List MO->Prop):(vl D (n+19)).exec (oq 2) (hZ i gs o) (TT z (gs++[.list xs])) k bB=
  bV (mQ xs) False λbs=>aW (aH bs.length 3) (aW (nj (mR bs)) (k (.ret (.lst ((mR bs).map .bytes))) (hZ i gs o) (TT z (gs++[.list xs])))):=yA i o xs z h n k
noncomputable def wt (l:List (Fin 3)):List TV:=l.map λc=>.bytes (Iq c)
theorem ot (e:bX) (M:List bX):codes (e::M)=match GN e.1 with | some c=>c::codes M | none=>codes M:=by unfold codes;refine ag (L8 ..) ?_;obtain ⟨⟩:=GN e.1 <;> rfl
theorem GQ {i:Bool} {z:Z} {gs:List MO} (h:pB gs) {n:Nat} {k:aO->aB->List MO->Prop}:∀(M:List bX) (acc:List TV) (o:Option (TV × TV)),acc.length+M.length≤1000->(∀o,k .next (hZ i gs o) (TT z (gs++[.list (acc++wt (codes M))])))->
  gv (vl D (n+18)) (ch (oq 1)) (bG (oq 1)) al ((M.map gp).map .inl) (hZ i gs o) (TT z (gs++[.list acc])) k bB:=by
 intro J;induction J with
 | nil=>intro acc o _ G;have:=G o;rw [show codes []=[] from rfl,show wt []=[] from rfl,bW] at this;exact this
 | cons e M V=>
  intro acc o hl G;rw [bf] at hl;refine cast (AB i o e acc z h n _ _).symm ?_;cases O:GN e.1 with
  | none=>
   have I:∀o,k .next (hZ i gs o) (TT z (gs++[.list (acc++wt (codes M))])):=λo=>by have:=G o;rw [ot,O] at this;exact this
   exact V acc _ (cj ‹_›) I
  | some c=>refine aK (bg (by lia)) (V (acc++[.bytes (Iq c)]) _ (by refine ag (aJ ..) (ag (bK ..) ?_);exact by lia) λo=>?_);have:=G o;rw [ot,O] at this;refine ag (bI ..) this
theorem ql:∀l:List (Fin 3),mQ (wt l)=ac (l.map Iq)
 | []=>rfl
 | c::l=>by show (mQ (wt l)).map _=_;refine ag (ql l ..) ?_;rfl
noncomputable def qo:rt:=cZ (eL 59) []
noncomputable def rS (i:Nat):cg:=qo.body.getD i (.Pass default)
noncomputable def ki:Bool->Nat
 | false=>12
 | true=>13
noncomputable def q4:Option (TV × TV × TV × TV)->List (aU × TV)
 | none=>[]
 | some (a,b,c,d)=>[("row",a),("key",b),("what",c),("value",d)]
noncomputable def NK (i:Bool) (l:Int) (R:List TV) (o:Option (TV × TV × TV × TV)) (r:List (aU × TV)):List (aU × TV):=("body",.loc (bi i))::("known",.loc (ki i))::("least",.int l)::("rows",.lst R)::(q4 o++r)
noncomputable def db (i:Bool) (l:Int) (R:List TV) (o:Option (TV × TV × TV × TV)) (r:List (aU × TV)):aB:=⟨qo.scope,NK i l R o r,[],al⟩
def fi (k:VK):aO->aB->List MO->Prop:=λf Y T=>match f with
 | .next=>k .none T
 | .ret v=>k v T
theorem AC (i:Bool) (l:Int) (z:Z) (gs:List MO) (n:Nat) (k:VK):(vl D (n+40)).call (.ref 714) [.loc (bi i),.loc (ki i),.int l] (TT z gs) k bB=
  bl (vl D (n+39)) [rS 0,rS 1,rS 2,rS 3,rS 4,rS 5,rS 6] ⟨qo.scope,[("body",.loc (bi i)),("known",.loc (ki i)),("least",.int l)],[],al⟩ (TT z gs) (fi k) bB:=by
 induction i <;> kernel_rfl
theorem JQ (i:Bool) (l:Int) (z:Z) (gs:List MO) (n:Nat) (K:aO->aB->List MO->Prop):(vl D (n+39)).exec (rS 0) ⟨qo.scope,[("body",.loc (bi i)),("known",.loc (ki i)),("least",.int l)],[],al⟩ (TT z gs) K bB=
  aW (aH (z.b i).E.length 1000) (dH (vl D (n+30)) (iq fu) (ir fu) [] (ac (ei i,gY (z.b i).E (z.b i).v)) ((z.b i).E.map (·.2.1)) (om i al) (TT z gs) [] λacc G=>aW (aH acc.length 1000) (K .next (db i l acc al []) G)):=by
 induction i <;> kernel_rfl
theorem JR (i:Bool) (l:Int) (R:List TV) (z:Z) (gs:List MO) (n:Nat) (K:aO->aB->List MO->Prop):(vl D (n+39)).exec (rS 1) (db i l R al []) (TT z gs) K bB=
  aW (aH (z.b i).E.length 1000) (aW (aH (z.b i).N.length 1000) (br (!((((z.b i).E.length:Int))==((z.b i).N.length:Int))) (K (.ret (.bool am)) (db i l R al []) (TT z gs))
   (aW (aH (z.b i).N.length 1000) (br (decide ((z.b i).m <(if l <((z.b i).N.length:Int) then ((z.b i).N.length:Int) else l))) (K (.ret (.bool am)) (db i l R al []) (TT z gs))
    (aW (aH R.length 1000) (aW (aH (z.b i).N.length 1000) (br (!((R.length:Int)==((z.b i).N.length:Int))) (K (.ret (.bool am)) (db i l R al []) (TT z gs))
     (K .next (db i l R al []) (TT z gs))))))))):=by
 induction i <;> kernel_rfl
theorem JS (i:Bool) (l:Int) (R:List TV) (z:Z) (gs:List MO) (n:Nat) (K:aO->aB->List MO->Prop):(vl D (n+39)).exec (rS 2) (db i l R al []) (TT z gs) K bB=
  aW (aH R.length 1000&&b9 R.length (z.b i).N.length) (gv (vl D (n+38)) (ch (rS 2)) (bG (rS 2)) (ac (ki i,gY (z.b i).N (z.b i).w)) ((R.zip (z.b i).N).map λp=>.inr (p.1,p.2.2.1)) (db i l R al []) (TT z gs) K bB):=by
 induction i <;> kernel_rfl
def wu (i:Bool) (l:Int) (R:List TV) (o:Option (TV × TV × TV × TV)) (e:bX) (z:Z) (gs:List MO) (n:Nat) (O:aB->List MO->Prop) (P:TV->aB->List MO->Prop):Prop:=gA (vl D (n+38)) (ch (rS 2)) (.inr (gp e,e.1.markT)) (db i l R o []) (TA z i e.1 (ac e) gs) (λI T1=>bl (vl D (n+38)) (bG (rS 2)) I T1 (λf G J=>match f with
   | .next=>O G J
   | .ret v=>P v G J) bB) bB
def ww (i:Bool) (l:Int) (R:List TV) (o:Option (TV × TV × TV × TV)) (e:bX) (z:Z) (gs:List MO) (n:Nat) (J:aB->List MO->Prop) (G:TV->aB->List MO->Prop):Prop:=
  br (!(e.2==e.2)) (G (.bool am) (db i l R (ac (gp e,e.1.markT,e.1.what,.int e.2)) []) (TA z i e.1 (ac e) gs)) (J (db i l R (ac (gp e,e.1.markT,e.1.what,.int e.2)) []) (TA z i e.1 (ac e) gs))
theorem wx (i:Bool) (l:Int) (R:List TV) (o:Option (TV × TV × TV × TV)) (e:bX) (z:Z) (gs:List MO) (n:Nat) (J:aB->List MO->Prop) (G:TV->aB->List MO->Prop):wu i l R o e z gs n J G=ww i l R o e z gs n J G:=by obtain ⟨v,c⟩:=e;cases i <;> induction o <;> induction v <;> kernel_rfl
theorem AD (i:Bool) (l:Int) (R:List TV) (o:Option (TV × TV × TV × TV)) (e:bX) (z:Z) (gs:List MO) (n:Nat) (J:aB->List MO->Prop) (I:TV->aB->List MO->Prop):gA (vl D (n+38)) (ch (rS 2)) (.inr (gp e,e.1.markT)) (db i l R o []) (TA z i e.1 (ac e) gs) (λO T1=>bl (vl D (n+38)) (bG (rS 2)) O T1 (λf G P=>match f with
   | .next=>J G P
   | .ret v=>I v G P) bB) bB=
  br (!(e.2==e.2)) (I (.bool am) (db i l R (ac (gp e,e.1.markT,e.1.what,.int e.2)) []) (TA z i e.1 (ac e) gs)) (J (db i l R (ac (gp e,e.1.markT,e.1.what,.int e.2)) []) (TA z i e.1 (ac e) gs)):=wx i l R o e z gs n J I
noncomputable def GR (s:cg):aC:=sS e0 (v:=s) (xAssign:=λY e Y=>e)
noncomputable def GS (e:aC):List aC:=eS [] (v:=e) (xListComp:=λY g Y Y=>(g.head?.map (·.ifs)).getD [])
noncomputable def gU:aC:=GR (rS 3)
noncomputable def Qm (a b:aU):Option (TV × TV)->List (aU × TV)
 | none=>[]
 | some (v,w)=>[(a,v),(b,w)]
noncomputable def lX (o:Option (TV × TV)):aB:=⟨eO qo.scope (LL gU),Qm "what" "value" o,[],al⟩
def Du (i:Bool) (l:Int) (R:List TV) (o:Option (TV × TV × TV × TV)) (z:Z) (gs:List MO) (n:Nat) (K:aO->aB->List MO->Prop):Prop:=(vl D (n+39)).exec (rS 3) (db i l R o []) (TT z gs) K bB
def Dv (i:Bool) (l:Int) (R:List TV) (o:Option (TV × TV × TV × TV)) (z:Z) (gs:List MO) (n:Nat) (K:aO->aB->List MO->Prop):Prop:=
  aW (aH (z.b i).N.length 1000) (dH (vl D (n+38)) (iq gU) (ir gU) (GS gU) (ac (ki i,gY (z.b i).N (z.b i).w)) ((z.b i).N.map (·.2.2)) (lX al) (TT z gs) [] λacc G=>K .next (db i l R o [("words",.lst acc)]) G)
theorem Dw (i:Bool) (l:Int) (R:List TV) (o:Option (TV × TV × TV × TV)) (z:Z) (gs:List MO) (n:Nat) (K:aO->aB->List MO->Prop):Du i l R o z gs n K=Dv i l R o z gs n K:=by induction i <;> induction o <;> kernel_rfl
theorem JT (i:Bool) (l:Int) (R:List TV) (o:Option (TV × TV × TV × TV)) (z:Z) (gs:List MO) (n:Nat) (K:aO->aB->List MO->Prop):(vl D (n+39)).exec (rS 3) (db i l R o []) (TT z gs) K bB=
  aW (aH (z.b i).N.length 1000) (dH (vl D (n+38)) (iq gU) (ir gU) (GS gU) (ac (ki i,gY (z.b i).N (z.b i).w)) ((z.b i).N.map (·.2.2)) (lX al) (TT z gs) [] λacc G=>K .next (db i l R o [("words",.lst acc)]) G):=Dw i l R o z gs n K
def wy (o:Option (TV × TV)) (e:bX) (T:List MO) (n:Nat) (P:TV->aB->List MO->Prop) (J:aB->List MO->Prop):Prop:=(vl D (n+38)).asg (ir gU) (.tup [e.1.what,.int e.2]) (lX o) T (λG T1=>jA (vl D (n+38)) G (GS gU) T1 λb I=>br b ((vl D (n+38)).ev (iq gU) G I (λv O=>P v G O) bB) (J G I)) bB
def wz (o:Option (TV × TV)) (e:bX) (T:List MO) (n:Nat) (P:TV->aB->List MO->Prop) (G:aB->List MO->Prop):Prop:=
  match GN e.1 with
   | some c=>P (.str (OP c)) (lX (ac (e.1.what,.int e.2))) T
   | none=>G (lX (ac (e.1.what,.int e.2))) T
theorem wA (o:Option (TV × TV)) (e:bX) (T:List MO) (n:Nat) (P:TV->aB->List MO->Prop) (G:aB->List MO->Prop):wy o e T n P G=wz o e T n P G:=by obtain ⟨v,c⟩:=e;induction o <;> induction v <;> kernel_rfl
theorem AE (o:Option (TV × TV)) (e:bX) (T:List MO) (n:Nat) (P:TV->aB->List MO->Prop) (I:aB->List MO->Prop):(vl D (n+38)).asg (ir gU) (.tup [e.1.what,.int e.2]) (lX o) T (λG T1=>jA (vl D (n+38)) G (GS gU) T1 λb J=>br b ((vl D (n+38)).ev (iq gU) G J (λv O=>P v G O) bB) (I G J)) bB=
  match GN e.1 with
   | some c=>P (.str (OP c)) (lX (ac (e.1.what,.int e.2))) T
   | none=>I (lX (ac (e.1.what,.int e.2))) T:=wA o e T n P I
noncomputable def mx (s:cg):aC:=sS e0 (v:=s) (xIf:=λt Y Y Y=>t)
noncomputable def GT (e:aC):aC:=eS e0 (v:=e) (xCompare:=λl Y Y Y=>l)
noncomputable def AF (e:aC):aC:=eS e0 (v:=e) (xCompare:=λY Y r Y=>r.headD e0)
noncomputable def NL (e:aC):aC:=eS e0 (v:=e) (xCall:=λY a Y Y=>a.headD e0)
noncomputable def LM (s:cg):List cg:=sS [] (v:=s) (xIf:=λY b Y Y=>b)
noncomputable def NM (s:cg):cP:=sS default (v:=s) (xIf:=λY Y Y p=>p)
theorem Qn (E:fX) (l r:aC) (b:List cg) (p q:cP) (ve:aB) (T:List MO) (K:aO->aB->List MO->Prop):(j2 D (j2 D E)).exec (.If (.Compare l [.NotEq] [r] p) b [] q) ve T K bB=
  E.ev l ve T (λa T1=>E.ev r ve T1 (λc G=>nz .NotEq a c G λt=>br t (bl (j2 D E) b ve G K bB) (K .next ve G)) bB) bB:=by
 show aW (!gN .NotEq r) _=_;have:gN .NotEq r=am:=by rcases r with _ | _ <;> first | rfl | exact congrArg (· &&_) (S8 _)
 refine ag (this ..) ?_;rfl
theorem Qo:rS 4=.If (.Compare (GT (mx (rS 4))) [.NotEq] [AF (mx (rS 4))] (mx (rS 4)).pos) (LM (rS 4)) [] (NM (rS 4)):=by kernel_rfl
theorem JU (i:Bool) (l:Int) (R W:List TV) (o:Option (TV × TV × TV × TV)) (T:List MO) (n:Nat) (K:aO->aB->List MO->Prop):(vl D (n+39)).exec (rS 4) (db i l R o [("words",.lst W)]) T K bB=
  (vl D (n+37)).ev (GT (mx (rS 4))) (db i l R o [("words",.lst W)]) T (λa T1=>(vl D (n+37)).ev (AF (mx (rS 4))) (db i l R o [("words",.lst W)]) T1 (λb G=>nz .NotEq a b G λt=>br t (bl (vl D (n+38)) (LM (rS 4)) (db i l R o [("words",.lst W)]) G K bB) (K .next (db i l R o [("words",.lst W)]) G)) bB) bB:=by
 exact (congrArg (λs=>(vl D (n+39)).exec s (db i l R o [("words",.lst W)]) T K bB) Qo).trans (Qn (vl D (n+37)) _ _ _ _ _ _ _ _)
def AG (i:Bool) (l:Int) (R W:List TV) (o:Option (TV × TV × TV × TV)) (z:Z) (gs:List MO) (n:Nat) (K:VK):Prop:=(vl D (n+37)).ev (GT (mx (rS 4))) (db i l R o [("words",.lst W)]) (TT z gs) K bB
def AH (i:Bool) (l:Int) (R W:List TV) (o:Option (TV × TV × TV × TV)) (z:Z) (gs:List MO) (n:Nat) (K:VK):Prop:=
  aW (aH (z.b i).E.length 1000) (dH (vl D (n+29)) (iq fu) (ir fu) [] (ac (ei i,gY (z.b i).E (z.b i).v)) ((z.b i).E.map (·.2.1)) (om i al) (TT z (gs++[.list []])) [] λacc O=>aW (aH acc.length 1000)
   (gv (vl D (n+33)) (ch (oq 1)) (bG (oq 1)) al (acc.map .inl) (hZ i gs al) O (λf G I=>match f with
    | .next=>(vl D (n+34)).exec (oq 2) G I (λf Y J=>match f with
     | .next=>Cx .list [.none] J K
     | .ret v=>Cx .list [v] J K) bB
    | .ret v=>Cx .list [v] I K) bB))
theorem AI (i:Bool) (l:Int) (R W:List TV) (o:Option (TV × TV × TV × TV)) (z:Z) {gs:List MO} (h:pB gs) (n:Nat) (K:VK):AG i l R W o z gs n K=AH i l R W o z gs n K:=by rcases tw h with rfl | ⟨_,rfl⟩ | ⟨_,_,rfl⟩ | ⟨_,_,_,rfl⟩ | ⟨_,_,_,_,rfl⟩ | ⟨_,_,_,_,_,rfl⟩<;> induction i <;> kernel_rfl
theorem GU (i:Bool) (l:Int) (R W:List TV) (o:Option (TV × TV × TV × TV)) (z:Z) {gs:List MO} (h:pB gs) (n:Nat) (K:VK):(vl D (n+37)).ev (GT (mx (rS 4))) (db i l R o [("words",.lst W)]) (TT z gs) K bB=
  aW (aH (z.b i).E.length 1000) (dH (vl D (n+29)) (iq fu) (ir fu) [] (ac (ei i,gY (z.b i).E (z.b i).v)) ((z.b i).E.map (·.2.1)) (om i al) (TT z (gs++[.list []])) [] λacc O=>aW (aH acc.length 1000)
   (gv (vl D (n+33)) (ch (oq 1)) (bG (oq 1)) al (acc.map .inl) (hZ i gs al) O (λf G I=>match f with
    | .next=>(vl D (n+34)).exec (oq 2) G I (λf Y J=>match f with
     | .next=>Cx .list [.none] J K
     | .ret v=>Cx .list [v] J K) bB
    | .ret v=>Cx .list [v] I K) bB)):=AI i l R W o z h n K
noncomputable def tx:aC:=NL (AF (mx (rS 4)))
noncomputable def B3 (o:Option TV):aB:=⟨eO qo.scope (LL tx),uf "what" o,[],al⟩
theorem GV (i:Bool) (l:Int) (R W:List TV) (o:Option (TV × TV × TV × TV)) (T:List MO) (n:Nat) (K:VK):(vl D (n+37)).ev (AF (mx (rS 4))) (db i l R o [("words",.lst W)]) T K bB=
  aW (aH W.length 1000) (dH (vl D (n+35)) (iq tx) (ir tx) [] al W (B3 al) T [] λacc G=>Sq .sorted [.lst acc] G K):=by
 induction i <;> induction o <;> kernel_rfl
theorem Dx (o:Option TV) (c:Fin 3) (T:List MO) (n:Nat) (P:TV->aB->List MO->Prop) (J:aB->List MO->Prop):
  (vl D (n+35)).asg (ir tx) (.str (OP c)) (B3 o) T (λG T1=>jA (vl D (n+35)) G [] T1 λb I=>br b ((vl D (n+35)).ev (iq tx) G I (λv O=>P v G O) bB) (J G I)) bB=P (.bytes (Iq c)) (B3 (ac (.str (OP c)))) T:=by
 match c with
 | 0=>rcases o with _ | _ <;> kernel_rfl
 | 1=>rcases o with _ | _ <;> kernel_rfl
 | 2=>rcases o with _ | _ <;> kernel_rfl
noncomputable def wB:bJ:=.tup [.str "word",.bytes (El 99)]
noncomputable def yB:bJ:=.atom (.str "c")
theorem JV:∀L:List bX,cR wB (L.map bR)=al∧cR yB (L.map gm)=al
 | []=>⟨rfl,rfl⟩
 | e::L=>by
  have P:=JV L;have h:(wB==(bR e).1)=am∧(yB==(gm e).1)=am:=by
   have:∀v:V7,(wB==v.key)=am∧(yB==v.mark)=am:=by intro v;induction v <;> decide+kernel
   exact this e.1
  unfold cR at P ⊢;refine ag (aT ..) (ag (aT ..) (ag (List.lookup_cons ..) (ag (List.lookup_cons ..) (ag (h.1 ..) (ag (h.2 ..) ?_)))));exact P
noncomputable def OQ (J G:Option bX) (g:qZ):qZ:=ln V7.a.key (J.map λe=>(bR e).2) (ln V7.b.key (G.map λe=>(bR e).2) (ln wB al g))
noncomputable def OR (J G:Option bX) (g:qZ):qZ:=ln V7.a.mark (J.map λe=>(gm e).2) (ln V7.b.mark (G.map λe=>(gm e).2) (ln yB al g))
noncomputable def TQ (z:Z) (i:Bool) (J G:Option bX) (gs:List MO):List MO:=match i with
 | false=>TG z (OQ J G (getD z.b0.E)) (getD z.b1.E) (OR J G (getD z.b0.N)) (getD z.b1.N) gs
 | true=>TG z (getD z.b0.E) (OQ J G (getD z.b1.E)) (getD z.b0.N) (OR J G (getD z.b1.N)) gs
theorem LN (z:Z) (i:Bool) {L:List bX} {a l:Int} (O:mr (z.b i) L a l) (gs:List MO):TT z gs=TQ z i (d8 0 L) (d8 1 L) gs:=by
 have h1:OQ (d8 0 L) (d8 1 L) (getD (z.b i).E)=getD (z.b i).E:=by unfold OQ;exact bZ (gn (k:=wB) (g:=getD (z.b i).E) (by show cR _ _=_;rw [O.e];exact (JV L).1) ..) (bZ (gn (k:=V7.b.key) (g:=getD (z.b i).E) (by show cR _ _=_;rw [O.e];exact js .b L) ..) (bZ (gn (k:=V7.a.key) (g:=getD (z.b i).E) (by show cR _ _=_;rw [O.e];exact js .a L) ..) rfl))
 have h2:OR (d8 0 L) (d8 1 L) (getD (z.b i).N)=getD (z.b i).N:=by unfold OR;exact bZ (gn (k:=yB) (g:=getD (z.b i).N) (by show cR _ _=_;rw [O.n];exact (JV L).2) ..) (bZ (gn (k:=V7.b.mark) (g:=getD (z.b i).N) (by show cR _ _=_;rw [O.n];exact lV .b L) ..) (bZ (gn (k:=V7.a.mark) (g:=getD (z.b i).N) (by show cR _ _=_;rw [O.n];exact lV .a L) ..) rfl))
 induction i with
 | false=>show TT z gs=TG z (OQ _ _ (getD (z.b am).E)) _ (OR _ _ (getD (z.b am).N)) _ gs;refine ag (h1 ..) (ag (h2 ..) ?_);rfl
 | true=>show TT z gs=TG z _ (OQ _ _ (getD (z.b au).E)) _ (OR _ _ (getD (z.b au).N)) gs;refine ag (h1 ..) (ag (h2 ..) ?_);rfl
def Qp (o:Option bX) (p:Int->Prop) (q:Prop):Prop:=match o with
 | none=>q
 | some e=>br (!(e.2==e.2)) (p e.2) q
theorem GW {o:Option bX} {p:Int->Prop} {q:Prop} (h:q):Qp o p q:=by
 induction o with
 | none=>exact h
 | some e=>exact iQ (by refine ag (beq_self_eq_true ..) ?_;rfl) h
def Dy (i:Bool) (l:Int) (R W:List TV) (o:Option (TV × TV × TV × TV)) (J G:Option bX) (z:Z) (gs:List MO) (n:Nat) (K:aO->aB->List MO->Prop):Prop:=(vl D (n+39)).exec (rS 5) (db i l R o [("words",.lst W)]) (TQ z i J G gs) K bB
def Dz (i:Bool) (l:Int) (R W:List TV) (o:Option (TV × TV × TV × TV)) (J G:Option bX) (z:Z) (gs:List MO) (n:Nat) (K:aO->aB->List MO->Prop):Prop:=
  Qp J (λc=>K (.ret (.bool am)) (db i l R o [("words",.lst W),("word",.str "a"),("told",dT c)]) (TQ z i J G gs))
   (Qp G (λc=>K (.ret (.bool am)) (db i l R o [("words",.lst W),("word",.str "b"),("told",dT c)]) (TQ z i J G gs))
    (K .next (db i l R o [("words",.lst W),("word",.str "c"),("told",.none)]) (TQ z i J G gs)))
theorem DA (i:Bool) (l:Int) (R W:List TV) (o:Option (TV × TV × TV × TV)) (J G:Option bX) (z:Z) (gs:List MO) (n:Nat) (K:aO->aB->List MO->Prop):Dy i l R W o J G z gs n K=Dz i l R W o J G z gs n K:=by cases i <;> cases o <;> rcases J with _ | _ <;> rcases G with _ | _ <;> kernel_rfl
theorem JW (i:Bool) (l:Int) (R W:List TV) (o:Option (TV × TV × TV × TV)) (J G:Option bX) (z:Z) (gs:List MO) (n:Nat) (K:aO->aB->List MO->Prop):(vl D (n+39)).exec (rS 5) (db i l R o [("words",.lst W)]) (TQ z i J G gs) K bB=
  Qp J (λc=>K (.ret (.bool am)) (db i l R o [("words",.lst W),("word",.str "a"),("told",dT c)]) (TQ z i J G gs))
   (Qp G (λc=>K (.ret (.bool am)) (db i l R o [("words",.lst W),("word",.str "b"),("told",dT c)]) (TQ z i J G gs))
    (K .next (db i l R o [("words",.lst W),("word",.str "c"),("told",.none)]) (TQ z i J G gs))):=DA i l R W o J G z gs n K
theorem JX (ve:aB) (T:List MO) (n:Nat) (K:aO->aB->List MO->Prop):(vl D (n+39)).exec (rS 6) ve T K bB=K (.ret (.bool au)) ve T:=by kernel_rfl
theorem qp (i:Bool) (z:Z) (gs:List MO):(TT z gs)[ki i]? =ac (gY (z.b i).N (z.b i).w):=by induction i <;> rfl
theorem GX {i:Bool} {z:Z} {gs:List MO} {n:Nat} {L:List bX} {a l:Int} (O:mr (z.b i) L a l) {G:Int} {R:List TV} {K:aO->aB->List MO->Prop} (P:∀o,K .next (db i G R o []) (TT z gs)):∀(M:List bX) (o:Option (TV × TV × TV × TV)),(∀e∈M,e∈L)->
  gv (vl D (n+38)) (ch (rS 2)) (bG (rS 2)) (ac (ki i,gY (z.b i).N (z.b i).w)) (((M.map gp).zip (M.map gm)).map λp=>.inr (p.1,p.2.2.1)) (db i G R o []) (TT z gs) K bB:=by
 intro J;induction J with
 | nil=>intro o _;exact ⟨qp i z gs,P o⟩
 | cons e M V=>intro o I;refine ⟨qp i z gs,?_⟩;refine ag ((q6 z i e.1 O.e O.n (gB O.nd (I e (aA ..))) gs) ..) (cast (AD i G R o e z gs n _ _).symm (iQ (by refine ag (beq_self_eq_true ..) ?_;rfl) ?_));refine bZ ((q6 z i e.1 O.e O.n (gB O.nd (I e (aA ..))) gs) ..) (V _ λd hd=>I d (aE _ hd))
noncomputable def B4 (l:List (Fin 3)):List TV:=l.map λc=>.str (OP c)
theorem GY {i:Bool} {z:Z} {gs:List MO} {n:Nat} {k:Ct}:∀(M:List bX) (acc:List TV) (o:Option (TV × TV)),acc.length+M.length≤1000->k (acc++B4 (codes M)) (TT z gs)->
  dH (vl D (n+38)) (iq gU) (ir gU) (GS gU) (ac (ki i,gY (z.b i).N (z.b i).w)) (M.map λe=>(gm e).2.2) (lX o) (TT z gs) acc k:=by
 intro G;induction G with
 | nil=>intro acc o _ h;exact ⟨qp i z gs,by rw [show B4 (codes [])=[] from rfl,bW] at h;exact h⟩
 | cons e M V=>
  intro acc o hl h;rw [bf] at hl;refine ⟨qp i z gs,cast (AE o e (TT z gs) n _ _).symm ?_⟩;rw [ot] at h;cases I:GN e.1 with
  | none=>rw [I] at h;exact V acc _ (cj ‹_›) h
  | some c=>rw [I] at h;exact aK (bg (by exact La ‹_›)) (V (acc++[.str (OP c)]) _ (by refine ag (aJ ..) (ag (bK ..) ?_);exact Pj ‹_›) (by refine ag (bI ..) ?_;exact h))
theorem B5 {T:List MO} {n:Nat} {k:Ct}:∀(l:List (Fin 3)) (acc:List TV) (o:Option TV),acc.length+l.length≤1000->k (acc++wt l) T->
  dH (vl D (n+35)) (iq tx) (ir tx) [] al (B4 l) (B3 o) T acc k
 | [],acc,o,_,h=>by rw [show wt []=[] from rfl,bW] at h;exact h
 | c::l,acc,o,hl,h=>by rw [bf] at hl;exact cast (Dx o c T n _ _).symm (aK (bg (by exact La ‹_›)) (B5 l (acc++[.bytes (Iq c)]) _ (by refine ag (aJ ..) (ag (bK ..) ?_);exact Pj ‹_›) (by refine ag (bI ..) ?_;exact h)))
theorem q7:∀bs:List (Array UInt8),dn ((bs.map TV.bytes).map eY)=ac (bs.map AK.bytes)
 | []=>rfl
 | b::bs=>by show (dn ((bs.map TV.bytes).map eY)).map _=_;refine ag (q7 bs ..) ?_;rfl
theorem ug {bs:List (Array UInt8)} (h:bs.length≤1000) {k:Bool->Prop} (G:k au):IL (bs.map .bytes) (bs.map .bytes) k:=by refine aK (by unfold mf;refine ag (ar ..) (aD.mpr ⟨bg h,bg h⟩)) ?_;refine ag (jJ ..) ?_;show bV (lH _ _) False k;unfold lH;refine ag (q7 ..) ?_;show k (decide _);refine ag (decide_eq_true rfl ..) G
theorem JY {bs:List (Array UInt8)} (h:bs.length≤1000) {T:List MO} {k:Bool->Prop} (G:k am):nz .NotEq (.lst (bs.map .bytes)) (.lst (bs.map .bytes)) T k:=ug (k:=λt=>k (!t)) h G
theorem DB:∀l,(mR l).length=l.length:=λl=>(og l).length_eq
theorem DC (L:List bX):(codes L).length≤L.length:=List.length_filterMap_le ..
def m9 (E:fX) (r:List cg) (K:aO->aB->List MO->Prop):aO->aB->List MO->Prop:=λf ve T=>match f with
 | .next=>bl E r ve T K bB
 | .ret v=>K (.ret v) ve T
theorem bv (E:fX) (s:cg) (r:List cg) (ve:aB) (T:List MO) (K:aO->aB->List MO->Prop):bl E (s::r) ve T K bB=E.exec s ve T (m9 E r K) bB:=rfl
theorem bp (E:fX) (r:List cg) (ve:aB) (T:List MO) (K:aO->aB->List MO->Prop):m9 E r K .next ve T=bl E r ve T K bB:=rfl
theorem g8 (E:fX) (r:List cg) (ve:aB) (T:List MO) (K:aO->aB->List MO->Prop) (v:TV):m9 E r K (.ret v) ve T=K (.ret v) ve T:=rfl
theorem hG (k:VK) (v:TV) (ve:aB) (T:List MO):fi k (.ret v) ve T=k v T:=rfl
def LO {i:Bool} {z:Z} {gs:List MO} {n:Nat} {L:List bX} {a l:Int} {k:VK}:Prop:=∀(G:pB gs) (O:mr (z.b i) L a l) (h:k (.bool au) (TT z (gs++[.list (wt (codes L))]))),(vl D (n+40)).call (.ref 714) [.loc (bi i),.loc (ki i),.int l] (TT z gs) k bB
noncomputable def dr:=rm <| U λi=>U λz=>U λgs=>U λn=>U λL=>U λa=>U λl=>@LO i z gs n L a l
theorem tz {i z gs n L a l k}:@LO i z gs n L a l k:=jX (c:=dr) rfl (by
 intro S O h;have y:=O.cap;have r:=O.m1;have f:=O.lo;refine ah O.ne λe1 e2=>?_;have I:=UL _ (GO O.nd);have P:∀{p},p->aW (aH (dr.2.1.b dr.1).E.length 1000) p:=λq=>aK (bg (by exact OI ‹_› ‹_› ‹_›)) q;have J:∀{p},p->aW (aH (dr.2.1.b dr.1).N.length 1000) p:=λq=>aK (bg (by exact OI ‹_› ‹_› ‹_›)) q;have V:(dr.2.2.2.2.1.map gp).length=dr.2.2.2.2.1.length:=ar ..;refine ag (AC ..) (ag (bv ..) (ag (JQ ..) ?_));refine P ?_;rw [show (dr.2.1.b dr.1).E.map (·.2.1)=dr.2.2.2.2.1.map ft by rw [O.e,bx];rfl];refine tv (n:=dr.2.2.2.1+23) O dr.2.2.2.2.1 [] al (λY h=>h) (by rw [dA];exact Sj (K9 ‹_› ‹_›)) (aK (bg (by rw [cE,V];exact K9 ‹_› ‹_›)) ?_);refine ag (cE ..) (ag (bp ..) ?_);refine ag (bv ..) (ag (JR ..) ?_);refine P (J (iQ (by rw [e1,e2,beq_self_eq_true];rfl) (J (iQ (decide_eq_false ?_) (aK (bg (by omega)) (J (iQ (by rw [V,e2,beq_self_eq_true];rfl) ?_)))))))
 ·split <;> lia
 refine ag (bp ..) (ag (bv ..) ?_);refine ag (JS ..) (aK (aD.mpr ⟨bg (by omega),by rw [V,e2,jJ]⟩) ?_);rw [(show ((dr.2.2.2.2.1.map gp).zip (dr.2.1.b dr.1).N).map (λp:TV × bJ × TV × TV=>(.inr (p.1,p.2.2.1):TV ⊕ (TV × TV)))=(((dr.2.2.2.2.1.map gp).zip (dr.2.2.2.2.1.map gm)).map λp=>.inr (p.1,p.2.2.1)) by rw [O.n])];refine GX O (λo=>?_) dr.2.2.2.2.1 al λY h=>h;refine ag (bp ..) (ag (bv ..) ?_);refine ag (JT ..) (J ?_);rw [show (dr.2.1.b dr.1).N.map (·.2.2)=dr.2.2.2.2.1.map λe=>(gm e).2.2 by rw [O.n,bx];rfl];refine GY dr.2.2.2.2.1 [] al (by rw [dA];omega) (ag (cE ..) ?_);refine ag (bp ..) (ag (bv ..) ?_);refine ag (JU ..) (ag (GU dr.1 dr.2.2.2.2.2.2.1 _ _ o dr.2.1 S ..) ?_);refine P ?_;rw [show (dr.2.1.b dr.1).E.map (·.2.1)=dr.2.2.2.2.1.map ft by rw [O.e,bx];rfl];refine tv (n:=dr.2.2.2.1+22) O dr.2.2.2.2.1 [] al (λY h=>h) (by rw [dA];omega) (aK (bg (by rw [cE,V];exact K9 ‹_› ‹_›)) ?_);refine ag (cE ..) (GQ (n:=dr.2.2.2.1+15) S dr.2.2.2.2.1 [] al (by rw [dA];omega) λo'=>?_);show (vl D (dr.2.2.2.1+34)).exec (oq 2) _ _ _ _;refine ag (cE ..) ?_;have G:=Dt dr.1 o' (wt (codes dr.2.2.2.2.1)) dr.2.1 S (dr.2.2.2.1+15);rw [show dr.2.2.2.1+15+19=dr.2.2.2.1+34 from rfl] at G;refine ag (G ..) (ag (ql ..) ?_);refine aK (bg I.1) (aK I.2 ?_);have hs:(mR ((codes dr.2.2.2.2.1).map Iq)).length≤3:=by rw [DB];exact I.1
 refine aK (bg (by rw [ar];lia)) ?_;show (vl D (dr.2.2.2.1+37)).ev (AF (mx (rS 4))) _ _ _ _;refine ag (GV ..) ?_;have W:=DC dr.2.2.2.2.1;refine aK (bg (by unfold B4;rw [ar];omega)) (B5 _ [] al (by rw [dA];omega) ?_);refine ag (cE ..) ?_;show bV (mQ _) False _;refine ag (ql ..) (aK (bg I.1) (aK I.2 ?_));refine JY (by lia) (iQ rfl ?_);refine ag (bp ..) (ag (bv ..) ?_);refine ag (LN dr.2.1 dr.1 O ..) (ag (JW ..) ?_);refine GW (GW ?_);refine ag (bp ..) (ag (bv ..) ?_);refine ag (JX ..) (ag (g8 ..) ?_);refine ag (hG ..) (bZ (LN dr.2.1 dr.1 O ..) ?_);exact h) (i,z,gs,n,L,a,l,k)
def GZ (O G:TV) (cnt:Int) (sh:Sh) (z:Z) (gs:List MO) (n:Nat) (K:aO->aB->List MO->Prop):Prop:=(lU D (n+41)).exec (bE 3) (c9 O G cnt sh.loc) (TT z gs) K bB
def G6 (S I:TV) (cnt:Int) (sh:Sh) (z:Z) (gs:List MO) (n:Nat) (K:aO->aB->List MO->Prop):Prop:=
  (vl D (n+37)).call (.ref 690) [.loc 5,.int 7] (TT z gs) (λa T1=>Cu .Add a (.int 2) T1 λb O=>Cx .range [b] O λP J=>Cy P J λG g=>gv (lU D (n+40)) (ch (bE 3)) (bG (bE 3)) g (G.map .inl) (c9 S I cnt sh.loc) J K bB) bB
theorem G7 (O G:TV) (cnt:Int) (sh:Sh) (z:Z) (gs:List MO) (n:Nat) (K:aO->aB->List MO->Prop):GZ O G cnt sh z gs n K=G6 O G cnt sh z gs n K:=by induction sh <;> kernel_rfl
theorem NN (O G:TV) (cnt:Int) (sh:Sh) (z:Z) (gs:List MO) (n:Nat) (K:aO->aB->List MO->Prop):(lU D (n+41)).exec (bE 3) (c9 O G cnt sh.loc) (TT z gs) K bB=
  (vl D (n+37)).call (.ref 690) [.loc 5,.int 7] (TT z gs) (λa T1=>Cu .Add a (.int 2) T1 λb P=>Cx .range [b] P λS J=>Cy S J λI g=>gv (lU D (n+40)) (ch (bE 3)) (bG (bE 3)) g (I.map .inl) (c9 O G cnt sh.loc) J K bB) bB:=G7 O G cnt sh z gs n K
theorem DD (n:Nat) (g:TV) (r:List (TV ⊕ (TV × TV))) (ve:aB) (T:List MO) (K:aO->aB->List MO->Prop):gv (lU D (n+40)) (ch (bE 3)) (bG (bE 3)) al (.inl g::r) ve T K bB=
  JM (lU D (n+40)) (λG I=>gv (lU D (n+40)) (ch (bE 3)) (bG (bE 3)) al r G I K bB) (λv G I=>K (.ret v) G I) g ve T:=by
 unfold JM;generalize lU D (n+40)=E;generalize ch (bE 3)=tgt;generalize bG (bE 3)=body;rfl
theorem G8 {sv G:TV} {n:Nat} {gs:List MO} {f:GG} {K:aO->aB->List MO->Prop}:∀(y:List TV) {cnt:Int} {sh:Sh} {z:Z} {p:Ls} {t:Nat},rU f t z p->(∀i,(p i).length+y.length≤28)->t+y.length≤800->(0≤cnt∧cnt+y.length≤900)->
  (∀z' p' S P,0≤S∧S≤cnt+y.length->rU f (t+y.length) z' p'->(∀i,(p' i).length≤(p i).length+y.length)->K .next (c9 sv G S (Sh.loc P)) (TT z' gs))->
  gv (lU D (n+40)) (ch (bE 3)) (bG (bE 3)) al (y.map .inl) (c9 sv G cnt sh.loc) (TT z gs) K bB:=by
 intro r;induction r with
 | nil=>intro cnt sh z p t O _ _ V h;exact h z p cnt sh ⟨V.1,by simp⟩ O λY=>aG _
 | cons g y l=>intro cnt sh z p t O hl ht V h;refine ag (aT ..) (ag (DD ..) ?_);have J:∀i,(p i).length+(y.length+1)≤28:=hl;have ht':t+(y.length+1)≤800:=ht;refine JO O (λi=>by have:=J i;exact La ‹_›) (by exact La ‹_›) (by rw [bf] at V;exact by lia) λz' p' S P hc' O' hp=>?_;rw [bf] at V;refine l O' (λi=>by have:=J i;have:=hp i;exact by lia) (by exact Pj ‹_›) (by lia) λz2 p2 I sh2 hc2 O2 W=>?_;exact h z2 p2 I sh2 (by refine ag (bf ..) ?_;exact by lia) (O2.le (by refine ag (bf ..) ?_;exact by lia)) λi=>by have:=hp i;have:=W i;refine ag (bf ..) ?_;exact by lia
theorem NO {sv G:TV} {sh:Sh} {n:Nat} {z:Z} {gs:List MO} {f:GG} {p:Ls} {K:aO->aB->List MO->Prop} (O:rU f 0 z p) (hp:∀i,p i=[])
  (h:∀y P S I,rU f 8 y P->(∀i,(P i).length≤8)->K .next (c9 sv G S (Sh.loc I)) (TT y gs)):(lU D (n+41)).exec (bE 3) (c9 sv G 0 sh.loc) (TT z gs) K bB:=by
 refine ag (NN ..) (nv (n:=n+25) 4 O.deck λr Ld md v5 r0 r1 hd=>?_);refine ae (tr r0 r1) λj V Y=>?_;subst V;have Y:(j:Int)<7:=Y;have e:(aL j+2)=aL (j+2):=rfl;refine aK (b:=decide (0≤aL j+2)) (decide_eq_true (by refine ag (e ..) ?_;exact dW _)) (aK (b:=decide (aL j+2≤1000)) (decide_eq_true (by refine ag (e ..) ?_;show ((j+2:Nat):Int)≤1000;omega)) (aK (b:=aH (aL j+2).toNat 1000) (bg (by rw [e];show j+2≤1000;omega)) ?_));refine ag (e ..) ?_;have W:((dU (j+2)).map λj=>TV.int (aL j)).length=j+2:=by rw [ar,f6]
 refine G8 _ (O.deck' v5 hd) (λi=>by rw [hp i];show 0+_≤28;rw [show (aL (j+2)).toNat=j+2 from rfl,W];lia) (by rw [show (aL (j+2)).toNat=j+2 from rfl,W];lia) (by rw [show (aL (j+2)).toNat=j+2 from rfl,W];lia) λy P S I hc' l J=>?_;rw [show (aL (j+2)).toNat=j+2 from rfl,W] at l J;exact h y P S I (l.le (by lia)) λi=>by have:=J i;rw [hp i] at this;have:(P i).length≤0+(j+2):=this;lia
def tA (E:fX) (G:aC) (body:List cg) (r:List (TV ⊕ (TV × TV))) (K:aO->aB->List MO->Prop):aO->aB->List MO->Prop:=λf ve T=>match f with
 | .next=>gv E G body al r ve T K bB
 | .ret v=>K (.ret v) ve T
theorem lq (E:fX) (G:aC) (body:List cg) (g:TV) (r:List (TV ⊕ (TV × TV))) (ve:aB) (T:List MO) (K:aO->aB->List MO->Prop):gv E G body al (.inl g::r) ve T K bB=
  E.asg G g ve T (λI T1=>bl E body I T1 (tA E G body r K) bB) bB:=rfl
theorem G9 (E:fX) (G:aC) (body:List cg) (ve:aB) (T:List MO) (K:aO->aB->List MO->Prop):gv E G body al [] ve T K bB=K .next ve T:=rfl
theorem j5 (E:fX) (G:aC) (body:List cg) (r:List (TV ⊕ (TV × TV))) (ve:aB) (T:List MO) (K:aO->aB->List MO->Prop):tA E G body r K .next ve T=gv E G body al r ve T K bB:=rfl
theorem yC (E:fX) (ve:aB) (T:List MO) (K:aO->aB->List MO->Prop):m9 E [] K .next ve T=K .next ve T:=rfl
noncomputable def uY (k:Bool->List MO->Prop):VK:=λv T=>tS False (v:=v) (xbool:=λb=>k b T)
noncomputable def dI (l:Bool->Int):TV:=.lst [.int (l am),.int (l au)]
noncomputable def kL:Option TV->List (aU × TV)
 | none=>[]
 | some v=>[("k",v)]
noncomputable def RO:cg:=(bG (bE 4)).getD 0 (.Pass default)
theorem Qq (O G:TV) (cnt:Int) (l:List (aU × TV)) (T:List MO) (n:Nat) (K:aO->aB->List MO->Prop):(vl D (n+45)).exec (bE 4) (c9 O G cnt l) T K bB=
  gv (vl D (n+44)) (ch (bE 4)) [RO] al [.inl (.int 0),.inl (.int 1)] (c9 O G cnt l) T K bB:=by kernel_rfl
theorem Ha (O G:TV) (cnt:Int) (sh:Sh) (o:Option TV) (v:TV) (T:List MO) (n:Nat) (K:aB->List MO->Prop):(vl D (n+44)).asg (ch (bE 4)) v (c9 O G cnt (sh.loc++kL o)) T K bB=K (c9 O G cnt (sh.loc++kL (ac v))) T:=by induction sh <;> induction o <;> kernel_rfl
def Hb (i:Bool) (O:TV) (l:Bool->Int) (cnt:Int) (sh:Sh) (z:Z) (gs:List MO) (n:Nat) (C:CT) (K:aO->aB->List MO->Prop):Prop:=(up (CL (n+40) C) 4).exec RO (c9 O (dI l) cnt (sh.loc++kL (ac (.int (ib i))))) (TT z gs) K bB
def Hc (i:Bool) (O:TV) (l:Bool->Int) (cnt:Int) (sh:Sh) (z:Z) (gs:List MO) (n:Nat) (C:CT) (K:aO->aB->List MO->Prop):Prop:=
  C (.ref 714) [.loc (bi i),.loc (ki i),.int (l i)] (TT z gs) (uY λb T1=>br (!b) (K (.ret (.bool am)) (c9 O (dI l) cnt (sh.loc++kL (ac (.int (ib i))))) T1) (K .next (c9 O (dI l) cnt (sh.loc++kL (ac (.int (ib i))))) T1)) bB
theorem Hd (i:Bool) (O:TV) (l:Bool->Int) (cnt:Int) (sh:Sh) (z:Z) (gs:List MO) (n:Nat) (C:CT) (K:aO->aB->List MO->Prop):Hb i O l cnt sh z gs n C K=Hc i O l cnt sh z gs n C K:=by induction i <;> induction sh <;> kernel_rfl
theorem NP (i:Bool) (O:TV) (l:Bool->Int) (cnt:Int) (sh:Sh) (z:Z) (gs:List MO) (n:Nat) (C:CT) (K:aO->aB->List MO->Prop):(up (CL (n+40) C) 4).exec RO (c9 O (dI l) cnt (sh.loc++kL (ac (.int (ib i))))) (TT z gs) K bB=
  C (.ref 714) [.loc (bi i),.loc (ki i),.int (l i)] (TT z gs) (uY λb T1=>br (!b) (K (.ret (.bool am)) (c9 O (dI l) cnt (sh.loc++kL (ac (.int (ib i))))) T1) (K .next (c9 O (dI l) cnt (sh.loc++kL (ac (.int (ib i))))) T1)) bB:=Hd i O l cnt sh z gs n C K
theorem Qr {G:TV} {cnt:Int} {sh:Sh} {n:Nat} {z:Z} {gs:List MO} {f:GG} {p:Ls} {t:Nat} {K:aO->aB->List MO->Prop} (O:rU f t z p) (J:gs.length≤3)
  (h:∀P I,K .next (c9 G (dI f.l) cnt (sh.loc++kL (ac (.int 1)))) (TT z (gs++[P]++[I]))):(vl D (n+45)).exec (bE 4) (c9 G (dI f.l) cnt sh.loc) (TT z gs) K bB:=by
 have one:∀(i:Bool) (gs:List MO),pB gs->∀K:aO->aB->List MO->Prop,(∀g,K .next (c9 G (dI f.l) cnt (sh.loc++kL (ac (.int (ib i))))) (TT z (gs++[g])))->(vl D (n+44)).exec RO (c9 G (dI f.l) cnt (sh.loc++kL (ac (.int (ib i))))) (TT z gs) K bB:=λi gs J K S=>by have e:=NP i G f.l cnt sh z gs n (vl D (n+40)).call K;rw [gu] at e;refine cast e.symm (tz J (O.b i) ?_);exact S _
 have a0:=Ha G (dI f.l) cnt sh al (.int (ib am)) (TT z gs) n;rw [show sh.loc++kL al=sh.loc from bW _] at a0;refine ag (Qq ..) (ag (lq ..) ?_);refine cast (a0 _).symm (ag (bv ..) ?_);refine one am gs (by unfold pB;exact by lia) _ λP=>ag (yC ..) (ag (j5 ..) (ag (lq ..) ?_));refine cast ((Ha G (dI f.l) cnt sh (ac (.int (ib am))) (.int (ib au)) (TT z (gs++[P])) n) _).symm (ag (bv ..) ?_);refine one au (gs++[P]) (by unfold pB;refine ag (aJ ..) (ag (bK ..) ?_);exact by lia) _ λI=>?_;refine ag (yC ..) (ag (j5 ..) (ag (G9 ..) ?_));exact h P I
noncomputable def yD:rt:=cZ (eL 42) []
noncomputable def pC (i:Nat):cg:=yD.body.getD i (.Pass default)
noncomputable def j6 (o:Option TV):aB:=⟨yD.scope,("one",.loc 8)::("other",.loc 10)::uf "word" o,[],al⟩
theorem kS {E:fX} {a:ay} {fd:rt} {args:List TV} {binds:List (aU × TV)} {T:List MO} {k:VK} {x:VX} {b:List cg} (h1:D.fn a=ac fd) (h2:mS fd args=ac binds) (G:∀T,dR fd.fz binds fd.scope.names [] T=([],T)) (I:fd.tab=am) (J:fd.body=b):
  (j2 D E).call (.ref a) args T k x=bl E b ⟨fd.scope,binds,[],al⟩ T (fi k) x:=by
 subst J;show bV (D.fn a) _ (λfd=>bV (mS fd args) False λbinds=>bl E fd.body ⟨fd.scope,binds,(dR fd.fz binds fd.scope.names [] T).1,xf fd.tab T⟩ (dR fd.fz binds fd.scope.names [] T).2 (fi k) x)=_;refine ag (h1 ..) ?_;show bV (mS fd args) _ _=_;refine ag (h2 ..) ?_;show bl E fd.body ⟨fd.scope,binds,(dR fd.fz binds fd.scope.names [] T).1,xf fd.tab T⟩ (dR fd.fz binds fd.scope.names [] T).2 (fi k) x=_;refine ag (G ..) (ag (I ..) ?_);rfl
theorem DE (z:Z) (gs:List MO) (n:Nat) (k:VK):(vl D (n+40)).call (.ref 363) [.loc 8,.loc 10] (TT z gs) k bB=bl (vl D (n+39)) [pC 0,pC 1,pC 2] (j6 al) (TT z gs) (fi k) bB:=
 kS (E:=vl D (n+39)) (fd:=yD) (by kernel_rfl) (by kernel_rfl) (λT=>by kernel_rfl) (by kernel_rfl) (by kernel_rfl)
theorem NQ (z:Z) (gs:List MO) (n:Nat) (K:aO->aB->List MO->Prop):(vl D (n+39)).exec (pC 0) (j6 al) (TT z gs) K bB=
  aW (aH z.b0.E.length 1000) (aW (aH z.b1.E.length 1000) (br (!((z.b0.E.length:Int)==(z.b1.E.length:Int))) (K (.ret (.bool am)) (j6 al) (TT z gs)) (K .next (j6 al) (TT z gs)))):=by kernel_rfl
theorem NR (z:Z) (gs:List MO) (n:Nat) (K:aO->aB->List MO->Prop):(vl D (n+39)).exec (pC 1) (j6 al) (TT z gs) K bB=
  aW (aH z.b0.E.length 1000) (gv (vl D (n+38)) (ch (pC 1)) (bG (pC 1)) (ac (9,gY z.b0.E z.b0.v)) ((z.b0.E.map (·.2.1)).map .inl) (j6 al) (TT z gs) K bB):=by kernel_rfl
theorem He (ve:aB) (T:List MO) (n:Nat) (K:aO->aB->List MO->Prop):(vl D (n+39)).exec (pC 2) ve T K bB=K (.ret (.bool au)) ve T:=by kernel_rfl
noncomputable def TB (z:Z) (v:V7) (o0 o1:Option bX) (gs:List MO):List MO:=TG z (ln v.key (o0.map λe=>(bR e).2) (getD z.b0.E)) (ln v.key (o1.map λe=>(bR e).2) (getD z.b1.E)) (getD z.b0.N) (getD z.b1.N) gs
theorem Qs (z:Z) (v:V7) {L0 L1:List bX} (h0:z.b0.E=L0.map bR) (h1:z.b1.E=L1.map bR) (gs:List MO):TT z gs=TB z v (d8 v.cls L0) (d8 v.cls L1) gs:=by have e0:=gn (k:=v.key) (g:=getD z.b0.E) ((congrArg (cR v.key) h0).trans (js v _));have e1:=gn (k:=v.key) (g:=getD z.b1.E) ((congrArg (cR v.key) h1).trans (js v _));show TT z gs=TG z (ln _ _ (getD z.b0.E)) (ln _ _ (getD z.b1.E)) _ _ gs;refine bZ (e0 ..) (bZ (e1 ..) ?_);rfl
noncomputable def uZ (c d:Int):Bool:=decide ([AK.str "number",AK.int (c*1000000)]=[AK.str "number",AK.int (d*1000000)])
def yE (o:Option TV) (e:bX) (o1:Option bX) (z:Z) (gs:List MO) (n:Nat) (O:aB->List MO->Prop) (P:TV->aB->List MO->Prop):Prop:=gA (vl D (n+38)) (ch (pC 1)) (.inl (ft e)) (j6 o) (TB z e.1 (ac e) o1 gs) (λI T1=>bl (vl D (n+38)) (bG (pC 1)) I T1 (λf G J=>match f with
   | .next=>O G J
   | .ret v=>P v G J) bB) bB
def yF (o:Option TV) (e:bX) (o1:Option bX) (z:Z) (gs:List MO) (n:Nat) (J:aB->List MO->Prop) (G:TV->aB->List MO->Prop):Prop:=
  match o1 with
  | none=>G (.bool am) (j6 (ac (ft e))) (TB z e.1 (ac e) al gs)
  | some d=>aW (bU e.2.natAbs (2 ^ 60)) (aW (bU d.2.natAbs (2 ^ 60)) (br (!(uZ e.2 d.2)) (G (.bool am) (j6 (ac (ft e))) (TB z e.1 (ac e) (ac d) gs)) (J (j6 (ac (ft e))) (TB z e.1 (ac e) (ac d) gs))))
theorem yG (o:Option TV) (e:bX) (o1:Option bX) (z:Z) (gs:List MO) (n:Nat) (J:aB->List MO->Prop) (G:TV->aB->List MO->Prop):yE o e o1 z gs n J G=yF o e o1 z gs n J G:=by obtain ⟨v,c⟩:=e;cases o1 <;> rcases o with _ | _ <;> induction v <;> kernel_rfl
theorem DF (o:Option TV) (e:bX) (o1:Option bX) (z:Z) (gs:List MO) (n:Nat) (J:aB->List MO->Prop) (I:TV->aB->List MO->Prop):gA (vl D (n+38)) (ch (pC 1)) (.inl (ft e)) (j6 o) (TB z e.1 (ac e) o1 gs) (λO T1=>bl (vl D (n+38)) (bG (pC 1)) O T1 (λf G P=>match f with
   | .next=>J G P
   | .ret v=>I v G P) bB) bB=
  match o1 with
  | none=>I (.bool am) (j6 (ac (ft e))) (TB z e.1 (ac e) al gs)
  | some d=>aW (bU e.2.natAbs (2 ^ 60)) (aW (bU d.2.natAbs (2 ^ 60)) (br (!(uZ e.2 d.2)) (I (.bool am) (j6 (ac (ft e))) (TB z e.1 (ac e) (ac d) gs)) (J (j6 (ac (ft e))) (TB z e.1 (ac e) (ac d) gs)))):=yG o e o1 z gs n J I
noncomputable def lr (L0 L1:List bX):Bool:=decide (L0.length=L1.length)&&L0.all λe=>match d8 e.1.cls L1 with
 | none=>am
 | some d=>decide (e.2=d.2)
theorem yH (c d:Int):uZ c d=decide (c=d):=by
 unfold uZ;by_cases h:c=d
 ·exact ag (h ..) (ag (decide_eq_true rfl ..) (ag (decide_eq_true rfl ..) rfl))
 ·refine ag (decide_eq_false h ..) (decide_eq_false λq=>h (by exact by lia))
theorem tB {c:Nat} {e:bX}:∀{L:List bX},d8 c L=ac e->e∈L∧e.1.cls=c
 | d::L,h=>by
  rw [d8] at h;by_cases q:d.1.cls=c
  ·refine bZ (ss (if_pos q) h) ⟨aA ..,q⟩
  ·rw [if_neg q] at h;refine ah (tB h) λa b=>⟨aE _ a,b⟩
theorem JZ {z:Z} {gs:List MO} {n:Nat} {L0 L1:List bX} {a0 l0 a1 l1:Int} (I:mr z.b0 L0 a0 l0) (S:mr z.b1 L1 a1 l1) {k:VK}:∀(M:List bX) (o:Option TV),(∀e∈M,e∈L0)->k (.bool (M.all λe=>match d8 e.1.cls L1 with | none=>am | some d=>decide (e.2=d.2))) (TT z gs)->
  gv (vl D (n+38)) (ch (pC 1)) (bG (pC 1)) (ac (9,gY z.b0.E z.b0.v)) ((M.map ft).map .inl) (j6 o) (TT z gs) (m9 (vl D (n+39)) [pC 2] (fi k)) bB:=by
 intro P;induction P with
 | nil=>intro o _ h;exact ⟨rfl,by refine ag (bp ..) (ag (bv ..) (ag (He ..) (ag (g8 ..) (ag (hG ..) ?_))));exact h⟩
 | cons e M V=>
  intro o J h;refine ⟨rfl,?_⟩;have G:=Qs z e.1 I.e S.e gs;rw [(gB I.nd (J e (aA ..)))] at G;refine ag (G ..) (cast (DF o e _ z gs n _ _).symm ?_);rw [iZ] at h;have W:=I.sm e (J e (aA ..));cases hd:d8 e.1.cls L1 with
  | none=>rw [hd] at h G;refine ag (g8 ..) (ag (hG ..) (bZ (G ..) ?_));exact h
  | some d=>
   rw [hd] at h G;dsimp only at h;have O:=S.sm d (tB hd).1;refine aK (gh (Aq W (by decide))) (aK (gh (Aq O (by decide))) ?_);refine ag (yH ..) (bZ (G ..) ?_);by_cases q:e.2=d.2
   ·rw [decide_eq_true q] at h ⊢;exact V _ (λx f=>J x (aE _ f)) (by rw [iX] at h;exact h)
   ·rw [decide_eq_false q] at h ⊢;rw [ig] at h;exact h
theorem J2 {z:Z} {gs:List MO} {n:Nat} {L0 L1:List bX} {a0 l0 a1 l1:Int} (G:mr z.b0 L0 a0 l0) (I:mr z.b1 L1 a1 l1) {k:VK} (h:k (.bool (lr L0 L1)) (TT z gs)):(vl D (n+40)).call (.ref 363) [.loc 8,.loc 10] (TT z gs) k bB:=by
 have V:=G.cap;have m0:=G.m1;have J:=I.cap;have m1:=I.m1;refine ah G.ne λe0 _=>ah I.ne λe1 _=>ag (DE ..) (ag (bv ..) (ag (NQ ..) ?_));refine aK (bg (by lia)) (aK (bg (by lia)) ?_);refine ag (e0 ..) (ag (e1 ..) ?_);unfold lr at h;by_cases q:L0.length=L1.length
 ·refine iQ (by refine ag (q ..) (ag (beq_self_eq_true ..) ?_);rfl) ?_;refine ag (bp ..) (ag (bv ..) (ag (NR ..) ?_));refine aK (bg (by lia)) ?_;rw [show z.b0.E.map (·.2.1)=L0.map ft by rw [G.e,bx];rfl];rw [decide_eq_true q,iX] at h;exact JZ G I L0 al (λY h=>h) h
 ·refine yw (by rw [show ((L0.length:Int)==(L1.length:Int))=am from beq_eq_false_iff_ne.mpr λw=>q (Ul w)];rfl) ?_;refine ag (g8 ..) (ag (hG ..) ?_);rw [decide_eq_false q,ig] at h;exact h
noncomputable def B6:rt:=cZ (eL 61) [] am au
noncomputable def UM:cg:=B6.body.getD 0 (.Pass default)
noncomputable def lY:aC:=NL (Qk UM)
noncomputable def rV (i:Bool) (o:Option TV):aB:=⟨eO B6.scope (LL lY),uf "key" o,[("known",.inr (.loc (ki i)))],al⟩
theorem DG (i:Bool) (z:Z) (gs:List MO) (n:Nat) (k:VK):(vl D (n+40)).call (.ref 726) [.loc (ki i)] (TT z gs) k bB=
  aW (aH (z.b i).N.length 1000) (dH (vl D (n+36)) (iq lY) (ir lY) [] (ac (ki i,gY (z.b i).N (z.b i).w)) ((z.b i).N.map (·.2.1)) (rV i al) (TT z gs) [] λacc G=>Cx .dict [.lst acc] G k):=by
 induction i <;> kernel_rfl
noncomputable def B7 (e:bX):TV:=.tup [e.1.markT,.int e.2]
theorem yI (i:Bool) (o:Option TV) (e:bX) (z:Z) (gs:List MO) (n:Nat) (P:TV->aB->List MO->Prop) (J:aB->List MO->Prop):
  (vl D (n+36)).asg (ir lY) e.1.markT (rV i o) (TA z i e.1 (ac e) gs) (λG T1=>jA (vl D (n+36)) G [] T1 λb I=>br b ((vl D (n+36)).ev (iq lY) G I (λv O=>P v G O) bB) (J G I)) bB=
  P (B7 e) (rV i (ac e.1.markT)) (TA z i e.1 (ac e) gs):=by
 obtain ⟨v,c⟩:=e;cases i <;> induction o <;> induction v <;> kernel_rfl
noncomputable def Hf (L:List bX):TV:=.dct (L.map λe=>e.1.mark) (L.map λe=>.int e.2)
theorem DH {i:Bool} {z:Z} {gs:List MO} {n:Nat} {L:List bX} {a l:Int} (O:mr (z.b i) L a l) {k:Ct}:∀(M:List bX) (acc:List TV) (o:Option TV),(∀e∈M,e∈L)->acc.length+M.length≤1000->k (acc++M.map B7) (TT z gs)->
  dH (vl D (n+36)) (iq lY) (ir lY) [] (ac (ki i,gY (z.b i).N (z.b i).w)) (M.map λe=>e.1.markT) (rV i o) (TT z gs) acc k:=by
 intro G;induction G with
 | nil=>intro acc o _ _ h;exact ⟨qp i z gs,by rw [gI,bW] at h;exact h⟩
 | cons e M V=>intro acc o I hl h;refine ⟨qp i z gs,?_⟩;refine ag ((q6 z i e.1 O.e O.n (gB O.nd (I e (aA ..))) gs) ..) (cast (yI i o e z gs n _ _).symm ?_);refine bZ ((q6 z i e.1 O.e O.n (gB O.nd (I e (aA ..))) gs) ..) ?_;rw [bf] at hl;refine aK (bg (by exact La ‹_›)) (V _ _ (λd hd=>I d (aE _ hd)) (by refine ag (aJ ..) (ag (bK ..) ?_);exact Pj ‹_›) ?_);refine ag (bI ..) h
theorem DI (v:V7):rp v.markT=ac v.mark:=by induction v <;> kernel_rfl
theorem tC:∀L:List bX,pV (L.map B7)=ac (L.map λe=>e.1.mark,L.map λe=>.int e.2)
 | []=>rfl
 | e::L=>by show (rp e.1.markT).bind (λka=>(pV (L.map B7)).map λp=>(ka::p.1,TV.int e.2::p.2))=_;refine ag (DI ..) (ag (tC L ..) ?_);rfl
theorem Hg {L:List bX} (h:ND L):(L.map λe=>e.1.mark).Nodup:=by refine uC.mpr (h.imp λG q=>G ((fF _ _).2.mp q))
theorem u3 {i:Bool} {z:Z} {gs:List MO} {n:Nat} {L:List bX} {a l:Int} (O:mr (z.b i) L a l) {k:VK} (h:k (Hf L) (TT z gs)):(vl D (n+40)).call (.ref 726) [.loc (ki i)] (TT z gs) k bB:=by have:=O.cap;have:=O.m1;refine ah O.ne λ_ e1=>ag (DG ..) (aK (bg (by exact OI ‹_› ‹_› ‹_›)) ?_);rw [show (z.b i).N.map (·.2.1)=L.map λe=>e.1.markT by rw [O.n,bx];rfl];refine DH O L [] al (λY h=>h) (by rw [dA];exact Sj (K9 ‹_› ‹_›)) ?_;refine ag (cE ..) ?_;show bV (pV _) False _;refine ag (tC ..) (aK (decide_eq_true (Hg O.nd)) (aK (bg (by rw [ar];exact K9 ‹_› ‹_›)) h))
theorem qr:∀L:List bX,dn ((L.map λe=>TV.int e.2).map eY)=ac (L.map λe=>AK.int e.2)
 | []=>rfl
 | e::L=>by show (dn ((L.map λe=>TV.int e.2).map eY)).map _=_;refine ag (qr L ..) ?_;rfl
theorem tD:∀L:List bX,((L.map λe=>e.1.mark).zip (L.map λe=>TV.int e.2))=L.map λe=>(e.1.mark,TV.int e.2)
 | []=>rfl
 | e::L=>by exact ag (aT ..) (ag (aT ..) (ag (aT ..) (ag (dz ..) (ag (tD L ..) rfl))))
theorem u4 (v:V7):∀L:List bX,(L.map λe=>(e.1.mark,TV.int e.2)).lookup v.mark=(d8 v.cls L).map λe=>TV.int e.2
 | []=>rfl
 | e::L=>by
  refine ag (aT ..) (ag (List.lookup_cons ..) ?_);rw [d8];by_cases h:e.1.cls=v.cls
  ·refine ag (if_pos h ..) (ag (show (v.mark==e.1.mark)=au from beq_iff_eq.mpr ((fF v e.1).2.mpr h.symm) ..) ?_);rfl
  ·refine ag (if_neg h ..) (ag (show (v.mark==e.1.mark)=am from beq_eq_false_iff_ne.mpr λq=>h ((fF v e.1).2.mp q).symm ..) ?_);exact u4 v L
theorem DJ {L0 L1:List bX} (h0:L0.length≤1000) (h1:L1.length≤1000) {T:List MO} {k:Bool->Prop} (h:k (lr L0 L1)):nz .Eq (Hf L0) (Hf L1) T k:=by
 show aW (mf (L0.map λe=>TV.int e.2) (L1.map λe=>TV.int e.2)&&b9 (L0.map λe=>e.1.mark).length (L0.map λe=>TV.int e.2).length&&b9 (L1.map λe=>e.1.mark).length (L1.map λe=>TV.int e.2).length&&(dn ((L0.map λe=>TV.int e.2).map eY)).isSome&&(dn ((L1.map λe=>TV.int e.2).map eY)).isSome)
   (k (decide ((L0.map λe=>e.1.mark).length=(L1.map λe=>e.1.mark).length)&&((L0.map λe=>e.1.mark).zip (L0.map λe=>TV.int e.2)).all λe=>match ((L1.map λe=>e.1.mark).zip (L1.map λe=>TV.int e.2)).lookup e.1 with | some p=>decide (eY e.2=eY p) | none=>am))
 refine aK ?_ ?_
 ·refine ag (qr ..) (ag (qr ..) ?_);unfold mf;refine ag (ar ..) (ag (ar ..) (ag (ar ..) (ag (ar ..) (ag (bg h0 ..) (ag (bg h1 ..) (ag (jJ ..) (ag (jJ ..) ?_)))))));rfl
 ·refine ag (tD ..) (ag (tD ..) (ag (ar ..) (ag (ar ..) (ag (Vf ..) ?_))));have e:L0.all ((λe:bJ × TV=>match (L1.map λe=>(e.1.mark,TV.int e.2)).lookup e.1 with | some p=>decide (eY e.2=eY p) | none=>am)∘ λe=>(e.1.mark,TV.int e.2))=L0.all λe=>match d8 e.1.cls L1 with | none=>am | some d=>decide (e.2=d.2):=by
   congr 1;funext e;show (match (L1.map λe=>(e.1.mark,TV.int e.2)).lookup e.1.mark with | some p=>decide (eY (TV.int e.2)=eY p) | none=>am)=_;refine ag (u4 ..) ?_;induction d8 e.1.cls L1 with
   | none=>rfl
   | some d=>
    show decide (ac (AK.int e.2)=ac (AK.int d.2))=decide (e.2=d.2);by_cases q:e.2=d.2
    ·exact ag (q ..) (ag (decide_eq_true rfl ..) (ag (decide_eq_true rfl ..) rfl))
    ·refine ag (decide_eq_false q ..) (decide_eq_false λw=>q (by injection w with w;injection w))
  refine ag (e ..) h
noncomputable def Qt (n:Nat) (C:Nat->CT):Nat->fX
 | 0=>{vl D n with call:=C 0}
 | m+1=>{j2 D (Qt n C m) with call:=C (m+1)}
theorem AJ (n:Nat):∀m,Qt n (λm=>(vl D (n+m)).call) m=vl D (n+m)
 | 0=>rfl
 | m+1=>by show ({j2 D (Qt n (λm=>(vl D (n+m)).call) m) with call:=(vl D (n+(m+1))).call}:fX)=_;refine ag (AJ n m ..) ?_;rfl
theorem Qu (i:Nat) (hi:i=5∨i=15) (O G:TV) (cnt:Int) (sh:Sh) (r:List (aU × TV)) (z:Z) (gs:List MO) (n:Nat) (C:Nat->CT) (K:aO->aB->List MO->Prop):(Qt (n+41) C 4).exec (bE i) (c9 O G cnt (sh.loc++r)) (TT z gs) K bB=
  C 1 (.ref 363) [.loc 8,.loc 10] (TT z gs) (λa T1=>C 0 (.ref 726) [.loc 12] T1 (λb J=>C 0 (.ref 726) [.loc 13] J (λc I=>nz .Eq b c I λt=>nz .NotEq a (.bool t) I λu=>br u (K (.ret (.bool am)) (c9 O G cnt (sh.loc++r)) I) (K .next (c9 O G cnt (sh.loc++r)) I)) bB) bB) bB:=by
 rcases hi with rfl | rfl <;> induction sh <;> kernel_rfl
theorem LP {i:Nat} (hi:i=5∨i=15) {O G:TV} {cnt:Int} {sh:Sh} {r:List (aU × TV)} {n:Nat} {z:Z} {gs:List MO} {L0 L1:List bX} {a0 l0 a1 l1:Int} (I:mr z.b0 L0 a0 l0) (J:mr z.b1 L1 a1 l1) {K:aO->aB->List MO->Prop}
  (h:K .next (c9 O G cnt (sh.loc++r)) (TT z gs)):(vl D (n+45)).exec (bE i) (c9 O G cnt (sh.loc++r)) (TT z gs) K bB:=by
 have e:=Qu i hi O G cnt sh r z gs n (λm=>(vl D (n+41+m)).call) K;rw [AJ] at e;have V:=I.cap;have m0:=I.m1;have P:=J.cap;have m1:=J.m1;refine cast e.symm (J2 (n:=n+2) I J ?_);refine u3 (i:=false) (n:=n+1) I (u3 (i:=true) (n:=n+1) J ?_);refine DJ (by lia) (by lia) ?_;show (λu:Bool=>br u _ _) (!(lr L0 L1==lr L0 L1));refine ag (beq_self_eq_true ..) h
noncomputable def na:TV:=.lst [.tup [mh "name" (.bytes (El 99)),dT 77],.tup [mh "null" .none,dT 78]]
theorem Qv (O G:TV) (cnt:Int) (sh:Sh) (r:List (aU × TV)) (z:Z) (gs:List MO) (n:Nat) (K:aO->aB->List MO->Prop):(vl D (n+45)).exec (bE 6) (c9 O G cnt (sh.loc++r)) (TT z gs) K bB=K .next (c9 O G cnt (sh.loc++r)) (TT {z with pr:=some na} gs):=by induction sh <;> kernel_rfl
noncomputable def TN (z:Z) (gs:List MO):List MO:=TG z (ln wB al (getD z.b0.E)) (getD z.b1.E) (getD z.b0.N) (getD z.b1.N) gs
theorem LQ (z:Z) {L:List bX} (h:z.b0.E=L.map bR) (gs:List MO):TT z gs=TN z gs:=by show TT z gs=TG z (ln wB al (getD z.b0.E)) _ _ _ gs;refine bZ (gn (k:=wB) (g:=getD z.b0.E) (by show cR _ _=_;rw [h];exact (JV L).1) ..) ?_;rfl
noncomputable def Qw (e:aC):Nat × Nat:=eS (0,0) (v:=e) (xCall:=λY a Y Y=>eS (0,0) (v:=a.headD e0) (xLambda:=λY Y Y p=>(p.line,p.col)))
noncomputable def de (i:Nat):Nat × Nat:=match i with
 | 7=>Qw (GT (mx (bE 7)))
 | _=>Qw (GR (bE 11))
theorem Qx (O G:TV) (cnt:Int) (sh:Sh) (r:List (aU × TV)) (z:Z) (P I:MO) (n:Nat) (K:aO->aB->List MO->Prop):(vl D (n+45)).exec (bE 7) (c9 O G cnt (sh.loc++r)) (TN {z with u:=[],pr:=some na} [P,I]) K bB=
  K .next (c9 O G cnt (sh.loc++r)) (TN {z with u:=[de 7],pr:=some na} [P,I,gY [(wB,.tup [.str "word",.bytes (El 99)],.bool au)] 1]):=by
 induction sh <;> kernel_rfl
noncomputable def tE:Nat->Int × Int
 | 0=>(3,3) | 1=>(3,2) | 2=>(1,3) | 3=>(2,3) | _=>(3,3)
noncomputable def pD (j:Nat):TV:=.tup [.int (tE j).1,.int (tE j).2]
noncomputable def Hh:Nat->Bool
 | 1=>am | 2=>am | _=>au
noncomputable def r7:List (aU × TV):=[("k",.int 1)]
noncomputable def UN (v:TV):List (aU × TV):=[("k",.int 1),("access",v)]
noncomputable def r8 (j:Nat):List (aU × TV):=[("k",.int 1),("access",pD j)]
noncomputable def OS (j:Nat):List (aU × TV):=[("k",.int 1),("access",pD j),("is_let",.bool (Hh j))]
noncomputable def uh (j:Nat) (t:TV):List (aU × TV):=[("k",.int 1),("access",pD j),("is_let",.bool (Hh j)),("told",t)]
theorem Qy (O G:TV) (cnt:Int) (sh:Sh) (z:Z) (gs:List MO) (n:Nat) (C:CT) (K:aO->aB->List MO->Prop):(up (CL (n+42) C) 3).exec (bE 8) (c9 O G cnt (sh.loc++r7)) (TT z gs) K bB=
  C (.ref 690) [.loc 5,.int 5] (TT z gs) (λa T1=>qM (.lst [pD 0,pD 1,pD 2,pD 3,pD 4]) a T1 λv I=>K .next (c9 O G cnt (sh.loc++UN v)) I) bB:=by
 induction sh <;> kernel_rfl
noncomputable def lu (z:Z) (j:Nat):Z:={z with b0:={z.b0 with a:=(tE j).1},b1:={z.b1 with a:=(tE j).2}}
theorem Qz (j:Nat) (S:j <5) (O G:TV) (cnt:Int) (sh:Sh) (z:Z) (gs:List MO) (n:Nat) (K:aO->aB->List MO->Prop):(vl D (n+45)).exec (bE 9) (c9 O G cnt (sh.loc++r8 j)) (TT {z with b0:={z.b0 with a:=3},b1:={z.b1 with a:=3}} gs) K bB=
  K .next (c9 O G cnt (sh.loc++r8 j)) (TT (lu z j) gs):=by
 induction sh <;> refine RJ j S ?_ ?_ ?_ ?_ ?_ <;> kernel_rfl
theorem NS (j:Nat) (S:j <5) (O G:TV) (cnt:Int) (sh:Sh) (T:List MO) (n:Nat) (K:aO->aB->List MO->Prop):(vl D (n+45)).exec (bE 10) (c9 O G cnt (sh.loc++r8 j)) T K bB=K .next (c9 O G cnt (sh.loc++OS j)) T:=by induction sh <;> refine RJ j S ?_ ?_ ?_ ?_ ?_ <;> kernel_rfl
noncomputable def Hi:TV:=.bytes "invalidaccess".toUTF8.data
theorem NT (j:Nat) (S:j=1∨j=2) (O G:TV) (cnt:Int) (sh:Sh) (z:Z) (gs:List MO) (n:Nat) (K:aO->aB->List MO->Prop):(vl D (n+45)).exec (bE 11) (c9 O G cnt (sh.loc++OS j)) (TT {lu z j with u:=[de 7]} gs) K bB=
  K .next (c9 O G cnt (sh.loc++uh j Hi)) (TT {lu z j with u:=[de 11,de 7]} gs):=by
 rcases S with rfl | rfl <;> induction sh <;> kernel_rfl
noncomputable def B8 (j:Nat):TV:=if Hh j then .none else Hi
theorem Hj (j:Nat) (S:j <5) (O G:TV) (cnt:Int) (sh:Sh) (T:List MO) (n:Nat) (K:aO->aB->List MO->Prop):(vl D (n+45)).exec (bE 12) (c9 O G cnt (sh.loc++uh j (B8 j))) T K bB=K .next (c9 O G cnt (sh.loc++uh j (B8 j))) T:=by induction sh <;> refine RJ j S ?_ ?_ ?_ ?_ ?_ <;> kernel_rfl
noncomputable def Hk:aC:=NL (GR (bE 11))
noncomputable def SX (e:aC):aC:=eS e0 (v:=e) (xLambda:=λY b Y Y=>b)
noncomputable def LR (e:aC):d9:=eS default (v:=e) (xLambda:=λY Y s Y=>s)
noncomputable def QA:List (aU × Nat):=((lj m8 (LR Hk).names []).bind rP).getD []
noncomputable def wC:TV:=.lam (SX Hk) (LR Hk) QA
def Hl (j:Nat) (O G:TV) (cnt:Int) (sh:Sh) (z:Z) (gs:List MO) (n:Nat) (C:CT) (K:aO->aB->List MO->Prop):Prop:=(up (CL (n+63) C) 2).exec (bE 11) (c9 O G cnt (sh.loc++OS j)) (TT {z with u:=[de 7]} gs) K bB
def Hm (j:Nat) (O G:TV) (cnt:Int) (sh:Sh) (z:Z) (gs:List MO) (n:Nat) (C:CT) (K:aO->aB->List MO->Prop):Prop:=
  C (.ref 721) [wC] (TT {z with u:=[de 11,de 7]} gs) (λv T1=>K .next (c9 O G cnt (sh.loc++uh j v)) T1) bB
theorem Hn (j:Nat) (O G:TV) (cnt:Int) (sh:Sh) (z:Z) (gs:List MO) (n:Nat) (C:CT) (K:aO->aB->List MO->Prop):Hl j O G cnt sh z gs n C K=Hm j O G cnt sh z gs n C K:=by induction sh <;> kernel_rfl
theorem NU (j:Nat) (O G:TV) (cnt:Int) (sh:Sh) (z:Z) (gs:List MO) (n:Nat) (C:CT) (K:aO->aB->List MO->Prop):(up (CL (n+63) C) 2).exec (bE 11) (c9 O G cnt (sh.loc++OS j)) (TT {z with u:=[de 7]} gs) K bB=
  C (.ref 721) [wC] (TT {z with u:=[de 11,de 7]} gs) (λv T1=>K .next (c9 O G cnt (sh.loc++uh j v)) T1) bB:=Hn j O G cnt sh z gs n C K
theorem J4 (T:List MO) (n:Nat) (C:CT) (k:VK):(up (CL (n+60) C) 3).call (.ref 721) [wC] T k bB=
  C wC [] T (λY T1=>k .none T1) (λG an v T1=>aW (b9 G 52&&an==("told":aU)&&nT v) (k v T1)):=by kernel_rfl
noncomputable def nK (b:Nat):TV:=mh "dict" (.loc b)
theorem NV (z:Z) (gs:List MO) (n:Nat) (C:CT) (k:VK) (x:VX):(up (CL (n+56) C) 2).call wC [] (TT z gs) k x=C (.ref 349) [.loc 6,nK 8,nK 10] (TT z gs) k x:=by kernel_rfl
theorem J5 (j:Nat) (S:j=0∨j=3∨j=4) (z:Z) (gs:List MO) (n:Nat) (C:Nat->CT) (k:VK) (x:VX):(up (Qt (n+51) C 1) 4).call (.ref 349) [.loc 6,nK 8,nK 10] (TT (lu z j) gs) k x=
  C 0 (.ref 328) [.loc 8] (TT (lu z j) gs) (λI T1=>C 1 (.ref 342) [.loc 6,.loc 10,I] T1 (λY G=>k (nK 10) G) x) x:=by
 rcases S with rfl | rfl | rfl <;> kernel_rfl
noncomputable def J6:rt:=cZ (eL 39) []
noncomputable def ui (i:Nat):cg:=J6.body.getD i (.Pass default)
noncomputable def q3:Option (TV × TV × TV)->List (aU × TV)
 | none=>[]
 | some (a,b,c)=>[("key",a),("thing",b),("word",c)]
noncomputable def j7 (R:List TV) (o:Option (TV × TV × TV)):aB:=⟨J6.scope,("memory",.loc 6)::("body",.loc 10)::("pairs",.lst R)::("fresh",.loc 17)::q3 o,[],al⟩
noncomputable def LS (R:List TV):aB:=⟨J6.scope,[("memory",.loc 6),("body",.loc 10),("pairs",.lst R)],[],al⟩
theorem Ho (R:List TV) (T:List MO) (n:Nat) (k:VK) (x:VX):(vl D (n+52)).call (.ref 342) [.loc 6,.loc 10,.lst R] T k x=bl (vl D (n+51)) [ui 0,ui 1,ui 2,ui 3] (LS R) T (fi k) x:=
 kS (E:=vl D (n+51)) (fd:=J6) (by kernel_rfl) (by kernel_rfl) (λT=>by kernel_rfl) (by kernel_rfl) (by kernel_rfl)
theorem QB (R:List TV) (z:Z) (P G I:MO) (n:Nat) (K:aO->aB->List MO->Prop) (x:VX):(vl D (n+51)).exec (ui 0) (LS R) (TT z [P,G,I]) K x=K .next (j7 R al) (TT z [P,G,I,gY [] 0]):=by kernel_rfl
theorem LU (i:Nat) (hi:i=1∨i=3) (o:Option (TV × TV × TV)) (R:List TV) (T:List MO) (n:Nat) (K:aO->aB->List MO->Prop) (x:VX):(vl D (n+51)).exec (ui i) (j7 R o) T K x=
  aW (aH R.length 1000) (gv (vl D (n+50)) (ch (ui i)) (bG (ui i)) al (R.map .inl) (j7 R o) T K x):=by
 rcases hi with rfl | rfl <;> induction o <;> kernel_rfl
noncomputable def T1 (z:Z) (v:V7) (o:Option bX) (gs:List MO):List MO:=TG z (getD z.b0.E) (ln v.key (o.map λe=>(bR e).2) (getD z.b1.E)) (getD z.b0.N) (getD z.b1.N) gs
theorem LV (z:Z) (v:V7) {L:List bX} (h:z.b1.E=L.map bR) (gs:List MO):TT z gs=T1 z v (d8 v.cls L) gs:=by have e:=gn (k:=v.key) (g:=getD z.b1.E) ((congrArg (cR v.key) h).trans (js v _));show TT z gs=TG z _ (ln _ _ (getD z.b1.E)) _ _ gs;refine bZ (e ..) ?_;rfl
noncomputable def e3 (e:bX):Option (TV × TV × TV):=ac (e.1.kept,dT e.2,ft e)
def yJ (R:List TV) (o:Option (TV × TV × TV)) (e:bX) (p:Option bX) (F:List (bJ × TV × TV)) (S:Nat) (z:Z) (V W l:MO) (n:Nat) (O:aB->List MO->Prop) (P:TV->aB->List MO->Prop) (x:VX):Prop:=gA (vl D (n+50)) (ch (ui 1)) (.inl (gp e)) (j7 R o) (T1 z e.1 p [V,W,l,gY F S]) (λI T1=>bl (vl D (n+50)) (bG (ui 1)) I T1 (λf G J=>match f with
   | .next=>O G J
   | .ret v=>P v G J) x) x
def yK (R:List TV) (o:Option (TV × TV × TV)) (e:bX) (O:Option bX) (F:List (bJ × TV × TV)) (S:Nat) (z:Z) (P G I:MO) (n:Nat) (J:aB->List MO->Prop) (V:TV->aB->List MO->Prop) (x:VX):Prop:=
  match O with
  | some d=>J (j7 R (e3 e)) (T1 z e.1 (ac d) [P,G,I,gY F S])
  | none=>aW (aH F.length 1000) (J (j7 R (e3 e)) (T1 z e.1 al [P,G,I,gY (dq e.1.key (ft e) (.bool au) F) (S+1)]))
theorem yL (R:List TV) (o:Option (TV × TV × TV)) (e:bX) (G:Option bX) (F:List (bJ × TV × TV)) (S:Nat) (z:Z) (P O V:MO) (n:Nat) (J:aB->List MO->Prop) (I:TV->aB->List MO->Prop) (x:VX):yJ R o e G F S z P O V n J I x=yK R o e G F S z P O V n J I x:=by obtain ⟨v,c⟩:=e;cases G <;> rcases o with _ | _ <;> induction v <;> kernel_rfl
theorem DK (R:List TV) (o:Option (TV × TV × TV)) (e:bX) (V:Option bX) (F:List (bJ × TV × TV)) (S:Nat) (z:Z) (P I O:MO) (n:Nat) (J:aB->List MO->Prop) (l:TV->aB->List MO->Prop) (x:VX):gA (vl D (n+50)) (ch (ui 1)) (.inl (gp e)) (j7 R o) (T1 z e.1 V [P,I,O,gY F S]) (λW T1=>bl (vl D (n+50)) (bG (ui 1)) W T1 (λf G p=>match f with
   | .next=>J G p
   | .ret v=>l v G p) x) x=
  match V with
  | some d=>J (j7 R (e3 e)) (T1 z e.1 (ac d) [P,I,O,gY F S])
  | none=>aW (aH F.length 1000) (J (j7 R (e3 e)) (T1 z e.1 al [P,I,O,gY (dq e.1.key (ft e) (.bool au) F) (S+1)])):=yL R o e V F S z P I O n J l x
noncomputable def B9:TV:=.bytes "dictfull".toUTF8.data
theorem QC (R:List TV) (o:Option (TV × TV × TV)) (F:List (bJ × TV × TV)) (S:Nat) (z:Z) (P G I:MO) (n:Nat) (K:aO->aB->List MO->Prop) (x:VX):(vl D (n+51)).exec (ui 2) (j7 R o) (TT z [P,G,I,gY F S]) K x=
  aW (aH z.b1.E.length 1000) (aW (aH F.length 1000) (br (decide ((if z.b1.m <65535 then 65535 else z.b1.m)<(z.b1.E.length:Int)+(F.length:Int))) (x 52 "told" B9 (TT z [P,G,I,gY F S])) (K .next (j7 R o) (TT z [P,G,I,gY F S])))):=by
 induction o <;> kernel_rfl
noncomputable def Bd.putE (b:Bd) (e:bX) (kept:TV):Bd:={b with E:=yx e.1 kept e.2 b.E,v:=b.v+1}
def yM (R:List TV) (p:TV × TV × TV) (e:bX) (oo:Option bX) (Y:MO) (z:Z) (V W:Int) (S:List (bJ × TV × TV)) (l y r:MO) (n:Nat) (O:aB->List MO->Prop) (P:TV->aB->List MO->Prop) (x:VX):Prop:=gA (vl D (n+50)) (ch (ui 3)) (.inl (gp e)) (j7 R (ac p)) (T1 {z with Md:=d0 V W S} e.1 oo [l,y,r,Y]) (λI T1=>bl (vl D (n+50)) (bG (ui 3)) I T1 (λf G J=>match f with
   | .next=>O G J
   | .ret v=>P v G J) x) x
def yN (R:List TV) (p:TV × TV × TV) (e:bX) (f:Option bX) (V:MO) (z:Z) (I J:Int) (G:List (bJ × TV × TV)) (P O S:MO) (n:Nat) (W:aB->List MO->Prop) (l:TV->aB->List MO->Prop) (x:VX):Prop:=
  match f with
  | some d=>aW (aH z.b1.E.length 1000) (W (j7 R (ac (e.1.kept,dT e.2,p.2.2))) (TT {z with Md:=d0 I J G,b1:=z.b1.putE e d.1.kept} [P,O,S,V]))
  | none=>aW (aH z.b1.E.length 1000) (br (decide (z.b1.m≤(z.b1.E.length:Int)))
    (aW (bU z.b1.m.natAbs (2 ^ 60)) (br (decide (cq z.b1.m≤z.b1.m)) (x 52 "told" B9 (T1 {z with Md:=d0 I J G} e.1 al [P,O,S,V])) (aW (bU (cq z.b1.m - z.b1.m).natAbs (2 ^ 60)) (br (decide (16777216 <z.used+0+16*(cq z.b1.m - z.b1.m))) (x 52 "told" (.bytes "VMerror".toUTF8.data) (T1 {z with Md:=d0 I J G} e.1 al [P,O,S,V]))
     (aW (aH (d0 I J G).length 1000) (aW (aH z.b1.E.length 1000) (W (j7 R (ac (e.1.kept,dT e.2,p.2.2))) (TT {z with used:=z.used+16*(cq z.b1.m - z.b1.m),Md:=d0 I (J+16*(cq z.b1.m - z.b1.m)) G,v7:=z.v7+1,b1:={z.b1.putE e e.1.kept with m:=cq z.b1.m}} [P,O,S,V]))))))))
    (aW (aH z.b1.E.length 1000) (W (j7 R (ac (e.1.kept,dT e.2,p.2.2))) (TT {z with Md:=d0 I J G,b1:=z.b1.putE e e.1.kept} [P,O,S,V]))))
theorem yO (R:List TV) (p:TV × TV × TV) (e:bX) (G:Option bX) (l:MO) (z:Z) (P S:Int) (O:List (bJ × TV × TV)) (V W f:MO) (n:Nat) (J:aB->List MO->Prop) (I:TV->aB->List MO->Prop) (x:VX):yM R p e G l z P S O V W f n J I x=yN R p e G l z P S O V W f n J I x:=by obtain ⟨v,c⟩:=e;induction G <;> induction v <;> kernel_rfl
theorem DL (R:List TV) (p:TV × TV × TV) (e:bX) (y:Option bX) (V:MO) (z:Z) (I J:Int) (G:List (bJ × TV × TV)) (P O S:MO) (n:Nat) (W:aB->List MO->Prop) (Y:TV->aB->List MO->Prop) (x:VX):gA (vl D (n+50)) (ch (ui 3)) (.inl (gp e)) (j7 R (ac p)) (T1 {z with Md:=d0 I J G} e.1 y [P,O,S,V]) (λr T1=>bl (vl D (n+50)) (bG (ui 3)) r T1 (λf l T2=>match f with
   | .next=>W l T2
   | .ret v=>Y v l T2) x) x=
  match y with
  | some d=>aW (aH z.b1.E.length 1000) (W (j7 R (ac (e.1.kept,dT e.2,p.2.2))) (TT {z with Md:=d0 I J G,b1:=z.b1.putE e d.1.kept} [P,O,S,V]))
  | none=>aW (aH z.b1.E.length 1000) (br (decide (z.b1.m≤(z.b1.E.length:Int)))
    (aW (bU z.b1.m.natAbs (2 ^ 60)) (br (decide (cq z.b1.m≤z.b1.m)) (x 52 "told" B9 (T1 {z with Md:=d0 I J G} e.1 al [P,O,S,V])) (aW (bU (cq z.b1.m - z.b1.m).natAbs (2 ^ 60)) (br (decide (16777216 <z.used+0+16*(cq z.b1.m - z.b1.m))) (x 52 "told" (.bytes "VMerror".toUTF8.data) (T1 {z with Md:=d0 I J G} e.1 al [P,O,S,V]))
     (aW (aH (d0 I J G).length 1000) (aW (aH z.b1.E.length 1000) (W (j7 R (ac (e.1.kept,dT e.2,p.2.2))) (TT {z with used:=z.used+16*(cq z.b1.m - z.b1.m),Md:=d0 I (J+16*(cq z.b1.m - z.b1.m)) G,v7:=z.v7+1,b1:={z.b1.putE e e.1.kept with m:=cq z.b1.m}} [P,O,S,V]))))))))
    (aW (aH z.b1.E.length 1000) (W (j7 R (ac (e.1.kept,dT e.2,p.2.2))) (TT {z with Md:=d0 I J G,b1:=z.b1.putE e e.1.kept} [P,O,S,V])))):=yO R p e y V z I J G P O S n W Y x
def DM (x:VX) (E:fX) (r:List cg) (K:aO->aB->List MO->Prop):aO->aB->List MO->Prop:=λf ve T=>match f with
 | .next=>bl E r ve T K x
 | .ret v=>K (.ret v) ve T
theorem jx (x:VX) (E:fX) (s:cg) (r:List cg) (ve:aB) (T:List MO) (K:aO->aB->List MO->Prop):bl E (s::r) ve T K x=E.exec s ve T (DM x E r K) x:=rfl
theorem gM (x:VX) (E:fX) (r:List cg) (ve:aB) (T:List MO) (K:aO->aB->List MO->Prop):DM x E r K .next ve T=bl E r ve T K x:=rfl
theorem Hp (x:VX) (E:fX) (ve:aB) (T:List MO) (K:aO->aB->List MO->Prop):DM x E [] K .next ve T=K .next ve T:=rfl
theorem nw (k:VK) (ve:aB) (T:List MO):fi k .next ve T=k .none T:=rfl
noncomputable def lZ (M L:List bX):List bX:=M.foldl (λL e=>kD e.1 e.2 L) L
theorem u5 (k:bJ) (a b:TV):∀l:List (bJ × TV × TV),(dq k a b l).length≤l.length+1
 | []=>aG _
 | d::l=>by
  rw [dq];refine kV (λh=>?_) λh=>?_
  ·exact dZ _
  ·exact ix (u5 k a b l)
theorem J7 {R:List TV} {z:Z} {P O W:MO} {n:Nat} {x:VX} {L1:List bX} (h1:z.b1.E=L1.map bR) {K:aO->aB->List MO->Prop}:∀(M:List bX) (o:Option (TV × TV × TV)) (F:List (bJ × TV × TV)) (S:Nat),F.length+M.length≤1000->
  (∀o' I G,I.length≤F.length+M.length->(M≠[]∨o.isSome=au->o'.isSome=au)->K .next (j7 R o') (TT z [P,O,W,gY I G]))->
  gv (vl D (n+50)) (ch (ui 1)) (bG (ui 1)) al ((M.map gp).map .inl) (j7 R o) (TT z [P,O,W,gY F S]) K x:=by
 intro l;induction l with
 | nil=>intro o F S _ h;exact h o F S (aG _) λq=>q.elim (λq=>absurd rfl q) id
 | cons e M V=>
  intro o F S hl h;rw [bf] at hl h;have J:=λgs=>LV z e.1 h1 gs;refine ag (J ..) (cast (DK R o e _ F S z P O W n _ _ x).symm ?_);cases p:d8 e.1.cls L1 with
  | some d=>rw [p] at J;show gv _ _ _ _ _ _ (T1 z e.1 (ac d) _) _ _;refine bZ (J ..) (V _ F S (cj ‹_›) λo' I G y f=>h o' I G (uB ‹_›) λY=>f (.inr rfl))
  | none=>rw [p] at J;refine aK (bg (by exact La ‹_›)) (bZ (J ..) ?_);have:=u5 e.1.key (ft e) (.bool au) F;exact V _ _ _ (by lia) λo' I G y f=>h o' I G (by lia) λY=>f (.inr rfl)
structure LW (t:Nat) (z:Z) (L:List bX):Prop where
 e:z.b1.E=L.map bR
 nd:ND L
 cap:(L.length:Int)≤z.b1.m
 m0:0≤z.b1.m
 m1:z.b1.m≤64
 k0:0≤z.b0.m∧z.b0.m≤64
 made:∃c1 c2 Mr,z.Md=d0 c1 c2 Mr∧Mr.length≤t
 u0:0≤z.used
 u1:z.used≤16*(z.b0.m+z.b1.m)+t
def Fr (z y:Z):Prop:=∃used Md v7 E m v,y={z with used:=used,Md:=Md,v7:=v7,b1:={z.b1 with E:=E,m:=m,v:=v}}∧z.b1.m≤m
theorem Fr.refl (z:Z):Fr z z:=⟨_,_,_,_,_,_,rfl,fD _⟩
theorem Fr.trans {a b c:Z} (h:Fr a b) (g:Fr b c):Fr a c:=by (refine pM h ?_;clear h;intro _ _ _ _ m _ G h;subst G);(refine pM g ?_;clear g;intro _ _ _ _ I _ G g;refine ag G ?_);exact ⟨_,_,_,_,_,_,rfl,cA h g⟩
theorem J8 {R:List TV} {gF:MO} {g1 g2 g3:MO} {n:Nat} {x:VX} {t:Nat} (ht:t≤900) {K:aO->aB->List MO->Prop}:∀(M:List bX) (p:TV × TV × TV) {z:Z} {L:List bX},LW t z L->L.length+M.length≤28->
  (∀l y,LW t y (lZ M L)->Fr z y->K .next (j7 R (ac l)) (TT y [g1,g2,g3,gF]))->
  gv (vl D (n+50)) (ch (ui 3)) (bG (ui 3)) al ((M.map gp).map .inl) (j7 R (ac p)) (TT z [g1,g2,g3,gF]) K x:=by
 intro ls0;induction ls0 with
 | nil=>intro p z L H _ h;exact h p z H (.refl z)
 | cons e M f=>
  intro p z L H hl h;rw [bf] at hl;refine gy H.made λc1 c2 Y hM lM=>?_;have O:=H.cap;have G:=H.m0;have hm1:=H.m1;have hk:=H.k0;have S:=H.u0;have V:=H.u1;have hE:z.b1.E.length=L.length:=by exact ag (H.e ..) (ag (ar ..) rfl)
  have hs:=(py e.1 e.2 L).1;have W:=lW (v:=e.1) (n:=e.2) (L:=L);have J:=λKn Kr=>DL R p e (d8 e.1.cls L) gF z c1 c2 Y g1 g2 g3 n Kn Kr x;rw [(show {z with Md:=d0 c1 c2 Y}=z by exact bZ (hM ..) rfl),← (LV z e.1 H.e [g1,g2,g3,gF])] at J;refine cast (J _ _).symm ?_;cases hk2:d8 e.1.cls L with
  | some d=>rw [hk2] at hs W;refine aK (bg (by lia)) ?_;rw [show ({z with Md:=d0 c1 c2 Y,b1:=z.b1.putE e d.1.kept}:Z)={z with b1:=z.b1.putE e d.1.kept} by rw [← hM]];refine f _ (L:=kD e.1 e.2 L) ⟨?_,tm H.nd,(show ((kD e.1 e.2 L).length:Int)≤z.b1.m by rw [W];exact O),G,hm1,hk,H.made,S,V⟩ (by rw [W];show L.length+M.length≤28;exact cj ‹_›) λl y r F=>h l y r (.trans ⟨z.used,z.Md,z.v7,_,z.b1.m,_,rfl,fD _⟩ F);show yx e.1 d.1.kept e.2 z.b1.E=_;rw [H.e];exact hs
  | none=>
   rw [hk2] at hs W;refine aK (bg (by exact OI ‹_› ‹_› ‹_›)) ?_;by_cases q:z.b1.m≤(z.b1.E.length:Int)
   ·have qm:z.b1.m≤28:=by lia
    refine gQ (wn G (cA qm (by decide))) λI hn2 P hn4=>yw (decide_eq_true q) (aK (gh (Qa G (cA qm (by decide)))) (iQ (decide_eq_false (Bp.mpr I)) (aK (gh (NH G I P)) (iQ (decide_eq_false (SW V (Int.add_le_add hk.2 P) ht)) (aK (bg (by show Y.length+1+1≤1000;lia)) (aK (bg (by lia)) ?_))))));refine f _ (L:=kD e.1 e.2 L) ⟨?_,tm H.nd,(show ((kD e.1 e.2 L).length:Int)≤cq z.b1.m by rw [W];show ((L.length+1:Nat):Int)≤_;exact cA (Int.add_le_add_right O 1) I),(show 0≤cq z.b1.m from cA G (gd I)),(show cq z.b1.m≤64 from P),hk,⟨_,_,_,rfl,lM⟩,(show 0≤z.used+16*(cq z.b1.m - z.b1.m) from Qj S I),(show z.used+16*(cq z.b1.m - z.b1.m)≤16*(z.b0.m+cq z.b1.m)+t by lia)⟩ (by rw [W];show L.length+1+M.length≤28;rw [Um,Ih 1];exact hl) λl y r F=>h l y r (.trans ⟨_,_,_,_,cq z.b1.m,_,rfl,gd I⟩ F);show yx e.1 e.1.kept e.2 z.b1.E=_;rw [H.e];exact hs
   ·refine iQ (decide_eq_false q) (aK (bg (by lia)) ?_);rw [show ({z with Md:=d0 c1 c2 Y,b1:=z.b1.putE e e.1.kept}:Z)={z with b1:=z.b1.putE e e.1.kept} by rw [← hM]];refine f _ (L:=kD e.1 e.2 L) ⟨?_,tm H.nd,(show ((kD e.1 e.2 L).length:Int)≤z.b1.m by rw [W];show ((L.length+1:Nat):Int)≤_;lia),G,hm1,hk,H.made,S,V⟩ (by rw [W];show L.length+1+M.length≤28;rw [Um,Ih 1];exact hl) λl y r F=>h l y r (.trans ⟨z.used,z.Md,z.v7,_,z.b1.m,_,rfl,fD _⟩ F);show yx e.1 e.1.kept e.2 z.b1.E=_;rw [H.e];exact hs
theorem AL {z:Z} {L0 L1:List bX} {t n:Nat} {P G I:MO} {k:VK} {x:VX} (H:LW t z L1) (hl:L1.length+L0.length≤28) (Y:t≤900) (h:∀y l,LW t y (lZ L0 L1)->Fr z y->k .none (TT y [P,G,I,l])):
  (vl D (n+52)).call (.ref 342) [.loc 6,.loc 10,.lst (L0.map gp)] (TT z [P,G,I]) k x:=by
 have hE:z.b1.E.length=L1.length:=by exact ag (H.e ..) (ag (ar ..) rfl)
 have O:=H.cap;have r:=H.m1;refine ag (Ho ..) (ag (jx ..) (ag (QB ..) (ag (gM ..) (ag (jx ..) (ag (LU 1 (.inl rfl) ..) ?_)))));refine aK (bg (by refine ag (ar ..) ?_;exact by lia)) (J7 H.e L0 al [] 0 (by show 0+_≤1000;exact by lia) λo F f J V=>?_);have J:F.length≤0+L0.length:=J;refine ag (gM ..) (ag (jx ..) (ag (QC ..) ?_));refine aK (bg (by exact OI ‹_› ‹_› ‹_›)) (aK (bg (by lia)) (iQ (decide_eq_false ?_) ?_))
 ·split <;> lia
 refine ag (gM ..) (ag (jx ..) (ag (LU 3 (.inr rfl) ..) ?_));refine aK (bg (by refine ag (ar ..) ?_;exact by lia)) ?_;induction L0 using aX with
 | nil=>exact h z (gY F f) H (.refl z)
 | cons e M=>
  ((first | refine ah (bd.mp (V (.inl (nofun)))) ?_ | refine aI (bd.mp (V (.inl (nofun)))) ?_);intro p e1;subst e1)
  refine J8 Y (e::M) p H hl λp' y W S=>ag (Hp ..) (ag (nw ..) ?_);exact h y _ W S
theorem QD (n:Nat):∀m,up (vl D n) m=vl D (n+m)
 | 0=>rfl
 | m+1=>congrArg (j2 D) (QD n m)
theorem QE (j:Nat) (O G:TV) (cnt:Int) (sh:Sh) (z:Z) (gs:List MO) (n:Nat) (K:aO->aB->List MO->Prop):(vl D (n+65)).exec (bE 11) (c9 O G cnt (sh.loc++OS j)) (TT {z with u:=[de 7]} gs) K bB=
  (vl D (n+63)).call (.ref 721) [wC] (TT {z with u:=[de 11,de 7]} gs) (λv T1=>K .next (c9 O G cnt (sh.loc++uh j v)) T1) bB:=by
 have e:=NU j O G cnt sh z gs n (vl D (n+63)).call K;rw [gu] at e;exact e
theorem QF (T:List MO) (n:Nat) (k:VK):(vl D (n+63)).call (.ref 721) [wC] T k bB=(vl D (n+60)).call wC [] T (λY T1=>k .none T1) (λG an v T1=>aW (b9 G 52&&an==("told":aU)&&nT v) (k v T1)):=by have e:=J4 T n (vl D (n+60)).call k;rw [gu] at e;exact e
theorem QG (z:Z) (gs:List MO) (n:Nat) (k:VK) (x:VX):(vl D (n+60)).call wC [] (TT z gs) k x=(vl D (n+58)).call (.ref 349) [.loc 6,nK 8,nK 10] (TT z gs) k x:=by have e:=NV z gs (n+2) (vl D (n+2+56)).call k x;rw [gu] at e;exact e
theorem QH (j:Nat) (S:j=0∨j=3∨j=4) (z:Z) (gs:List MO) (n:Nat) (k:VK) (x:VX):(vl D (n+58)).call (.ref 349) [.loc 6,nK 8,nK 10] (TT (lu z j) gs) k x=
  (vl D (n+53)).call (.ref 328) [.loc 8] (TT (lu z j) gs) (λI T1=>(vl D (n+54)).call (.ref 342) [.loc 6,.loc 10,I] T1 (λY G=>k (nK 10) G) x) x:=by
 have e:=J5 j S z gs (n+2) (λm=>(vl D (n+2+51+m)).call) k x;rw [AJ,QD] at e;exact e
theorem J9 {j:Nat} (Y:j=0∨j=3∨j=4) {f G:TV} {cnt:Int} {sh:Sh} {z:Z} {S V W:MO} {n t:Nat} {L0 L1:List bX} {a0 l0:Int} {K:aO->aB->List MO->Prop} (I:mr z.b0 L0 a0 l0) (H:LW t z L1) (hl:L1.length+L0.length≤28) (ht:t≤900)
  (h:∀J P,LW t J (lZ L0 L1)->Fr (lu {z with u:=[de 11,de 7]} j) J->K .next (c9 f G cnt (sh.loc++uh j .none)) (TT J [S,V,W,P])):
  (vl D (n+65)).exec (bE 11) (c9 f G cnt (sh.loc++OS j)) (TT (lu {z with u:=[de 7]} j) [S,V,W]) K bB:=by
 refine ag (show lu {z with u:=[de 7]} j={lu z j with u:=[de 7]} from rfl ..) (ag (QE ..) (ag (QF ..) (ag (QG ..) (ag (show ({lu z j with u:=[de 11,de 7]}:Z)=lu {z with u:=[de 11,de 7]} j from rfl ..) (ag (QH j Y ..) ?_)))));have O:mr (lu {z with u:=[de 11,de 7]} j).b0 L0 (tE j).1 l0:=⟨I.e,I.n,I.nd,I.cap,I.lo,I.m0,I.m1,rfl,I.sm⟩;have r:LW t (lu {z with u:=[de 11,de 7]} j) L1:=⟨H.e,H.nd,H.cap,H.m0,H.m1,H.k0,H.made,H.u0,H.u1⟩;generalize lu {z with u:=[de 11,de 7]} j=y at*;refine B2 (i:=false) (n:=n+39) (z:=y) O (AL (n:=n+2) r hl ht λJ P p l=>h J P p l)
noncomputable def kk (k p:TV):List (aU × TV):=[("key",k),("kept",p)]
noncomputable def UO (p:TV):List (aU × TV):=[("kept",p)]
noncomputable def yP (O G:TV) (cnt:Int) (sh:Sh) (r:List (aU × TV)) (o:Option (TV × TV)):aB:=c9 O G cnt (match sh,o with
 | .e0,al=>r
 | .e0,ac (k,p)=>r++kk k p
 | .e1 g nb w k wh,al=>(Sh.e1 g nb w k wh).loc++r
 | .e1 g nb w _ wh,ac (k,p)=>(Sh.e1 g nb w k wh).loc++(r++UO p)
 | .e2 g nb w k wh kp,al=>(Sh.e2 g nb w k wh kp).loc++r
 | .e2 g nb w _ wh _,ac (k,p)=>(Sh.e2 g nb w k wh p).loc++r)
theorem Ka (O G:TV) (cnt:Int) (sh:Sh) (r:List (aU × TV)) (o:Option (TV × TV)):∃I J,yP O G cnt sh r o=c9 O G cnt (Sh.loc I++J):=by
 induction sh <;> induction o
 ·exact ⟨.e0,_,rfl⟩
 ·exact ⟨.e0,_,rfl⟩
 ·exact ⟨.e1 _ _ _ _ _,_,rfl⟩
 ·exact ⟨.e1 _ _ _ _ _,_,rfl⟩
 ·exact ⟨.e2 _ _ _ _ _ _,_,rfl⟩
 ·exact ⟨.e2 _ _ _ _ _ _,_,rfl⟩
theorem NW (j:Nat) (S:j=1∨j=2) (O G:TV) (cnt:Int) (sh:Sh) (t:TV) (T:List MO) (n:Nat) (K:aO->aB->List MO->Prop):(vl D (n+45)).exec (bE 13) (c9 O G cnt (sh.loc++uh j t)) T K bB=K .next (c9 O G cnt (sh.loc++uh j t)) T:=by rcases S with rfl | rfl <;> induction sh <;> kernel_rfl
theorem Kc (j:Nat) (S:j=0∨j=3∨j=4) (O G:TV) (cnt:Int) (sh:Sh) (t:TV) (z:Z) (gs:List MO) (n:Nat) (K:aO->aB->List MO->Prop):(vl D (n+45)).exec (bE 13) (c9 O G cnt (sh.loc++uh j t)) (TT z gs) K bB=
  aW (aH z.b0.N.length 1000) (gv (vl D (n+44)) (ch (bE 13)) (bG (bE 13)) (ac (12,gY z.b0.N z.b0.w)) ((z.b0.N.map (·.2.1)).map .inl) (c9 O G cnt (sh.loc++uh j t)) (TT z gs) K bB):=by
 rcases S with rfl | rfl | rfl <;> induction sh <;> kernel_rfl
noncomputable def TM (z:Z) (v:V7) (o0 o1:Option bX) (gs:List MO):List MO:=TG z (getD z.b0.E) (getD z.b1.E) (ln v.mark (o0.map λe=>(gm e).2) (getD z.b0.N)) (ln v.mark (o1.map λe=>(gm e).2) (getD z.b1.N)) gs
theorem QI (z:Z) (v:V7) {L0 L1:List bX} (h0:z.b0.N=L0.map gm) (h1:z.b1.N=L1.map gm) (gs:List MO):TT z gs=TM z v (d8 v.cls L0) (d8 v.cls L1) gs:=by have e0:=gn (k:=v.mark) (g:=getD z.b0.N) ((congrArg (cR v.mark) h0).trans (lV v _));have e1:=gn (k:=v.mark) (g:=getD z.b1.N) ((congrArg (cR v.mark) h1).trans (lV v _));show TT z gs=TG z _ _ (ln _ _ (getD z.b0.N)) (ln _ _ (getD z.b1.N)) gs;refine bZ (e0 ..) (bZ (e1 ..) ?_);rfl
noncomputable def LX (e:bX):Option bX->TV
 | some d=>d.1.what
 | none=>e.1.what
noncomputable def Bd.putN (b:Bd) (e:bX) (w:TV):Bd:={b with N:=As e.1 w e.2 b.N,w:=b.w+1}
noncomputable def RP (z:Z) (e:bX) (o1:Option bX) (gs:List MO):List MO:=TG {z with b1:=z.b1.putN e (LX e o1)} (getD z.b0.E) (getD z.b1.E) (ln e.1.mark (ac (gm e).2) (getD z.b0.N)) (getD (As e.1 (LX e o1) e.2 z.b1.N)) gs
def AM (j:Nat) (V G:TV) (cnt:Int) (sh:Sh) (t:TV) (o:Option (TV × TV)) (e:bX) (o1:Option bX) (z:Z) (gs:List MO) (n:Nat) (P:aB->List MO->Prop) (S:TV->aB->List MO->Prop):Prop:=gA (vl D (n+44)) (ch (bE 13)) (.inl e.1.markT) (yP V G cnt sh (uh j t) o) (TM z e.1 (ac e) o1 gs) (λJ T1=>bl (vl D (n+44)) (bG (bE 13)) J T1 (λf I O=>match f with
   | .next=>P I O
   | .ret v=>S v I O) bB) bB
def AN (j:Nat) (O G:TV) (cnt:Int) (sh:Sh) (t:TV) (o:Option (TV × TV)) (e:bX) (o1:Option bX) (z:Z) (gs:List MO) (n:Nat) (J:aB->List MO->Prop) (I:TV->aB->List MO->Prop):Prop:=
  aW (aH z.b1.N.length 1000) (J (yP O G cnt sh (uh j t) (ac (e.1.markT,LX e o1))) (RP z e o1 gs))
theorem AO (j:Nat) (O G:TV) (cnt:Int) (sh:Sh) (t:TV) (o:Option (TV × TV)) (e:bX) (o1:Option bX) (z:Z) (gs:List MO) (n:Nat) (J:aB->List MO->Prop) (I:TV->aB->List MO->Prop):AM j O G cnt sh t o e o1 z gs n J I=AN j O G cnt sh t o e o1 z gs n J I:=by obtain ⟨v,c⟩:=e;cases o1 <;> cases o <;> induction sh <;> induction v <;> kernel_rfl
theorem Hq (j:Nat) (O G:TV) (cnt:Int) (sh:Sh) (t:TV) (o:Option (TV × TV)) (e:bX) (o1:Option bX) (z:Z) (gs:List MO) (n:Nat) (J:aB->List MO->Prop) (S:TV->aB->List MO->Prop):gA (vl D (n+44)) (ch (bE 13)) (.inl e.1.markT) (yP O G cnt sh (uh j t) o) (TM z e.1 (ac e) o1 gs) (λP T1=>bl (vl D (n+44)) (bG (bE 13)) P T1 (λf I V=>match f with
   | .next=>J I V
   | .ret v=>S v I V) bB) bB=
  aW (aH z.b1.N.length 1000) (J (yP O G cnt sh (uh j t) (ac (e.1.markT,LX e o1))) (RP z e o1 gs)):=AO j O G cnt sh t o e o1 z gs n J S
theorem NX (z:Z) (e:bX) {L0:List bX} (h0:z.b0.N=L0.map gm) (G:d8 e.1.cls L0=ac e) (o1:Option bX) (gs:List MO):RP z e o1 gs=TT {z with b1:=z.b1.putN e (LX e o1)} gs:=by have e0:=gn (k:=e.1.mark) (g:=getD z.b0.N) ((congrArg (cR e.1.mark) h0).trans ((lV e.1 _).trans (congrArg _ G)));unfold RP;rw [show (ac (gm e).2)=(tJ (λe=>(gm e).2) (ac e)) from rfl,← e0];rfl
theorem NY {j:Nat} {S G:TV} {cnt:Int} {sh:Sh} {t:TV} {gs:List MO} {n:Nat} {L0:List bX} (I:ND L0) (p:L0.length≤100) {K:aO->aB->List MO->Prop} {J:List (bJ × TV × TV)} (h0:J=L0.map gm) {l:Nat}:∀(M:List bX) (o:Option (TV × TV)) {z:Z} {L:List bX},(∀e∈M,e∈L0)->z.b0.N=J->z.b0.w=l->z.b1.N=L.map gm->L.length+M.length≤900->
  (∀o w,K .next (yP S G cnt sh (uh j t) o) (TT {z with b1:={z.b1 with N:=(lZ M L).map gm,w:=w}} gs))->
  gv (vl D (n+44)) (ch (bE 13)) (bG (bE 13)) (ac (12,gY J l)) ((M.map λe=>e.1.markT).map .inl) (yP S G cnt sh (uh j t) o) (TT z gs) K bB:=by
 intro P;induction P with
 | nil=>intro o z L _ e0 e1 h1 _ h;exact ⟨by rw [← e0,← e1];rfl,by have:=h o z.b1.w;rw [show (lZ [] L).map gm=z.b1.N from h1.symm] at this;exact this⟩
 | cons e M V=>
  intro o z L O e0 e1 h1 hl h;rw [bf] at hl;refine ⟨by rw [← e0,← e1];rfl,?_⟩;have f:=QI z e.1 (e0.trans h0) h1 gs;rw [(gB I (O e (aA ..)))] at f;refine ag (f ..) (cast (Hq j S G cnt sh t o e _ z gs n _ _).symm (aK (bg (by rw [h1,ar];lia)) ?_));refine ag (NX z e (e0.trans h0) (gB I (O e (aA ..))) ..) ?_;have W:=lW (v:=e.1) (n:=e.2) (L:=L);refine V _ (z:={z with b1:=z.b1.putN e (LX e (d8 e.1.cls L))}) (L:=kD e.1 e.2 L) (λd hd=>O d (aE _ hd)) e0 e1 ?_ ?_ λo w=>h o w
  ·show As e.1 (LX e (d8 e.1.cls L)) e.2 z.b1.N=_;rw [h1,(show LX e (d8 e.1.cls L)=(match d8 e.1.cls L with | some e=>e.1.what | none=>e.1.what) by obtain ⟨⟩:=d8 e.1.cls L <;> rfl)];exact ((py e.1 e.2 L).2)
  ·rw [W];induction d8 e.1.cls L using cw with
   | some _=>show L.length+M.length≤900;exact cj ‹_›
   | none=>show L.length+1+M.length≤900;exact RH ‹_›
theorem tF {e:bX}:∀{M L:List bX},e∈lZ M L->(∃d∈L,d.2=e.2)∨∃d∈M,d.2=e.2
 | [],L,h=>.inl ⟨e,h,rfl⟩
 | c::M,L,h=>by
  refine bk (tF (M:=M) h) (λG=>?_) λI=>?_
  ·refine ae G λd hd q=>bk (tn hd) (λw=>?_) λw=>?_
   ·exact .inl ⟨d,w,q⟩
   ·exact .inr ⟨c,aA ..,w.symm.trans q⟩
  ·refine ae I λd hd q=>.inr ⟨d,aE _ hd,q⟩
theorem NZ {j:Nat} (hj:j=0∨j=3∨j=4) {O G:TV} {cnt:Int} {sh:Sh} {t:TV} {gs:List MO} {n:Nat} {z:Z} {L0 L1:List bX} {a0 l0 a1 l1:Int} {tt:Nat} {K:aO->aB->List MO->Prop} (I:mr z.b0 L0 a0 l0) (H:LW tt z (lZ L0 L1)) (f:z.b1.N=L1.map gm) (hl:L1.length≤64) (P:l1≤z.b1.m) (l:z.b1.a=a1) (s1:∀e∈L1,0≤e.2∧e.2 <999)
  (h:∀J W y,y.b0=z.b0->(y={z with b1:=y.b1})->mr y.b1 (lZ L0 L1) a1 l1->y.b1.m=z.b1.m->K .next (c9 O G cnt (Sh.loc J++W)) (TT y gs)):
  (vl D (n+45)).exec (bE 13) (c9 O G cnt (sh.loc++uh j t)) (TT z gs) K bB:=by
 have c0:=I.cap;have m0:=I.m1;refine ah I.ne λ_ e1=>ag (Kc j hj ..) (aK (bg (by exact OI ‹_› ‹_› ‹_›)) ?_);rw [show z.b0.N.map (·.2.1)=L0.map λe=>e.1.markT by rw [I.n,bx];rfl];refine ag ((show c9 O G cnt (sh.loc++uh j t)=yP O G cnt sh (uh j t) al by induction sh <;> rfl) ..) ?_;refine NY I.nd (by lia) I.n L0 al (λY h=>h) rfl rfl f (by lia) λo w=>cN (Ka O G cnt sh (uh j t) o) λJ W e2=>ag (e2 ..) (h J W _ rfl rfl ⟨H.e,rfl,H.nd,H.cap,P,H.m0,H.m1,l,λe p=>?_⟩ rfl);refine bk (tF p) (λS=>?_) λV=>?_
 ·obtain ⟨d,hd,q⟩:=S;rw [← q];exact s1 d hd
 ·obtain ⟨d,hd,q⟩:=V;rw [← q];exact I.sm d hd
theorem Hr (E:fX) (a b:aC) (s:List cg) (p q:cP) (ve:aB) (T:List MO) (K:aO->aB->List MO->Prop):(j2 D (j2 D E)).exec (.If (.BoolOp .Or [a,b] p) s [] q) ve T K bB=
  E.evT a ve T (λc T1=>br c (bl (j2 D E) s ve T1 K bB) (E.evT b ve T1 (λd G=>br d (bl (j2 D E) s ve G K bB) (K .next ve G)) bB)) bB:=rfl
noncomputable def Hs (e:aC):aC:=eS e0 (v:=e) (xBoolOp:=λY l Y=>l.headD e0)
noncomputable def Kd (e:aC):aC:=eS e0 (v:=e) (xBoolOp:=λY l Y=>l.getD 1 e0)
theorem N1:bE 14=.If (.BoolOp .Or [Hs (mx (bE 14)),Kd (mx (bE 14))] (mx (bE 14)).pos) (LM (bE 14)) [] (NM (bE 14)):=by kernel_rfl
theorem LY (i:Bool) (O:TV) (l:Bool->Int) (cnt:Int) (sh:Sh) (r:List (aU × TV)) (z:Z) (gs:List MO) (n:Nat) (C:CT) (G:Bool->List MO->Prop):(up (CL (n+40) C) 3).evT (match i with | false=>Hs (mx (bE 14)) | true=>Kd (mx (bE 14))) (c9 O (dI l) cnt (sh.loc++r)) (TT z gs) G bB=
  C (.ref 714) [.loc (bi i),.loc (ki i),.int (l i)] (TT z gs) (uY λb T1=>G (!b) T1) bB:=by
 induction i <;> induction sh <;> kernel_rfl
theorem N2 {O:TV} {cnt:Int} {sh:Sh} {r:List (aU × TV)} {n:Nat} {z:Z} {gs:List MO} {l:Bool->Int} {L0 L1:List bX} {a0 a1:Int} (I:mr z.b0 L0 a0 (l am)) (J:mr z.b1 L1 a1 (l au)) {K:aO->aB->List MO->Prop} (W:gs.length≤4)
  (h:∀P S,K .next (c9 O (dI l) cnt (sh.loc++r)) (TT z (gs++[P]++[S]))):(vl D (n+45)).exec (bE 14) (c9 O (dI l) cnt (sh.loc++r)) (TT z gs) K bB:=by
 refine cast ((congrArg (λs=>(vl D (n+45)).exec s (c9 O (dI l) cnt (sh.loc++r)) (TT z gs) K bB) N1).trans (Hr (vl D (n+43)) (Hs (mx (bE 14))) (Kd (mx (bE 14))) (LM (bE 14)) (mx (bE 14)).pos (NM (bE 14)) (c9 O (dI l) cnt (sh.loc++r)) (TT z gs) K)).symm ?_;have f:=λgs G=>LY am O l cnt sh r z gs n (vl D (n+40)).call G;have V:=λgs G=>LY au O l cnt sh r z gs n (vl D (n+40)).call G;rw [gu] at f V;refine cast (f _ _).symm (tz (i:=false) (by exact uB ‹_›) I ?_);refine cast (V (gs++[_]) _).symm (tz (i:=true) (by unfold pB;refine ag (aJ ..) (ag (bK ..) ?_);exact ix ‹_›) J ?_);exact h _ _
theorem N3 (O G:TV) (cnt:Int) (sh:Sh) (r:List (aU × TV)) (z:Z) (gs:List MO) (n:Nat) (C:CT) (K:aO->aB->List MO->Prop):(up (CL (n+43) C) 2).exec (bE 16) (c9 O G cnt (sh.loc++r)) (TT z gs) K bB=
  C (.ref 731) [.loc 5,.loc 6,.loc 8] (TT z gs) (λv T1=>K (.ret v) (c9 O G cnt (sh.loc++r)) T1) bB:=by
 induction sh <;> kernel_rfl
noncomputable def yQ:rt:=cZ (eL 54) []
noncomputable def DN (i:Nat):cg:=yQ.body.getD i (.Pass default)
noncomputable def AP:aC:=eS e0 (v:=GR (DN 0)) (xTuple:=λl Y Y=>l.headD e0)
noncomputable def Ht (c:Int):Int:=c.fmod 1000003
noncomputable def TD (a b c d:MO) (Ld:List Int) (md:Int) (v5:Nat) (rest:List MO):List MO:=a::b::c::d:: .list (Ld.map TV.int)::gY (BZ md) v5::rest
theorem AQ (k:VK) (a b c d:MO) (G:Int) (L:List Int) (md:Int) (v5:Nat) (rest:List MO) (n:Nat) (m:Int):(vl D (n+12)).call (.ref 690) [.loc 5,.int m] (TD a b c d (G::L) md v5 rest) k bB=
  aW (mf ((G::L).map TV.int) []) (aW (aH (L.map TV.int).length 1000) (aW (bU 0 m.toNat) (aW (bU m.natAbs (2 ^ 60)) (k (.int (G.fmod m)) (TD a b c d L md v5 rest))))):=by kernel_rfl
theorem DO (k:VK) (a b c d:MO) (md:Int) (v5:Nat) (rest:List MO) (n:Nat) (i:Nat):(vl D (n+12)).call (.ref 690) [.loc 5,.int (dm i)] (TD a b c d [] md v5 rest) k bB=
  aW (bU md.natAbs (2 ^ 60)) (k (.int ((((md*4801+97).fmod 1000003).fdiv 7).fmod (dm i))) (TD a b c d [] ((md*4801+97).fmod 1000003) (v5+1) rest)):=
 match i with
 | 0=>by kernel_rfl
 | 1=>by kernel_rfl
 | 2=>by kernel_rfl
 | 3=>by kernel_rfl
 | 4=>by kernel_rfl
 | 5=>by kernel_rfl
 | _+6=>by kernel_rfl
theorem Hu {k:VK} {a b c d:MO} {Ld:List Int} {md:Int} {v5:Nat} {rest:List MO} {n:Nat} (i:Nat) (hz:B0 Ld md)
  (h:∀r Ld md v5,0≤r->r <dm i->B0 Ld md->k (.int r) (TD a b c d Ld md v5 rest)):(vl D (n+12)).call (.ref 690) [.loc 5,.int (dm i)] (TD a b c d Ld md v5 rest) k bB:=by
 refine eg hz λl m0 m1=>?_;clear hz;refine ah (GC i) λh0 h1=>?_;induction Ld using aX with
 | cons c L=>refine ag (AQ ..) ?_;have O:L.length+1≤24:=l;exact aK (by unfold mf;refine ag (ar ..) (aD.mpr ⟨bg (by show L.length+1≤1000;exact by lia),rfl⟩)) (aK (bg (by refine ag (ar ..) ?_;exact by lia)) (aK (gh (Vh.mpr h0)) (aK (gh (Aq ⟨gd h0,h1⟩ (by decide:(1000:Int)≤1000003))) (h _ L md v5 (eF _ h0) (fO _ h0) ⟨by exact cj ‹_›,m0,m1⟩))))
 | nil=>refine ag (DO ..) ?_;exact aK (gh (Aq ⟨m0,m1⟩ (by decide))) (h _ [] _ (v5+1) (eF _ h0) (fO _ h0) ⟨l,eF _ (by decide),fO _ (by decide)⟩)
noncomputable def T0:List MO:=[.codes 733 [],.cell al,.cell al,.cell al]
noncomputable def wD (o:Option TV):aB:=⟨eO yQ.scope (LL AP),uf "cell" o,[],al⟩
noncomputable def Hv (s:List TV):aB:=⟨yQ.scope,[("script",.scr s)],[],al⟩
noncomputable def pF (s:List TV) (m:Int) (j:Nat) (o:Option TV):aB:=⟨yQ.scope,("script",.scr s)::("mixed",.int m)::("left",.loc j)::uf "cell" o,[],al⟩
theorem DP (s:List TV) (n:Nat) (k:VK):(vl D (n+40)).call (.ref 683) [.scr s] T0 k bB=bl (vl D (n+39)) [DN 0,DN 1,DN 2] (Hv s) T0 (fi k) bB:=
 kS (E:=vl D (n+39)) (fd:=yQ) (by kernel_rfl) (by kernel_rfl) (λT=>by kernel_rfl) (by kernel_rfl) (by kernel_rfl)
theorem N4 (s:List TV) (n:Nat) (K:aO->aB->List MO->Prop):(vl D (n+39)).exec (DN 0) (Hv s) T0 K bB=
  aW (aH s.length 1000) (aW (aH (s.take 24).length 1000) (dH (vl D (n+36)) (iq AP) (ir AP) [] al (s.take 24) (wD al) T0 [] λacc G=>K .next (pF s 3737 G.length al) (G++[.list acc]))):=by kernel_rfl
theorem DQ (o:Option TV) (c:Int) (T:List MO) (n:Nat) (P:TV->aB->List MO->Prop) (J:aB->List MO->Prop):
  (vl D (n+36)).asg (ir AP) (.int c) (wD o) T (λG T1=>jA (vl D (n+36)) G [] T1 λb I=>br b ((vl D (n+36)).ev (iq AP) G I (λv O=>P v G O) bB) (J G I)) bB=P (.int (Ht c)) (wD (ac (.int c))) T:=by
 induction o <;> kernel_rfl
theorem N5 (s xs:List TV) (m:Int) (n:Nat) (K:aO->aB->List MO->Prop):(vl D (n+39)).exec (DN 1) (pF s m 4 al) (T0++[.list xs]) K bB=
  aW (mT xs&&aH xs.length 1000) (gv (vl D (n+38)) (ch (DN 1)) (bG (DN 1)) (ac (4,.list xs)) (xs.map .inl) (pF s m 4 al) (T0++[.list xs]) K bB):=by kernel_rfl
theorem AR (s:List TV) (m c:Int) (o:Option TV) (T:List MO) (n:Nat) (J:aB->List MO->Prop) (P:TV->aB->List MO->Prop):
  gA (vl D (n+38)) (ch (DN 1)) (.inl (.int c)) (pF s m 4 o) T (λI T1=>bl (vl D (n+38)) (bG (DN 1)) I T1 (λf G O=>match f with
   | .next=>J G O
   | .ret v=>P v G O) bB) bB=
  aW (bU m.natAbs (2 ^ 60)) (J (pF s (Ht (m*31+c+1)) 4 (ac (.int c))) T):=by
 induction o <;> kernel_rfl
theorem N6 (s:List TV) (m:Int) (o:Option TV) (xs:List TV) (n:Nat) (K:aO->aB->List MO->Prop):(vl D (n+39)).exec (DN 2) (pF s m 4 o) (T0++[.list xs]) K bB=K (.ret (.loc 5)) (pF s m 4 o) (T0++[.list xs,gY (BZ m) 2]):=by induction o <;> kernel_rfl
theorem Ke {T:List MO} {n:Nat} {k:Ct}:∀(S:List Int) (acc:List TV) (o:Option TV),acc.length+S.length≤1000->k (acc++(S.map Ht).map .int) T->dH (vl D (n+36)) (iq AP) (ir AP) [] al (S.map .int) (wD o) T acc k:=by
 intro G;induction G with
 | nil=>intro acc o _ h;exact by rw [gI,gI,bW] at h;exact h
 | cons c S V=>intro acc o hl h;rw [bf] at hl;exact cast (DQ o c T n _ _).symm (aK (bg (by lia)) (V (acc++[.int (Ht c)]) _ (by refine ag (aJ ..) (ag (bK ..) ?_);exact by lia) (by refine ag (bI ..) ?_;exact h)))
theorem u6:∀S:List Int,mT (S.map TV.int)=au
 | []=>rfl
 | _::S=>u6 S
theorem Hw {s xs:List TV} {n:Nat} {K:aO->aB->List MO->Prop}:∀(S:List Int) (m:Int) (o:Option TV),0≤m∧m <1000003->(∀m o,0≤m∧m <1000003->K .next (pF s m 4 o) (T0++[.list xs]))->
  gv (vl D (n+38)) (ch (DN 1)) (bG (DN 1)) (ac (4,.list xs)) ((S.map TV.int).map .inl) (pF s m 4 o) (T0++[.list xs]) K bB:=by
 intro G;induction G with
 | nil=>intro m o O h;exact ⟨rfl,h m o O⟩
 | cons c S V=>intro m o O h;exact ⟨rfl,cast (AR s m c o _ n _ _).symm (aK (gh (Aq O (by decide))) (V _ _ ⟨eF _ (by decide),fO _ (by decide)⟩ h))⟩
theorem Kf {S:List Int} (I:S.length≤63) {n:Nat} {k:VK} (h:∀Ld md,B0 Ld md->k (.loc 5) (TD (.codes 733 []) (.cell al) (.cell al) (.cell al) Ld md 2 [])):(vl D (n+40)).call (.ref 683) [.scr (S.map .int)] T0 k bB:=by
 refine ag (DP ..) (ag (bv ..) (ag (N4 ..) ?_));have y:(S.map TV.int).take 24=(S.take 24).map .int:=by exact ag (List.map_take ..) rfl
 have hl:(S.take 24).length≤24:=List.length_take_le ..;refine ag (y ..) (aK (bg (by refine ag (ar ..) ?_;exact by lia)) (aK (bg (by refine ag (ar ..) ?_;exact by lia)) (Ke _ [] al (by refine ag (dA ..) ?_;exact by lia) ?_)));refine ag (cE ..) (ag (bp ..) (ag (bv ..) ?_));refine ag (N5 ..) (aK (aD.mpr ⟨u6 _,bg (by refine ag (ar ..) (ag (ar ..) ?_);exact by lia)⟩) (Hw _ _ al (by decide) λm o O=>?_));refine ag (bp ..) (ag (bv ..) (ag (N6 ..) (ag (g8 ..) (ag (hG ..) ?_))));exact h ((S.take 24).map Ht) m ⟨by refine ag (ar ..) ?_;exact hl,O.1,O.2⟩
noncomputable def yR (s:TV):aB:=⟨Ap.scope,[("script",s)],m8,ac 0⟩
noncomputable def Ca (s:TV):aB:=⟨Ap.scope,[("script",s),("deck",.loc 5)],m8,ac 0⟩
noncomputable def Hx (s l:TV):aB:=⟨Ap.scope,[("script",s),("deck",.loc 5),("least",l)],m8,ac 0⟩
theorem QJ (s:TV) (T:List MO) (n:Nat) (C:CT) (K:aO->aB->List MO->Prop):(up (CL (n+42) C) 3).exec (bE 0) (yR s) T K bB=
  C (.ref 683) [s] T (λJ T1=>C (.ref 662) [GB] T1 (λmv G=>(up (CL (n+42) C) 2).asg (OO (bE 0)) (.tup [J,mv]) (yR s) G (λe I=>K .next e I) bB) bB) bB:=by kernel_rfl
theorem N7 (s:TV) (Ld:List Int) (md:Int) (v5:Nat) (rest:List MO) (n:Nat) (C:CT) (K:aB->List MO->Prop):(up (CL (n+42) C) 2).asg (OO (bE 0)) (.tup [.loc 5,.loc 6]) (yR s) (TD (.codes 733 []) (.cell al) (.cell al) (.cell al) Ld md v5 rest) K bB=
  K (Ca s) (TD (.codes 733 []) (.cell al) (.cell (ac (.loc 6))) (.cell al) Ld md v5 rest):=by kernel_rfl
theorem N8 (Ld:List Int) (md:Int) (v5:Nat) (n:Nat) (k:VK):(vl D (n+42)).call (.ref 662) [GB] (TD (.codes 733 []) (.cell al) (.cell al) (.cell al) Ld md v5 []) k bB=
  k (.loc 6) (TD (.codes 733 []) (.cell al) (.cell al) (.cell al) Ld md v5 [Ao 0 0,gY [] 0]):=by kernel_rfl
theorem N9 (s:TV) (T:List MO) (n:Nat) (C:CT) (K:aO->aB->List MO->Prop):(up (CL (n+42) C) 3).exec (bE 1) (Ca s) T K bB=
  C (.ref 690) [.loc 5,.int 3] T (λa T1=>K .next (Hx s (.lst [a,.int 4])) T1) bB:=by kernel_rfl
noncomputable def z0 (r:Int) (Ld:List Int) (md:Int) (v5:Nat):Z:=⟨[],al,Ld,md,v5,16*r+64,2,d0 (16*r) 64 [],2,⟨[],[],r,3,0,0⟩,⟨[],[],4,3,0,0⟩⟩
theorem Oa (r:Nat) (G:r <3) (s:TV) (Ld:List Int) (md:Int) (v5:Nat) (n:Nat) (K:aO->aB->List MO->Prop):(vl D (n+45)).exec (bE 2) (Hx s (.lst [.int (aL r),.int 4])) (TD (.codes 733 []) (.cell al) (.cell (ac (.loc 6))) (.cell al) Ld md v5 [Ao 0 0,gY [] 0]) K bB=
  K .next (c9 s (.lst [.int (aL r),.int 4]) 0 []) (TT (z0 (aL r) Ld md v5) []):=
 by refine Uz r G ?_ ?_ ?_ <;> kernel_rfl
theorem Kg {s:cg} (h:(xS s&&ON s)=am) (m:Nat) (ve:aB) (T:List MO) (K:aO->aB->List MO->Prop) (x:VX):(lU D (m+1)).exec s ve T K x=(vl D (m+1)).exec s ve T K x:=by show br (xS s&&ON s) _ _=_;refine ag (h ..) ?_;rfl
theorem Kh:((dU 17).all λi=>b9 i 3 ||!(xS (bE i)&&ON (bE i)))=au:=by kernel_rfl
theorem DR (i:Nat) (G:i≠3) (h:i <17):(xS (bE i)&&ON (bE i))=am:=
 (rJ.mp (co.mp Kh i (qB.mpr h))).elim (λq=>absurd (bC q) G) λq=>dJ _ |>.mp q
noncomputable def QK:List cg:=[bE 0,bE 1,bE 2,bE 3,bE 4,bE 5,bE 6,bE 7,bE 8,bE 9,bE 10,bE 11,bE 12,bE 13,bE 14,bE 15,bE 16]
theorem DS {a:ay} (h:xF a=au) (m:Nat) (args:List TV) (T:List MO) (k:VK) (x:VX):(lU D (m+1)).call (.ref a) args T k x=xg D (lU D m) (.ref a) args T k bB:=by show br (xF a) _ _=_;refine ag (h ..) ?_;rfl
theorem Hy {E:fX} {a:ay} {fd:rt} {args:List TV} {binds:List (aU × TV)} {T T':List MO} {cs:List (aU × (Nat ⊕ TV))} {G:Option Nat} {k:VK} {x:VX} {b:List cg} (h1:D.fn a=ac fd) (h2:mS fd args=ac binds) (I:dR fd.fz binds fd.scope.names [] T=(cs,T')) (J:xf fd.tab T=G) (O:fd.body=b):
  xg D E (.ref a) args T k x=bl E b ⟨fd.scope,binds,cs,G⟩ T' (fi k) x:=by
 subst O;show bV (D.fn a) _ (λfd=>bV (mS fd args) False λbinds=>bl E fd.body ⟨fd.scope,binds,(dR fd.fz binds fd.scope.names [] T).1,xf fd.tab T⟩ (dR fd.fz binds fd.scope.names [] T).2 (fi k) x)=_;refine ag (h1 ..) ?_;show bV (mS fd args) _ _=_;refine ag (h2 ..) ?_;show bl E fd.body ⟨fd.scope,binds,(dR fd.fz binds fd.scope.names [] T).1,xf fd.tab T⟩ (dR fd.fz binds fd.scope.names [] T).2 (fi k) x=_;exact ag (I ..) (ag (J ..) rfl)
theorem Hz (s:TV) (n:Nat) (k:VK):(lU D (n+66)).call (.ref 736) [s] [.codes 733 []] k bB=bl (lU D (n+65)) QK (yR s) T0 (fi k) bB:=by
 have G:xf Ap.tab [.codes 733 []]=ac 0:=by kernel_rfl
 have I:Ap.body=QK:=by kernel_rfl
 refine ag (DS (by kernel_rfl) (n+65) ..) (Hy (by kernel_rfl) (by kernel_rfl) (by kernel_rfl) G I)
def u7:Prop:=∀(z:Z) (gs:List MO) (n t:Nat) (L:List bX) (a l:Int) (k:VK),(gs.length=5∨gs.length=6)->B0 z.Ld z.md->(∃I J G,z.Md=d0 I J G∧G.length≤t)->t≤100->2≤z.last->0≤z.used->z.used≤4000->mr z.b0 L a l->L.length≤8->(∀u T,k (.bool au) (.codes 733 u::T))->(vl D (n+63)).call (.ref 731) [.loc 5,.loc 6,.loc 8] (TT z gs) k bB
theorem QL {S:List Int} (I:S.length≤63) {n:Nat} {K:aO->aB->List MO->Prop} (h:∀Ld md,B0 Ld md->K .next (Ca (.scr (S.map .int))) (TD (.codes 733 []) (.cell al) (.cell (ac (.loc 6))) (.cell al) Ld md 2 [Ao 0 0,gY [] 0])):(vl D (n+65)).exec (bE 0) (yR (.scr (S.map .int))) T0 K bB:=by have e:=QJ (.scr (S.map .int)) T0 (n+20) (vl D (n+20+42)).call K;have f:=λLd md v5 rest K=>N7 (.scr (S.map .int)) Ld md v5 rest (n+20) (vl D (n+20+42)).call K;rw [gu] at e f;refine cast e.symm (Kf (n:=n+22) I λLd md hd=>?_);refine cast (N8 Ld md 2 (n+20) _).symm (cast (f _ _ _ _ _).symm (h Ld md hd))
theorem QM {s:TV} {Ld:List Int} {md:Int} {v5:Nat} (hd:B0 Ld md) {n:Nat} {K:aO->aB->List MO->Prop} (h:∀(r:Nat) Ld md v5,r <3->B0 Ld md->K .next (Hx s (.lst [.int (aL r),.int 4])) (TD (.codes 733 []) (.cell al) (.cell (ac (.loc 6))) (.cell al) Ld md v5 [Ao 0 0,gY [] 0])):
  (vl D (n+65)).exec (bE 1) (Ca s) (TD (.codes 733 []) (.cell al) (.cell (ac (.loc 6))) (.cell al) Ld md v5 [Ao 0 0,gY [] 0]) K bB:=by
 have e:=λT=>N9 s T (n+20) (vl D (n+20+42)).call K;rw [gu] at e;refine cast (e _).symm (Hu (n:=n+50) 1 hd λr Ld md v5 r0 G hd=>?_);refine ae (tr r0 G) λj J S=>?_;subst J;have S:(j:Int)<3:=S;exact h j Ld md v5 (by lia) hd
structure Fin (z:Z) (L0 L1:List bX) (l:Bool->Int) (a0 a1:Int):Prop where
 deck:B0 z.Ld z.md
 made:∃c1 c2 Mr,z.Md=d0 c1 c2 Mr∧Mr.length≤8
 last:2≤z.last
 u0:0≤z.used
 u1:z.used≤4000
 o0:mr z.b0 L0 a0 (l am)
 o1:mr z.b1 L1 a1 (l au)
 len:L0.length≤8
theorem fo {i:Nat} (G:i≠3) (h:i <17) (n:Nat) (r:List cg) (ve:aB) (T:List MO) (K:aO->aB->List MO->Prop):bl (lU D (n+65)) (bE i::r) ve T K bB=(vl D (n+65)).exec (bE i) ve T (m9 (lU D (n+65)) r K) bB:=by refine ag (bv ..) ?_;exact Kg (DR i G h) (n+64) ve T _ _
theorem Cb (G:u7) {O:TV} {cnt:Int} {sh:Sh} {r:List (aU × TV)} {n:Nat} {z:Z} {gs:List MO} {L0 L1:List bX} {l:Bool->Int} {a0 a1:Int} (F:Fin z L0 L1 l a0 a1) (J:gs.length=3∨gs.length=4) {k:VK} (h:∀u T,k (.bool au) (.codes 733 u::T)):
  bl (lU D (n+65)) [bE 14,bE 15,bE 16] (c9 O (dI l) cnt (sh.loc++r)) (TT z gs) (fi k) bB:=by
 refine ag (fo (by decide) (by decide) ..) (N2 (n:=n+20) F.o0 F.o1 (by lia) λP I=>?_);refine ag (bp ..) (ag (fo (by decide) (by decide) ..) ?_);refine LP (n:=n+20) (.inr rfl) F.o0 F.o1 (ag (bp ..) ?_);refine ag (fo (by decide) (by decide) ..) ?_;have e:=N3 O (dI l) cnt sh r z (gs++[P]++[I]) (n+20) (vl D (n+20+43)).call (m9 (lU D (n+65)) [] (fi k));rw [gu] at e;refine cast e.symm (G z (gs++[P]++[I]) n 8 L0 a0 (l am) _ (by rw [aJ,aJ,bK,bK];lia) F.deck F.made (by decide) F.last F.u0 F.u1 F.o0 F.len λu T=>?_);refine ag (g8 ..) (ag (hG ..) ?_);exact h u T
theorem mr.acc {b:Bd} {L:List bX} {a l:Int} (O:mr b L a l) (G:Int):mr {b with a:=G} L G l:=⟨O.e,O.n,O.nd,O.cap,O.lo,O.m0,O.m1,rfl,O.sm⟩
theorem Ob {j:Nat} (h:j <5):(j=1∨j=2)∨(j=0∨j=3∨j=4):=by exact by lia
theorem Ki (G:u7) {O:TV} {cnt:Int} {sh:Sh} {n:Nat} {z:Z} {P I J:MO} {L0 L1:List bX} {l:Bool->Int} (F:Fin z L0 L1 l 3 3) (hl1:L1.length≤8) (hu:z.used≤16*(z.b0.m+z.b1.m)+8) (hU:z.u=[de 7]) {j:Nat} (S:j <5) {k:VK} (h:∀u T,k (.bool au) (.codes 733 u::T)):
  bl (lU D (n+65)) [bE 9,bE 10,bE 11,bE 12,bE 13,bE 14,bE 15,bE 16] (c9 O (dI l) cnt (sh.loc++r8 j)) (TT z [P,I,J]) (fi k) bB:=by
 have ez:z={z with b0:={z.b0 with a:=3},b1:={z.b1 with a:=3}}:=by have h0:=F.o0.a;have h1:=F.o1.a;obtain ⟨_,_,_,_,_,_,_,_,_,⟨_,_,_,_,_,_⟩,⟨_,_,_,_,_,_⟩⟩:=z;dsimp only at h0 h1;exact ag (h0 ..) (ag (h1 ..) rfl)
 have eu:lu z j=lu {z with u:=[de 7]} j:=by exact bZ (hU ..) rfl
 refine ag (fo (by decide) (by decide) ..) (ag (show TT z [P,I,J]=TT {z with b0:={z.b0 with a:=3},b1:={z.b1 with a:=3}} [P,I,J] from congrArg (TT · [P,I,J]) ez ..) ?_);refine cast (Qz j S O (dI l) cnt sh z [P,I,J] (n+20) (m9 (lU D (n+65)) [bE 10,bE 11,bE 12,bE 13,bE 14,bE 15,bE 16] (fi k))).symm (ag (bp ..) (ag (fo (by decide) (by decide) ..) ?_));refine cast (NS j S O (dI l) cnt sh _ (n+20) _).symm (ag (bp ..) (ag (fo (by decide) (by decide) ..) ?_));refine bk (Ob S) (λhn=>?_) λhy=>?_
 ·refine ag (eu ..) (cast (NT j hn O (dI l) cnt sh z [P,I,J] (n+20) _).symm ?_);refine ag (bp ..) (ag (fo (by decide) (by decide) ..) (ag ((show Hi=B8 j by rcases hn with rfl | rfl <;> rfl) ..) ?_));refine cast (Hj j S O (dI l) cnt sh _ (n+20) _).symm (ag (bp ..) (ag (fo (by decide) (by decide) ..) ?_));refine cast (NW j hn O (dI l) cnt sh _ _ (n+20) _).symm ?_;have F':Fin {lu z j with u:=[de 11,de 7]} L0 L1 l (tE j).1 (tE j).2:=⟨F.deck,F.made,F.last,F.u0,F.u1,F.o0.acc _,F.o1.acc _,F.len⟩;generalize ({lu z j with u:=[de 11,de 7]}:Z)=y at F' ⊢;refine ag (bp ..) (Cb G F' (gs:=[P,I,J]) (.inl rfl) h)
 ·refine ag (eu ..) ?_;have c0:=F.o0.m1;have f:=F.o0.m0;refine J9 hy (L0:=L0) (L1:=L1) (t:=8) F.o0 ⟨F.o1.e,F.o1.nd,F.o1.cap,F.o1.m0,F.o1.m1,⟨f,c0⟩,F.made,F.u0,hu⟩ (by have:=F.len;exact by lia) (by decide) λz' gF H Fz=>?_;have et:(TV.none)=B8 j:=by rcases hy with rfl | rfl | rfl <;> rfl
  refine ag (bp ..) (ag (fo (by decide) (by decide) ..) (ag (et ..) ?_));refine cast (Hj j S O (dI l) cnt sh _ (n+20) _).symm (ag (bp ..) (ag (fo (by decide) (by decide) ..) ?_));refine pM Fz λused Md v7 E m v p Y=>?_;clear Fz;subst p;have Y:z.b1.m≤m:=Y;refine NZ (n:=n+20) hy (L0:=L0) (L1:=L1) (a0:=(tE j).1) (l0:=l am) (a1:=(tE j).2) (l1:=l au) (tt:=8) (F.o0.acc _) H F.o1.n (by lia) (cA F.o1.lo Y) rfl F.o1.sm λsh' r' z2 e0 e2 O1 em=>ag (bp ..) ?_;have W:=H.u1;have hk:=H.k0;have V:=H.m1;refine Cb G (L0:=L0) (L1:=lZ L0 L1) (a0:=(tE j).1) (a1:=(tE j).2) ⟨?_,?_,?_,?_,?_,?_,O1,F.len⟩ (.inr rfl) h
  ·refine ag (e2 ..) F.deck
  ·refine ag (e2 ..) H.made
  ·refine ag (e2 ..) F.last
  ·refine ag (e2 ..) H.u0
  ·refine ag (e2 ..) ?_;show used≤4000;have W:used≤16*(z.b0.m+m)+((8:Nat):Int):=W;have V:m≤64:=V;exact by lia
  ·refine ag (e0 ..) (F.o0.acc _)
noncomputable def QN (r:Nat):Bool->Int
 | false=>aL r
 | true=>4
noncomputable def RQ (r:Nat):GG:=⟨[],al,λY=>3,QN r⟩
theorem QO {r:Nat} (G:r <3) {Ld:List Int} {md:Int} {v5:Nat} (hd:B0 Ld md):rU (RQ r) 0 (z0 (aL r) Ld md v5) (λY=>[]) where
 u:=rfl
 pr:=rfl
 deck:=hd
 made:=⟨_,_,[],rfl,aG _⟩
 last:=fD 2
 u0:=by show (0:Int)≤16*aL r+64;have:aL r=(r:Int):=rfl;exact by lia
 u1:=by show 16*aL r+64≤16*(aL r+4)+(0:Nat);exact by lia
 b:=λi=>by
  induction i with
  | false=>exact ⟨rfl,rfl,Pg,(by show ((0:Nat):Int)≤aL r;exact by lia),fD _,(by show (0:Int)≤aL r;exact by lia),(by show aL r≤64;exact by lia),rfl,λY h=>nomatch h⟩
  | true=>exact ⟨rfl,rfl,Pg,(by show ((0:Nat):Int)≤4;exact by decide),fD _,(by show (0:Int)≤4;exact by decide),(by show (4:Int)≤64;exact by decide),rfl,λY h=>nomatch h⟩
theorem QP {j:Nat} (S:j <5) {T:List MO} {K:TV->List MO->Prop} (G:K (pD j) T):qM (.lst [pD 0,pD 1,pD 2,pD 3,pD 4]) (.int (aL j)) T K:=by revert G;exact RJ j S id id id id id
theorem Fin.deck' {z:Z} {L0 L1:List bX} {l:Bool->Int} {a0 a1:Int} (F:Fin z L0 L1 l a0 a1) {Ld:List Int} {md:Int} (v5:Nat) (h:B0 Ld md):Fin {z with Ld:=Ld,md:=md,v5:=v5} L0 L1 l a0 a1:=⟨h,F.made,F.last,F.u0,F.u1,F.o0,F.o1,F.len⟩
theorem Oc (G:u7) {f:TV} {cnt:Int} {sh:Sh} {n:Nat} {z:Z} {P J O:MO} {L0 L1:List bX} {l:Bool->Int} (F:Fin z L0 L1 l 3 3) (I:L1.length≤8) (y:z.used≤16*(z.b0.m+z.b1.m)+8) (p:z.u=[de 7]) {k:VK} (h:∀u T,k (.bool au) (.codes 733 u::T)):
  bl (lU D (n+65)) [bE 8,bE 9,bE 10,bE 11,bE 12,bE 13,bE 14,bE 15,bE 16] (c9 f (dI l) cnt (sh.loc++r7)) (TT z [P,J,O]) (fi k) bB:=by
 refine ag (fo (by decide) (by decide) ..) ?_;have W:=Qy f (dI l) cnt sh z [P,J,O] (n+20) (vl D (n+20+42)).call;rw [gu] at W;refine cast (W _).symm (nv (n:=n+50) 3 F.deck λq Ld md v5 r Y hd=>?_);refine ae (tr r Y) λj e1 S=>?_;subst e1;have S:(j:Int)<5:=S;have V:j <5:=by exact by lia
 refine QP V (ag (bp ..) ?_);exact Ki G (sh:=sh) (F.deck' v5 hd) I y p V h
theorem Od (G:u7) {I:TV} {cnt:Int} {sh:Sh} {n t:Nat} {z:Z} {p:Ls} {r:Nat} (O:rU (RQ r) t z p) (Y:t≤8) (S:∀i,(p i).length≤8) {k:VK} (h:∀u T,k (.bool au) (.codes 733 u::T)):
  bl (lU D (n+65)) [bE 4,bE 5,bE 6,bE 7,bE 8,bE 9,bE 10,bE 11,bE 12,bE 13,bE 14,bE 15,bE 16] (c9 I (dI (QN r)) cnt sh.loc) (TT z []) (fi k) bB:=by
 refine ag (fo (by decide) (by decide) ..) (Qr (n:=n+20) (f:=RQ r) O (kE 3) λP J=>?_);refine ag (bp ..) (ag (fo (by decide) (by decide) ..) ?_);refine LP (n:=n+20) (.inl rfl) (O.b am) (O.b au) (ag (bp ..) (ag (fo (by decide) (by decide) ..) ?_));refine cast (Qv I (dI (QN r)) cnt sh r7 z [P,J] (n+20) _).symm (ag (bp ..) (ag (fo (by decide) (by decide) ..) ?_));have hu:=O.u1;have m0:=(O.b am).m1;have m1:=(O.b au).m1;have m0:z.b0.m≤64:=m0;have m1:z.b1.m≤64:=m1;refine gy O.made λW l V y lM=>?_;have F:Fin {z with u:=[de 7],pr:=some na} (p am) (p au) (QN r) 3 3:=⟨O.deck,⟨W,l,V,y,df lM Y⟩,O.last,O.u0,(by show z.used≤4000;exact by lia),O.b am,O.b au,S am⟩;refine ag ((show ({z with pr:=some na}:Z)={z with u:=[],pr:=some na} by exact bZ (show z.u=[] from O.u ..) rfl) ..) (ag (LQ _ (show ({z with u:=[],pr:=some na}:Z).b0.E=(p am).map bR from (O.b am).e) ..) ?_);refine cast (Qx I (dI (QN r)) cnt sh r7 z P J (n+20) _).symm (ag (bp ..) (bZ (LQ _ (show ({z with u:=[de 7],pr:=some na}:Z).b0.E=(p am).map bR from (O.b am).e) ..) ?_));exact Oc G F (S au) (by show z.used≤16*(z.b0.m+z.b1.m)+8;exact by lia) rfl h
theorem Oe (G:u7) {S:List Int} (J:S.length≤63) (n:Nat) {k:VK} (h:∀u T,k (.bool au) (.codes 733 u::T)):(lU D (n+66)).call (.ref 736) [.scr (S.map .int)] [.codes 733 []] k bB:=by refine ag (Hz ..) ?_;refine ag (fo (by decide) (by decide) ..) (QL J λLd md hd=>?_);refine ag (bp ..) (ag (fo (by decide) (by decide) ..) ?_);refine QM hd λr Ld md v5 I hd=>ag (bp ..) (ag (fo (by decide) (by decide) ..) ?_);refine cast (Oa r I (.scr (S.map .int)) Ld md v5 (n+20) _).symm (ag (bp ..) (ag (bv ..) ?_));refine NO (n:=n+24) (sh:=.e0) (f:=RQ r) (QO I hd) (λY=>rfl) λz p cnt sh O P=>ag (bp ..) (Od G O (aG 8) P h)
noncomputable def QQ:rt:=cZ (eL 62) []
noncomputable def dw (i:Nat):cg:=QQ.body.getD i (.Pass default)
noncomputable def gE (r:List (aU × TV)):aB:=⟨QQ.scope,("deck",.loc 5)::("memory",.loc 6)::("body",.loc 8)::r,[],al⟩
noncomputable def mB (num m:Int) (e:Nat):MO:=.inst 126 [("number",.int num),("most",.int m),("is_global",.bool am),("level",.int 0),("access",.int 3),("entries",.loc e)]
noncomputable def TX (z:Z) (l P:qZ) (num m:Int) (E:List (bJ × TV × TV)) (v:Nat) (g:qZ) (gs:List MO):List MO:=
 .codes 733 z.u:: .cell (ac (.lst [.loc 8,.loc 10])):: .cell (ac (.loc 6)):: .cell z.pr:: .list (z.Ld.map TV.int)::gY (BZ z.md) z.v5::Ao z.used z.last:: .dict z.Md z.v7 l::
  BX 1 z.b0.m z.b0.a 9:: .dict z.b0.E z.b0.v P::BX 2 z.b1.m z.b1.a 11::gY z.b1.E z.b1.v::gY z.b0.N z.b0.w::gY z.b1.N z.b1.w::(gs++[mB num m (15+gs.length),.dict E v g])
noncomputable abbrev TZ (z:Z) (num m:Int) (E:List (bJ × TV × TV)) (v:Nat) (gs:List MO):List MO:=TX z (getD z.Md) (getD z.b0.E) num m E v (getD E) gs
def ky (gs:List MO):Prop:=gs.length=5∨gs.length=6
theorem dM {gs:List MO} (h:ky gs):(∃a b c d e,gs=[a,b,c,d,e])∨∃a b c d e f,gs=[a,b,c,d,e,f]:=by
 match gs,h with
 | [a,b,c,d,e],_=>exact .inl ⟨_,_,_,_,_,rfl⟩
 | [a,b,c,d,e,f],_=>exact .inr ⟨_,_,_,_,_,_,rfl⟩
 | [],h=>exact h.elim nofun nofun
 | [_],h=>exact h.elim nofun nofun
 | [_,_],h=>exact h.elim nofun nofun
 | [_,_,_],h=>exact h.elim nofun nofun
 | [_,_,_,_],h=>exact h.elim nofun nofun
 | _::_::_::_::_::_::_::_,h=>exact h.elim (λh=>by simp at h) λh=>by simp at h
theorem ou (x:VX) (E:fX):∀(s r:List cg) (ve:aB) (T:List MO) (K:aO->aB->List MO->Prop),bl E (s++r) ve T K x=bl E s ve T (DM x E r K) x:=by
 intro G;induction G with
 | nil=>intro _ _ _ _;exact rfl
 | cons a s V=>
  intro r ve T K;refine ag (kg ..) (ag (jx ..) (ag (jx ..) ?_));congr 1;funext f ve T;induction f with
  | next=>exact V r ve T K
  | ret v=>rfl
noncomputable def Of:rt:=cZ (ry 49 7) []
noncomputable def pS (i:Nat):cg:=Of.body.getD i (.Pass default)
noncomputable def HA:rt:=cZ (ry 49 6) []
noncomputable def wS (i:Nat):cg:=HA.body.getD i (.Pass default)
noncomputable def pE (J:Nat) (key th:TV) (r:List (aU × TV)):aB:=⟨Of.scope,("self",.loc 6)::("body",.loc J)::("key",key)::("thing",th)::r,[],al⟩
theorem yT (J:Nat) (key th:TV) (T:List MO) (n:Nat) (k:VK) (x:VX):(vl D (n+50)).call (.ref 547) [.loc 6,.loc J,key,th] T k x=bl (vl D (n+49)) [pS 0,pS 1,pS 2,pS 3,pS 4,pS 5,pS 6] (pE J key th []) T (fi k) x:=
 kS (E:=vl D (n+49)) (fd:=Of) (by kernel_rfl) (by kernel_rfl) (λT=>by kernel_rfl) (by kernel_rfl) (by kernel_rfl)
noncomputable def KM:=V7 ⊕ Nat
noncomputable def KM.th:KM->TV
 | .inl v=>v.kept
 | .inr j=>dT (100+aL j)
noncomputable def KM.key:KM->bJ
 | .inl v=>v.key
 | .inr j=>.tup [.str "number",.int ((100+aL j)*1000000)]
noncomputable def KM.word:KM->TV
 | .inl v=>.tup v.word
 | .inr j=>.tup [.str "number",.int ((100+aL j)*1000000)]
theorem Cc (m:KM) (z:Z) (num mo c:Int) (E:List (bJ × TV × TV)) (v:Nat) (l P g:qZ) {gs:List MO} (h:ky gs) (n:Nat) (K:aO->aB->List MO->Prop) (x:VX):bl (vl D (n+49)) [pS 0,pS 1,pS 2] (pE (14+gs.length) m.th (dT c) []) (TX z l P num mo E v g gs) K x=
  match m with
  | .inl _=>K .next (pE (14+gs.length) m.th (dT c) [("word",m.word)]) (TX z l P num mo E v g gs)
  | .inr j=>aW (bU (100+aL j).natAbs (2 ^ 60)) (K .next (pE (14+gs.length) m.th (dT c) [("word",m.word)]) (TX z l P num mo E v g gs)):=by
 rcases dM h with ⟨_,_,_,_,_,rfl⟩ | ⟨_,_,_,_,_,_,rfl⟩<;> induction m with
 | inl w=>induction w <;> kernel_rfl
 | inr j=>kernel_rfl
theorem QR (m:KM) (z:Z) (num mo c:Int) (E:List (bJ × TV × TV)) (v:Nat) (l P g:qZ) {gs:List MO} (h:ky gs) (n:Nat) (C:CT) (K:aO->aB->List MO->Prop) (x:VX):(up (CL (n+46) C) 3).exec (pS 3) (pE (14+gs.length) m.th (dT c) [("word",m.word)]) (TX z l P num mo E v g gs) K x=
  br (!(g m.key).isSome) (aW (aH E.length 1000) (br (decide (mo≤(E.length:Int))) (C (.ref 540) [.loc 6,.loc (14+gs.length)] (TX z l P num mo E v g gs) (λY T1=>K .next (pE (14+gs.length) m.th (dT c) [("word",m.word)]) T1) x) (K .next (pE (14+gs.length) m.th (dT c) [("word",m.word)]) (TX z l P num mo E v g gs))))
   (K .next (pE (14+gs.length) m.th (dT c) [("word",m.word)]) (TX z l P num mo E v g gs)):=by
 rcases dM h with ⟨_,_,_,_,_,rfl⟩ | ⟨_,_,_,_,_,_,rfl⟩<;> induction m with
 | inl w=>induction w <;> kernel_rfl
 | inr j=>kernel_rfl
def KM.ok:KM->Prop
 | .inl _=>True
 | .inr j=>j <18
noncomputable def KM.kept:KM->TV:=KM.th
theorem Kj (m:KM) (O:m.ok) (z:Z) (num mo c:Int) (E:List (bJ × TV × TV)) (v:Nat) (l P g:qZ) {gs:List MO} (h:ky gs) (n:Nat) (K:aO->aB->List MO->Prop) (x:VX):bl (vl D (n+49)) [pS 4,pS 5,pS 6] (pE (14+gs.length) m.th (dT c) [("word",m.word)]) (TX z l P num mo E v (ln m.key al g) gs) K x=
  aW (aH E.length 1000) (K .next (pE (14+gs.length) m.th (dT c) [("word",m.word),("kept",m.kept)]) (TX z l P num mo (dq m.key m.word (.tup [m.kept,dT c]) E) (v+1) (getD (dq m.key m.word (.tup [m.kept,dT c]) E)) gs)):=by
 rcases dM h with ⟨_,_,_,_,_,rfl⟩ | ⟨_,_,_,_,_,_,rfl⟩<;> induction m with
 | inl w=>induction w <;> kernel_rfl
 | inr j=>refine Pk j O ?_ ?_ ?_ ?_ ?_ ?_ ?_ ?_ ?_ ?_ ?_ ?_ ?_ ?_ ?_ ?_ ?_ ?_ <;> kernel_rfl
noncomputable def wE (J:Nat) (r:List (aU × TV)):aB:=⟨HA.scope,("self",.loc 6)::("body",.loc J)::r,[],al⟩
noncomputable def w2 (mo:Int):List (aU × TV):=[("many",.int (cq mo)),("more",.int (16*(cq mo - mo)))]
noncomputable def w3 (mo:Int) (c:TV):List (aU × TV):=[("many",.int (cq mo)),("more",.int (16*(cq mo - mo))),("cost",c)]
theorem DT (J:Nat) (T:List MO) (n:Nat) (k:VK) (x:VX):(vl D (n+46)).call (.ref 540) [.loc 6,.loc J] T k x=bl (vl D (n+45)) [wS 0,wS 1,wS 2,wS 3,wS 4,wS 5,wS 6,wS 7,wS 8] (wE J []) T (fi k) x:=
 kS (E:=vl D (n+45)) (fd:=HA) (by kernel_rfl) (by kernel_rfl) (λT=>by kernel_rfl) (by kernel_rfl) (by kernel_rfl)
theorem Kk (z:Z) (num mo:Int) (E:List (bJ × TV × TV)) (v:Nat) (l P g:qZ) {gs:List MO} (h:ky gs) (n:Nat) (K:aO->aB->List MO->Prop) (x:VX):bl (vl D (n+45)) [wS 0,wS 1,wS 2,wS 3] (wE (14+gs.length) []) (TX z l P num mo E v g gs) K x=
  aW (bU mo.natAbs (2 ^ 60)) (br (decide (cq mo≤mo)) (x 52 "told" B9 (TX z l P num mo E v g gs)) (aW (bU (cq mo - mo).natAbs (2 ^ 60)) (br (decide (16777216 <z.used+0+16*(cq mo - mo))) (x 52 "told" (.bytes "VMerror".toUTF8.data) (TX z l P num mo E v g gs))
   (K .next (wE (14+gs.length) (w2 mo)) (TX z l P num mo E v g gs))))):=by
 rcases dM h with ⟨_,_,_,_,_,rfl⟩ | ⟨_,_,_,_,_,_,rfl⟩<;> kernel_rfl
theorem Og (z:Z) (num mo:Int) (E:List (bJ × TV × TV)) (v:Nat) (l P g:qZ) {gs:List MO} (h:ky gs) (n:Nat) (K:aO->aB->List MO->Prop) (x:VX):(vl D (n+45)).exec (wS 4) (wE (14+gs.length) (w2 mo)) (TX z l P num mo E v g gs) K x=
  br (l (.atom (.int num))).isSome (bV (l (.atom (.int num))) False λd=>qM d.2 (.int 0) (TX z l P num mo E v g gs) λc T1=>K .next (wE (14+gs.length) (w3 mo c)) T1) (K .next (wE (14+gs.length) (w3 mo (.int 0))) (TX z l P num mo E v g gs)):=by
 rcases dM h with ⟨_,_,_,_,_,rfl⟩ | ⟨_,_,_,_,_,_,rfl⟩<;> kernel_rfl
def DU (z:Z) (num mo c:Int) (E:List (bJ × TV × TV)) (v:Nat) (l P g:qZ) (gs:List MO) (n:Nat) (K:aO->aB->List MO->Prop) (x:VX):Prop:=bl (vl D (n+45)) [wS 5,wS 6,wS 7,wS 8] (wE (14+gs.length) (w3 mo (.int c))) (TX z l P num mo E v g gs) K x
def DV (z:Z) (num mo c:Int) (E:List (bJ × TV × TV)) (v:Nat) (l P g:qZ) (gs:List MO) (n:Nat) (K:aO->aB->List MO->Prop) (x:VX):Prop:=
  aW (aH z.Md.length 1000) (K .next (wE (14+gs.length) (w3 mo (.int c))) (TX {z with used:=z.used+16*(cq mo - mo),Md:=dq (.atom (.int num)) (.int num) (.tup [.int (c+16*(cq mo - mo)),.bool am,.int 0]) z.Md,v7:=z.v7+1}
   (getD (dq (.atom (.int num)) (.int num) (.tup [.int (c+16*(cq mo - mo)),.bool am,.int 0]) z.Md)) P num (cq mo) E v g gs))
theorem DW (z:Z) (num mo c:Int) (E:List (bJ × TV × TV)) (v:Nat) (l P g:qZ) {gs:List MO} (h:ky gs) (n:Nat) (K:aO->aB->List MO->Prop) (x:VX):DU z num mo c E v l P g gs n K x=DV z num mo c E v l P g gs n K x:=by rcases dM h with ⟨_,_,_,_,_,rfl⟩ | ⟨_,_,_,_,_,_,rfl⟩<;> kernel_rfl
theorem Kl (z:Z) (num mo c:Int) (E:List (bJ × TV × TV)) (v:Nat) (l P g:qZ) {gs:List MO} (h:ky gs) (n:Nat) (K:aO->aB->List MO->Prop) (x:VX):bl (vl D (n+45)) [wS 5,wS 6,wS 7,wS 8] (wE (14+gs.length) (w3 mo (.int c))) (TX z l P num mo E v g gs) K x=
  aW (aH z.Md.length 1000) (K .next (wE (14+gs.length) (w3 mo (.int c))) (TX {z with used:=z.used+16*(cq mo - mo),Md:=dq (.atom (.int num)) (.int num) (.tup [.int (c+16*(cq mo - mo)),.bool am,.int 0]) z.Md,v7:=z.v7+1}
   (getD (dq (.atom (.int num)) (.int num) (.tup [.int (c+16*(cq mo - mo)),.bool am,.int 0]) z.Md)) P num (cq mo) E v g gs)):=DW z num mo c E v l P g h n K x
theorem pG (k:bJ) (a b:TV):∀l:List (bJ × TV × TV),∃G,cR k (dq k a b l)=ac (G,b)
 | []=>⟨a,by delta cR dq;exact ag (List.lookup_cons ..) (ag (beq_self_eq_true ..) rfl)⟩
 | d::l=>by
  refine aI (pG k a b l) λG h=>?_;unfold cR at h ⊢;rw [dq];by_cases q:d.1=k
  ·refine ag (if_pos q ..) (ag (List.lookup_cons ..) (ag (q ..) (ag (beq_self_eq_true ..) ?_)));exact ⟨_,rfl⟩
  ·refine ag (if_neg q ..) (ag (List.lookup_cons ..) (ag (show (k==d.1)=am from beq_eq_false_iff_ne.mpr (fw q) ..) ?_));exact ⟨G,h⟩
theorem yU (k:bJ) (a b:TV):∀l:List (bJ × TV × TV),(cR k l).isSome=au->(dq k a b l).length=l.length:=by
 intro G;induction G with
 | nil=>intro h;exact nomatch h
 | cons d l V=>
  intro h;unfold cR at h;rw [dq];by_cases q:d.1=k
  ·refine ag (if_pos q ..) ?_;rfl
  ·refine ag (if_neg q ..) (ag (bf ..) (ag (bf ..) ?_));rw [List.lookup_cons,show (k==d.1)=am from beq_eq_false_iff_ne.mpr (fw q)] at h;exact ag (V h ..) rfl
theorem wF (k:bJ) (a b:TV):∀l:List (bJ × TV × TV),cR k l=al->dq k a b l=l++[(k,a,b)]
 | [],_=>rfl
 | d::l,h=>by
  unfold cR at h;rw [dq];by_cases q:d.1=k
  ·rw [List.lookup_cons,q,beq_self_eq_true] at h;exact n2 h
  ·refine ag (if_neg q ..) ?_;rw [List.lookup_cons,show (k==d.1)=am from beq_eq_false_iff_ne.mpr (fw q)] at h;refine ag (wF k a b l h ..) ?_;rfl
structure MI (z:Z) (num mo:Int) (E:List (bJ × TV × TV)):Prop where
 made:∃a c,cR (.atom (.int num)) z.Md=ac (a,.tup [.int c,.bool am,.int 0])
 ml:z.Md.length≤1000
 cap:(E.length:Int)≤mo
 m1:mo≤64
 u0:0≤z.used
 u1:z.used≤4000+16*mo
def HB (z y:Z):Prop:=∃used Md v7,y={z with used:=used,Md:=Md,v7:=v7}
theorem HB.refl (z:Z):HB z z:=⟨_,_,_,rfl⟩
theorem HB.trans {a b c:Z} (h:HB a b) (g:HB b c):HB a c:=by refine fH h λ_ _ _ e3=>?_;clear h;subst e3;refine fH g λ_ _ _ e3=>?_;clear g;refine ag e3 ⟨_,_,_,rfl⟩
theorem Km {z:Z} {num mo:Int} {E:List (bJ × TV × TV)} {v:Nat} {gs:List MO} (h:ky gs) (I:MI z num mo E) (S:mo≤29) {n:Nat} {k:VK} {x:VX}
  (f:∀y,HB z y->MI y num (cq mo) E->mo+1≤cq mo->k .none (TZ y num (cq mo) E v gs)):(vl D (n+46)).call (.ref 540) [.loc 6,.loc (14+gs.length)] (TZ z num mo E v gs) k x:=by
 refine gQ (wn (cA (dW _) I.cap) S) λG _ O _=>?_;have J:mo+1≤cq mo∧cq mo≤64:=⟨G,O⟩;have r:=I.cap;have l:=I.u0;have p:=I.u1;refine cN I.made λa c P=>ag (DT ..) (ag (show [wS 0,wS 1,wS 2,wS 3,wS 4,wS 5,wS 6,wS 7,wS 8]=[wS 0,wS 1,wS 2,wS 3]++[wS 4,wS 5,wS 6,wS 7,wS 8] from rfl ..) (ag (ou ..) (ag (Kk z num mo E v _ _ _ h ..) ?_)));refine aK (gh (Qa (cA (dW _) I.cap) (cA S (by decide)))) (iQ (decide_eq_false (Bp.mpr G)) (aK (gh (NH (cA (dW _) I.cap) G O)) (iQ (decide_eq_false (by lia)) ?_)));refine ag (gM ..) (ag (jx ..) (ag (Og z num mo E v _ _ _ h ..) (ag (show getD z.Md (.atom (.int num))=_ from P ..) ?_)));show DM x (vl D (n+45)) [wS 5,wS 6,wS 7,wS 8] (fi k) .next (wE (14+gs.length) (w3 mo (.int c))) (TZ z num mo E v gs);refine ag (gM ..) (ag (Kl z num mo c E v _ _ _ h ..) ?_);refine aK (bg I.ml) (ag (nw ..) ?_)
 ((first | refine ah (pG (.atom (.int num)) (.int num) (.tup [.int (c+16*(cq mo - mo)),.bool am,.int 0]) z.Md) ?_ | refine aI (pG (.atom (.int num)) (.int num) (.tup [.int (c+16*(cq mo - mo)),.bool am,.int 0]) z.Md) ?_);intro V W)
 exact f _ ⟨_,_,_,rfl⟩ ⟨⟨V,_,W⟩,by refine ag ((yU (.atom (.int num)) (.int num) (.tup [.int (c+16*(cq mo - mo)),.bool am,.int 0]) z.Md (by refine ag (P ..) ?_;rfl)) ..) ?_;exact I.ml,by exact by lia,J.2,(by show 0≤z.used+16*(cq mo - mo);exact by lia),(by show z.used+16*(cq mo - mo)≤4000+16*cq mo;exact by lia)⟩ J.1
noncomputable def KM.ent (m:KM) (c:Int):bJ × TV × TV:=(m.key,m.word,.tup [m.kept,dT c])
theorem AS {z:Z} {num mo:Int} {E:List (bJ × TV × TV)} {v:Nat} {gs:List MO} {q:bJ} {o:Option (TV × TV)} (G:cR q E=o):TZ z num mo E v gs=TX z (getD z.Md) (getD z.b0.E) num mo E v (ln q o (getD E)) gs:=by exact bZ (gn (k:=q) (g:=getD E) G ..) rfl
theorem Cd {z:Z} {num mo:Int} {E:List (bJ × TV × TV)} {v:Nat} {gs:List MO} {m:KM} (O:m.ok) (h:ky gs) (I:MI z num mo E) (G:cR m.key E=al) (hl:E.length≤28) (P:(E.length:Int)+1≤mo) {c:Int} {n:Nat} {k:VK} {x:VX}
  (J:MI z num mo (E++[m.ent c])->k .none (TZ z num mo (E++[m.ent c]) (v+1) gs)):bl (vl D (n+49)) [pS 4,pS 5,pS 6] (pE (14+gs.length) m.th (dT c) [("word",m.word)]) (TZ z num mo E v gs) (fi k) x:=by
 refine ag (AS G ..) (ag (Kj m O _ num _ c E v _ _ _ h ..) (ag (wF _ _ _ _ G ..) ?_));refine aK (bg (by lia)) (ag (nw ..) ?_);exact J ⟨I.made,I.ml,by refine ag ((aJ) ..) ?_;assumption,I.m1,I.u0,I.u1⟩
theorem LZ {m:KM} (O:m.ok) {P:Prop} (q:P):(match (generalizing:=false) m with | .inl _=>P | .inr j=>aW (bU (100+aL j).natAbs (2 ^ 60)) P):=by
 induction m with
 | inl _=>exact q
 | inr j=>exact aK (gh (Qb j (Ip (show j <18 from O) (by decide)))) q
theorem Ce {z:Z} {num mo:Int} {E:List (bJ × TV × TV)} {v:Nat} {gs:List MO} {m:KM} (O:m.ok) (h:ky gs) (I:MI z num mo E) (G:cR m.key E=al) (hl:E.length≤28) {c:Int} {n:Nat} {k:VK} {x:VX}
  (P:∀y J f,HB z y->MI y num J (E++[m.ent c])->k .none (TZ y num J (E++[m.ent c]) f gs)):(vl D (n+50)).call (.ref 547) [.loc 6,.loc (14+gs.length),m.th,dT c] (TZ z num mo E v gs) k x:=by
 refine ag (yT ..) (ag (show [pS 0,pS 1,pS 2,pS 3,pS 4,pS 5,pS 6]=[pS 0,pS 1,pS 2]++[pS 3,pS 4,pS 5,pS 6] from rfl ..) (ag (ou ..) (ag (Cc m z num mo c E v _ _ _ h ..) ?_)));refine LZ O ?_;have W:(getD E) m.key=al:=G;refine ag (gM ..) (ag (jx ..) ?_);have e3:=QR m z num mo c E v (getD z.Md) (getD z.b0.E) (getD E) h n (vl D (n+46)).call (DM x (vl D (n+49)) [pS 4,pS 5,pS 6] (fi k)) x;rw [gu,W] at e3;refine cast e3.symm (aK (bg (by lia)) ?_);by_cases q:mo≤(E.length:Int)
 ·refine yw (decide_eq_true q) (Km h I (by lia) λy F S l=>?_);refine ag (gM ..) ?_;have V:=I.cap;exact Cd O h S G hl (Int.lt_of_le_of_lt ‹_› ‹_›) (P y _ _ F)
 ·refine iQ (decide_eq_false q) (ag (gM ..) ?_);exact Cd O h I G hl (Bp.mp ‹_›) (P z _ _ (.refl z))
theorem QS (z:Z) (gs:List MO) (n:Nat) (C:CT) (K:aO->aB->List MO->Prop):(up (CL (n+59) C) 3).exec (dw 0) (gE []) (TT z gs) K bB=
  C (.ref 477) [.loc 6,.int 0] (TT z gs) (λv T1=>C (.ref 328) [.loc 8] T1 (λw G=>K .next (gE [("rows",w),("mate",v)]) G) bB) bB:=by kernel_rfl
def DX (z:Z) (gs:List MO) (n:Nat) (k:VK):Prop:=(vl D (n+59)).call (.ref 477) [.loc 6,.int 0] (TT z gs) k bB
def DY (z:Z) (gs:List MO) (n:Nat) (k:VK):Prop:=
  br (decide (16777216 <z.used+0+16*0)) False (aW (aH z.Md.length 1000) (k (.loc (14+gs.length)) (TZ {z with used:=z.used+16*0,last:=z.last+1,Md:=dq (.atom (.int (z.last+1))) (.int (z.last+1)) (.tup [.int (16*0),.bool am,.int 0]) z.Md,v7:=z.v7+1} (z.last+1) 0 [] 0 gs)))
theorem DZ (z:Z) {gs:List MO} (h:ky gs) (n:Nat) (k:VK):DX z gs n k=DY z gs n k:=by rcases dM h with ⟨_,_,_,_,_,rfl⟩ | ⟨_,_,_,_,_,_,rfl⟩<;> kernel_rfl
theorem Ko (z:Z) {gs:List MO} (h:ky gs) (n:Nat) (k:VK):(vl D (n+59)).call (.ref 477) [.loc 6,.int 0] (TT z gs) k bB=
  br (decide (16777216 <z.used+0+16*0)) False (aW (aH z.Md.length 1000) (k (.loc (14+gs.length)) (TZ {z with used:=z.used+16*0,last:=z.last+1,Md:=dq (.atom (.int (z.last+1))) (.int (z.last+1)) (.tup [.int (16*0),.bool am,.int 0]) z.Md,v7:=z.v7+1} (z.last+1) 0 [] 0 gs))):=DZ z h n k
noncomputable def gL (R:List TV) (J:Nat) (M:Nat) (o:Option (TV × TV)) (r:List (aU × TV)):aB:=gE (("rows",.lst R)::("mate",.loc J)::("many",.int (aL M))::(Qm "key" "thing" o++r))
theorem QT (R:TV) (J:Nat) (T:List MO) (n:Nat) (C:CT) (K:aO->aB->List MO->Prop):(up (CL (n+59) C) 3).exec (dw 1) (gE [("rows",R),("mate",.loc J)]) T K bB=
  C (.ref 690) [.loc 5,.int 12] T (λb G=>Cu .Add (.int 7) b G λv I=>K .next (gE [("rows",R),("mate",.loc J),("many",v)]) I) bB:=by kernel_rfl
theorem QU (R:List TV) (J M:Nat) (T:List MO) (n:Nat) (K:aO->aB->List MO->Prop):(vl D (n+62)).exec (dw 2) (gL R J M al []) T K bB=
  aW (aH R.length 1000) (aW (aH R.reverse.length 1000) (gv (vl D (n+61)) (ch (dw 2)) (bG (dw 2)) al (R.reverse.map .inl) (gL R J M al []) T K bB)):=by kernel_rfl
theorem Oh (R:List TV) (J M:Nat) (o:Option (TV × TV)) (a b:TV) (T:List MO) (n:Nat) (K:aB->List MO->Prop):(vl D (n+61)).asg (ch (dw 2)) (.tup [a,b]) (gL R J M o []) T K bB=K (gL R J M (ac (a,b)) []) T:=by induction o <;> kernel_rfl
theorem Kp (R:List TV) (J M:Nat) (a b:TV) (z:Z) (gs:List MO) (n:Nat) (C:CT) (K:aO->aB->List MO->Prop):bl (up (CL (n+59) C) 2) (bG (dw 2)) (gL R J M (ac (a,b)) []) (TT z gs) K bB=
  C (.ref 547) [.loc 6,.loc J,a,b] (TT z gs) (λY T1=>K .next (gL R J M (ac (a,b)) []) T1) bB:=by kernel_rfl
theorem L4 (i:Nat) (hi:i=3∨i=7) (R:List TV) (J M:Nat) (o:Option (TV × TV)) (r:List (aU × TV)) (T:List MO) (n:Nat) (K:aO->aB->List MO->Prop):(vl D (n+62)).exec (dw i) (gL R J M o r) T K bB=
  aW (decide (0≤aL M)) (aW (decide (aL M≤1000)) (aW (aH M 1000) (gv (vl D (n+61)) (ch (dw i)) (bG (dw i)) al (((dU M).map λj=>TV.int (aL j)).map .inl) (gL R J M o r) T K bB))):=by
 rcases hi with rfl | rfl <;> induction o <;> kernel_rfl
noncomputable def nr:Option (TV × Option TV)->List (aU × TV)
 | none=>[]
 | some (y,al)=>[("number",y)]
 | some (y,ac t)=>[("number",y),("told",t)]
theorem HC (i:Nat) (hi:i=3∨i=7) (R:List TV) (J M:Nat) (o:Option (TV × TV)) (q:Option (TV × Option TV)) (a:TV) (T:List MO) (n:Nat) (K:aB->List MO->Prop):(vl D (n+61)).asg (ch (dw i)) a (gL R J M o (nr q)) T K bB=K (gL R J M o (nr (ac (a,q.bind (·.2))))) T:=by
 rcases hi with rfl | rfl <;> rcases o with _ | _ <;> induction q using cw with
 | none=>kernel_rfl
 | some p=>obtain ⟨_,t⟩:=p;rcases t with _ | _ <;> kernel_rfl
theorem Kq (R:List TV) (J M:Nat) (o:Option (TV × TV)) (j:Nat) (z:Z) (gs:List MO) (n:Nat) (C:CT) (K:aO->aB->List MO->Prop):bl (up (CL (n+59) C) 2) (bG (dw 3)) (gL R J M o (nr (ac (.int (aL j),al)))) (TT z gs) K bB=
  C (.ref 547) [.loc 6,.loc J,dT (100+aL j),dT (aL j)] (TT z gs) (λY T1=>K .next (gL R J M o (nr (ac (.int (aL j),al)))) T1) bB:=by induction o <;> kernel_rfl
theorem Ks (R:List TV) (J M:Nat) (o:Option (TV × TV)) (j:Nat) (t:TV) (z:Z) (gs:List MO) (n:Nat) (C:CT) (K:aO->aB->List MO->Prop):bl (up (CL (n+59) C) 2) (bG (dw 7)) (gL R J M o (nr (ac (.int (aL j),ac t)))) (TT z gs) K bB=
  C (.ref 554) [.loc 6,.loc J,dT (100+aL j)] (TT z gs) (λY T1=>K .next (gL R J M o (nr (ac (.int (aL j),ac t)))) T1) bB:=by induction o <;> kernel_rfl
noncomputable def u8 (j:Nat):KM:=.inr j
noncomputable def HD:rt:=cZ (ry 49 8) []
noncomputable def dS (i:Nat):cg:=HD.body.getD i (.Pass default)
noncomputable def dE (J:Nat) (key:TV) (r:List (aU × TV)):aB:=⟨HD.scope,("self",.loc 6)::("body",.loc J)::("key",key)::r,[],al⟩
theorem D0 (J:Nat) (key:TV) (T:List MO) (n:Nat) (k:VK) (x:VX):(vl D (n+50)).call (.ref 554) [.loc 6,.loc J,key] T k x=bl (vl D (n+49)) [dS 0,dS 1] (dE J key []) T (fi k) x:=
 kS (E:=vl D (n+49)) (fd:=HD) (by kernel_rfl) (by kernel_rfl) (λT=>by kernel_rfl) (by kernel_rfl) (by kernel_rfl)
def D1 (j:Nat) (z:Z) (num mo:Int) (E:List (bJ × TV × TV)) (v:Nat) (l P g:qZ) (gs:List MO) (n:Nat) (k:VK) (x:VX):Prop:=bl (vl D (n+49)) [dS 0,dS 1] (dE (14+gs.length) (dT (100+aL j)) []) (TX z l P num mo E v g gs) (fi k) x
def D2 (j:Nat) (z:Z) (num mo:Int) (E:List (bJ × TV × TV)) (v:Nat) (l P g:qZ) (gs:List MO) (n:Nat) (k:VK) (x:VX):Prop:=
  aW (bU (100+aL j).natAbs (2 ^ 60)) (br (g (u8 j).key).isSome (aW (aH E.length 1000) (bV (g (u8 j).key) False λY=>k .none (TX z l P num mo (ik (u8 j).key E) (v+1) (getD (ik (u8 j).key E)) gs)))
   (k .none (TX z l P num mo E v g gs)))
theorem D3 (j:Nat) (z:Z) (num mo:Int) (E:List (bJ × TV × TV)) (v:Nat) (l P g:qZ) {gs:List MO} (h:ky gs) (n:Nat) (k:VK) (x:VX):D1 j z num mo E v l P g gs n k x=D2 j z num mo E v l P g gs n k x:=by rcases dM h with ⟨_,_,_,_,_,rfl⟩ | ⟨_,_,_,_,_,_,rfl⟩<;> kernel_rfl
theorem Kt (j:Nat) (z:Z) (num mo:Int) (E:List (bJ × TV × TV)) (v:Nat) (l P g:qZ) {gs:List MO} (h:ky gs) (n:Nat) (k:VK) (x:VX):bl (vl D (n+49)) [dS 0,dS 1] (dE (14+gs.length) (dT (100+aL j)) []) (TX z l P num mo E v g gs) (fi k) x=
  aW (bU (100+aL j).natAbs (2 ^ 60)) (br (g (u8 j).key).isSome (aW (aH E.length 1000) (bV (g (u8 j).key) False λY=>k .none (TX z l P num mo (ik (u8 j).key E) (v+1) (getD (ik (u8 j).key E)) gs)))
   (k .none (TX z l P num mo E v g gs))):=D3 j z num mo E v l P g h n k x
noncomputable def Ku:bJ->Int
 | .tup [_,.int x]=>x
 | _=>0
theorem HE (v:V7) (j:Nat):v.key≠(u8 j).key:=λh=>by
 have h2:Ku v.key=(100+aL j)*1000000:=congrArg Ku h;have G:Ku v.key≤1000000:=by induction v <;> decide
 exact by lia
theorem HF {i j:Nat} (h:(u8 i).key=(u8 j).key):i=j:=by have h2:(100+aL i)*1000000=(100+aL j)*1000000:=congrArg Ku h;exact by lia
theorem HG {k:bJ}:∀{l:List (bJ × TV × TV)},(∀d∈l,d.1≠k)->cR k l=al:=by
 intro G;induction G with
 | nil=>intro _;exact rfl
 | cons d l V=>intro h;have P:=V λe I=>h e (aE _ I);unfold cR at P ⊢;refine ag (List.lookup_cons ..) (ag (show (k==d.1)=am from beq_eq_false_iff_ne.mpr (fw (h d (aA ..))) ..) ?_);exact P
theorem HH {k:bJ} {p:TV × TV} {B:List (bJ × TV × TV)}:∀{A:List (bJ × TV × TV)},(∀d∈A,d.1≠k)->cR k (A++(k,p)::B)=ac p∧ik k (A++(k,p)::B)=A++B:=by
 intro G;induction G with
 | nil=>intro _;exact ⟨by unfold cR;exact ag (cE ..) (ag (List.lookup_cons ..) (ag (beq_self_eq_true ..) rfl)),by refine ag (cE ..) ?_;rw [ik];refine ag (if_pos rfl ..) ?_;rfl⟩
 | cons d A V=>intro h;refine ah (V λe I=>h e (aE _ I)) λh1 h2=>?_;unfold cR at h1 ⊢;refine ag (kg ..) (ag (List.lookup_cons ..) ?_);refine ag (show (k==d.1)=am from beq_eq_false_iff_ne.mpr (fw (h d (aA ..))) ..) ?_;rw [ik];refine ag (if_neg (h d (aA ..)) ..) (ag (h2 ..) ?_);exact ⟨h1,rfl⟩
noncomputable def fY (j:Nat):bJ × TV × TV:=(u8 j).ent (aL j)
theorem Kv {e:bX} {A:List bX} (h:∀d∈A,d.1.cls≠e.1.cls):cR e.1.key (A.map bR)=al:=HG λd hd q=>by refine ae (cU.mp hd) λa G e2=>?_;subst e2;exact h a G ((fF a.1 e.1).1.mp q)
theorem Cf {j:Nat} {L:List bX} {A:List Nat} (h:∀a∈A,a≠j):∀d∈L.map bR++A.map fY,d.1≠(u8 j).key:=λd hd q=>by
 refine bk (bb.mp hd) (λhd=>?_) λhd=>?_
 ·refine ae (cU.mp hd) λa _ e2=>?_;subst e2;exact HE a.1 j q
 ·refine ae (cU.mp hd) λa G e2=>?_;subst e2;exact h a G (HF q)
theorem QV {R:List TV} {G:Nat} {num:Int} {gs:List MO} (hg:ky gs) {n:Nat} {K:aO->aB->List MO->Prop}:∀(M A:List bX) (o:Option (TV × TV)) {z:Z} {mo:Int} {v:Nat},MI z num mo (A.map bR)->ND (A++M)->(A++M).length≤8->
  (∀y J r o',HB z y->MI y num J ((A++M).map bR)->K .next (gL R (14+gs.length) G o' []) (TZ y num J ((A++M).map bR) r gs))->
  gv (vl D (n+61)) (ch (dw 2)) (bG (dw 2)) al ((M.map gp).map .inl) (gL R (14+gs.length) G o []) (TZ z num mo (A.map bR) v gs) K bB:=by
 intro O;induction O with
 | nil=>intro A o z mo v I _ _ h;have:=h z mo v o (.refl z);rw [bW] at this;exact this I
 | cons e M V=>
  intro A o z mo v I p hl h;have f:A++e::M=(A++[e])++M:=by rw [bI];rfl
  rw [aT,aT,lq,show gp e=.tup [e.1.kept,dT e.2] from rfl,Oh];have l:=Kp R (14+gs.length) G e.1.kept (dT e.2) z (gs++[mB num mo (15+gs.length),gY (A.map bR) v]) n (vl D (n+59)).call (tA (vl D (n+61)) (ch (dw 2)) (bG (dw 2)) ((M.map gp).map .inl) K);rw [gu] at l;refine cast l.symm ?_;have hf:=Kv (e:=e) (A:=A) λd hd=>(List.pairwise_append.mp p).2.2 d hd e (aA ..);refine Ce (n:=n+9) (m:=.inl e.1) (c:=e.2) trivial hg I hf (by rw [ar];rw [aJ] at hl;lia) λy J r F S=>ag (j5 ..) ?_;rw [(show A.map bR++[KM.ent (.inl e.1) e.2]=(A++[e]).map bR by rw [dQ];rfl)] at S ⊢;refine V (A++[e]) _ S (by rw [← f];exact p) (by rw [← f];exact hl) λz2 P v2 o2 Y W=>?_;rw [← f] at W ⊢;exact h z2 P v2 o2 (F.trans Y) W
theorem QW {R:List TV} {O:Nat} {num:Int} {gs:List MO} (hg:ky gs) {o:Option (TV × TV)} {L:List bX} (hL:L.length≤8) {n:Nat} {K:aO->aB->List MO->Prop}:∀(c j:Nat) (A:List Nat) (q:Option (TV × Option TV)) {z:Z} {mo:Int} {v:Nat},(∀a∈A,a <j)->A.length=j->j+c≤18->(q.bind (·.2))=al->MI z num mo (L.map bR++A.map fY)->
  (∀y J v' p,HB z y->(p.bind (·.2))=al->(c≠0∨q.isSome=au->p.isSome=au)->MI y num J (L.map bR++(A++bt j c).map fY)->K .next (gL R (14+gs.length) O o (nr p)) (TZ y num J (L.map bR++(A++bt j c).map fY) v' gs))->
  gv (vl D (n+61)) (ch (dw 3)) (bG (dw 3)) al (((bt j c).map λj=>TV.int (aL j)).map .inl) (gL R (14+gs.length) O o (nr q)) (TZ z num mo (L.map bR++A.map fY) v gs) K bB:=by
 intro f;induction f with
 | zero=>intro j A q z mo v _ _ _ V I h;have:=h z mo v q (.refl z) V (λh=>h.elim (absurd rfl) id);rw [show bt j 0=[] from rfl,bW] at this;exact this I
 | succ c S=>
  intro j A q z mo v hA hj hc V I h;have ea:A++bt j (c+1)=(A++[j])++bt (j+1) c:=by rw [kj,bI];rfl
  rw [kj,aT,aT,lq,HC 3 (.inl rfl),V];have eb:=Kq R (14+gs.length) O o j z (gs++[mB num mo (15+gs.length),gY (L.map bR++A.map fY) v]) n (vl D (n+59)).call (tA (vl D (n+61)) (ch (dw 3)) (bG (dw 3)) (((bt (j+1) c).map λj=>TV.int (aL j)).map .inl) K);rw [gu] at eb;refine cast eb.symm ?_;have hf:=HG (Cf (j:=j) (L:=L) (A:=A) λa G=>oD (hA a G));refine Ce (n:=n+9) (m:=u8 j) (c:=aL j) (show j <18 by lia) hg I hf (by rw [aJ,ar,ar];lia) λy J v' F r=>ag (j5 ..) ?_;rw [(show L.map bR++A.map fY++[(u8 j).ent (aL j)]=L.map bR++(A++[j]).map fY by rw [dQ,bI];rfl)] at r ⊢;refine S (j+1) (A++[j]) (ac (.int (aL j),al)) (λa G=>?_) (by rw [aJ,bK,hj]) (by lia) rfl r λz2 l v2 q2 F2 P W I2=>?_
  ·rcases bb.mp G with G | G
   ·exact mF (hA a G)
   ·rw [aV.mp G];exact eQ j
  ·rw [← ea] at I2 ⊢;refine h z2 l v2 q2 (F.trans F2) P (λY=>W (.inr rfl)) I2
theorem QX {R:List TV} {G:Nat} {num:Int} {gs:List MO} (r:ky gs) {o:Option (TV × TV)} {t:TV} {L:List bX} (hL:L.length≤8) {n:Nat} {K:aO->aB->List MO->Prop}:∀(c j:Nat) (y:TV) {z:Z} {mo:Int} {v:Nat},j+c≤18->MI z num mo (L.map bR++(bt j c).map fY)->
  (∀v' y',MI z num mo (L.map bR)->K .next (gL R (14+gs.length) G o (nr (ac (y',ac t)))) (TZ z num mo (L.map bR) v' gs))->
  gv (vl D (n+61)) (ch (dw 7)) (bG (dw 7)) al (((bt j c).map λj=>TV.int (aL j)).map .inl) (gL R (14+gs.length) G o (nr (ac (y,ac t)))) (TZ z num mo (L.map bR++(bt j c).map fY) v gs) K bB:=by
 intro P;induction P with
 | zero=>intro j y z mo v _ I h;have:=h v y;rw [show L.map bR++(bt j 0).map fY=L.map bR from bW _] at*;exact this I
 | succ c V=>
  intro j y z mo v hc I h;rw [kj,aT] at I ⊢;refine ag (aT ..) (ag (aT ..) (ag (lq ..) (ag (HC 7 (.inr rfl) ..) ?_)));have S:=Ks R (14+gs.length) G o j t z (gs++[mB num mo (15+gs.length),gY (L.map bR++fY j::(bt (j+1) c).map fY) v]) n (vl D (n+59)).call (tA (vl D (n+61)) (ch (dw 7)) (bG (dw 7)) (((bt (j+1) c).map λj=>TV.int (aL j)).map .inl) K);rw [gu] at S;refine cast S.symm ?_;have J:=Cf (j:=j) (L:=L) (A:=[]) (λa l=>nomatch l);rw [gI,bW] at J
  ((first | refine ah (HH (k:=(u8 j).key) (p:=(fY j).2) (B:=(bt (j+1) c).map fY) J) ?_ | refine aI (HH (k:=(u8 j).key) (p:=(fY j).2) (B:=(bt (j+1) c).map fY) J) ?_);intro h1 h2)
  have O:=I.cap;have W:((L.map bR++(bt (j+1) c).map fY).length:Int)≤mo:=by rw [aJ,ar,bf,ar] at O;refine ag (aJ ..) (ag (ar ..) (ag (ar ..) ?_));exact gd ‹_›
  refine ag (show n+59=(n+9)+50 from rfl ..) (ag (D0 ..) ?_);have f:=Kt j z num mo (L.map bR++fY j::(bt (j+1) c).map fY) v (getD z.Md) (getD z.b0.E) (getD (L.map bR++fY j::(bt (j+1) c).map fY)) r (n+9) (λY T1=>tA (vl D (n+61)) (ch (dw 7)) (bG (dw 7)) (((bt (j+1) c).map λj=>TV.int (aL j)).map .inl) K .next (gL R (14+gs.length) G o (nr (ac (.int (aL j),ac t)))) T1) bB;have h1:getD (L.map bR++fY j::(bt (j+1) c).map fY) (u8 j).key=ac (fY j).2:=h1;have h2:ik (u8 j).key (L.map bR++fY j::(bt (j+1) c).map fY)=L.map bR++(bt (j+1) c).map fY:=h2;rw [h1,h2] at f;refine cast f.symm (aK (gh (Qb j (by lia))) (aK (bg (by refine ag (aJ ..) (ag (ar ..) (ag (bf ..) (ag (ar ..) (ag (tR ..) ?_))));exact by lia)) ?_));show tA _ _ _ _ _ .next _ _;refine ag (j5 ..) (V (j+1) _ (by lia) ⟨I.made,I.ml,W,I.m1,I.u0,I.u1⟩ h)
def Kw (R:List TV) (M:Nat) (o:Option (TV × TV)) (q:Option (TV × Option TV)) (z:Z) (num mo:Int) (E:List (bJ × TV × TV)) (v:Nat) (gs:List MO) (n:Nat) (K:aO->aB->List MO->Prop):Prop:=(vl D (n+62)).exec (dw 4) (gL R (14+gs.length) M o (nr q)) (TZ z num mo E v gs) K bB
def Kx (R:List TV) (M:Nat) (o:Option (TV × TV)) (q:Option (TV × Option TV)) (z:Z) (num mo:Int) (E:List (bJ × TV × TV)) (v:Nat) (gs:List MO) (n:Nat) (K:aO->aB->List MO->Prop):Prop:=
  aW (aH E.length 1000) (aW (aH R.length 1000) (br (!((E.length:Int)==(R.length:Int)+aL M)) (K (.ret (.bool am)) (gL R (14+gs.length) M o (nr q)) (TZ z num mo E v gs))
   (aW (aH R.length 1000) (br (decide (mo <(R.length:Int)+aL M)) (K (.ret (.bool am)) (gL R (14+gs.length) M o (nr q)) (TZ z num mo E v gs)) (K .next (gL R (14+gs.length) M o (nr q)) (TZ z num mo E v gs))))))
theorem Ky (R:List TV) (M:Nat) (o:Option (TV × TV)) (q:Option (TV × Option TV)) (z:Z) (num mo:Int) (E:List (bJ × TV × TV)) (v:Nat) {gs:List MO} (h:ky gs) (n:Nat) (K:aO->aB->List MO->Prop):Kw R M o q z num mo E v gs n K=Kx R M o q z num mo E v gs n K:=by
 have V:∀q:Option (TV × Option TV),q=al∨(∃a,q=ac (a,al))∨∃a b,q=ac (a,ac b):=λq=>match q with | none=>.inl rfl | some (a,al)=>.inr (.inl ⟨_,rfl⟩) | some (a,ac b)=>.inr (.inr ⟨_,_,rfl⟩)
 rcases dM h with ⟨_,_,_,_,_,rfl⟩ | ⟨_,_,_,_,_,_,rfl⟩<;> rcases o with _ | _ <;> rcases V q with rfl | ⟨_,rfl⟩ | ⟨_,_,rfl⟩<;> kernel_rfl
theorem QY (R:List TV) (M:Nat) (o:Option (TV × TV)) (q:Option (TV × Option TV)) (z:Z) (num mo:Int) (E:List (bJ × TV × TV)) (v:Nat) {gs:List MO} (h:ky gs) (n:Nat) (K:aO->aB->List MO->Prop):(vl D (n+62)).exec (dw 4) (gL R (14+gs.length) M o (nr q)) (TZ z num mo E v gs) K bB=
  aW (aH E.length 1000) (aW (aH R.length 1000) (br (!((E.length:Int)==(R.length:Int)+aL M)) (K (.ret (.bool am)) (gL R (14+gs.length) M o (nr q)) (TZ z num mo E v gs))
   (aW (aH R.length 1000) (br (decide (mo <(R.length:Int)+aL M)) (K (.ret (.bool am)) (gL R (14+gs.length) M o (nr q)) (TZ z num mo E v gs)) (K .next (gL R (14+gs.length) M o (nr q)) (TZ z num mo E v gs)))))):=Ky R M o q z num mo E v h n K
noncomputable def c5:aC:=GR (dw 5)
noncomputable def RR (o:Option TV):aB:=⟨eO QQ.scope (LL c5),uf "row" o,[],al⟩
theorem QZ (R:List TV) (J M:Nat) (o:Option (TV × TV)) (y:TV) (T:List MO) (n:Nat) (C:CT) (K:aO->aB->List MO->Prop):(up (CL (n+60) C) 2).exec (dw 5) (gL R J M o (nr (ac (y,al)))) T K bB=
  C (.ref 328) [.loc J] T (λO T1=>Cy O T1 λG g=>dH (up (CL (n+60) C) 1) (iq c5) (ir c5) [] g G (RR al) T1 [] λacc I=>K .next (gL R J M o (nr (ac (y,ac (.lst acc))))) I) bB:=by
 induction o <;> kernel_rfl
theorem Kz (o:Option TV) (a:TV) (c:Int) (T:List MO) (n:Nat) (P:TV->aB->List MO->Prop) (J:aB->List MO->Prop):
  (vl D (n+61)).asg (ir c5) (.tup [a,dT c]) (RR o) T (λG T1=>jA (vl D (n+61)) G [] T1 λb I=>br b ((vl D (n+61)).ev (iq c5) G I (λv O=>P v G O) bB) (J G I)) bB=P (.int c) (RR (ac (.tup [a,dT c]))) T:=by
 induction o <;> kernel_rfl
noncomputable def SY (e:aC):aC:=eS e0 (v:=e) (xBinOp:=λl Y Y Y=>l)
noncomputable def SZ (e:aC):aC:=eS e0 (v:=e) (xBinOp:=λY Y r Y=>r)
noncomputable def c6:aC:=SY (AF (Hs (mx (dw 6))))
noncomputable def Q0:aC:=SZ (AF (Hs (mx (dw 6))))
noncomputable def RS (o:Option TV):aB:=⟨eO QQ.scope (LL c6),uf "row" o,[],al⟩
theorem Q1:dw 6=.If (.BoolOp .Or [Hs (mx (dw 6)),Kd (mx (dw 6))] (mx (dw 6)).pos) (LM (dw 6)) [] (NM (dw 6)):=by kernel_rfl
theorem S0 (R G:List TV) (J M:Nat) (o:Option (TV × TV)) (y:TV) (T:List MO) (n:Nat) (K:Bool->List MO->Prop):(vl D (n+60)).evT (Hs (mx (dw 6))) (gL R J M o (nr (ac (y,ac (.lst G))))) T K bB=
  aW (aH R.length 1000) (aW (aH R.reverse.length 1000) (dH (vl D (n+57)) (iq c6) (ir c6) [] al R.reverse (RS al) T [] λacc O=>(vl D (n+58)).ev Q0 (gL R J M o (nr (ac (y,ac (.lst G))))) O (λb P=>Cu .Add (.lst acc) b P λb I=>nz .NotEq (.lst G) b I λt=>K t I) bB)):=by
 induction o <;> kernel_rfl
theorem Oi (R:List TV) (G:TV) (J M:Nat) (o:Option (TV × TV)) (y:TV) (T:List MO) (n:Nat) (k:VK):(vl D (n+58)).ev Q0 (gL R J M o (nr (ac (y,ac G)))) T k bB=
  aW (decide (0≤aL M)) (aW (decide (aL M≤1000)) (aW (aH M 1000) (k (.lst ((dU M).map λj=>TV.int (aL j))) T))):=by
 induction o <;> kernel_rfl
theorem KA (o:Option TV) (a:TV) (c:Int) (T:List MO) (n:Nat) (P:TV->aB->List MO->Prop) (J:aB->List MO->Prop):
  (vl D (n+57)).asg (ir c6) (.tup [a,dT c]) (RS o) T (λG T1=>jA (vl D (n+57)) G [] T1 λb I=>br b ((vl D (n+57)).ev (iq c6) G I (λv O=>P v G O) bB) (J G I)) bB=P (.int c) (RS (ac (.tup [a,dT c]))) T:=by
 induction o <;> kernel_rfl
theorem S1 (R:List TV) (G:TV) (J M:Nat) (o:Option (TV × TV)) (y:TV) (T:List MO) (n:Nat) (C:CT) (K:Bool->List MO->Prop):(up (CL (n+58) C) 2).evT (Kd (mx (dw 6))) (gL R J M o (nr (ac (y,ac G)))) T K bB=C (.ref 363) [.loc 8,.loc J] T (uY K) bB:=by induction o <;> kernel_rfl
noncomputable def Q2 (J:Nat) (o:Option TV):aB:=⟨eO Az.scope (LL fu),uf "key" o,[("self",.inr (.loc J))],al⟩
def AT (z:Z) (num mo:Int) (E:List (bJ × TV × TV)) (v:Nat) (gs:List MO) (n:Nat) (k:VK) (x:VX):Prop:=(vl D (n+14)).call (.ref 328) [.loc (14+gs.length)] (TZ z num mo E v gs) k x
def AU (z:Z) (num mo:Int) (E:List (bJ × TV × TV)) (v:Nat) (gs:List MO) (n:Nat) (k:VK) (x:VX):Prop:=
  aW (aH E.length 1000) (dH (vl D (n+7)) (iq fu) (ir fu) [] (ac (15+gs.length,gY E v)) (E.map (·.2.1)) (Q2 (14+gs.length) al) (TZ z num mo E v gs) [] λacc G=>aW (aH acc.length 1000) (k (.lst acc) G))
theorem AV (z:Z) (num mo:Int) (E:List (bJ × TV × TV)) (v:Nat) {gs:List MO} (h:ky gs) (n:Nat) (k:VK) (x:VX):AT z num mo E v gs n k x=AU z num mo E v gs n k x:=by rcases dM h with ⟨_,_,_,_,_,rfl⟩ | ⟨_,_,_,_,_,_,rfl⟩<;> kernel_rfl
theorem HI (z:Z) (num mo:Int) (E:List (bJ × TV × TV)) (v:Nat) {gs:List MO} (h:ky gs) (n:Nat) (k:VK) (x:VX):(vl D (n+14)).call (.ref 328) [.loc (14+gs.length)] (TZ z num mo E v gs) k x=
  aW (aH E.length 1000) (dH (vl D (n+7)) (iq fu) (ir fu) [] (ac (15+gs.length,gY E v)) (E.map (·.2.1)) (Q2 (14+gs.length) al) (TZ z num mo E v gs) [] λacc G=>aW (aH acc.length 1000) (k (.lst acc) G)):=AV z num mo E v h n k x
theorem AW (m:KM) (S:m.ok) (c:Int) (o:Option TV) (z:Z) (num mo:Int) (E:List (bJ × TV × TV)) (v:Nat) (g:qZ) {gs:List MO} (h:ky gs) (n:Nat) (P:TV->aB->List MO->Prop) (J:aB->List MO->Prop):
  (vl D (n+7)).asg (ir fu) m.word (Q2 (14+gs.length) o) (TX z (getD z.Md) (getD z.b0.E) num mo E v (ln m.key (ac (m.ent c).2) g) gs) (λG T1=>jA (vl D (n+7)) G [] T1 λb I=>br b ((vl D (n+7)).ev (iq fu) G I (λv O=>P v G O) bB) (J G I)) bB=
  P (.tup [m.kept,dT c]) (Q2 (14+gs.length) (ac m.word)) (TX z (getD z.Md) (getD z.b0.E) num mo E v (ln m.key (ac (m.ent c).2) g) gs):=by
 rcases dM h with ⟨_,_,_,_,_,rfl⟩ | ⟨_,_,_,_,_,_,rfl⟩<;> induction o <;> induction m with
 | inl w=>induction w <;> kernel_rfl
 | inr j=>refine Pk j S ?_ ?_ ?_ ?_ ?_ ?_ ?_ ?_ ?_ ?_ ?_ ?_ ?_ ?_ ?_ ?_ ?_ ?_ <;> kernel_rfl
noncomputable def HJ (p:TV × Int):TV:=.tup [p.1,dT p.2]
noncomputable def yV (p:TV × Int):TV:=.int p.2
theorem Q3 {T:List MO} {n:Nat} {k:Ct}:∀(M:List (TV × Int)) (acc:List TV) (o:Option TV),acc.length+M.length≤1000->k (acc++M.map yV) T->
  dH (vl D (n+61)) (iq c5) (ir c5) [] al (M.map HJ) (RR o) T acc k:=by
 intro G;induction G with
 | nil=>intro acc o _ h;exact by rw [gI,bW] at h;exact h
 | cons p M V=>intro acc o hl h;rw [bf] at hl;exact cast (Kz o p.1 p.2 T n _ _).symm (aK (bg (by lia)) (V (acc++[.int p.2]) _ (by refine ag (aJ ..) (ag (bK ..) ?_);exact by lia) (by refine ag (bI ..) ?_;exact h)))
theorem L5 {T:List MO} {n:Nat} {k:Ct}:∀(M:List (TV × Int)) (acc:List TV) (o:Option TV),acc.length+M.length≤1000->k (acc++M.map yV) T->
  dH (vl D (n+57)) (iq c6) (ir c6) [] al (M.map HJ) (RS o) T acc k
 | [],acc,o,_,h=>by rw [gI,bW] at h;exact h
 | p::M,acc,o,hl,h=>by rw [bf] at hl;exact cast (KA o p.1 p.2 T n _ _).symm (aK (bg (by lia)) (L5 M (acc++[.int p.2]) _ (by refine ag (aJ ..) (ag (bK ..) ?_);exact by lia) (by refine ag (bI ..) ?_;exact h)))
theorem HK (z:Z) (num mo:Int) (E:List (bJ × TV × TV)) (v:Nat) {gs:List MO} (h:ky gs):(TZ z num mo E v gs)[15+gs.length]? =ac (gY E v):=by rcases dM h with ⟨_,_,_,_,_,rfl⟩ | ⟨_,_,_,_,_,_,rfl⟩<;> rfl
noncomputable def pQ (q:KM × Int):TV × Int:=(q.1.kept,q.2)
theorem HL {z:Z} {num mo:Int} {E:List (bJ × TV × TV)} {v:Nat} {gs:List MO} (G:ky gs) {n:Nat} {k:Ct}:∀(M:List (KM × Int)) (acc:List TV) (o:Option TV),(∀q∈M,q.1.ok∧cR q.1.key E=ac (q.1.ent q.2).2)->acc.length+M.length≤1000->k (acc++(M.map pQ).map HJ) (TZ z num mo E v gs)->
  dH (vl D (n+7)) (iq fu) (ir fu) [] (ac (15+gs.length,gY E v)) (M.map λq=>q.1.word) (Q2 (14+gs.length) o) (TZ z num mo E v gs) acc k:=by
 intro I;induction I with
 | nil=>intro acc o _ _ h;exact ⟨HK z num mo E v G,by rw [gI,gI,bW] at h;exact h⟩
 | cons q M V=>intro acc o O hl h;refine ⟨HK z num mo E v G,?_⟩;refine ah (O q (aA ..)) λh1 h2=>?_;have J:=AS (z:=z) (num:=num) (mo:=mo) (v:=v) (gs:=gs) h2;refine ag (J ..) (cast (AW q.1 h1 q.2 o z num mo E v _ G n _ _).symm ?_);refine bZ (J ..) ?_;rw [bf] at hl;refine aK (bg (by lia)) (V _ _ (λd hd=>O d (aE _ hd)) (by refine ag (aJ ..) (ag (bK ..) ?_);exact by lia) ?_);refine ag (bI ..) h
noncomputable def rD (q:KM × Int):bJ × TV × TV:=q.1.ent q.2
theorem HM {z:Z} {num mo:Int} {Q:List (KM × Int)} {v:Nat} {gs:List MO} (G:ky gs) (hl:Q.length≤1000) (P:∀q∈Q,q.1.ok∧cR q.1.key (Q.map rD)=ac (q.1.ent q.2).2) {n:Nat} {k:VK} {x:VX} (h:k (.lst ((Q.map pQ).map HJ)) (TZ z num mo (Q.map rD) v gs)):
  (vl D (n+14)).call (.ref 328) [.loc (14+gs.length)] (TZ z num mo (Q.map rD) v gs) k x:=by
 refine ag (HI z num mo _ v G ..) (aK (bg (by refine ag (ar ..) ?_;omega)) ?_);rw [show (Q.map rD).map (·.2.1)=Q.map λq=>q.1.word by rw [bx];rfl];refine HL G Q [] al P (by rw [dA];lia) (ag (cE ..) ?_);exact aK (bg (by rw [ar,ar];omega)) h
theorem Q4 {R:List TV} {M:Nat} {o:Option (TV × TV)} {y:TV} {z:Z} {num mo:Int} {Q:List (KM × Int)} {v:Nat} {gs:List MO} (G:ky gs) (hl:Q.length≤1000) (P:∀q∈Q,q.1.ok∧cR q.1.key (Q.map rD)=ac (q.1.ent q.2).2) {n:Nat} {K:aO->aB->List MO->Prop}
  (h:K .next (gL R (14+gs.length) M o (nr (ac (y,ac (.lst ((Q.map pQ).map yV)))))) (TZ z num mo (Q.map rD) v gs)):(vl D (n+62)).exec (dw 5) (gL R (14+gs.length) M o (nr (ac (y,al)))) (TZ z num mo (Q.map rD) v gs) K bB:=by
 have e:=QZ R (14+gs.length) M o y (TZ z num mo (Q.map rD) v gs) n (vl D (n+60)).call K;rw [gu,gu] at e;refine cast e.symm (HM (n:=n+46) G hl P ?_);refine aK (bg (by refine ag (ar ..) (ag (ar ..) ?_);omega)) ?_;refine Q3 _ [] al (by refine ag (dA ..) (ag (ar ..) ?_);exact by lia) ?_;refine ag (cE ..) h
theorem u9 {k:bJ} {p:TV × TV}:∀{E:List (bJ × TV × TV)},(E.map (·.1)).Nodup->(k,p)∈E->cR k E=ac p
 | d::E,h,m=>by
  rw [aT,cD] at h;unfold cR;refine ag (List.lookup_cons ..) (bk (bj.mp m) (λq=>?_) λq=>?_)
  ·exact bZ (q ..) (ag (beq_self_eq_true ..) rfl)
  ·refine ag (show (k==d.1)=am from beq_eq_false_iff_ne.mpr λw=>h.1 (w▸Me q) ..) ?_;exact u9 h.2 q
noncomputable def D4 (v:V7):KM:=.inl v
noncomputable def UP (e:bX):KM × Int:=(D4 e.1,e.2)
noncomputable def UQ (j:Nat):KM × Int:=(u8 j,aL j)
noncomputable def wG (L:List bX) (N:Nat):List (KM × Int):=L.map UP++(dU N).map UQ
theorem HN (L:List bX) (N:Nat):(wG L N).map rD=L.map bR++(bt 0 N).map fY:=by refine ag (dQ ..) (ag (bx ..) (ag (bx ..) (ag (qL ..) ?_)));rfl
theorem Oj (L:List bX) (N:Nat):(wG L N).length=L.length+N:=by exact ag (aJ ..) (ag (ar ..) (ag (ar ..) (ag (f6 ..) rfl)))
theorem Q5 {L:List bX} (I:ND L) {N:Nat} (P:N≤18):∀q∈wG L N,q.1.ok∧cR q.1.key ((wG L N).map rD)=ac (q.1.ent q.2).2:=by
 have G:(((wG L N).map rD).map (·.1)).Nodup:=by refine ag (bx ..) ?_;refine ag (dQ ..) (ag (bx ..) (ag (bx ..) ?_));refine fZ.mpr ⟨uC.mpr (I.imp λh q=>h ((fF _ _).1.mp q)),uC.mpr (Rl.imp λh q=>h (HF q)),λa J b O q=>?_⟩;refine ae (cU.mp J) λe _ e2=>?_;subst e2;refine ae (cU.mp O) λj _ e2=>?_;subst e2;exact HE e.1 j q
 intro q V;refine ⟨?_,u9 G (Me (f:=rD) V)⟩;refine bk (bb.mp V) (λh=>?_) λh=>?_
 ·refine ae (cU.mp h) λ_ _ e2=>bZ e2 ?_;trivial
 ·refine ae (cU.mp h) λj S e2=>bZ e2 ?_;have:=qB.mp S;exact dh ‹_› ‹_›
noncomputable def AX (a b:Nat) (o:Option TV):aB:=⟨yD.scope,("one",.loc a)::("other",.loc b)::uf "word" o,[],al⟩
theorem Cg (a b:Nat) (T:List MO) (n:Nat) (k:VK):(vl D (n+40)).call (.ref 363) [.loc a,.loc b] T k bB=bl (vl D (n+39)) [pC 0,pC 1,pC 2] (AX a b al) T (fi k) bB:=
 kS (E:=vl D (n+39)) (fd:=yD) (by kernel_rfl) (by kernel_rfl) (λT=>by kernel_rfl) (by kernel_rfl) (by kernel_rfl)
noncomputable def s1 (d:Bool) (J:Nat):Nat:=match d with | false=>8 | true=>J
noncomputable def l1 {α:Type} (d:Bool) (A B:α):α:=match d with | false=>A | true=>B
theorem Q6 (d:Bool) (z:Z) (num mo:Int) (E:List (bJ × TV × TV)) (v:Nat) {gs:List MO} (h:ky gs) (n:Nat) (K:aO->aB->List MO->Prop):(vl D (n+39)).exec (pC 0) (AX (s1 d (14+gs.length)) (s1 (!d) (14+gs.length)) al) (TZ z num mo E v gs) K bB=
  aW (aH (l1 d z.b0.E E).length 1000) (aW (aH (l1 (!d) z.b0.E E).length 1000) (br (!(((l1 d z.b0.E E).length:Int)==((l1 (!d) z.b0.E E).length:Int))) (K (.ret (.bool am)) (AX (s1 d (14+gs.length)) (s1 (!d) (14+gs.length)) al) (TZ z num mo E v gs)) (K .next (AX (s1 d (14+gs.length)) (s1 (!d) (14+gs.length)) al) (TZ z num mo E v gs)))):=by
 rcases dM h with ⟨_,_,_,_,_,rfl⟩ | ⟨_,_,_,_,_,_,rfl⟩<;> induction d <;> kernel_rfl
theorem S2 (d:Bool) (z:Z) (num mo:Int) (E:List (bJ × TV × TV)) (v:Nat) {gs:List MO} (h:ky gs) (n:Nat) (K:aO->aB->List MO->Prop):(vl D (n+39)).exec (pC 1) (AX (s1 d (14+gs.length)) (s1 (!d) (14+gs.length)) al) (TZ z num mo E v gs) K bB=
  aW (aH (l1 d z.b0.E E).length 1000) (gv (vl D (n+38)) (ch (pC 1)) (bG (pC 1)) (ac (s1 d (14+gs.length)+1,gY (l1 d z.b0.E E) (l1 d z.b0.v v))) (((l1 d z.b0.E E).map (·.2.1)).map .inl) (AX (s1 d (14+gs.length)) (s1 (!d) (14+gs.length)) al) (TZ z num mo E v gs) K bB):=by
 rcases dM h with ⟨_,_,_,_,_,rfl⟩ | ⟨_,_,_,_,_,_,rfl⟩<;> induction d <;> kernel_rfl
noncomputable def TL (d:Bool) (z:Z) (num mo:Int) (E:List (bJ × TV × TV)) (v:Nat) (gs:List MO) (w:V7) (o0 o1:Option bX):List MO:=match d with
 | false=>TX z (getD z.Md) (ln w.key (o0.map λe=>(bR e).2) (getD z.b0.E)) num mo E v (ln w.key (o1.map λe=>(bR e).2) (getD E)) gs
 | true=>TX z (getD z.Md) (ln w.key (o1.map λe=>(bR e).2) (getD z.b0.E)) num mo E v (ln w.key (o0.map λe=>(bR e).2) (getD E)) gs
theorem Q7 (d:Bool) (z:Z) (num mo:Int) (v:Nat) (gs:List MO) (w:V7) {L A:List bX} (h0:z.b0.E=L.map bR):TZ z num mo (A.map bR) v gs=TL d z num mo (A.map bR) v gs w (d8 w.cls (l1 d L A)) (d8 w.cls (l1 (!d) L A)):=by have e0:=gn (k:=w.key) (g:=getD z.b0.E) ((congrArg (cR w.key) h0).trans (js w _));have e1:=gn (k:=w.key) (g:=getD (A.map bR)) (js w _);induction d <;> exact (show TZ z num mo (A.map bR) v gs=TX z (getD z.Md) (ln w.key ((d8 w.cls L).map λe=>(bR e).2) (getD z.b0.E)) num mo (A.map bR) v (ln w.key ((d8 w.cls A).map λe=>(bR e).2) (getD (A.map bR))) gs by exact bZ (e0 ..) (bZ (e1 ..) rfl))
def D5 (d:Bool) (o:Option TV) (e:bX) (o1:Option bX) (z:Z) (num mo:Int) (E:List (bJ × TV × TV)) (v:Nat) (gs:List MO) (n:Nat) (O:aB->List MO->Prop) (P:TV->aB->List MO->Prop):Prop:=gA (vl D (n+38)) (ch (pC 1)) (.inl (ft e)) (AX (s1 d (14+gs.length)) (s1 (!d) (14+gs.length)) o) (TL d z num mo E v gs e.1 (ac e) o1) (λI T1=>bl (vl D (n+38)) (bG (pC 1)) I T1 (λf G J=>match f with
   | .next=>O G J
   | .ret v=>P v G J) bB) bB
def D6 (d:Bool) (o:Option TV) (e:bX) (o1:Option bX) (z:Z) (num mo:Int) (E:List (bJ × TV × TV)) (v:Nat) (gs:List MO) (n:Nat) (J:aB->List MO->Prop) (G:TV->aB->List MO->Prop):Prop:=
  match o1 with
  | none=>G (.bool am) (AX (s1 d (14+gs.length)) (s1 (!d) (14+gs.length)) (ac (ft e))) (TL d z num mo E v gs e.1 (ac e) al)
  | some q=>aW (bU e.2.natAbs (2 ^ 60)) (aW (bU q.2.natAbs (2 ^ 60)) (br (!(uZ e.2 q.2)) (G (.bool am) (AX (s1 d (14+gs.length)) (s1 (!d) (14+gs.length)) (ac (ft e))) (TL d z num mo E v gs e.1 (ac e) (ac q))) (J (AX (s1 d (14+gs.length)) (s1 (!d) (14+gs.length)) (ac (ft e))) (TL d z num mo E v gs e.1 (ac e) (ac q)))))
theorem D7 (d:Bool) (o:Option TV) (e:bX) (o1:Option bX) (z:Z) (num mo:Int) (E:List (bJ × TV × TV)) (v:Nat) {gs:List MO} (h:ky gs) (n:Nat) (J:aB->List MO->Prop) (G:TV->aB->List MO->Prop):D5 d o e o1 z num mo E v gs n J G=D6 d o e o1 z num mo E v gs n J G:=by obtain ⟨w,c⟩:=e;rcases dM h with ⟨_,_,_,_,_,rfl⟩ | ⟨_,_,_,_,_,_,rfl⟩<;> cases d <;> cases o1 <;> rcases o with _ | _ <;> induction w <;> kernel_rfl
theorem KB (d:Bool) (o:Option TV) (e:bX) (o1:Option bX) (z:Z) (num mo:Int) (E:List (bJ × TV × TV)) (v:Nat) {gs:List MO} (h:ky gs) (n:Nat) (J:aB->List MO->Prop) (I:TV->aB->List MO->Prop):gA (vl D (n+38)) (ch (pC 1)) (.inl (ft e)) (AX (s1 d (14+gs.length)) (s1 (!d) (14+gs.length)) o) (TL d z num mo E v gs e.1 (ac e) o1) (λO T1=>bl (vl D (n+38)) (bG (pC 1)) O T1 (λf G P=>match f with
   | .next=>J G P
   | .ret v=>I v G P) bB) bB=
  match o1 with
  | none=>I (.bool am) (AX (s1 d (14+gs.length)) (s1 (!d) (14+gs.length)) (ac (ft e))) (TL d z num mo E v gs e.1 (ac e) al)
  | some q=>aW (bU e.2.natAbs (2 ^ 60)) (aW (bU q.2.natAbs (2 ^ 60)) (br (!(uZ e.2 q.2)) (I (.bool am) (AX (s1 d (14+gs.length)) (s1 (!d) (14+gs.length)) (ac (ft e))) (TL d z num mo E v gs e.1 (ac e) (ac q))) (J (AX (s1 d (14+gs.length)) (s1 (!d) (14+gs.length)) (ac (ft e))) (TL d z num mo E v gs e.1 (ac e) (ac q))))):=D7 d o e o1 z num mo E v h n J I
theorem Q8:dw 8=.If (.BoolOp .Or [Hs (mx (dw 8)),Kd (mx (dw 8))] (mx (dw 8)).pos) (LM (dw 8)) [] (NM (dw 8)):=by kernel_rfl
theorem S3 (d:Bool) (R:List TV) (t:TV) (J M:Nat) (o:Option (TV × TV)) (y:TV) (T:List MO) (n:Nat) (C:CT) (K:Bool->List MO->Prop):(up (CL (n+57) C) 3).evT (match d with | false=>Hs (mx (dw 8)) | true=>Kd (mx (dw 8))) (gL R J M o (nr (ac (y,ac t)))) T K bB=
  C (.ref 363) [.loc (s1 d J),.loc (s1 (!d) J)] T (uY λb T1=>K (!b) T1) bB:=by
 cases d <;> cases o <;> kernel_rfl
theorem Q9 (R:List TV) (t:TV) (J M:Nat) (o:Option (TV × TV)) (y:TV) (z:Z) (gs:List MO) (n:Nat) (C:CT) (K:aO->aB->List MO->Prop):(up (CL (n+59) C) 3).exec (dw 9) (gL R J M o (nr (ac (y,ac t)))) (TT z gs) K bB=
  nz .NotEq (.lst R) (.lst []) (TT z gs) λu=>br u (aW (aH R.length 1000) (bV R.getLast? False λr=>qM r (.int 0) (TT z gs) λa T1=>C (.ref 547) [.loc 6,.loc J,a,dT 999] T1 (λY G=>K .next (gL R J M o (nr (ac (y,ac t)))) G) bB)) (K .next (gL R J M o (nr (ac (y,ac t)))) (TT z gs)):=by
 induction o <;> kernel_rfl
theorem Ok (R:List TV) (t:TV) (J M:Nat) (o:Option (TV × TV)) (y:TV) (T:List MO) (n:Nat) (C:CT) (K:aO->aB->List MO->Prop):(up (CL (n+59) C) 3).exec (dw 10) (gL R J M o (nr (ac (y,ac t)))) T K bB=
  C (.ref 363) [.loc 8,.loc J] T (λa T1=>nz .Eq (.lst R) (.lst []) T1 λu=>nz .Eq a (.bool u) T1 λw=>K (.ret (.bool w)) (gL R J M o (nr (ac (y,ac t)))) T1) bB:=by
 induction o <;> kernel_rfl
def HO (z:Z) (num mo c:Int) (E:List (bJ × TV × TV)) (v:Nat) (l P g:qZ) (gs:List MO) (e:bX) (n:Nat) (K:aO->aB->List MO->Prop) (x:VX):Prop:=bl (vl D (n+49)) [pS 3,pS 4,pS 5,pS 6] (pE (14+gs.length) (D4 e.1).th (dT c) [("word",(D4 e.1).word)]) (TX z l P num mo E v (ln e.1.key (ac (bR e).2) g) gs) K x
def HP (z:Z) (num mo c:Int) (E:List (bJ × TV × TV)) (v:Nat) (l P g:qZ) (gs:List MO) (e:bX) (n:Nat) (K:aO->aB->List MO->Prop) (x:VX):Prop:=
  aW (aH E.length 1000) (K .next (pE (14+gs.length) (D4 e.1).th (dT c) [("word",(D4 e.1).word),("kept",e.1.kept)]) (TX z l P num mo (dq e.1.key (.tup e.1.word) (.tup [e.1.kept,dT c]) E) (v+1) (getD (dq e.1.key (.tup e.1.word) (.tup [e.1.kept,dT c]) E)) gs))
theorem HQ (z:Z) (num mo c:Int) (E:List (bJ × TV × TV)) (v:Nat) (l P g:qZ) {gs:List MO} (h:ky gs) (e:bX) (n:Nat) (K:aO->aB->List MO->Prop) (x:VX):HO z num mo c E v l P g gs e n K x=HP z num mo c E v l P g gs e n K x:=by obtain ⟨w,q⟩:=e;rcases dM h with ⟨_,_,_,_,_,rfl⟩ | ⟨_,_,_,_,_,_,rfl⟩<;> induction w <;> kernel_rfl
theorem Ol (z:Z) (num mo c:Int) (E:List (bJ × TV × TV)) (v:Nat) (l P g:qZ) {gs:List MO} (h:ky gs) (e:bX) (n:Nat) (K:aO->aB->List MO->Prop) (x:VX):bl (vl D (n+49)) [pS 3,pS 4,pS 5,pS 6] (pE (14+gs.length) (D4 e.1).th (dT c) [("word",(D4 e.1).word)]) (TX z l P num mo E v (ln e.1.key (ac (bR e).2) g) gs) K x=
  aW (aH E.length 1000) (K .next (pE (14+gs.length) (D4 e.1).th (dT c) [("word",(D4 e.1).word),("kept",e.1.kept)]) (TX z l P num mo (dq e.1.key (.tup e.1.word) (.tup [e.1.kept,dT c]) E) (v+1) (getD (dq e.1.key (.tup e.1.word) (.tup [e.1.kept,dT c]) E)) gs)):=HQ z num mo c E v l P g h e n K x
theorem HR (d:Bool) (z:Z) (num mo:Int) (E:List (bJ × TV × TV)) (v:Nat) {gs:List MO} (h:ky gs):(TZ z num mo E v gs)[s1 d (14+gs.length)+1]? =ac (gY (l1 d z.b0.E E) (l1 d z.b0.v v)):=by rcases dM h with ⟨_,_,_,_,_,rfl⟩ | ⟨_,_,_,_,_,_,rfl⟩<;> induction d <;> rfl
def Sm (L:List bX):Prop:=∀e∈L,0≤e.2∧e.2≤999
theorem Om {d:Bool} {z:Z} {num mo:Int} {E:List (bJ × TV × TV)} {v:Nat} {gs:List MO} (I:ky gs) (b0:z.b0.E.length≤1000) (b1:E.length≤1000) (W:z.b0.E.length≠E.length) {n:Nat} {k:VK} (h:k (.bool am) (TZ z num mo E v gs)):
  (vl D (n+40)).call (.ref 363) [.loc (s1 d (14+gs.length)),.loc (s1 (!d) (14+gs.length))] (TZ z num mo E v gs) k bB:=by
 refine ag (Cg ..) (ag (bv ..) (ag (Q6 d z num mo E v I ..) ?_));have G:(l1 d z.b0.E E).length≤1000∧(l1 (!d) z.b0.E E).length≤1000∧(l1 d z.b0.E E).length≠(l1 (!d) z.b0.E E).length:=by induction d;exact ⟨b0,b1,W⟩;exact ⟨b1,b0,W.symm⟩
 refine aK (bg G.1) (aK (bg G.2.1) (yw ?_ ?_))
 ·refine ag (show (((l1 d z.b0.E E).length:Int)==((l1 (!d) z.b0.E E).length:Int))=am from beq_eq_false_iff_ne.mpr λq=>G.2.2 (Ul q) ..) ?_;rfl
 ·refine ag (g8 ..) (ag (hG ..) ?_);exact h
theorem L6 {d:Bool} {z:Z} {num mo:Int} {L A:List bX} {v:Nat} {gs:List MO} (J:ky gs) (h0:z.b0.E=L.map bR) (nd:ND (l1 d L A)) (sm:Sm (l1 d L A)) (I:Sm (l1 (!d) L A)) {n:Nat} {k:VK}:∀(M:List bX) (o:Option TV),(∀e∈M,e∈l1 d L A)->k (.bool (M.all λe=>match d8 e.1.cls (l1 (!d) L A) with | none=>am | some q=>decide (e.2=q.2))) (TZ z num mo (A.map bR) v gs)->
  gv (vl D (n+38)) (ch (pC 1)) (bG (pC 1)) (ac (s1 d (14+gs.length)+1,gY (l1 d z.b0.E (A.map bR)) (l1 d z.b0.v v))) ((M.map ft).map .inl) (AX (s1 d (14+gs.length)) (s1 (!d) (14+gs.length)) o) (TZ z num mo (A.map bR) v gs) (m9 (vl D (n+39)) [pC 2] (fi k)) bB
 | [],o,_,h=>⟨HR d z num mo _ v J,by refine ag (bp ..) (ag (bv ..) (ag (He ..) (ag (g8 ..) (ag (hG ..) ?_))));exact h⟩
 | e::M,o,hM,h=>by
  refine ⟨HR d z num mo _ v J,?_⟩;have G:=Q7 d z num mo v gs e.1 (A:=A) h0;rw [(gB nd (hM e (aA ..)))] at G;refine ag (G ..) (cast (KB d o e _ z num mo _ v J n _ _).symm ?_);rw [iZ] at h;have P:=sm e (hM e (aA ..));cases hd:d8 e.1.cls (l1 (!d) L A) with
  | none=>rw [hd] at h G;refine ag (g8 ..) (ag (hG ..) (bZ (G ..) ?_));exact h
  | some q=>
   rw [hd] at h G;dsimp only at h;have O:=I q (tB hd).1;refine aK (gh (NF P (by decide))) (aK (gh (NF O (by decide))) ?_);refine ag (yH ..) (bZ (G ..) ?_);by_cases w:e.2=q.2
   ·rw [decide_eq_true w] at h ⊢;exact L6 J h0 nd sm I M _ (λx S=>hM x (aE _ S)) (by rw [iX] at h;exact h)
   ·rw [decide_eq_false w] at h ⊢;rw [ig] at h;exact h
theorem HT {d:Bool} {z:Z} {num mo:Int} {L A:List bX} {v:Nat} {gs:List MO} (I:ky gs) (h0:z.b0.E=L.map bR) (nd:ND (l1 d L A)) (sL:Sm L) (J:Sm A) (hl:L.length≤1000) (W:L.length=A.length) {n:Nat} {k:VK} (h:k (.bool (lr (l1 d L A) (l1 (!d) L A))) (TZ z num mo (A.map bR) v gs)):
  (vl D (n+40)).call (.ref 363) [.loc (s1 d (14+gs.length)),.loc (s1 (!d) (14+gs.length))] (TZ z num mo (A.map bR) v gs) k bB:=by
 have sm:Sm (l1 d L A)∧Sm (l1 (!d) L A):=by rcases d with _ | _;exact ⟨sL,J⟩;exact ⟨J,sL⟩
 have G:(l1 d z.b0.E (A.map bR)).length=L.length∧(l1 (!d) z.b0.E (A.map bR)).length=L.length∧(l1 d L A).length=(l1 (!d) L A).length∧(l1 d z.b0.E (A.map bR)).map (·.2.1)=(l1 d L A).map ft:=by
  have e1:z.b0.E.length=L.length:=by exact ag (h0 ..) (ag (ar ..) rfl)
  have e2:(A.map bR).length=L.length:=by exact ag (ar ..) (ag (W ..) rfl)
  rcases d with _ | _
  ·exact ⟨e1,e2,W,by show z.b0.E.map _=L.map _;refine ag (h0 ..) (ag (bx ..) ?_);rfl⟩
  ·exact ⟨e2,e1,W.symm,by show (A.map bR).map _=A.map _;refine ag (bx ..) ?_;rfl⟩
 refine ag (Cg ..) (ag (bv ..) (ag (Q6 d z num mo _ v I ..) ?_));refine aK (bg (by lia)) (aK (bg (by lia)) (iQ (by refine ag (G.1 ..) (ag (G.2.1 ..) (ag (beq_self_eq_true ..) ?_));rfl) ?_));refine ag (bp ..) (ag (bv ..) (ag (S2 d z num mo _ v I ..) ?_));refine aK (bg (by lia)) (ag (G.2.2.2 ..) ?_);unfold lr at h;rw [decide_eq_true G.2.2.1,iX] at h;exact L6 I h0 nd sm.1 sm.2 _ al (λY h=>h) h
theorem vc {X Y:List bX} (hl:X.length=Y.length) (I:ND Y) (h:∀e∈X,e∈Y):lr X Y=au:=by unfold lr;refine ag (decide_eq_true hl ..) (ag (iX ..) ?_);rw [co];intro e G;refine ag (gB I (h e G) ..) (decide_eq_true rfl)
theorem On {L:List bX} (h:ND L):ND L.reverse:=List.pairwise_reverse.mpr (h.imp fw)
theorem wH {T:List MO} {xs:List Int} (h:xs.length≤1000) {k:Bool->Prop} (G:k am):nz .NotEq (.lst (xs.map .int)) (.lst (xs.map .int)) T k:=by
 have S:∀xs:List Int,dn ((xs.map TV.int).map eY)=ac (xs.map AK.int):=λxs=>by
  induction xs with
  | nil=>rfl
  | cons x xs P=>show (dn ((xs.map TV.int).map eY)).map _=_;refine ag (P ..) ?_;rfl
 refine aK (by unfold mf;refine ag (ar ..) (aD.mpr ⟨bg h,bg h⟩)) ?_;refine ag (jJ ..) ?_;show bV (lH _ _) False _;unfold lH;refine ag (S ..) ?_;show (λt=>k (!t)) (decide _);refine ag (decide_eq_true rfl ..) G
theorem KC (T:List MO) (n:Nat) (k:VK) (x:VX):(vl D (n+63)).call (.ref 731) [.loc 5,.loc 6,.loc 8] T k x=bl (vl D (n+62)) [dw 0,dw 1,dw 2,dw 3,dw 4,dw 5,dw 6,dw 7,dw 8,dw 9,dw 10] (gE []) T (fi k) x:=
 kS (E:=vl D (n+62)) (fd:=QQ) (by kernel_rfl) (by kernel_rfl) (λT=>by kernel_rfl) (by kernel_rfl) (by kernel_rfl)
theorem HU {L A:List bX} {e:bX} (G:e∈L) (sm:∀e∈L,e.2 <999):lr L ((e.1,999)::A)=am:=by unfold lr;rw [Bool.and_eq_false_iff];refine .inr (List.all_eq_false.mpr ⟨e,G,?_⟩);rw [d8];refine ag (if_pos rfl ..) ?_;have:=sm e G;exact λh=>by exact by lia
theorem Ch {L:List bX} (hl:L.length≤8) {T:List MO} {k:Bool->Prop} (h:k (decide (L.length=0))):nz .Eq (.lst (L.map gp)) (.lst []) T k:=by
 refine aK (aD.mpr ⟨bg (by refine ag (ar ..) ?_;exact by lia),rfl⟩) ?_;induction L using aX with
 | nil=>exact h
 | cons e L=>exact h
theorem HV {L:List bX} (hl:L.length≤8) {T:List MO} {k:Bool->Prop} (h:k (!decide (L.length=0))):nz .NotEq (.lst (L.map gp)) (.lst []) T k:=Ch (k:=λt=>k (!t)) hl h
theorem Oo {p q:Bool} {T:List MO} {k:Bool->Prop} (h:k (p==q)):nz .Eq (.bool p) (.bool q) T k:=h
theorem HW {e:bX} {T:List MO} {K:TV->List MO->Prop} (h:K (D4 e.1).th T):bV (ac (gp e)) False λr=>qM r (.int 0) T K:=h
theorem HX {R:List TV} {M:Nat} {o:Option (TV × TV)} {y t:TV} {z:Z} {num mo:Int} {L A:List bX} {v:Nat} {gs:List MO} (J:ky gs) (h0:z.b0.E=L.map bR) (nd:ND L) (sL:Sm L) (O:Sm A) (hl:L.length≤8) (W:L.length=A.length) (G:R=L.map gp) (I:lr L A=decide (L.length=0)) {n:Nat} {k:VK} (h:∀u T,k (.bool au) (.codes 733 u::T)):
  bl (vl D (n+62)) [dw 10] (gL R (14+gs.length) M o (nr (ac (y,ac t)))) (TZ z num mo (A.map bR) v gs) (fi k) bB:=by
 refine ag (bv ..) ?_;have e:=Ok R t (14+gs.length) M o y (TZ z num mo (A.map bR) v gs) n (vl D (n+59)).call (m9 (vl D (n+62)) [] (fi k));rw [gu] at e;refine cast e.symm (HT (d:=false) (n:=n+19) J h0 nd sL O (by lia) W ?_);refine ag (G ..) (Ch hl (Oo ?_));refine ag (show lr (l1 am L A) (l1 (!am) L A)=decide (L.length=0) from I ..) (ag (beq_self_eq_true ..) (ag (g8 ..) (ag (hG ..) ?_)));exact h _ _
theorem Op {z:Z} {num mo:Int} {A:List bX} {d:bX} {v:Nat} {gs:List MO} (G:ky gs) (hl:A.length≤7) {n:Nat} {k:VK} (h:k .none (TZ z num mo (((d.1,(999:Int))::A).map bR) (v+1) gs)):
  (vl D (n+59)).call (.ref 547) [.loc 6,.loc (14+gs.length),(D4 d.1).th,dT 999] (TZ z num mo ((d::A).map bR) v gs) k bB:=by
 have I:dq d.1.key (.tup d.1.word) (.tup [d.1.kept,dT 999]) ((d::A).map bR)=((d.1,(999:Int))::A).map bR:=by refine ag (aT ..) ?_;rw [dq];refine ag (if_pos (show (bR d).1=d.1.key from rfl) ..) ?_;rfl
 refine ag (show n+59=(n+9)+50 from rfl ..) (ag (yT ..) (ag (show [pS 0,pS 1,pS 2,pS 3,pS 4,pS 5,pS 6]=[pS 0,pS 1,pS 2]++[pS 3,pS 4,pS 5,pS 6] from rfl ..) (ag (ou ..) (ag (Cc (D4 d.1) z num mo 999 _ v _ _ _ G ..) ?_))));refine LZ (m:=D4 d.1) trivial (ag (gM ..) ?_);have e3:=Ol z num mo 999 ((d::A).map bR) v (getD z.Md) (getD z.b0.E) (getD ((d::A).map bR)) G d (n+9) (fi k) bB;rw [← AS (by refine ag (js ..) ?_;rw [d8];refine ag (if_pos rfl ..) ?_;rfl),I] at e3;refine cast e3.symm (aK (bg (by refine ag (ar ..) (ag (bf ..) ?_);exact by lia)) ?_);refine ag (nw ..) h
theorem Ra {R:List TV} {M:Nat} {o:Option (TV × TV)} {y t:TV} {z:Z} {num mo:Int} {L A:List bX} {v:Nat} {gs:List MO} (J:ky gs) (h0:z.b0.E=L.map bR) (nd:ND L) (sm:∀e∈L,0≤e.2∧e.2 <999) (hl:L.length≤8) (P:R=L.map gp) (O:A=L.reverse) {n:Nat} {k:VK} (h:∀u T,k (.bool au) (.codes 733 u::T)):
  bl (vl D (n+62)) [dw 9,dw 10] (gL R (14+gs.length) M o (nr (ac (y,ac t)))) (TZ z num mo (A.map bR) v gs) (fi k) bB:=by
 have sL:Sm L:=λe I=>⟨(sm e I).1,by have:=(sm e I).2;exact gd ‹_›⟩;refine ag (bv ..) ?_;have e:=Q9 R t (14+gs.length) M o y z (gs++[mB num mo (15+gs.length),gY (A.map bR) v]) n (vl D (n+59)).call (m9 (vl D (n+62)) [dw 10] (fi k));rw [gu] at e;refine cast e.symm (ag P ?_);refine HV hl (ag (bp ..) ?_);induction A using aX with
 | nil=>have G:L=[]:=List.reverse_eq_nil_iff.mp O.symm;subst G;exact iQ rfl (HX (A:=[]) J h0 nd sL sL hl rfl rfl rfl h)
 | cons d A=>
  have G:L=A.reverse++[d]:=by exact bZ (List.reverse_reverse L ..) (bZ (O ..) (ag (eE ..) rfl))
  have W:L.length=A.length+1:=by refine ag (G ..) (ag (aJ ..) (ag (lg ..) ?_));rfl
  refine yw (by refine ag (decide_eq_false (show ¬L.length=0 by omega) ..) ?_;rfl) (aK (bg (by refine ag (ar ..) ?_;exact by lia)) ?_);rw [show (L.map gp).getLast? =ac (gp d) by rw [G,dQ,List.map_singleton,List.getLast?_append];rfl];refine HW (Op (n:=n) (A:=A) J (by omega) ?_);refine ag (bp ..) (HX (A:=(d.1,(999:Int))::A) J h0 nd sL (λe I=>?_) hl W rfl ?_ h)
  ·rcases bj.mp I with q | q
   ·rw [q];exact ⟨by show (0:Int)≤999;decide,by show (999:Int)≤999;decide⟩
   ·exact sL e (by rw [G];exact f5 _ (kx.mpr q))
  ·rw [HU (by refine ag (G ..) ?_;exact Iy _ (aA ..)) λe I=>(sm e I).2,decide_eq_false (by omega)]
theorem tG {K:Bool->List MO->Prop} {b c:Bool} {T:List MO} (e:b=c) (h:K c T):uY K (.bool b) T:=by refine ag (e ..) ?_;exact h
structure GI (z:Z) (L A:List bX) (R:List TV):Prop where
 e:z.b0.E=L.map bR
 nd:ND L
 sm:∀e∈L,0≤e.2∧e.2 <999
 hl:L.length≤8
 R:R=L.map gp
 A:A=L.reverse
theorem GI.sL {z:Z} {L A:List bX} {R:List TV} (H:GI z L A R):Sm L:=λe G=>⟨(H.sm e G).1,by have:=(H.sm e G).2;exact gd ‹_›⟩
theorem GI.len {z:Z} {L A:List bX} {R:List TV} (H:GI z L A R):A.length=L.length:=by exact ag (H.A ..) (ag (lg ..) rfl)
theorem GI.ndA {z:Z} {L A:List bX} {R:List TV} (H:GI z L A R):ND A:=by refine ag (H.A ..) ?_;exact On H.nd
theorem GI.fr {z y:Z} {L A:List bX} {R:List TV} (H:GI z L A R) (F:HB z y):GI y L A R:=by refine fH F λ_ _ _ e3=>?_;clear F;refine ag e3 ⟨H.e,H.nd,H.sm,H.hl,H.R,H.A⟩
theorem Rb {R:List TV} {M:Nat} {o:Option (TV × TV)} {y t:TV} {z:Z} {num mo:Int} {L A:List bX} {v:Nat} {gs:List MO} (I:ky gs) (H:GI z L A R) {n:Nat} {k:VK} (h:∀u T,k (.bool au) (.codes 733 u::T)):
  bl (vl D (n+62)) [dw 8,dw 9,dw 10] (gL R (14+gs.length) M o (nr (ac (y,ac t)))) (TZ z num mo (A.map bR) v gs) (fi k) bB:=by
 refine ag (bv ..) (cast ((congrArg (λs=>(vl D (n+62)).exec s (gL R (14+gs.length) M o (nr (ac (y,ac t)))) (TZ z num mo (A.map bR) v gs) (m9 (vl D (n+62)) [dw 9,dw 10] (fi k)) bB) Q8).trans (Hr (vl D (n+60)) (Hs (mx (dw 8))) (Kd (mx (dw 8))) (LM (dw 8)) (mx (dw 8)).pos (NM (dw 8)) (gL R (14+gs.length) M o (nr (ac (y,ac t)))) (TZ z num mo (A.map bR) v gs) (m9 (vl D (n+62)) [dw 9,dw 10] (fi k)))).symm ?_);have f:=λd J=>S3 d R t (14+gs.length) M o y (TZ z num mo (A.map bR) v gs) n (vl D (n+57)).call J;rw [gu] at f;refine cast (f am _).symm (HT (d:=false) (n:=n+17) I H.e H.nd H.sL (λe G=>H.sL e (by rw [H.A] at G;exact kx.mp G)) (by have:=H.hl;exact by lia) H.len.symm (tG (vc H.len.symm H.ndA λe G=>by refine ag (H.A ..) ?_;exact kx.mpr G) (iQ rfl ?_)));refine cast (f au _).symm (HT (d:=true) (n:=n+17) I H.e H.ndA H.sL (λe G=>H.sL e (by rw [H.A] at G;exact kx.mp G)) (by have:=H.hl;exact by lia) H.len.symm (tG (vc H.len H.nd λe G=>by rw [show l1 au L A=L.reverse from H.A] at G;exact kx.mp G) (iQ rfl ?_)));refine ag (bp ..) (Ra I H.e H.nd H.sm H.hl H.R H.A h)
theorem Rc {R:List TV} {c:Nat} {o:Option (TV × TV)} {y t:TV} {z:Z} {num mo:Int} {L A:List bX} {v:Nat} {gs:List MO} (G:ky gs) (H:GI z L A R) (J:c≤18) (I:MI z num mo (A.map bR++(bt 0 c).map fY)) {n:Nat} {k:VK} (h:∀u T,k (.bool au) (.codes 733 u::T)):
  bl (vl D (n+62)) [dw 7,dw 8,dw 9,dw 10] (gL R (14+gs.length) c o (nr (ac (y,ac t)))) (TZ z num mo (A.map bR++(bt 0 c).map fY) v gs) (fi k) bB:=by
 refine ag (bv ..) (ag (L4 7 (.inr rfl) ..) ?_);refine aK (decide_eq_true (by lia)) (aK (decide_eq_true (by lia)) (aK (bg (by lia)) ?_));refine ag (qL ..) (QX G (by refine ag (H.len ..) ?_;exact H.hl) c 0 y (by lia) I λO P Y=>?_);refine ag (bp ..) (Rb G H h)
noncomputable def Ub (e:bX):TV × Int:=(e.1.kept,e.2)
theorem KD (A:List bX) (c:Nat):((wG A c).map pQ).map yV=(A.map (·.2)++(dU c).map aL).map TV.int:=by refine ag (dQ ..) (ag (dQ ..) (ag (dQ ..) (ag (bx ..) (ag (bx ..) (ag (bx ..) (ag (bx ..) (ag (bx ..) (ag (bx ..) ?_))))))));rfl
theorem KE (A:List bX) (c:Nat):(A.map Ub).map yV++((dU c).map λj=>TV.int (aL j))=(A.map (·.2)++(dU c).map aL).map TV.int:=by refine ag (dQ ..) (ag (bx ..) (ag (bx ..) (ag (bx ..) ?_)));rfl
theorem Rd {R:List TV} {c:Nat} {o:Option (TV × TV)} {y:TV} {z:Z} {num mo:Int} {L A:List bX} {v:Nat} {gs:List MO} (J:ky gs) (H:GI z L A R) (O:c≤18) (P:7≤c) (I:MI z num mo (A.map bR++(bt 0 c).map fY)) {n:Nat} {k:VK} (h:∀u T,k (.bool au) (.codes 733 u::T)):
  bl (vl D (n+62)) [dw 6,dw 7,dw 8,dw 9,dw 10] (gL R (14+gs.length) c o (nr (ac (y,ac (.lst (((wG A c).map pQ).map yV)))))) (TZ z num mo (A.map bR++(bt 0 c).map fY) v gs) (fi k) bB:=by
 have hl:=H.hl;have S:=H.len;have f:R.length≤8:=by refine ag (H.R ..) (ag (ar ..) ?_);exact hl
 refine ag (bv ..) (cast ((congrArg (λs=>(vl D (n+62)).exec s (gL R (14+gs.length) c o (nr (ac (y,ac (.lst (((wG A c).map pQ).map yV)))))) (TZ z num mo (A.map bR++(bt 0 c).map fY) v gs) (m9 (vl D (n+62)) [dw 7,dw 8,dw 9,dw 10] (fi k)) bB) Q1).trans (Hr (vl D (n+60)) (Hs (mx (dw 6))) (Kd (mx (dw 6))) (LM (dw 6)) (mx (dw 6)).pos (NM (dw 6)) (gL R (14+gs.length) c o (nr (ac (y,ac (.lst (((wG A c).map pQ).map yV)))))) (TZ z num mo (A.map bR++(bt 0 c).map fY) v gs) (m9 (vl D (n+62)) [dw 7,dw 8,dw 9,dw 10] (fi k)))).symm ?_);refine ag (S0 ..) (aK (bg (by lia)) (aK (bg (by refine ag (lg ..) ?_;exact by lia)) ?_));refine ag ((show R.reverse=(A.map Ub).map HJ by refine ag (H.R ..) (ag (H.A ..) (bZ (RD ..) (ag (bx ..) ?_)));rfl) ..) ?_;refine L5 _ [] al (by refine ag (dA ..) (ag (ar ..) ?_);exact by lia) ?_;refine ag (Oi ..) (ag (cE ..) ?_);refine aK (decide_eq_true (by lia)) (aK (decide_eq_true (by lia)) (aK (bg (by lia)) ?_));refine aK (bg (by refine ag (ar ..) (ag (ar ..) (ag (ar ..) (ag (f6 ..) ?_)));exact by lia)) ?_;refine ag (KE ..) (ag (KD ..) ?_);refine wH (by refine ag (aJ ..) (ag (ar ..) (ag (ar ..) (ag (f6 ..) ?_)));exact by lia) (iQ rfl ?_);have G:=λR ts mi M o y T (K:Bool->List MO->Prop)=>S1 R ts mi M o y T n (vl D (n+58)).call K;rw [gu] at G;refine cast (G _ _ _ _ _ _ _ _).symm ?_;have W:(A.map bR++(bt 0 c).map fY).length=A.length+c:=by exact ag (aJ ..) (ag (ar ..) (ag (ar ..) (ag (tR ..) rfl)))
 have V:z.b0.E.length=L.length:=by exact ag (H.e ..) (ag (ar ..) rfl)
 refine Om (d:=false) (n:=n+18) J (by lia) (by lia) (by lia) (tG rfl (iQ rfl ?_));refine ag (bp ..) (Rc J H O I h)
theorem Oq {R:List TV} {c:Nat} {o:Option (TV × TV)} {y:TV} {z:Z} {num mo:Int} {L A:List bX} {v:Nat} {gs:List MO} (G:ky gs) (H:GI z L A R) (J:c≤18) (P:7≤c) (I:MI z num mo (A.map bR++(bt 0 c).map fY)) {n:Nat} {k:VK} (h:∀u T,k (.bool au) (.codes 733 u::T)):
  bl (vl D (n+62)) [dw 4,dw 5,dw 6,dw 7,dw 8,dw 9,dw 10] (gL R (14+gs.length) c o (nr (ac (y,al)))) (TZ z num mo (A.map bR++(bt 0 c).map fY) v gs) (fi k) bB:=by
 have hl:=H.hl;have S:=H.len;have W:R.length=L.length:=by exact ag (H.R ..) (ag (ar ..) rfl)
 have V:(A.map bR++(bt 0 c).map fY).length=A.length+c:=by exact ag (aJ ..) (ag (ar ..) (ag (ar ..) (ag (tR ..) rfl)))
 have O:=I.cap;refine ag (bv ..) (ag (QY R c o _ z num mo _ v G ..) ?_);refine aK (bg (by lia)) (aK (bg (by lia)) (iQ (by refine ag (V ..) (ag (S ..) (ag (W ..) ?_));show (!(((L.length+c:Nat):Int)==(L.length:Int)+(c:Int)))=am;refine ag (Int.natCast_add ..) (ag (beq_self_eq_true ..) ?_);rfl) (aK (bg (by lia)) (iQ (decide_eq_false (by lia)) ?_))));refine ag (bp ..) (ag (bv ..) (bZ ((HN A c) ..) ?_));refine Q4 (n:=n) G (by refine ag (Oj ..) ?_;exact by lia) (Q5 H.ndA J) ?_;refine ag (bp ..) (ag ((HN A c) ..) ?_);exact Rd G H J P I h
theorem Re {R:List TV} {c:Nat} {o:Option (TV × TV)} {z:Z} {num mo:Int} {L A:List bX} {v:Nat} {gs:List MO} (G:ky gs) (H:GI z L A R) (S:c≤18) (P:7≤c) (I:MI z num mo (A.map bR)) {n:Nat} {k:VK} (h:∀u T,k (.bool au) (.codes 733 u::T)):
  bl (vl D (n+62)) [dw 3,dw 4,dw 5,dw 6,dw 7,dw 8,dw 9,dw 10] (gL R (14+gs.length) c o []) (TZ z num mo (A.map bR) v gs) (fi k) bB:=by
 have en:A.map bR=A.map bR++([]:List Nat).map fY:=(bW _).symm;refine ag (bv ..) (ag (L4 3 (.inl rfl) ..) ?_);refine aK (decide_eq_true (by lia)) (aK (decide_eq_true (by lia)) (aK (bg (by lia)) ?_));refine ag (qL ..) ?_;rw [en] at I ⊢;refine QW (n:=n) G (by refine ag (H.len ..) ?_;exact H.hl) c 0 [] al (λY h=>nomatch h) rfl (by lia) rfl I λr f l J F V W O=>?_;obtain ⟨y,rfl⟩:∃y,J=ac (y,al):=by
  induction J using cw with
  | none=>exact n3 (W (.inl (by lia)))
  | some p=>
   obtain ⟨y,t⟩:=p;induction t using cw with
   | none=>exact ⟨y,rfl⟩
   | some t=>exact n2 V
 refine ag (bp ..) (Oq G (H.fr F) S P O h)
theorem Rf {R:List TV} {c:Nat} {z:Z} {num:Int} {L:List bX} {gs:List MO} (G:ky gs) (H:GI z L L.reverse R) (P:c≤18) (O:7≤c) (I:MI z num 0 []) {n:Nat} {k:VK} (h:∀u T,k (.bool au) (.codes 733 u::T)):
  bl (vl D (n+62)) [dw 2,dw 3,dw 4,dw 5,dw 6,dw 7,dw 8,dw 9,dw 10] (gL R (14+gs.length) c al []) (TZ z num 0 [] 0 gs) (fi k) bB:=by
 have hl:=H.hl;have V:R.length=L.length:=by exact ag (H.R ..) (ag (ar ..) rfl)
 refine ag (bv ..) (ag (QU ..) ?_);refine aK (bg (by lia)) (aK (bg (by refine ag (lg ..) ?_;exact by lia)) ?_);rw [show R.reverse=L.reverse.map gp by rw [H.R,RD]];refine QV (n:=n) G L.reverse [] al I H.ndA (by rw [cE,H.len];exact hl) λy S W o' F J=>ag (bp ..) (Re G (H.fr F) P O J h)
theorem Ci {z:Z} {I J:Int} {G:List (bJ × TV × TV)} {t:Nat} (O:z.Md=d0 I J G) (P:G.length≤t) (y:t≤100) (k:bJ) (a b:TV):z.Md.length≤1000∧(dq k a b z.Md).length≤1000:=by
 have h2:z.Md.length=G.length+2:=by refine ag (O ..) ?_;rfl
 refine ⟨by exact by lia,?_⟩;cases hd:cR k z.Md with
 | none=>refine ag (wF k a b _ hd ..) (ag (aJ ..) (ag (bK ..) ?_));exact by lia
 | some p=>refine ag (yU k a b _ (by rw [hd];rfl) ..) ?_;exact by lia
theorem Rg:u7:=by
 intro z gs n t L a l k J hd I y G p hu1 O V W;(refine gy I ?_;clear I;intro c1 c2 Mr I P)
 ((first | refine ah (Ci I P y (.atom (.int (z.last+1))) (.int (z.last+1)) (.tup [.int (16*0),.bool am,.int 0])) ?_ | refine aI (Ci I P y (.atom (.int (z.last+1))) (.int (z.last+1)) (.tup [.int (16*0),.bool am,.int 0])) ?_);intro m1 m2)
 refine ag (KC ..) (ag (bv ..) ?_);have e0:=QS z gs n (vl D (n+59)).call (m9 (vl D (n+62)) [dw 1,dw 2,dw 3,dw 4,dw 5,dw 6,dw 7,dw 8,dw 9,dw 10] (fi k));rw [gu] at e0;refine cast e0.symm (ag (Ko z J ..) ?_);refine iQ (decide_eq_false (by lia)) (aK (bg m1) ?_);refine B2 (i:=false) (n:=n+45) (z:={z with used:=z.used+16*0,last:=z.last+1,Md:=dq (.atom (.int (z.last+1))) (.int (z.last+1)) (.tup [.int (16*0),.bool am,.int 0]) z.Md,v7:=z.v7+1}) O (ag (bp ..) (ag (bv ..) ?_));have e1:=λR mi T K=>QT R mi T n (vl D (n+59)).call K;rw [gu] at e1;refine cast (e1 _ _ _ _).symm (nv (n:=n+47) (z:={z with used:=z.used+16*0,last:=z.last+1,Md:=dq (.atom (.int (z.last+1))) (.int (z.last+1)) (.tup [.int (16*0),.bool am,.int 0]) z.Md,v7:=z.v7+1}) 6 hd λr Ld md v5 r0 r1 Y=>?_);refine ae (tr r0 r1) λj e1 S=>?_;subst e1;have S:(j:Int)<12:=S;show m9 _ _ _ .next (gL (L.map gp) (14+gs.length) (7+j) al []) (TZ {z with Ld:=Ld,md:=md,v5:=v5,used:=z.used+16*0,last:=z.last+1,Md:=dq (.atom (.int (z.last+1))) (.int (z.last+1)) (.tup [.int (16*0),.bool am,.int 0]) z.Md,v7:=z.v7+1} (z.last+1) 0 [] 0 gs);refine ag (bp ..) ?_
 ((first | refine ah (pG (.atom (.int (z.last+1))) (.int (z.last+1)) (.tup [.int (16*0),.bool am,.int 0]) z.Md) ?_ | refine aI (pG (.atom (.int (z.last+1))) (.int (z.last+1)) (.tup [.int (16*0),.bool am,.int 0]) z.Md) ?_);intro q f)
 exact Rf (z:={z with Ld:=Ld,md:=md,v5:=v5,used:=z.used+16*0,last:=z.last+1,Md:=dq (.atom (.int (z.last+1))) (.int (z.last+1)) (.tup [.int (16*0),.bool am,.int 0]) z.Md,v7:=z.v7+1}) (c:=7+j) (L:=L) J ⟨O.e,O.nd,O.sm,V,rfl,rfl⟩ (by lia) (dD ..) ⟨⟨q,_,f⟩,m2,fD 0,(show (0:Int)≤64 by decide),(show 0≤z.used+16*0 by exact by lia),(show z.used+16*0≤4000+16*0 by exact by lia)⟩ W
theorem fj {α β:Type} [BEq α] [LawfulBEq α] {x:α} {v:β}:∀{l:List (α × β)},l.lookup x=ac v->(x,v)∈l
 | (a,b)::l,h=>by
  rw [List.lookup_cons] at h;cases q:x==a with
  | true=>rw [q] at h;refine bZ (fm h) (ag (beq_iff_eq.mp q ..) ?_);exact aA ..
  | false=>rw [q] at h;exact aE _ (fj h)
theorem pH {α β:Type} {l:List α} {f:α->Option β} {g:α->β} (h:l.map f=l.map λa=>ac (g a)) {a:α} (m:a∈l):f a=ac (g a):=Ph.mp h a m
theorem Os {K:H8} (h:BE K=zI):i5 K D:=by
 refine ah (ci h) λh1 h=>ah (ci h) λh2 h=>ah (ci h) λr h=>ah (ci h) λz h=>ah (ci h) λY h=>ah (ci h) λh6 h=>ah (ci h) λh7 h=>ah (ci h) λh8 h=>ah (ci h) λh9 S=>?_;have W:∀{C x},D.fld C x=au->(w8 K C x&&w9 K C x)=au:=λ{C x} e=>by refine ae (kJ (x:=vK.lookup C) e) λl q e=>?_;exact co.mp (co.mp h6 _ (fj q)) x (List.contains_iff_mem.mp e)
 refine ⟨λe=>pH h1 (fj e),λ{a fd} e=>?_,λe=>pH r (fj e),λ{C x f} e=>?_,λ{C x f} e=>?_,λe=>(aD.mp (W e)).1,λe=>(aD.mp (W e)).2,λ{a} e=>?_,λ{C an} e=>?_⟩
 ·refine ae (aF.mp (pH h2 (fj e))) λf P G=>ah (ci G) λe1 q=>ah (ci q) λe2 q=>ah (ci q) λe3 q=>ah (ci q) λO q=>ah (ci q) λI J=>⟨f,P,e1,e2,e3,O,I,λht=>?_⟩;rw [ht] at J;refine ae (kJ (x:=sf f.code) J) λc hc J=>⟨c,nh hc,J⟩
 ·refine ae (ai.mp e) λl P G=>pH (Ph.mp z _ (fj P)) (fj G)
 ·refine ah (jM e) λq e=>ah (aD.mp q) λP G=>ag (bC P ..) (ag (beq_iff_eq.mp G ..) ?_);exact Y.trans (congrArg ac e)
 ·have e:(b9 a 52 ||(uE.lookup a).isSome ||(pX.lookup a).isSome)=au:=e;refine co.mp h7 a ?_;rcases rJ.mp e with e | e
  ·rcases rJ.mp e with e | e
   ·obtain rfl:=bC e;exact aA ..
   ·refine aI (bd.mp e) λv q=>aE _ (f5 _ (cU.mpr ⟨_,fj q,rfl⟩))
  ·refine aI (bd.mp e) λv q=>aE _ (Iy _ (cU.mpr ⟨_,fj q,rfl⟩))
 ·refine ah (jM e) λq e=>bZ e (ag (bC q ..) ?_);refine ah (aD.mp h8) λP qi=>ah (aD.mp P) λP q3=>ah (aD.mp P) λP G=>ae (aF.mp S) λf p y=>ah (ci y) λe1 q=>ah (ci q) λe2 q=>ah (ci q) λe3 q=>ah (ci q) λO I=>⟨P,G,q3,36,f, "self", "told",_,_,_,_,h9,qi,p,e1,e2,O,by refine ag (I ..) ?_;rfl,λds q=>by refine bZ (ss I q) ?_;exact dZ 1,?_⟩;refine ag (e3 ..) ?_;exact ⟨by kernel_rfl,by kernel_rfl,by kernel_rfl,by kernel_rfl,by kernel_rfl,λenv V=>by refine ag (Gr ..) (ag (V ..) ?_);exact qk (by kernel_rfl),λenv V=>by refine ag (Gq ..) (ag (V ..) ?_);exact qj (by kernel_rfl)⟩
theorem KF {T:BT} {n:Nat} {P:Life}:(IW T n).In (OX T n P):=λa o e=>by refine ae (l8.mp (fj e)) λb _ q=>?_;refine w5 q (λG q=>?_) λY q=>n1 q;refine ae (aF.mp q) λo' I J=>ae (ai.mp I) λO q3 q4=>?_;cases J;exact (Vi (cI G) q3).trans q4
theorem HY {T:BT} {n:Nat} {o:Obj}:(IW T n).lookup 733≠ac o:=λe=>by refine ae (l8.mp (fj e)) λb G q=>?_;refine w5 q (λJ q=>?_) λY q=>n1 q;refine ae (aF.mp q) λo' P I=>?_;cases I;exact absurd G (by decide+kernel)
def qt (h:bM):Prop:=(∃K,i5 K D∧K.In h∧(∀o,K.lookup 733≠ac o)∧UT K cJ "law"=ac (ac (.ref 736)))∧h.get? 733=ac (Ox #[])∧∃o,h.get? gi=ac o
theorem D8 {w:jt} {os:oA} {s:ze} (h:zG kf pw w 11 (ac (.ref 6)) 5200 (xh w os) (Ib pw)=ac s):qt s.abs.heap:=by have e:=SO w os;unfold IX at e;rw [h] at e;have e:=i8 e;refine ah (ci e) λe1 e=>ah (ci e) λe2 e=>ah (ci e) λG e=>ah (ci e) λJ e3=>aI (bd.mp G) λo' I=>ae (ai.mp I) λS q3 q4=>ae (ai.mp e1) λo P O=>⟨⟨_,Os e3,KF,λY=>HY,J⟩,(Vi (cI e2) P).trans O,o',(Vi (Ip (by decide) (cI e2)) q3).trans q4⟩
theorem qt.keeps {h h':bM} (b:qt h) (k:∀b o,h.get? b=ac o->h'.get? b=ac o):qt h':=by obtain ⟨⟨K,a,i,n⟩,t,o,m⟩:=b;exact ⟨⟨K,a,i.keeps k,n⟩,k _ _ t,o,k _ _ m⟩
theorem yW:LeftO pw qv oU (λs=>recOk (Ia row.toRowW) s) (λs=>qt s.heap) (λY=>True) 5200:=IT SN λh=>D8 h
theorem HZ {args:List Vr} (h:MW.pre args=au):∃S:List Int,args=[.list (S.map .int)]∧S.length≤63:=by
 refine ah (pre_splitW (r:=row.toRowW) h) λh1 h2=>bz (hasAllW_cons h1) λd r G I O=>?_;subst G;obtain rfl:=hasAllW_nil O;refine ae (hasW_list I) λxs J P=>?_;subst J;refine aI (items_int P) λS J=>?_;subst J;refine ⟨S,rfl,?_⟩;have h2:WTm.holds [] (.and (.not (.lit (.bool (decide ((63:Int)<((S.map Vr.int).length:Int)))))) (.lit (.bool au))) {args:=[]}=au:=h2;rw [ar] at h2;by_cases q:(63:Int)<(S.length:Int)
 ·rw [decide_eq_true q] at h2;exact n3 h2
 ·lia
theorem AY {R:WRecords} {cl:aU->Option ay} {h:bM}:∀{S:List Int} {vs:List ak} {as:List ay},Rj R cl h vs (S.map .int) as->eI ρ (S.map .int) vs:=by
 intro G;induction G with
 | nil=>intro _ _ r;cases r;exact .nil
 | cons i S V=>
  intro _ _ r;cases r with
  | cons a r=>cases a;exact .cons (.int i _) (V r)
theorem H0 {μ:bO} {X:List Nat} {st:St}:∀{S:List Int},eK μ X st (S.map .int) (S.map .int):=by
 intro G;induction G with
 | nil=>exact .nil
 | cons i S V=>exact .cons (.int i) V
theorem qu {h:bM} {P b:ay} (e:b≠P):(Fg h P).get? b=h.get? b:=bM.get?_update_ne _ _ _ _ e
theorem tH {h:bM} {P:ay}:(Fg h P).get? P=al:=by
 cases q:(Fg h P).get? P with
 | none=>rfl
 | some o=>refine ah (bM.get?_some_iff.mp q) λe1 e2=>?_;unfold Fg bM.update at e1;rw [Array.getElem?_modify,if_pos rfl] at e1;refine ae (aF.mp e1) λo' _ G=>?_;subst G;exact n4 e2
theorem Cj {h:bM} {P b:ay} {o:Obj} (e:(Fg h P).get? b=ac o):h.get? b=ac o:=by
 by_cases q:b=P
 ·rw [q,tH] at e;exact n1 e
 ·rw [qu q] at e;exact e
theorem H3:HS w K B:=by
 intro s0 s a oa mg mb oU mean vs n S R cl h0 as O hK h7 t7 hs T kp ha l hc hd rr hS hB;have hv:eI [733,a] (S.map .int) vs:=AY rr;refine bZ IV ?_;have a7:a≠733:=λq=>by rw [q,t7] at ha;exact n2 ha
 have I:∀x o,x≠733->s0.heap.get? x=ac o->B.get? x=ac o:=λx o h1 h2=>by rw [hB,qu (λq=>by rw [q,ha] at h2;exact n1 h2),qu h1];exact kp x o h2
 have ns:∀{x m},x≠733->s0.heap.Ns x m->B.Ns x m:=λ{x m} h1 h2=>by refine gy h2 λo es ep h3 r=>?_;clear h2;exact ⟨o,es,ep,I x o h1 h3,r⟩
 refine sb T.bmain λbm ob b1 b2 V b4 b5 b6=>?_;have bmg:bm≠cJ:=λq=>by refine gz T.g λo es ep h3 h4 _=>?_;rw [q,h3] at V;obtain rfl:=fm V;cases (b6).symm.trans h4
 have Bs:dO:=by
  refine ae T.nolimit λmc n1 n2=>aI hs λo hs=>?_;exact ⟨λx o e=>I x o (λq=>h7 o (q▸e)) (hK x o e),⟨mg,ns (by decide) T.g⟩,⟨mb,ns (by decide) T.b,T.builtins⟩,⟨mc,ns (by decide) n1,n2⟩,⟨o,I _ o (by decide) hs⟩,
   ⟨mg,bm,ob,ns (by decide) T.g,b1,b2,bmg,I _ _ (λq=>by rw [q,t7] at V;obtain rfl:=fm V;cases b4) V,b4,b5,b6⟩⟩
 have G:aY [733,a] [.codes 733 [],.pin (S.map .int) oa] s.heap:=by
  refine ⟨λb o e=>Cj (Cj (hB▸e)),?_,rfl,λb hb=>hB▸?_,λi po e=>?_⟩
  ·exact cD.mpr ⟨λm=>a7 (aV.mp m).symm,cD.mpr ⟨nofun,Tg⟩⟩
  ·rcases bj.mp hb with q | q
   ·rw [q];exact (by rw [qu (fw a7),tH])
   ·rw [aV.mp q];exact tH
  ·match i,e with
   | 0,e=>obtain rfl:=fm e;exact ⟨733,rfl,rfl,#[],kp _ _ t7,trivial,λY Y=>rfl⟩
   | 1,e=>obtain rfl:=fm e;exact ⟨a,rfl,l,hc,vs.toArray,n,hd,by rw [lc];exact hv⟩
 have R:eV [(0,0)] [] [.codes 733 []] [.codes 733 [],.pin (S.map .int) oa]:=by
  refine ⟨rfl,λ{i j p q} e1 e2 _=>?_,λp P=>⟨nofun,nofun⟩,λp P=>?_,nofun,λY=>rfl,λ{j p o} e1 e2=>?_⟩
  ·match i,j,e1,e2 with
   | 0,0,_,_=>rfl
  ·obtain rfl:=aV.mp P;exact ⟨wR _,wR _⟩
  ·match j,e1,e2 with
   | 0,e1,e2=>obtain rfl:=fm e1;refine bZ (fm e2) rfl
 have run:(Ju 66).call (.ref 736) [.loc 1] [.codes 733 [],.pin (S.map .int) oa] (λp st=>p=.bool au∧(∃u,st[0]? =ac (.codes 733 u))∧st[1]? =ac (.pin (S.map .int) oa)) F8:=
  (yt O 66).call (Oe (k:=λv T=>v=.bool au∧∃u r,T=.codes 733 u::r) Rg hS 0 λu T=>⟨rfl,u,T,rfl⟩) R (.ref 736) (.cons (.scr (i:=1) ⟨λp P=>by cases aV.mp P;exact ⟨by decide,by decide⟩,nofun⟩ rfl H0) .nil)
   (λμ' st' T' v p f R' r k=>by obtain ⟨rfl,u,r',rfl⟩:=k;refine ag r.inv ⟨rfl,⟨u,R'.objs (f.slot (j:=0) rfl) rfl⟩,f.keep 1 (eQ 1) λp P=>?_⟩;cases aV.mp P;exact ⟨by decide,by decide⟩) eG.no
 have M:M3 Ic [733,a] s.heap (65+1):=⟨rfl,by decide,by decide,⟨[],rfl,λY h=>nomatch h⟩,rfl⟩;refine mI (O.fn (a:=736) (fd:=cZ (eL 63) [] au) (by kernel_rfl)) λf7 f8 _ _ _ _ _ f9=>ae (f9 (by kernel_rfl)) λc7 _ c8=>?_;have W:(nQ K 736).isSome=au:=by rw [f8];rfl
 have vr:eI [733,a] [.loc 1] [.ref a]:=.cons (.loc rfl) .nil;have code:fR fq (aq prog w) Ic (.call (.ref 736) ⟨[.ref a],[]⟩) (RK s [733,a] (λp st=>p=.bool au∧(∃u,st[0]? =ac (.codes 733 u))∧st[1]? =ac (.pin (S.map .int) oa)) F8) s:=by
  refine bk run (λh=>?_) λh=>?_
  ·cases h with
   | fn hf h=>exact mY fq.clo Bs (nn Bs 65).toN h M G vr
   | cls hi h=>exact (lP W hi).elim
  ·cases h with | ref h=>
   cases h with
   | fn hf h=>exact mY fq.clo Bs (s9 Bs 65) h M G vr
   | cls hi h=>exact (lP W hi).elim
 refine li fq.clo (jd code λr s' z=>?_);rcases r with e | fl
 ·exact ya z
 induction fl with
 | ret v=>
  refine EF z λh' tk' ρ' st' pv eq5 y r eq8 pt9 e1=>?_;clear z;refine ag eq5 ?_;subst eq8;obtain ⟨u,e0⟩:=pt9;refine ag (VR.ibool r) (ae y.ext λrr q _=>?_);obtain ⟨a1,q1,p1,ps,p2,_⟩:=y.good.objs 0 _ e0;refine bP (y.good.objs 1 _ e1) λa2 q2 p3 _=>?_;rw [q] at q2;obtain rfl:=fm q2;subst p1;have now:∀b o,b≠733->s.heap.get? b=ac o->h'.get? b=ac o:=λb o J e=>by
   by_cases ba:b=a
   ·rw [ba] at e ⊢;refine bZ (ss l e) p3
   ·exact y.good.base b o (by rw [hB,qu ba,qu J];exact e)
  refine ⟨rfl,⟨λb o e=>?_,λb o e=>?_⟩,rfl,rfl⟩
  ·by_cases J:b=733
   ·rw [J,kp _ _ t7] at e;refine bZ (fm e) (ag (J ..) ?_);exact .inr (.inl ⟨(CodeHd.tab (Vu (hK.keeps kp) c8) (kp _ _ t7)).isCodeTable,rfl,#[],ps,rfl,p2.trans (by rw [Array.empty_append])⟩)
   ·exact .inl (now b o J e)
  ·by_cases J:b=733
   ·rw [J];exact ⟨_,p2⟩
   ·exact ⟨o,now b o J e⟩
 | _=>exact z
theorem KG {w:jt} {K:H8} {B:bM}:HS w K B:=jX (c:=cc) rfl (show HS cc.1 cc.2.1 cc.2.2 from PU.mpr @H3) (w,K,B)
theorem said:fk.wellSaid=au:=by kernel_rfl
theorem H4:(defOf qv "law").isSome=au:=by kernel_rfl
noncomputable def uj:DefRec × List (aU × aC):=(defOf qv "law").get H4
theorem vd:chainsOk qv=au:=by kernel_rfl
theorem H5:opensWell pw=au:=by kernel_rfl
theorem AZ:uj.1.name= "law"∧defOf qv "law"=ac uj∧pw.theDef "law"=ac (uj.1.params,uj.1.body,uj.1.scope)∧kwWritten? uj.1.params.kwonlyargs uj.1.params.kw_defaults=ac uj.2:=⟨by kernel_rfl,by kernel_rfl,by kernel_rfl,by kernel_rfl⟩
theorem KH:pw.bare:=⟨by kernel_rfl,by kernel_rfl,by kernel_rfl,by kernel_rfl,by kernel_rfl,by kernel_rfl⟩
theorem promised:row.toRowW.promised:=⟨[.list [.int 3,.int 1]],by decide+kernel,by decide+kernel⟩
theorem law_row (k1:row.wellSaid=au):row.Holds:=by
 refine ⟨k1,promised,⟨KH,H5,rfl⟩,promised.witness,λw=>⟨(yW.behind (XP:=λY Y=>True) (λY Y=>trivial) vd w).1,λs' l=>?_⟩⟩;obtain ⟨P,hf,V,s,hT,hz,I,hg,G,y⟩:=(yW.behind (XP:=λY Y=>True) (λY Y=>trivial) vd w).2 s' l;have y:qt s.heap:=of_eq_true y;refine eg y λz t7 hs=>?_;clear y;refine nL z λK O p h7 hl=>?_;clear z;refine ⟨P,hf,V,s,hT,λn hn=>?_,nofun,nofun,CA hz (Array.eq_empty_of_size_eq_zero (beq_iff_eq.mp I)) (λh q=>nomatch q) (λh k=>G.T.g.keeps k) (mg_of p G.T.g hl) λs₁ args vs as kp J hg1 f W=>?_⟩
 ·obtain rfl:n= "law":=aV.mp hn;exact pinned_of_view (d:=uj.1) (kwd:=uj.2) hg G AZ.2.1 AZ.2.2.1 AZ.2.2.2
 ·refine ae (HZ J) λS e1 hS=>?_;subst e1;cases f with | @cons v vs' d ds' a1 a2 r r'=>
  cases r';cases r with | @list a oa us n xs as' ho hc hd rr=>
  exact KG (vs:=us.toList) O p h7 t7 hs G.T kp (aS (W.2.2 a (by simp)).1) ho hc (n:=n) (by rw [hd]) rr hS rfl
end Mine.Internal
theorem PySem.Challenge.cw_nt0503_01_holds : PySem.Challenge.rw_nt0503_01.Holds :=
 PySem.W.holds_law Mine.Internal.said λk=>Mine.Internal.law_row k
