import PyProof.Rows.All
import Wide.All
import OpenK.AllK
import Wide.FinOn
import KE.KAnyBase
import KE.KSliceW
import KE.KRevSl
import KE.KUnpack
import KE.KItem
import KE.KIsNot
import KE.KDictOf
import PyProof.ListCopy
import PyProof.EqAt
import KE.KEqDict
import PyProof.NeKinds
import OpenK.KMore
import OpenK.KNot
import PyProof.EnumFor
import PyProof.EnumMake
import PyProof.ZipIter
import PyProof.Rows.TupMore
import Lean
import PySem.Challenge.RW_sj0140_01
set_option Elab.async false
set_option maxRecDepth 100000
set_option maxHeartbeats 2000000
set_option linter.unusedSimpArgs false
set_option linter.unusedVariables false
set_option tactic.hygienic false
set_option genSizeOf false
set_option compiler.extract_closed false
set_option bootstrap.genMatcherCode false
noncomputable section
open Bool renaming false → PO, true → WL, and_eq_true_iff → zA, false_ne_true → qH, eq_false_iff → sW, or_false → Zk, and_eq_true → YS, false_bne → Yi, eq_iff_iff → Y9, or_eq_true_iff → XD, or_eq_true → Xn, true_and → Y0, or_assoc → Xz, false_and → XZ, not_eq_true' → WX, and_false → X6, not_eq_true → Wc, or_eq_false_iff → Vp, or_true → WF, false_or → Us
open Option.some renaming inj → K6, injEq → amu
open Nat renaming le_trans → Le, le_refl → EC, le_of_ble_eq_true → l9, le_add_right → oW, zero_le → zJ, le_add_left → oJ, casesOn → vI, succ_le_succ → de, zero_add → kI, eq_of_beq_eq_true → ZI, lt_of_le_of_lt → ZQ, le_of_eq → aG, le_of_succ_le_succ → Yk, le_succ_of_le → ZP, add_le_add → Zh, mul_le_mul_left → Z0, le_antisymm → Zc, not_succ_le_zero → Yb, min_le_right → Z8, sub_add_cancel → YZ, min_eq_left → Z4, add_right_comm → YY, zero_lt_succ → Ym, not_lt → Zq, beq → ie, not_lt_zero → Yr, min_le_left → Yq, le_of_lt_succ → Y4, add_le_add_left → Xi, lt_succ_self → YB, lt_or_ge → Yz, lt_of_lt_of_le → Xm, add_assoc → Yj, add_sub_cancel' → XE, le_of_lt → YW, lt_irrefl → YD, add_le_add_right → WV, succ_lt_succ → X3, add_sub_cancel_left → Vn, le_of_add_right_le → Vl, lt_of_succ_le → WZ, le_of_succ_le → WY, succ_pos → Xb, succ_add → Xa, sub_self → Wu, eq_or_lt_of_le → VQ, sub_lt_left_of_lt_add → akB, le_zero → Wv, le_succ → Wy, succ_ne_zero → Va, min_eq_right → VZ, le_of_not_lt → VY, ne_of_lt → WB, le_of_add_left_le → alx, le_max_left → VC, le_div_iff_mul_le → alz, succ → Xy, sub_lt_sub_right → alP, mul_le_mul_right → alQ, add_eq_zero_iff → al5, add_sub_cancel → amj, succ_min_succ → amv, lt_succ_of_le → amw, blt → Xu, ble → Xs, add_sub_of_le → amz, succ_mul → V7, ne_of_gt → V6, add_comm → V5, not_le_of_lt → amN, le_max_right → amO, mul_two → VB, rec → Wp
open List renaming length_map → K4, mem_cons → K7, length_append → Es, casesOn → K1, getElem?_eq_some_iff → sV, mem_append_right → s7, mem_of_getElem? → s8, mem_singleton → wm, append_assoc → zx, append_nil → zB, map_append → wh, mem_append_left → l8, mem_map → zK, length_cons → qR, getElem?_eq_getElem → Zs, mem_append → bT, cons_append → aU, nodup_cons → bS, flatMap_cons → Zw, length_set → aW, size_toArray → Zl, lookup_cons → Zp, length_take → Zo, getElem?_append_left → Yl, cons_ne_nil → Zj, getElem?_map → ZZ, map_cons → Zv, getElem?_toArray → Z3, replicate → Zn, pairwise_append → Z2, getD_eq_getElem?_getD → YF, flatMap_append → ZA, not_mem_nil → ZR, getElem?_set_ne → Yo, any_eq_true → Z7, all_eq_true → Z6, map_map → Za, getElem?_set_self → Xp, reverse_cons → Yc, map_congr_left → YG, length_nil → Yp, getElem?_eq_none → Xr, filter_cons → YT, mem_of_mem_take → Xj, nodup_append → Y3, nil_append → YR, length_reverse → Xh, getElem?_concat_length → Wf, find?_cons → YQ, takeWhile_cons_of_pos → We, takeWhile_cons_of_neg → Wl, exists_cons_of_ne_nil → Wk, range → ZY, pairwise_cons → Xl, drop_eq_getElem_cons → Wi, getLast?_concat → XG, foldl_cons → YA, map_take → YU, length_eq_zero_iff → Wh, length_drop → Xk, getElem?_drop → XC, any_append → Xo, any_cons → YC, exists_mem_of_ne_nil → Vd, take_length → X2, map_eq_nil_iff → WS, filterMap_cons → WR, filterMap_cons_some → Vc, mem_filter → X8, take_of_length_le → Vk, takeWhile_append_dropWhile → ajR, mem_iff_getElem? → Vi, contains_iff_mem → Vh, isEmpty_iff → WW, mem_of_mem_drop → Vt, length_take_le' → Vq, sum_append → WJ, reverse_append → VU, length_take_le → VT, getElem?_append_right → akn, set_set → Wt, set_cons_succ → VP, nodup_nil → WO, drop_left → WN, filterMap_cons_none → akQ, map_drop → WQ, filter_cons_of_pos → ak2, filter_cons_of_neg → ak3, perm_middle → VH, flatMap_nil → VG, drop_length → VF, takeWhile_sublist → alh, range_succ_eq_map → ali, filter_eq_nil_iff → alj, drop_of_length_le → alk, take_append_drop → alA, set_append_right → alB, length_replicate → alC, length_filter_le → alD, reverse_reverse → alR, dropLast_concat → alS, take_take → VJ, mem_range → VI, replicate_zero → al6, replicate_succ → al7, mem_map_of_mem → al8, length_pos_iff → al9, length → W7, zip_cons_cons → amk, take_nil → Uu, findIdx?_cons → amm, filter_append → amn, drop_nil → Ut, flatten_cons → amA, any_eq_false → amB, nil_sublist → amP, mem_flatMap → amQ, map_reverse → amR, isEmpty_map → amS, isPerm_iff → am3, take → VA
open Option renaming some → Ss, none → M4, bind_eq_some_iff → aV, map_eq_some_iff → ZU, casesOn → Y8, isNone_iff_eq_none → Ve, bind_some → X4, map_some → WK, isSome_iff_exists → akP, map_eq_none_iff → alg
open PySem renaming Value → M5, Shared → MY, wpAny_bind → EJ, wpAny_pure → zI, Around → K2, wpAny → K8, Expr → M3, Addr → MW, starEach → sZ, wpAny_Call_NameR → Ze, wpAny_items_cons → ZS, wpAny_truthy_bool → Z9, wpAny_items_nil → Z5, compareOp → Zz, intKind → fK, strKind → ZT, letOwnedTupleGo → Ys, mainGlobals → ZX, callEnvC → ay, plainObj_wpAny_Assign_Attribute → Vu, backTo → dP, putIn → Yy, KeyKind → YV, standAt → Zy, codeAny_mono → YX, behindInMarks → YE, Scope → re, FuncData → Zd, Heap → Ex, eval → Er, keywordEach → YN, wpAny_standAt → XY, swappedStores → Xg, importedModules → X9, evalPart_some → Xf, evalPart_none → Xe, binaryOp → ZN, wpAny_Assign_Subscript → Vm, foldedSetIterable → Wb, wpAny_isTrue_Compare1 → Vj, wpAny_holding → XB, Comprehension → XA, builtinsNs → Y2, assignEach → Y1, wpAny_field → XU, subscripted → XT, list_getitem_lookup → VW, wpAny_assign_Tuple → VS, NameKind → Yg, valueAt → ZD, codeAny → ZC, Program → ZB, wpAny_comprehension_free → akF, wpAny_call → XW, wpAny_assign_Name → VX, World → bc, Stmt → v0, wpAny_callSpecial?_slot → akS, wpAny_Slice → Wx, sizeLine → YL, backToKw → YK, cLine → Zx, wpAny_typeOf → WD, wpAny_execs_nil → VD, getItem → Yd, DictEntry → XR, Arguments → XQ, wpAny_mono → Ws, sysModules → Wr, wpAny_listPart → VM, recursionLimit → VL, Keyword → YJ, getMethod → Wn, compEnvC → XM, assignInOrder → Uw, wpAny_rule → W0, holding → Xv, bootBuiltins → V8, callWith → Wo, treeTable → W9, swapsWith → W8, rawInt → YI, model → ZL, assign → YH, BindsTo → XN, Result → Xw
open Int renaming le_trans → Ey, ofNat_lt → qO, eq_ofNat_of_zero_le → ZJ, le_of_eq → bp, add_le_add_right → Z1, natCast_nonneg → Yn, lt_of_lt_of_le → Y7, lt_of_le_of_lt → Y6, le_refl → ZW, toNat → Zr, ofNat_le → ZF, le_of_lt → ZE, add_sub_cancel → XI, toNat_natCast → X5, not_lt → Yw, sub_le_sub_right → WU, lt_iff_le_and_ne → WT, le_antisymm → X7, fdiv → YM, max_eq_right → VE, sub_eq_iff_eq_add → alE, le_sub_one_of_lt → alT, le_of_lt_add_one → alU, neg_le_neg → VO, add_nonneg → VN, sub_pos_of_lt → amD, not_le → WA, toNat_lt → Uz, lt_trans → Uy, not_lt_of_ge → amT, sub_le_self → am4, min_eq_left → am5, ofNat → V9
open PySem.Builtin renaming bitAnd → vT, bitOr → dM, bitXor → ar, bitNot → Zi
open PySem.Heap renaming get?_push_of_some → Zf, get?_none_of_le → ZH, get?_push_size → VV, get?_update_other → alf, lt_size → WC, get?_update_self → als
open List.cons renaming inj → dj
open Lean renaming Syntax → ahg, RArray → ZO, mkAtom → ajv
open PySem.W renaming instObj → s0, boot_heap → Zm, methodCall_KW → WM, findIn → ZM, boot_drawn → Wq, boot_toks → Wm, SharedT → XO
open PySem.NameKind renaming free → Zb, cell → Xd
open PySem.Challenge renaming rw_sj0140_01 → XK
open PySem.Value renaming noConfusion → Xq, casesOn → XF, isInt → Ww
open PyProof.Rows renaming slot_tuple_getitem → XJ, callWith_type1 → Wg, Subscript_ → Yh, subscriptTail → Xc, callWith_builtin1 → Wa, getItem_tuple → akm, Attribute_any_ → WP, sub_int → alM, neg_int → alN, add_int → alO
open False renaming elim → Zg
open PySem.Expr renaming casesOn → Y5, Name → YO
open Nat.succ renaming inj → ZG
open PySem.Builtin.Slice renaming slicePlaces → Wj, sliceAdjust → Vf, sliceApplied → akl
open PySem.Builtin.Tuple renaming tupleIsExact → Vg
open PySem.Str renaming ofString → Wz
open Array renaming mem_toList_iff → Vo, eraseIdxIfInBounds → akR, toList → WE, length_toList → amb, mk → XL, toList_push → amF
open Eq renaming trans → Yx
open PySem.Builtin.List renaming listSubscript? → ake, listTooLong → akN, listSameRef → akO
open Prod.mk renaming inj → XS
open ForInStep renaming yield → WH
open PySem.Heap.IsSliceOf renaming new → VR
open Prod renaming ext → Ye
open PySem.F renaming slot_dict_getitem → akz, type_list_append → akL, slot_list_append → akM
open Decidable renaming byContradiction → akE, em → Ux
open PySem.W.WData renaming list → XV
open Ne renaming symm → Yu
open BEq renaming rfl → Yv, comm → Xx
open PySem.DictEntry renaming refKey → Vb
open PySem.FuncBody renaming stmts → VK
open PySem.P renaming append_list → al2
open PySem.Obj renaming putName → WG, mapSeq → Vz
open Std renaming lt_of_le_of_ne → amc
open PySem.Value.ref renaming inj → Uv
open Or renaming inl → Yt
open List.Sublist renaming refl → amC
namespace Mine.Internal
def tN (k:Lean.Name) (a:List ahg):ahg:=.node .none k a.toArray
def tI (s:String):ahg:=.ident .none s.toRawSubstring (.mkSimple s) []
def tS (a:List ahg):ahg:=tN `Lean.Parser.Tactic.tacticSeq [tN `Lean.Parser.Tactic.tacticSeq1Indented [tN `null a]]
def tR:ahg:=tN `Lean.Parser.Tactic.tacticRfl [ajv "rfl"]
def tE (s:String):ahg:=tS [tN `Lean.Parser.Tactic.exact [ajv "exact",tN `Lean.Parser.Term.app [tI s,tN `null [tI "rfl"]]]]
def tV (l:List String) (t:ahg):ahg:=tS [tN `Lean.Parser.Tactic.intro [ajv "intro",tN `null (l.map tI)],ajv ";",t]
def tC:ahg:=tN `Lean.Parser.Tactic.cases [ajv "cases",tN `null [tN `Lean.Parser.Tactic.elimTarget [tN `null [],tI "h"]],tN `null [],tN `null []]
def t_rfl:ahg:=tS [tR]
def t_intro_env__rfl:ahg:=tV ["env"] tR
def t_intro_env_ca_N_h__cases_h:ahg:=tV ["env","ca","N","h"] tC
def t_intro_h__cases_h:ahg:=tV ["h"] tC
def t_with_unfolding_all_rfl:ahg:=tS [tN `Lean.Parser.Tactic.withUnfoldingAll [ajv "with_unfolding_all",t_rfl]]
def t_decide_kernel:ahg:=tS [tN `Lean.Parser.Tactic.decide [ajv "decide",tN `Lean.Parser.Tactic.optConfig [tN `null [tN `Lean.Parser.Tactic.configItem [tN `Lean.Parser.Tactic.posConfigItem [ajv "+",tI "kernel"]]]]]]
def t_exact_star_cons_rfl:ahg:=tE "star_cons"
def t_exact_star_any_rfl:ahg:=tE "star_any"
def t_exact_noSwap_rfl:ahg:=tE "noSwap"
def t_exact_noFold_rfl:ahg:=tE "noFold"
def t_exact_plainOf_rfl:ahg:=tE "plainOf"
def t_exact_attr_plain_rfl:ahg:=tE "attr_plain"
def t_exact_test_plain_rfl:ahg:=tE "test_plain"
def t_exact_few1_rfl:ahg:=tE "few1"
end Mine.Internal
section
namespace Mine.Internal
@[elab_as_elim] theorem rwI {α:Sort u} {a b:α} {motive:α→Prop} (h:a=b) (k:motive b):motive a:=h▸k
@[elab_as_elim] theorem rwJ {α:Sort u} {a b:α} {motive:α→Prop} (h:b=a) (k:motive b):motive a:=h▸k
end Mine.Internal
local macro_rules
  | `(tactic| rw [$rs,*]) => do
    let ts ← rs.getElems.mapM fun r => do
      let t : Lean.TSyntax `term := ⟨r.raw[1]⟩
      `(tactic| first | refine $(Lean.mkIdent (if r.raw[0].isNone then `Mine.Internal.rwI else `Mine.Internal.rwJ)) ($t ..) ?_ | rewrite [$r:rwRule])
    `(tactic| ($[$ts]* ; with_reducible try rfl))
namespace Mine.Internal
theorem MZ{c:Prop}{h:Decidable c}(n:¬c){α:Sort u}{t e:α}:ite c t e=e:=if_neg n
theorem MS{c:Prop}{h:Decidable c}(n:c){α:Sort u}{t e:α}:ite c t e=t:=if_pos n
theorem K5{α:Type u}[BEq α][LawfulBEq α]{a b:α}:a==b↔a=b:=beq_iff_eq
theorem zL{p:Prop}[inst:Decidable p](h:decide p=true):p:=of_decide_eq_true h
theorem zH{α:Type u}[BEq α][LawfulBEq α]{a b:α}(h:a==b):a=b:=eq_of_beq h
theorem MQ{a b:Prop}(h:a)(k:¬a):b:=absurd h k
theorem lu{α:Type u}{x:α}{G:Prop}(e:Ss x=M4):G:=nomatch e
theorem aY{α:Type u}{x:α}{G:Prop}(e:M4=Ss x):G:=nomatch e
theorem fN{α:Type u}{x:α}{l:List α}{G:Prop}(e:x::l=[]):G:=nomatch e
theorem fO{α:Type u}{x:α}{l:List α}{G:Prop}(e:[]=x::l):G:=nomatch e
theorem lj{n:Nat}{G:Prop}(e:n+1<=0):G:=nomatch e
theorem eK{G:Prop}(e:WL=PO):G:=nomatch e
theorem aX{G:Prop}(e:PO=WL):G:=nomatch e
theorem aT{α:Type u}{x:α}{G:Prop}(e:x∈([]:List α)):G:=nomatch e
@[elab_as_elim] theorem Ar{α:Type u}{P:List α->Prop}(l:List α)(h:l.length<=1)(h0:P [])(h1:∀a,P [a]):P l:=by
 rcases l with _|⟨a,_|⟨b,l⟩⟩
 ·exact h0
 ·exact h1 a
 ·exact MQ h (amN (oJ 2 _))
theorem FA{α:Type u}{l:List α}(h:l.length=1):∃a,l=[a]:=by
 rcases l with _|⟨a,_|⟨b,l⟩⟩
 ·exact MQ h.symm (Va _)
 ·exact⟨a,rfl⟩
 ·exact MQ (ZG h) (Va _)
theorem Ox{α:Type u}{l:List α}(h:l.length=2):∃a b,l=[a,b]:=by
 rcases l with _|⟨a,l⟩
 ·exact MQ h.symm (Va _)
 ·obtain⟨b,rfl⟩:=FA (ZG h);exact⟨a,b,rfl⟩
theorem ak{p0 p1:Prop}{G:Prop}(h:p0/\p1)(k:p0->p1->G):G:=k h.1 h.2
theorem ce{p0 p1 p2:Prop}{G:Prop}(h:p0/\p1/\p2)(k:p0->p1->p2->G):G:=k h.1 h.2.1 h.2.2
theorem iR{p0 p1 p2 p3:Prop}{G:Prop}(h:p0/\p1/\p2/\p3)(k:p0->p1->p2->p3->G):G:=k h.1 h.2.1 h.2.2.1 h.2.2.2
theorem tM{p0 p1 p2 p3 p4:Prop}{G:Prop}(h:p0/\p1/\p2/\p3/\p4)(k:p0->p1->p2->p3->p4->G):G:=k h.1 h.2.1 h.2.2.1 h.2.2.2.1 h.2.2.2.2
theorem rv{p0 p1 p2 p3 p4 p5:Prop}{G:Prop}(h:p0/\p1/\p2/\p3/\p4/\p5)(k:p0->p1->p2->p3->p4->p5->G):G:=k h.1 h.2.1 h.2.2.1 h.2.2.2.1 h.2.2.2.2.1 h.2.2.2.2.2
theorem FH{p0 p1 p2 p3 p4 p5 p6 p7 p8 p9:Prop}{G:Prop}(h:p0/\p1/\p2/\p3/\p4/\p5/\p6/\p7/\p8/\p9)(k:p0->p1->p2->p3->p4->p5->p6->p7->p8->p9->G):G:=k h.1 h.2.1 h.2.2.1 h.2.2.2.1 h.2.2.2.2.1 h.2.2.2.2.2.1 h.2.2.2.2.2.2.1 h.2.2.2.2.2.2.2.1 h.2.2.2.2.2.2.2.2.1 h.2.2.2.2.2.2.2.2.2
theorem a7{b9:Sort u0}{p0:b9->Prop}{G:Prop}(h:∃x0,p0 x0)(k:∀x0,p0 x0->G):G:=h.elim λx0 h=>k x0 h
theorem aj{b9:Sort u0}{p0 p1:b9->Prop}{G:Prop}(h:∃x0,p0 x0/\p1 x0)(k:∀x0,p0 x0->p1 x0->G):G:=h.elim λx0 h=>k x0 h.1 h.2
theorem bV{b9:Sort u0}{p0 p1 p2:b9->Prop}{G:Prop}(h:∃x0,p0 x0/\p1 x0/\p2 x0)(k:∀x0,p0 x0->p1 x0->p2 x0->G):G:=h.elim λx0 h=>k x0 h.1 h.2.1 h.2.2
theorem nQ{b9:Sort u0}{p0 p1 p2 p3:b9->Prop}{G:Prop}(h:∃x0,p0 x0/\p1 x0/\p2 x0/\p3 x0)(k:∀x0,p0 x0->p1 x0->p2 x0->p3 x0->G):G:=h.elim λx0 h=>k x0 h.1 h.2.1 h.2.2.1 h.2.2.2
theorem rx{b9:Sort u0}{p0 p1 p2 p3 p4:b9->Prop}{G:Prop}(h:∃x0,p0 x0/\p1 x0/\p2 x0/\p3 x0/\p4 x0)(k:∀x0,p0 x0->p1 x0->p2 x0->p3 x0->p4 x0->G):G:=h.elim λx0 h=>k x0 h.1 h.2.1 h.2.2.1 h.2.2.2.1 h.2.2.2.2
theorem tO{b9:Sort u0}{p0 p1 p2 p3 p4 p5:b9->Prop}{G:Prop}(h:∃x0,p0 x0/\p1 x0/\p2 x0/\p3 x0/\p4 x0/\p5 x0)(k:∀x0,p0 x0->p1 x0->p2 x0->p3 x0->p4 x0->p5 x0->G):G:=h.elim λx0 h=>k x0 h.1 h.2.1 h.2.2.1 h.2.2.2.1 h.2.2.2.2.1 h.2.2.2.2.2
theorem OI{b9:Sort u0}{p0 p1 p2 p3 p4 p5 p6 p7:b9->Prop}{G:Prop}(h:∃x0,p0 x0/\p1 x0/\p2 x0/\p3 x0/\p4 x0/\p5 x0/\p6 x0/\p7 x0)(k:∀x0,p0 x0->p1 x0->p2 x0->p3 x0->p4 x0->p5 x0->p6 x0->p7 x0->G):G:=h.elim λx0 h=>k x0 h.1 h.2.1 h.2.2.1 h.2.2.2.1 h.2.2.2.2.1 h.2.2.2.2.2.1 h.2.2.2.2.2.2.1 h.2.2.2.2.2.2.2
theorem dm{b9:Sort u0}{dX:Sort u1}{p0:b9->dX->Prop}{G:Prop}(h:∃x0 x1,p0 x0 x1)(k:∀x0 x1,p0 x0 x1->G):G:=h.elim λx0 h=>h.elim λx1 h=>k x0 x1 h
theorem hJ{b9:Sort u0}{dX:Sort u1}{p0 p1:b9->dX->Prop}{G:Prop}(h:∃x0 x1,p0 x0 x1/\p1 x0 x1)(k:∀x0 x1,p0 x0 x1->p1 x0 x1->G):G:=h.elim λx0 h=>h.elim λx1 h=>k x0 x1 h.1 h.2
theorem eX{b9:Sort u0}{dX:Sort u1}{p0 p1 p2:b9->dX->Prop}{G:Prop}(h:∃x0 x1,p0 x0 x1/\p1 x0 x1/\p2 x0 x1)(k:∀x0 x1,p0 x0 x1->p1 x0 x1->p2 x0 x1->G):G:=h.elim λx0 h=>h.elim λx1 h=>k x0 x1 h.1 h.2.1 h.2.2
theorem nR{b9:Sort u0}{dX:Sort u1}{p0 p1 p2 p3:b9->dX->Prop}{G:Prop}(h:∃x0 x1,p0 x0 x1/\p1 x0 x1/\p2 x0 x1/\p3 x0 x1)(k:∀x0 x1,p0 x0 x1->p1 x0 x1->p2 x0 x1->p3 x0 x1->G):G:=h.elim λx0 h=>h.elim λx1 h=>k x0 x1 h.1 h.2.1 h.2.2.1 h.2.2.2
theorem pF{b9:Sort u0}{dX:Sort u1}{gI:Sort u2}{p0:b9->dX->gI->Prop}{G:Prop}(h:∃x0 x1 x2,p0 x0 x1 x2)(k:∀x0 x1 x2,p0 x0 x1 x2->G):G:=h.elim λx0 h=>h.elim λx1 h=>h.elim λx2 h=>k x0 x1 x2 h
theorem OJ{b9:Sort u0}{dX:Sort u1}{gI:Sort u2}{p0 p1:b9->dX->gI->Prop}{G:Prop}(h:∃x0 x1 x2,p0 x0 x1 x2/\p1 x0 x1 x2)(k:∀x0 x1 x2,p0 x0 x1 x2->p1 x0 x1 x2->G):G:=h.elim λx0 h=>h.elim λx1 h=>h.elim λx2 h=>k x0 x1 x2 h.1 h.2
theorem OK{b9:Sort u0}{dX:Sort u1}{gI:Sort u2}{p0 p1 p2:b9->dX->gI->Prop}{G:Prop}(h:∃x0 x1 x2,p0 x0 x1 x2/\p1 x0 x1 x2/\p2 x0 x1 x2)(k:∀x0 x1 x2,p0 x0 x1 x2->p1 x0 x1 x2->p2 x0 x1 x2->G):G:=h.elim λx0 h=>h.elim λx1 h=>h.elim λx2 h=>k x0 x1 x2 h.1 h.2.1 h.2.2
theorem Ax{b9:Sort u0}{dX:Sort u1}{gI:Sort u2}{p0 p1 p2 p3:b9->dX->gI->Prop}{G:Prop}(h:∃x0 x1 x2,p0 x0 x1 x2/\p1 x0 x1 x2/\p2 x0 x1 x2/\p3 x0 x1 x2)(k:∀x0 x1 x2,p0 x0 x1 x2->p1 x0 x1 x2->p2 x0 x1 x2->p3 x0 x1 x2->G):G:=h.elim λx0 h=>h.elim λx1 h=>h.elim λx2 h=>k x0 x1 x2 h.1 h.2.1 h.2.2.1 h.2.2.2
theorem ry{b9:Sort u0}{dX:Sort u1}{gI:Sort u2}{p0 p1 p2 p3 p4 p5:b9->dX->gI->Prop}{G:Prop}(h:∃x0 x1 x2,p0 x0 x1 x2/\p1 x0 x1 x2/\p2 x0 x1 x2/\p3 x0 x1 x2/\p4 x0 x1 x2/\p5 x0 x1 x2)(k:∀x0 x1 x2,p0 x0 x1 x2->p1 x0 x1 x2->p2 x0 x1 x2->p3 x0 x1 x2->p4 x0 x1 x2->p5 x0 x1 x2->G):G:=h.elim λx0 h=>h.elim λx1 h=>h.elim λx2 h=>k x0 x1 x2 h.1 h.2.1 h.2.2.1 h.2.2.2.1 h.2.2.2.2.1 h.2.2.2.2.2
theorem eg{b9:Sort u0}{dX:Sort u1}{gI:Sort u2}{qU:Sort u3}{p0:b9->dX->gI->qU->Prop}{G:Prop}(h:∃x0 x1 x2 x3,p0 x0 x1 x2 x3)(k:∀x0 x1 x2 x3,p0 x0 x1 x2 x3->G):G:=h.elim λx0 h=>h.elim λx1 h=>h.elim λx2 h=>h.elim λx3 h=>k x0 x1 x2 x3 h
theorem FJ{b9:Sort u0}{dX:Sort u1}{gI:Sort u2}{qU:Sort u3}{p0 p1 p2:b9->dX->gI->qU->Prop}{G:Prop}(h:∃x0 x1 x2 x3,p0 x0 x1 x2 x3/\p1 x0 x1 x2 x3/\p2 x0 x1 x2 x3)(k:∀x0 x1 x2 x3,p0 x0 x1 x2 x3->p1 x0 x1 x2 x3->p2 x0 x1 x2 x3->G):G:=h.elim λx0 h=>h.elim λx1 h=>h.elim λx2 h=>h.elim λx3 h=>k x0 x1 x2 x3 h.1 h.2.1 h.2.2
theorem Ay{b9:Sort u0}{dX:Sort u1}{gI:Sort u2}{qU:Sort u3}{p0 p1 p2 p3 p4 p5:b9->dX->gI->qU->Prop}{G:Prop}(h:∃x0 x1 x2 x3,p0 x0 x1 x2 x3/\p1 x0 x1 x2 x3/\p2 x0 x1 x2 x3/\p3 x0 x1 x2 x3/\p4 x0 x1 x2 x3/\p5 x0 x1 x2 x3)(k:∀x0 x1 x2 x3,p0 x0 x1 x2 x3->p1 x0 x1 x2 x3->p2 x0 x1 x2 x3->p3 x0 x1 x2 x3->p4 x0 x1 x2 x3->p5 x0 x1 x2 x3->G):G:=h.elim λx0 h=>h.elim λx1 h=>h.elim λx2 h=>h.elim λx3 h=>k x0 x1 x2 x3 h.1 h.2.1 h.2.2.1 h.2.2.2.1 h.2.2.2.2.1 h.2.2.2.2.2
theorem OL{b9:Sort u0}{dX:Sort u1}{gI:Sort u2}{qU:Sort u3}{α4:Sort u4}{α5:Sort u5}{p0 p1 p2 p3:b9->dX->gI->qU->α4->α5->Prop}{G:Prop}(h:∃x0 x1 x2 x3 x4 x5,p0 x0 x1 x2 x3 x4 x5/\p1 x0 x1 x2 x3 x4 x5/\p2 x0 x1 x2 x3 x4 x5/\p3 x0 x1 x2 x3 x4 x5)(k:∀x0 x1 x2 x3 x4 x5,p0 x0 x1 x2 x3 x4 x5->p1 x0 x1 x2 x3 x4 x5->p2 x0 x1 x2 x3 x4 x5->p3 x0 x1 x2 x3 x4 x5->G):G:=h.elim λx0 h=>h.elim λx1 h=>h.elim λx2 h=>h.elim λx3 h=>h.elim λx4 h=>h.elim λx5 h=>k x0 x1 x2 x3 x4 x5 h.1 h.2.1 h.2.2.1 h.2.2.2
section
open Nat.Internal.Linear
/-- a sum,read off a figure -/
noncomputable def dE(α:Type)(f:Nat): Nat->(Expr->Nat->α)->α :=
 Wp (λc k=>k (.num 0) c) (λ_ ih c k =>
  bif ie (c % 32) 0 then ih (c / 32) λa r=>ih r λb r=>k (.add a b) r
  else bif ie (c % 32) 1 then bif ie (c / 32 % 32) 31 then ih (c / 2147483648) λa q=>k (.mulL (c / 1024 % 2097152) a) q else ih (c / 1024) λa q=>k (.mulL (c / 32 % 32) a) q
  else bif ie (c % 32) 2 then bif ie (c / 32 % 32) 31 then k (.num (c / 1024 % 2097152)) (c / 2147483648) else k (.num (c / 32 % 32)) (c / 1024)
  else k (.var (c % 32-3)) (c / 32)) f
def ld(t:∀α:Type,(Expr->Nat->α)->α): Prop:=∃x r,∀α k,t α k=k x r
theorem ld.p(x:Expr)(r:Nat): ld λ_ k=>k x r:=⟨x,r,λ_ _=>rfl⟩
theorem ld.c(b:Bool){t u:∀α:Type,(Expr->Nat->α)->α}(h:ld t)(h2:ld u): ld λα k=>bif b then t α k else u α k:=by
 induction b using Bool.casesOn
 ·exact h2
 ·exact h
theorem ld.m{t:∀α:Type,(Expr->Nat->α)->α}(g:Expr->Expr)(h:ld t): ld λα k=>t α λa r=>k (g a) r:=h.elim λx h=>h.elim λr e=>⟨g x,r,λα k=>e α _⟩
theorem ld.a{t:∀α:Type,(Expr->Nat->α)->α}{u:Nat->∀α:Type,(Expr->Nat->α)->α}(h:ld t)(h2:∀r,ld (u r)): ld λα k=>t α λa r=>u r α λb r=>k (.add a b) r :=
 h.elim λx h=>h.elim λr e=>(h2 r).elim λy h2=>h2.elim λr2 e2=>⟨_,r2,λα k=>(e α _).trans (e2 α _)⟩
theorem wX(f:Nat): ∀c,ld λα=>dE α f c:=by
 induction f with
 |zero=>exact λc=>.p _ _
 |succ f ih=>exact λc=>.c _ (.a (ih _) ih) (.c _ (.c _ (.m _ (ih _)) (.m _ (ih _))) (.c _ (.c _ (.p _ _) (.p _ _)) (.p _ _)))
def pE(cb:Context)(t:Nat)(x y:Expr): Prop:=Wp (x.denote cb<=y.denote cb) (λt _=>Wp (x.denote cb<y.denote cb) (λ_ _=>x.denote cb=y.denote cb) t) t
theorem OC{P:Nat->Prop}: ∀t,t<2->P 0->P 1->P t
 |0,_,h,_=>h
 |1,_,_,h=>h
 |_+2,z,_,_=>MQ z (Zq.mpr (oJ 2 _))
noncomputable def FB(t m:Nat)(A B x y:Expr): Bool:=(ExprCnstr.toNormPoly ⟨PO,A.add ((y.add (.num (1-t))).mulL m),B.add (x.mulL m)⟩).isUnsat
theorem Oy{cb:Context}{t m:Nat}{A B x y:Expr}(ht:t<2)(h:A.denote cb<=B.denote cb)(e:FB t m A B x y=WL): pE cb t x y:=by have f:∀(_:A.denote cb+m*(y.denote cb+(1-t))<=B.denote cb+m*x.denote cb),False:=λz=>(ExprCnstr.eq_false_of_isUnsat cb _ e).mp z;exact OC t (P:=λt=>(A.denote cb+m*(y.denote cb+(1-t))<=B.denote cb+m*x.denote cb->False)->pE cb t x y) ht (λf=>Zq.mp λz=>f (Zh h (Z0 m z))) (λf=>Nat.not_le.mp λz=>f (Zh h (Z0 m z))) f
noncomputable def lA(t m:Nat)(A x y:Expr): Expr:=bif ie t 3 then A.add (y.mulL m) else A.add ((x.add (.num (t % 2))).mulL m)
noncomputable def lB(t m:Nat)(B x y:Expr): Expr:=bif ie t 3 then B.add (x.mulL m) else B.add (y.mulL m)
theorem OB{cb:Context}(m:Nat){A B x y:Expr}(h:A.denote cb<=B.denote cb): ∀t,t<4->pE cb t x y->(lA t m A x y).denote cb<=(lB t m B x y).denote cb
 |0,_,e=>Zh h (Z0 m e)
 |1,_,e=>Zh h (Z0 m e)
 |2,_,e=>Zh h (Z0 m (aG e))
 |3,_,e=>Zh h (Z0 m (aG e.symm))
 |_+4,z,_=>MQ z (Zq.mpr (oJ 4 _))
/-- Vv statement that a figure says -/
def Aq(F:Nat)(cb:Context)(n:Nat): Nat->Prop :=
 Wp (λc=>dE Prop F (c / 16384) λx r=>dE Prop F r λy _=>pE cb (c % 2) x y) (λ_ ih c=>dE Prop F (c / 16384) λx r=>dE Prop F r λy r=>pE cb (c % 4) x y->ih r) n
noncomputable def Fy(F:Nat)(n:Nat): Nat->Expr->Expr->Bool :=
 Wp (λc A B=>dE Bool F (c / 16384) λx r=>dE Bool F r λy _=>FB (c % 2) (c / 4 % 4096) A B x y) (λ_ ih c A B=>dE Bool F (c / 16384) λx r=>dE Bool F r λy r=>ih r (lA (c % 4) (c / 4 % 4096) A x y) (lB (c % 4) (c / 4 % 4096) B x y)) n
theorem Oz(F:Nat)(cb:Context)(n:Nat): ∀c A B,A.denote cb<=B.denote cb->Fy F n c A B=WL->Aq F cb n c:=by
 induction n with
 |zero=>exact λc A B h e=>(wX F (c / 16384)).elim λx h1=>h1.elim λr e1=>(wX F r).elim λy h2=>h2.elim λ_ e2 =>((e1 Prop λx r=>dE Prop F r λy _=>pE cb (c % 2) x y).trans (e2 Prop _)).mpr (Oy (Nat.mod_lt _ (Ym 1)) h ((e2 Bool _).symm.trans ((e1 Bool _).symm.trans e)))
 |succ n ih=>exact λc A B h e=>(wX F (c / 16384)).elim λx h1=>h1.elim λr e1=>(wX F r).elim λy h2=>h2.elim λr2 e2 =>((e1 Prop λx r=>dE Prop F r λy r=>pE cb (c % 4) x y->Aq F cb n r).trans (e2 Prop _)).mpr λz=>ih r2 _ _ (OB _ h _ (Nat.mod_lt _ (Ym 3)) z) ((e2 Bool _).symm.trans ((e1 Bool _).symm.trans e))
theorem ao(cb:Context)(n c:Nat)(h:Fy 40 n c (.num 0) (.num 0)=WL): Aq 40 cb n c:=Oz 40 cb n c _ _ (EC _) h
noncomputable def v1(x0:Nat): ZO Nat:=.leaf x0
noncomputable def v2(x0 x1:Nat): ZO Nat:=.branch 1 (.leaf x0) (.leaf x1)
noncomputable def v3(x0 x1 x2:Nat): ZO Nat:=.branch 1 (.leaf x0) (.branch 2 (.leaf x1) (.leaf x2))
noncomputable def v4(x0 x1 x2 x3:Nat): ZO Nat:=.branch 1 (.leaf x0) (.branch 2 (.leaf x1) (.branch 3 (.leaf x2) (.leaf x3)))
noncomputable def v5(x0 x1 x2 x3 x4:Nat): ZO Nat:=.branch 1 (.leaf x0) (.branch 2 (.leaf x1) (.branch 3 (.leaf x2) (.branch 4 (.leaf x3) (.leaf x4))))
noncomputable def v6(x0 x1 x2 x3 x4 x5:Nat): ZO Nat:=.branch 1 (.leaf x0) (.branch 2 (.leaf x1) (.branch 3 (.leaf x2) (.branch 4 (.leaf x3) (.branch 5 (.leaf x4) (.leaf x5)))))
noncomputable def v7(x0 x1 x2 x3 x4 x5 x6:Nat): ZO Nat:=.branch 1 (.leaf x0) (.branch 2 (.leaf x1) (.branch 3 (.leaf x2) (.branch 4 (.leaf x3) (.branch 5 (.leaf x4) (.branch 6 (.leaf x5) (.leaf x6))))))
noncomputable def v8(x0 x1 x2 x3 x4 x5 x6 x7:Nat): ZO Nat:=.branch 1 (.leaf x0) (.branch 2 (.leaf x1) (.branch 3 (.leaf x2) (.branch 4 (.leaf x3) (.branch 5 (.leaf x4) (.branch 6 (.leaf x5) (.branch 7 (.leaf x6) (.leaf x7)))))))
noncomputable def v9(x0 x1 x2 x3 x4 x5 x6 x7 x8:Nat): ZO Nat:=.branch 1 (.leaf x0) (.branch 2 (.leaf x1) (.branch 3 (.leaf x2) (.branch 4 (.leaf x3) (.branch 5 (.leaf x4) (.branch 6 (.leaf x5) (.branch 7 (.leaf x6) (.branch 8 (.leaf x7) (.leaf x8))))))))
noncomputable def OF(x0 x1 x2 x3 x4 x5 x6 x7 x8 x9 x10 ig:Nat): ZO Nat:=.branch 1 (.leaf x0) (.branch 2 (.leaf x1) (.branch 3 (.leaf x2) (.branch 4 (.leaf x3) (.branch 5 (.leaf x4) (.branch 6 (.leaf x5) (.branch 7 (.leaf x6) (.branch 8 (.leaf x7) (.branch 9 (.leaf x8) (.branch 10 (.leaf x9) (.branch 11 (.leaf x10) (.leaf ig)))))))))))
noncomputable def FG(x0 x1 x2 x3 x4 x5 x6 x7 x8 x9 x10 ig dO kJ:Nat): ZO Nat:=.branch 1 (.leaf x0) (.branch 2 (.leaf x1) (.branch 3 (.leaf x2) (.branch 4 (.leaf x3) (.branch 5 (.leaf x4) (.branch 6 (.leaf x5) (.branch 7 (.leaf x6) (.branch 8 (.leaf x7) (.branch 9 (.leaf x8) (.branch 10 (.leaf x9) (.branch 11 (.leaf x10) (.branch 12 (.leaf ig) (.branch 13 (.leaf dO) (.leaf kJ)))))))))))))
noncomputable def OG(x0 x1 x2 x3 x4 x5 x6 x7 x8 x9 x10 ig dO kJ dw:Nat): ZO Nat:=.branch 1 (.leaf x0) (.branch 2 (.leaf x1) (.branch 3 (.leaf x2) (.branch 4 (.leaf x3) (.branch 5 (.leaf x4) (.branch 6 (.leaf x5) (.branch 7 (.leaf x6) (.branch 8 (.leaf x7) (.branch 9 (.leaf x8) (.branch 10 (.leaf x9) (.branch 11 (.leaf x10) (.branch 12 (.leaf ig) (.branch 13 (.leaf dO) (.branch 14 (.leaf kJ) (.leaf dw))))))))))))))
end
theorem OM{a b c:Nat}:a+40*c+200<b->a+200<b:=ao (v3 a b c) 1 0x4000647c430000a4000647c45000147c23000005 rfl
theorem ON{a b c:Nat}:a+3*c+6<b->a+6<b:=ao (v3 a b c) 1 0x8610c000290c228c23000005 rfl
theorem FS{a b:Nat}:b<2 ^ 62->a=b->(a:Int)<2 ^ 63:=λh e=>Y7 (qO.mpr (ZQ (aG e) h)) (by decide)
theorem Rt{b:Nat}{a:Int}:¬(0<=a)->a+(b:Int)<(b:Int):=λh=>Y7 (Int.add_lt_add_right (WA.mp h) (b:Int)) (bp (Int.zero_add _))
theorem TA{b:Nat}{a:Int}:(-(b:Int))<=a->0<=a+(b:Int):=λh1=>Int.add_nonneg_iff_neg_le.mpr h1
theorem TV{a:Int}:¬(0<=a)->a<2 ^ 63:=λh=>Uy (WA.mp h) (by decide)
theorem F8{b c:Nat}{a:Int}:(-(b:Int))<=a->c<2 ^ 62->b=c->(-2 ^ 63)<=a:=λh h2 e=>Ey (Ey (show (-2^63:Int)<=-((2^62:Nat):Int) by decide) (VO (ZF.mpr (YW (ZQ (aG e) h2))))) h
theorem Ud{a:Nat}{b:Int}:(-(a:Int))<=b->(-(a:Int))<=b:=λh1=>Int.le_def.mpr h1
theorem Uo{a:Int}:¬(0<=a)->a<0:=λh1=>Int.lt_of_not_ge h1
theorem amq{b:Nat}{a:Int}:0<=a->Zr a<b->a<(b:Int):=λh1 h2=>(Uz h1).mp h2
theorem FK{a:Int}:0<=a->¬(a<0):=λh1=>amT h1
theorem FL{b c:Nat}{a:Int}:Zr a<b->c<2 ^ 62->b=c->a<2 ^ 63:=λh1 h2 h3=>Y6 (Int.self_le_toNat a) (Y7 (qO.mpr (Nat.lt_trans h1 (ZQ (aG h3) h2))) (by decide))
theorem O7{a:Int}:0<=a->(-2 ^ 63)<=a:=λh=>Ey (by decide) h
theorem Pi{a b c d:Nat}:a=b+c->d<=18->a<=d->a<=2 ^ 24+1:=λU h k=>Le k (Le h (l9 rfl))
theorem Pt{a b c:Nat}:c+1<=b->a<=c->a+1<=b:=ao (v3 a b c) 2 0x8110c00021460021022280004 rfl
theorem FP{a b c:Nat}:c<=b->a<=c->a+0<=b:=λh1 h2=>Le h2 h1
theorem Px{a b:Nat}:a+b+1=a+1+b:=YY a b 1
theorem Pz{a b:Nat}:a+1<=b->a+1<=b+1:=by lia -abstractProof
theorem PC{a b:Nat}:a+1<=b->a+1+1<=b+1:=λh1=>WV h1 1
theorem PH{a b:Nat}:a<=b->a+1<=b+1:=by lia -abstractProof
theorem AC{a b:Nat}:a<=b->a<=b+1:=λh1=>Nat.le_add_right_of_le h1
theorem P3{a:Nat}:a<=1000000->a<=16777216:=λh=>Le h (l9 rfl)
theorem Qd{a:Nat}:0<((a+1:Nat):Int):=Int.ofNat_succ_pos a
theorem Qk{b:Nat}{a:Int}:a+((b:Int)+1)=a+1+(b:Int):=by lia -abstractProof
theorem Qv{a b c d:Nat}:c=a->c=d->a<=b->min a b=a:=λU U h3=>Z4 h3
theorem QE{a b c d:Nat}:a<c->b=d->b=c->a<b:=ao (v4 a b c d) 3 0x20c00529000731000228c005 rfl
theorem QM{a b:Nat}:a<=b->min a b=a:=λh1=>Z4 h1
theorem QX{a b c:Nat}:a<c->b=c->a<b:=ao (v3 a b c) 2 0x20c00529000728c005 rfl
theorem Q7{a b c d:Nat}:a<c->b=d->d<=c->d<=a->a-b<c-d:=λh1 h2 U h4=>h2▸alP (h2▸h4) h1
theorem Ri{a b c:Nat}:a=c->c<=b->a<=b:=ao (v3 a b c) 2 0x20c00421400428c006 rfl
theorem Ru{a b:Nat}:a<=b->a+(b-a)=b:=by lia -abstractProof
theorem RH{a b c:Nat}:a+3*(c+1)+6<b->a<b:=ao (v3 a b c) 1 0x830014861044500c23000005 rfl
theorem RY{a b c:Nat}:c=b->b<=a->a=b+(a-b):=by lia -abstractProof
theorem Sh{a b c:Nat}:c=a->a<=b->a+(b-a)=b:=λU h2=>amz h2
theorem F1{a b:Nat}:b=a->a<=b:=λh1=>aG (id (Eq.symm h1))
theorem SG{a b c:Nat}:a+1=b+1+c->a=b+c:=by lia -abstractProof
theorem SS{a b c:Nat}:a+40*(b+1)+200<c->a+3+40*b+200<c:=ao (v3 a b c) 1 0x2800323e220000a3e1188600000052800323e208880000147c23000005 rfl
theorem F3{a b c:Nat}:a+3*(b+1)+6<c->a+1+3*b+6<c:=ao (v3 a b c) 1 0x2984418422180000014a61044400c23000005 rfl
theorem F4{a b c:Nat}:a+40*(b+1)+200<c->a+1+40*b+200<c:=ao (v3 a b c) 1 0x2800323e220000a3e1088600000052800323e208880000147c23000005 rfl
theorem To{a b c:Nat}:a+3*(b+1)+6<c->a+3*b+6<c:=ao (v3 a b c) 1 0x53088308c000014a61044400c23000005 rfl
theorem F6{a b:Nat}:a<b+1->b<=a->a=b:=λh1 h2=>Nat.eq_of_le_of_lt_succ h2 h1
theorem TL{a b:Nat}:a+(140+1)<b->a+1+140<b:=λh1=>WZ h1
theorem TM{a b:Nat}:a+200<b->a+(140+1)<b:=ao (v2 a b) 1 0x1022000467c401800052000323e2180005 rfl
theorem TN{a b:Nat}:Zr ((-1)+(b:Int))=a->(-((a:Int)+1))<=(-1):=λU=>VO (Int.le_add_of_nonneg_left (Yn a))
theorem TP{a:Nat}:Zr ((-1)+((a:Int)+1))=a:=by lia -abstractProof
theorem TQ{a b:Nat}:a=b->a<=b:=λh1=>aG h1
theorem F7{a b:Nat}:a+1<=b->a<b:=by lia -abstractProof
theorem TS{a b:Nat}:a+1<=b->a<=b:=by lia -abstractProof
theorem TT{a:Int}:Int.natAbs a<=100->Int.natAbs a<2 ^ 64:=λh=>ZQ h (l9 rfl)
theorem TU{a:Int}:0<=a->a<=20->a<=1000000:=λU h=>Ey h (by decide)
theorem TW{a b c d:Nat}:a+40*d+200<c->b<=d->a+40*b+200<c:=ao (v4 a b c d) 2 0xa000c8f88800028f84600000a6201405000647c46000147c23000005 rfl
theorem TX{a b c d:Nat}:a+3*d+6<c->b<=d->a+3*b+6<c:=ao (v4 a b c d) 2 0xa611061180000298800614c230c23000005 rfl
theorem TY{a b:Nat}:¬(b<=a)->min a b≠b:=λh e=>h (Le (aG e.symm) (Yq a b))
theorem TZ{a b c:Nat}:b<=c->min (min a b) b<=c:=λh=>Le (Z8 _ _) h
theorem T0{a:Nat}:Zr (0+(a:Int)*1)=0+a:=(congrArg Zr ((Int.zero_add _).trans (Int.mul_one _))).trans (kI a).symm
theorem T1:(0:Int)<1:=by lia -abstractProof
theorem T2{a b:Nat}:min (a:Int) (b:Int)=((min a b:Nat):Int):=(Lean.Omega.Int.ofNat_min a b).symm
theorem tU{a:Nat}:¬((a:Int)<0):=Int.not_ofNat_neg a
theorem T3:¬((1:Int)<0):=by lia -abstractProof
theorem T4{b c e:Nat}{a d:Int}:b+c<=e->d<=(b:Int)->a<=d->min (Zr a) b-0+c+(min b b-Zr d)<=e+1:=λh1 h2 h3=>by rw[Nat.min_self];refine Le (WV (WV (Le (Yq _ _) (Int.toNat_le_toNat h3)) c) _) ?_;rw[YY,XE (Int.toNat_le.mpr h2)];exact ZP h1
theorem T5{a b c:Nat}:a+c<=b->a<=b:=λh1=>Vl h1
theorem T6{a b:Int}:a<=b->max a b=b:=λh1=>VE h1
theorem T7{a b c:Nat}:a+b<=c->a+b<=c:=ao (v3 a b c) 1 0x290600010a4180004 rfl
theorem T8{b:Nat}{a:Int}:a<=(b:Int)->¬(a<0)->max 0 (min a (b:Int))=a:=λh n=>(congrArg (max 0) (am5 h)).trans (VE (Yw.mp n))
theorem T9{b:Nat}{a c:Int}:0<=a->c<=(b:Int)->a<=c->max 0 (min a (b:Int))=a:=λh1 h2 h3=>(congrArg (max 0) (am5 (Ey h3 h2))).trans (VE h1)
theorem Ua{a b:Int}:0<=b->b<=a->¬(a<0):=λh k=>Yw.mpr (Ey h k)
theorem Ub{a b c d:Nat}:c=a->d=b->a<=1000000->b<=1000000->a+b<=2 ^ 24:=λU U h k=>Le (Zh h k) (l9 rfl)
theorem Uc{a:Nat}:a<=1000000->a<2 ^ 62:=λh=>ZQ h (l9 rfl)
theorem Ue{a:Nat}:1<=a+1:=oJ 1 a
theorem Uf{a b c d e:Nat}:e+(1+c+d)<=1000000->e=a+(1+b)->a+(1+(b+c)+0)+d<=1000000:=ao (v5 a b c d e) 2 0x7a1207c46008a40044000c00001081100603800ef4240f88c508800380004 rfl
theorem Ug{a b c d e:Nat}:c+(1+b+d)<=1000000->c=e+(1+a)->a+b<=1000000:=ao (v5 a b c d e) 2 0x1e8481f11060001061100e02800ef4240f88c408800280004 rfl
theorem Uh{a b c d e f:Nat}:b+(1+a+c)<=1000000->b+d<=1000000->b=e+(1+f)->a<=1000000:=ao (v6 a b c d e f) 3 0x7a1207c43001101100e020004f4240f88c400000f4240f88a308800200004 rfl
theorem Ui{a b c d e f:Nat}:b+(1+c+d)<=1000000->b+e<=1000000->b=f+(1+a)->a<=1000000:=ao (v6 a b c d e f) 3 0x7a1207c43001061101002000ef4240f88e400000f4240f88c508800200004 rfl
theorem Uj{a b c:Nat}:b+c<=1000000->a<=b->a<=1000000:=ao (v3 a b c) 2 0x1e8481f10c00420c0047a1207c45200004 rfl
theorem Uk{a b c:Nat}:a+(1+c+b)<=1000000->a+b<=1000000:=ao (v3 a b c) 1 0xf4240f888300008f4240f888508800180004 rfl
theorem Ul{a b c:Nat}:a+(1+b+c)<=1000000->a+(1+b+0)+c<=1000000:=ao (v3 a b c) 1 0xf4240f88a0110220006000008f4240f88a408800180004 rfl
theorem Um{a:Nat}:a+1<=1000000->1+a<=1000000:=ao (v1 a) 1 0x1e8481f10c2200008f4240f8822180004 rfl
theorem Un{a:Nat}:Zr ((-1)+((a+1:Nat):Int))=a:=by lia -abstractProof
theorem Up{a:Nat}:1<=(a:Int)+1:=by lia -abstractProof
theorem F9:¬(0<=(-1)):=by lia -abstractProof
theorem Uq{a b c:Nat}:a<=c->a+1<=1+b+c:=ao (v3 a b c) 1 0x290220002218000428c004 rfl
theorem Ur{a:Nat}:2+10*a+a+0+0<=2+11*a:=ao (v1 a) 0 0x6b088400080218d4110800000004 rfl
theorem amy{a b c d:Nat}:a<=c->b<=d->a+b<=c+d:=ao (v4 a b c d) 2 0x3140418000431000428c004 rfl
theorem Ga{a:Nat}:a+0<=a:=EC (a+0)
theorem amx{a b c d:Nat}:a<=2+10*b+c+d+a:=oJ a (2+10*b+c+d)
theorem amt{a b c d e f i:Nat}:a<=10*c->b<=i->1+a+b<=2+10*c+d+e+f+i:=ao (v7 a b c d e f i) 2 0x4a0e62a8221000000083088000011240010aa08c004 rfl
theorem ams{a:Nat}:a<=10*a:=ao (v1 a) 0 1778958340 rfl
theorem amr{a b c d:Nat}:2+10*b+c+d+a<=1000000->a<=1000000:=λh1=>alx h1
theorem amp{a b c d:Nat}:2+10*b+c+a+d<=1000000->a<=1000000:=ao (v4 a b c d) 1 0x3d0903e218008f4240f88c32914110800000004 rfl
theorem amo{a b c d:Nat}:2+10*b+a+c+d<=1000000->a<=1000000:=ao (v4 a b c d) 1 0x3d0903e218008f4240f88c51914110800000004 rfl
theorem UA{a b c d e:Nat}:2*a<=b->2+10*c+d+e+b<=1000000->a<=1000000:=ao (v5 a b c d e) 2 0xf4240f8860043d0903e221cc55044200000001083104004 rfl
theorem UB{a b c d e f:Nat}:2*a<=f->2*(a+1)<=2+10*b+c+d+e+f:=ao (v6 a b c d e f) 1 0x41cc522822100000002218041001103104004 rfl
theorem UC{a b c d:Nat}:b=c+d->a+b=a+c+d:=by lia -abstractProof
theorem Gb{a b c d e f i:Nat}:a<=2+i+f->i<=e->a<=2+10*b+c+d+(e+f):=ao (v7 a b c d e f i) 2 0x107018a450442000001800874800884884000c004 rfl
theorem UD{a b c d e f i:Nat}:2*a<=b->2+10*c+d+e+(f+b)<=1000000->i<=f->a+1<=1000000:=ao (v7 a b c d e f i) 3 0x1e8481f1044300010848000f4240f888801cc55044200000001083104004 rfl
theorem UE{a b c d e f i j:Nat}:2+10*b+c+d+(e+f)<=1000000->i<=e->a<=j->j<=i+f->a<=1000000:=ao (v8 a b c d e f i j) 4 0x3d0903e218008848140022860021d20023d0903e241c062914110800000004 rfl
theorem UF{a b:Nat}:a+b<=1000000->a<=1000000:=λh1=>Vl h1
theorem wZ{a b:Nat}:a+(b+1)<=1000000->a+1+b<=1000000:=ao (v2 a b) 1 0x1e8481f1102218000023d0903e208880180004 rfl
theorem OO{a b c d e:Nat}:2+10*b+c+d+(a+e)<=1000000->a<=1000000:=ao (v5 a b c d e) 1 0xf4240f8860023d0903e238c062914110800000004 rfl
theorem OP{a b:Nat}:b<=1000000->a<=b->0+a<=1000000:=ao (v2 a b) 2 0x3d0903e2180400010830011e8481f110004 rfl
theorem OQ{a b c d e f:Nat}:a<=e->a+1<=2+10*b+c+d+(e+f):=ao (v6 a b c d e f) 1 0x41c0629141108000002218000438c004 rfl
theorem OR{a b c d e f:Nat}:e=b->a<=2+11*f->f<=b->a<=2+10*b+b+c+d:=ao (v6 a b c d e f) 3 0x3148450442000001800844005885844200c00421c002 rfl
theorem OS{a b c d:Nat}:2+10*0+0+0+0<=2+10*a+b+c+d:=ao (v4 a b c d) 0 0xc520d411080000002008020094110800000004 rfl
theorem OT{a b c:Nat}:min (a-b) (c-b)<=c:=Le (Z8 _ _) (Nat.sub_le _ _)
theorem OU{a b c d e:Nat}:d<=0+e->a<=2+d->e<=b+c->a<=2+b+c:=ao (v5 a b c d e) 3 0x52084000c004290070010c210060021c02018004 rfl
theorem OV{a b c d e:Nat}:e<=b+c->a<=e+d->a<=b+(c+d):=ao (v5 a b c d e) 2 0x3140400c00431c030010a401c004 rfl
theorem OW{a b c d e f:Nat}:1+11*e<=d->1+11*f<=c->b<=2+11*(f+e)->a+(b+0)<=a+(c+0)+d:=ao (v6 a b c d e f) 3 0x6008a0180001100300008740161108040010a8584220000863ac21100004 rfl
theorem OX{a b:Nat}:a+(b+0)<=a+b:=F1 rfl
theorem OY{a b:Nat}:a<=a+b:=oW a b
theorem OZ{a b c:Nat}:1+11*0<=2+10*0+a+b+c:=ao (v3 a b c) 0 0xa41804a088400000012c21100004 rfl
theorem O0{a b c:Nat}:1+11*a<=2+10*a+a+b+c:=ao (v3 a b c) 0 0x2906350442000001ac21100004 rfl
theorem O3{a b c:Nat}:1+11*1<=2+10*1+a+b+c:=ao (v3 a b c) 0 0xa41844a088400000112c21100004 rfl
theorem FM{a:Nat}:2+10*0+0+0+a<=2+a:=Ga
theorem O4{a:Nat}:a<=2+(a+0):=oJ a 2
theorem O5{a b c:Nat}:a<c->c<=b->a<=b:=ao (v3 a b c) 2 0x20c00421400428c005 rfl
theorem O6{a b c d e:Nat}:(b+d) / 2=a->d-b=c->a<d->b<d->d<=e->b<=a->a-b<c:=λU h2 h3 U U h6=>h2▸alP h6 h3
theorem O8{a b c d:Nat}:b<c->a<b+1->c<=d->a<=b:=ao (v4 a b c d) 3 0x10600218a000044400c005290001 rfl
theorem O9{a b c:Nat}:a<b->b<=c->a+1<=b:=ao (v3 a b c) 2 0x102218000429000020c005 rfl
theorem Pb{a b c d i j:Nat}:d<=i->i=b->j+d=a->j=c->a<b+1+c:=ao (v6 a b c d i j) 4 0x1422200030014a800186640000721c006398004 rfl
theorem Pc{a b c:Nat}:(c+b) / 2=a->c<b->c<=a->a<b:=λh1 h2 U=>h1▸(Nat.div_lt_iff_lt_mul (Ym 1)).mpr (Nat.lt_of_lt_of_eq (Nat.add_lt_add_right h2 b) (VB b).symm)
theorem Pd{a b c:Nat}:(a+c) / 2=b->a<c->a<=b:=λh1 h2=>h1▸(alz (Ym 1)).mpr (Le (aG (VB a)) (Xi (YW h2) a))
theorem Pe{a b:Nat}:((a:Int)+(b:Int)) / 2=(((a+b) / 2:Nat):Int):=Eq.symm (Nat.ToInt.div_congr rfl rfl)
theorem Pf{a b c:Nat}:b+a<=c->c<=1000000->a<=1000000:=ao (v3 a b c) 2 0x1e8481f10c0047a1207c450010a3200004 rfl
theorem Pg{a b c:Nat}:a<=c->b<=c-a->a+b<=c:=λh1 h2=>(Nat.le_sub_iff_add_le' h1).mp h2
theorem Az{a b c:Nat}:a-b=c->b<a->a-(b+1)<c:=λh k=>h▸Nat.sub_lt_sub_left k (YB b)
theorem Ph{a b c:Nat}:b<c-a->a<=c->a+b<c:=λh1 U=>Nat.add_lt_of_lt_sub' h1
theorem Pj{a b c:Nat}:a<=c->b<=c->b<=a->a-b<=c-b:=λU h U=>Nat.sub_le_sub_right ‹_› _
theorem Pk{a:Nat}:0<a->a-1<a:=λh1=>Nat.sub_one_lt_of_lt h1
theorem Pl{a:Nat}:0<a->Zr ((-1)+(a:Int))=a-1:=λh=>by refine a7 (Nat.exists_eq_succ_of_ne_zero (V6 h)) λn y9=>?_;subst y9;rw[Int.natCast_succ,Int.add_comm,Int.add_neg_cancel_right];rfl
theorem Pm{a:Nat}:0<a->(-(a:Int))<=(-1):=λh=>VO (ZF.mpr h)
theorem Pn{a b:Nat}:a<b->min a b<=b:=λU=>Z8 a b
theorem Po{a b:Nat}:a<b->min a b+1<=b:=λh=>Le (de (Yq a b)) h
theorem Pp{a b:Nat}:a<=b->min a b<=b:=λU=>Z8 a b
theorem FN{a b:Nat}:a+(b+1)<=1000000->a+b<=1000000:=λh1=>WY h1
theorem tP{a b:Nat}:a+(b+1)<=1000000->a<=1000000:=λh1=>Vl h1
theorem Pq{a b c:Nat}:a+(b+c)<=1000000->a+b+c<=1000000:=ao (v3 a b c) 1 0x7a1207c4520c000011e8481f11480180004 rfl
theorem FO{a b c:Nat}:a+(b+c)<=1000000->a+b<=1000000:=ao (v3 a b c) 1 0x1e8481f110600011e8481f11480180004 rfl
theorem AA{a:Nat}:a<=1000000->(a:Int)+1<2 ^ 62:=λh=>Y6 (Z1 (ZF.mpr h) 1) (by decide)
theorem AB{a:Nat}:a<=1000000->(-2 ^ 62)<=(a:Int)+1:=λU=>Int.neg_ofNat_le_ofNat (2 ^ 62) (a+1)
theorem Pu{b c:Nat}{a:Int}:(c:Int)=(b:Int)->a≠(b:Int)->a<=(b:Int)->a<(b:Int):=λU h2 h3=>amc h3 h2
theorem Pv{b c:Nat}{a:Int}:(c:Int)=(b:Int)->a<=(b:Int)->a-1<(b:Int):=λU h2=>Int.sub_one_lt_of_le h2
theorem Pw{a:Int}:0<=a->a≠0->0<=a-1:=λh n=>alT (WT.mpr ⟨h,n.symm⟩)
theorem Py{a b:Nat}:a<=b->¬(a<b)->a=b:=by lia -abstractProof
theorem PA{a b:Nat}:a<=b->a+(b-a)+1=b+1:=by lia -abstractProof
theorem PB{a b c:Nat}:b<=a->a-b+(c+1)=a+1-b+c:=λh=>by rw[Nat.sub_add_comm h,YY,Yj]
theorem PD{a:Nat}:¬((a:Int)<5)->¬(a<5):=λh k=>h (qO.mpr k)
theorem FQ{a:Nat}:(a:Int)<5->a<5:=λh1=>qO.mp h1
theorem PE{a:Nat}:a<=900001->a+1<=1000000:=ao (v1 a) 1 0x3d0903e2088600011b7743f10c004 rfl
theorem PF{a:Nat}:a<=900000->0+(a+1)<=900001:=ao (v1 a) 1 0x1b7743f10443000400011b7741f10c004 rfl
theorem PG{a:Nat}:0+a+0+1=a+1:=Zc (ao (v1 a) 0 0x88600880218040000004 rfl) (ao (v1 a) 0 0x88021804000022180004 rfl)
theorem PI{a b c d e f:Nat}:a+1+f<=e->b+c+d+1+0+1=f->a+(b+c+d+1)<=e:=ao (v6 a b c d e f) 2 0x1c22314800006000110110041118a4000000000c740443000004 rfl
theorem PJ{a b c d:Nat}:a+b+c+1+0+1=d->a+b+c+1<d:=ao (v4 a b c d) 1 0x3044520c000000a608802088a418000000006 rfl
theorem PK{a b c d e f i:Nat}:b+(d+c+1)+1=f->a+f<=e->i=d->a+(b+c+d+1)<=e:=ao (v7 a b c d e f i) 3 0x7088c5200001800043240023a0600011011044530004000006 rfl
theorem PL{a b c d:Nat}:a+(c+b+1)+1=d->a+b+c+1<d:=ao (v4 a b c d) 1 0x6088a4180000014c11044428003000006 rfl
theorem PM{a b c d e f i j:Nat}:b+c+(e+2+d)+1=i->a+i<=f->j=d->a+1+(b+c+d+1+e+1)<=f:=ao (v8 a b c d e f i j) 3 0x202238446290000000110c000010ca00090918000448446108e001480000006 rfl
theorem PN{a b c d:Nat}:a+b+c+1+d+1<a+b+(d+2+c)+1:=ao (v4 a b c d) 0 0x88a21180020c0000446088a418000000005 rfl
theorem FR{a b c:Nat}:a<b+c->b<=a->a-b<c:=λh1 h2=>akB h2 h1
theorem PP{a b:Nat}:a<=a+b+1:=ao (v2 a b) 0 18762027810820 rfl
theorem PQ{a:Nat}:a<35->¬((a:Int)<25)->¬(a<12)->¬(a<16)->¬(a<25):=λU h U U k=>h (qO.mpr k)
theorem PR{a:Nat}:((a+16:Nat):Int)-16=(a:Int):=alE.mpr rfl
theorem PT{a:Nat}:a+16<25->a+16<35->a<9:=ao (v1 a) 2 0x1221800a00023f8a02180001c8a02180005 rfl
theorem PU{a:Nat}:a<25->a<35->¬(a<12)->¬(a<16)->a=a-16+16:=λU U U h=>(YZ (Zq.mp h)).symm
theorem PV{a:Nat}:(a:Int)<25->a<35->¬(a<12)->¬(a<16)->a<25:=λh1 U U U=>qO.mp h1
theorem PW{a:Nat}:a<35->¬((a:Int)<16)->¬(a<12)->¬(a<16):=λU h U k=>h (qO.mpr k)
theorem PX{a:Nat}:((a+12:Nat):Int)-12=(a:Int):=alE.mpr rfl
theorem PY{a:Nat}:a+12<16->a+12<35->a<4:=ao (v1 a) 2 0x821800a00023f898218000180982180005 rfl
theorem PZ{a:Nat}:a<16->a<35->¬(a<12)->a=a-12+12:=λU U h=>(YZ (Zq.mp h)).symm
theorem P0{a:Nat}:(a:Int)<16->a<35->¬(a<12)->a<16:=λh1 U U=>qO.mp h1
theorem P4{a:Nat}:a<35->¬((a:Int)<12)->¬(a<12):=λU h k=>h (qO.mpr k)
theorem P5{a:Nat}:(a:Int)<12->a<35->a<12:=λh1 U=>qO.mp h1
theorem P6{a:Nat}:(a:Int)<35->0<=(a:Int)->a<35:=λh1 U=>qO.mp h1
theorem P7{a b c d:Nat}:a+c<=2002->d=c->d=b+1->a+1+b<=2002:=ao (v4 a b c d) 3 0xfa5f1102218000020444018007298006003e97c45180004 rfl
theorem P8{a b c:Nat}:c=b->c=a+1->a<b:=ao (v3 a b c) 2 0x1060028443014007214006 rfl
theorem P9{a b c d e f i:Nat}:c+1<=d->a+e<=2002->f=e->i=b+c->f=b+d->a+(b+c)<=2002:=ao (v7 a b c d e f i) 5 0x7d2f88a400c000218804000e520120011d0003001f4be238c00021822280004 rfl
theorem Qa{a b c d e f:Nat}:b+1<=d->e=c->f=a+b->e=a+d->a+b<c:=ao (v6 a b c d e f) 4 0x520c000298603800e4181000114e0031822200004 rfl
theorem AD{c:Nat}{a b:Int}:0<=b/\b<=(c:Int)->b<a->0<=a:=λh k=>ZE (Y6 h.1 k)
theorem Qb{a b:Nat}:a+2<=b->1+a+0+1<=b:=ao (v2 a b) 1 0x2044010c2200000021042180004 rfl
theorem Qc{a b:Nat}:a+2<=b->0+a+1+1<=b:=ao (v2 a b) 1 0x2044110c0200000021042180004 rfl
theorem FT{a b:Nat}:a+2<=b->0+a+0+1<=b:=ao (v2 a b) 1 0x2044010c0200000021042180004 rfl
theorem Qe{a b:Nat}:a+1<=b->2*a+0+2<=2*b:=ao (v2 a b) 1 0x4104420086208000021022180008 rfl
theorem FU{a:Nat}{b:Int}:0+2<=2*(Zr ((a:Int)-b)+1):=l9 rfl
theorem Qf{a:Nat}{b c:Int}:c<b->b<=(a:Int)->Zr ((a:Int)-b)+1+1<=Zr ((a:Int)-c)+1:=λh1 h2=>de ((Int.toNat_lt_toNat (amD (Y7 h1 h2))).mpr (Int.sub_lt_sub_left h1 _))
theorem Qg{a b:Nat}:a+b<=2002->a<=1000000:=ao (v2 a b) 1 0x1e8481f10c004003e97c44180004 rfl
theorem Qh{a b c:Nat}:c+(a+b)<=2002->a+b<=1000000:=ao (v3 a b c) 1 0x1e8481f11060001000fa5f11060280004 rfl
theorem Qi{a b c:Nat}:b+(c+1)<=2002->b+(c+a)<=2002->a<=1000000:=ao (v3 a b c) 2 0x3d0903e218008007d2f88650100002001f4be2088a0200000 rfl
theorem Qj{a b c d:Nat}:b+(c+(a+d))<=2002->b+(c+1)<=2002->a<=1000000:=ao (v4 a b c d) 2 0xf4240f886002001f4be2088a0200000003e97c46180a0200004 rfl
theorem FV{a b c d e:Nat}:c+(d+(a+b+e))<=2002->c+(d+1)<=2002->a+b<=1000000:=ao (v5 a b c d e) 2 0xf4240f888300008007d2f8822300a0000000fa5f11c83000c0280004 rfl
theorem Ql{a b:Nat}:a+(b+1)<=2002->a<=1000000:=ao (v2 a b) 1 0xf4240f886002001f4be208880180004 rfl
theorem Qm{a b:Nat}:b+(a+1)<=2002->a+1<=1000000:=ao (v2 a b) 1 0x7a1207c4110c0002001f4be208860200004 rfl
theorem Qn{a:Nat}{b:Int}:0<=b/\b<=(a:Int)->a<=50->0+2*(Zr ((a:Int)-b)+1)<=2002:=λh k=>Le (aG (kI _)) (Le (Z0 2 (de (Le (Int.toNat_le.mpr (am4 _ h.1)) k))) (l9 rfl))
theorem Qo{a:Nat}:5<=a->0+1<=a:=λh1=>alx h1
theorem Qp{a b c d:Nat}:a+c<=2002->d=c->b<=d->a+b<=2002:=ao (v4 a b c d) 3 0x3e97c44180004310004298006003e97c45180004 rfl
theorem Qq{a b c:Nat}:1<=b->a<=c->a+1<=b+c:=ao (v3 a b c) 2 0xa400443000085180084088004 rfl
theorem Qr{b:Nat}{a:Int}:0<=a/\a<=(b:Int)->a≠(b:Int)->a+1<=(b:Int):=λh n=>WT.mpr ⟨h.2,n⟩
theorem Qs{b:Nat}{a:Int}:0<=a/\a<=(b:Int)->0<=a+1:=λh=>Ey h.1 (ZE (Int.lt_succ a))
theorem Qt{a b c d:Nat}:b<=c->a<=d+1->a+b<=c+(d+1):=ao (v4 a b c d) 2 0x22300a020c0002044600c004290004 rfl
theorem Qu{a c:Nat}{b:Int}:1<=b/\(a:Int)+b<=(c:Int)->a<c->(a:Int)<(a:Int)+b:=λh U=>Int.lt_add_of_pos_right _ h.1
theorem Qw{a c:Nat}{b:Int}:1<=b/\(a:Int)+b<=(c:Int)->a<c->(a:Int)+b<=(c:Int):=λh U=>h.2
theorem Qx{a c:Nat}{b:Int}:0<=(a:Int)/\(a:Int)<=(c:Int)->1<=b/\(a:Int)+b<=(c:Int)->a<c->0<=(a:Int)+b:=λh k U=>VN h.1 (ZE k.1)
theorem Qy{a b:Nat}:(a:Int)≠(b:Int)->0<=(a:Int)/\(a:Int)<=(b:Int)->a<b:=λn h=>Nat.lt_of_le_of_ne (ZF.mp h.2) λe=>n (congrArg _ e)
theorem Qz{b:Nat}{a:Int}:0<=a/\a<=(b:Int)->a<((b+1:Nat):Int):=λh=>Int.lt_add_one_of_le h.2
theorem QA{a b:Nat}:a-1<=b->a<=b+1:=λh1=>Nat.le_add_of_sub_le h1
theorem QB{b:Nat}{a:Int}:0<=a/\a<((b+1:Nat):Int)->a≠(b:Int)->0<=a/\a<(b:Int):=λh n=>⟨h.1,WT.mpr ⟨alU h.2,n⟩⟩
theorem QC{a:Int}:¬(0<=a/\a<((0:Nat):Int)):=λh=>Yw.mpr h.1 h.2
theorem QD{a:Nat}{b c d:Int}:b=1∨b=2->c=1∨c=2->d=1∨d=2->d≠b->c≠d->c≠b->a<=2:=λh1 h2 h3 n1 n2 n3=>Zg (h1.elim (λe1=>h2.elim (λe2=>n3 (e2.trans e1.symm)) λe2=>h3.elim (λe3=>n1 (e3.trans e1.symm)) λe3=>n2 (e2.trans e3.symm)) λe1=>h2.elim (λe2=>h3.elim (λe3=>n2 (e2.trans e3.symm)) λe3=>n1 (e3.trans e1.symm)) λe2=>n3 (e2.trans e1.symm))
theorem FW{b:Nat}{a:Int}:a≠(b:Int)->a<=(b:Int)->a<(b:Int):=λh1 h2=>amc h2 h1
theorem tT{a b:Nat}:0+1<=a+5+2*b+1:=oJ (0+1) (a+5+2*b)
theorem QF{a b:Nat}:0+3<=a+5+2*b+1:=ao (v2 a b) 0 0x222082510c0000c40100004 rfl
theorem QG{a b:Nat}:5<=a+5+2*b:=ao (v2 a b) 0 0x2082510c00288004 rfl
theorem QH{a b c d e f:Nat}:b+(c+1)=d->b+e=d->a+d<=f->f<=1000000->a+b<=1000000:=ao (v6 a b c d e f) 4 0x3d0903e220c00023d0903e240008830c000218e4000046088a0200006 rfl
theorem QI{a b c:Nat}:a+b<=a+(b+c):=ao (v3 a b c) 0 0xa400c04180004 rfl
theorem QJ{a b:Nat}:2*(a+1)+4<=b+6->2*a+4<=b+4:=ao (v2 a b) 1 0x104401043104000218440104110c02080004 rfl
theorem QK{a b c:Nat}:2*(b+1)+4<=a->c<=b+1->a=a-6+6:=λh U=>(YZ (Le (WV (Z0 2 (de (zJ b))) 4) h)).symm
theorem nS{a b:Nat}:0+1<=a+5+b:=ao (v2 a b) 0 0x42886000440100004 rfl
theorem QL{a b:Nat}:a+(b+1)<=10->a+1+b<=10:=ao (v2 a b) 1 0x5088110c0000114208880180004 rfl
theorem QN{a b:Nat}:a+b<=10->a<=1000000:=ao (v2 a b) 1 0xf4240f8860022844180004 rfl
theorem QO{a:Nat}:a<=4->a<=1000000:=ao (v1 a) 1 0x3d0903e218008410c004 rfl
theorem QP{a b c:Nat}:0<=(a:Int)/\(a:Int)<3->c<=2->b<=4->min a b+c<=1000000:=λh k U=>Le (Zh (Le (Yq _ _) (Y4 (qO.mp h.2))) k) (l9 rfl)
theorem QQ{a b c:Nat}:0<=(a:Int)/\(a:Int)<3->c<=2->b<=4->min a b+c<=4:=λh k U=>Zh (Le (Yq _ _) (Y4 (qO.mp h.2))) k
theorem QR{a:Nat}:0<=(a:Int)/\(a:Int)<3->a<3:=λh=>qO.mp h.2
theorem QS{a:Nat}:a+1<=10->0+a<=10:=ao (v1 a) 1 0x5086010000450822180004 rfl
theorem QT{a:Nat}:(a:Int)+1≠0:=by lia -abstractProof
theorem QU{a b:Nat}:a+3*(b+1)<=12->a+1+3*b<=12:=ao (v2 a b) 1 0x60883084430000046082220061180004 rfl
theorem QV{a b:Nat}:a+3*(b+1)<=12->a+3+3*b<=12:=ao (v2 a b) 1 0x6088308c430000046082220061180004 rfl
theorem QW{a b:Nat}:a+3*(b+1)<=12->a+3<=1000000:=ao (v2 a b) 1 0xf4240f88621800046082220061180004 rfl
theorem QY{a:Nat}:(a:Int)<7->0<=(a:Int)->a<7:=λh1 U=>qO.mp h1
theorem FX{a:Nat}:0<=(a:Int)/\(a:Int)<5->0+3*min a 4<=12:=λU=>Le (aG (kI _)) (Z0 3 (Z8 a 4))
theorem QZ{a:Nat}:0<=(a:Int)/\(a:Int)<5->4+a<=8:=λh=>Xi (Y4 (qO.mp h.2)) 4
theorem Q2{a:Nat}:0<=(a:Int)/\(a:Int)<5->4<=4+a:=λU=>oW 4 a
theorem Q3:0+4<=190:=by lia -abstractProof
theorem Q4:0+6<=190:=by lia -abstractProof
theorem AE:0+1<=190:=by lia -abstractProof
theorem Q5{a b c d:Nat}:d<=b+3->a<=d+3*c->a<=b+3*(c+1):=ao (v4 a b c d) 2 0x22280612006002146130060020c44018004 rfl
theorem Q6{a b c:Nat}:a+b=c->c<=1000000->a<=1000000:=ao (v3 a b c) 2 0x1e8481f10c0047a1207c450010a4180006 rfl
theorem Q8{a b:Nat}:b<=3->a<=7->a+b<=10:=ao (v2 a b) 2 0xa110600010e2180083110004 rfl
theorem FY{a b:Nat}:¬(b<=a)->a<=b:=by lia -abstractProof
theorem Q9{a b c:Nat}:a+(0+1)+b<=a+(c+1+b)+1:=ao (v3 a b c) 0 0x2220445000600102200803000004 rfl
theorem Ra{a b c:Int}:a<c->c<=b->a<=b:=λh k=>Ey (ZE h) k
theorem Rb{a b c:Int}:c<b->a<=c->a<=b:=λh k=>Ey k (ZE h)
theorem Rc{a b:Nat}:a+(0+1)+b<=a+b+1:=ao (v2 a b) 0 0x1110600102200803000004 rfl
theorem Rd{a b:Int}:b<=a->¬(a<b):=λh1=>amT h1
theorem Re{a b c:Int}:c-1<=b->¬(c<=a)->a<=b:=λh n=>Ey (alT (WA.mp n)) h
theorem Rf{a b c:Int}:a<=c+1->¬(b<=c)->a<=b:=λh n=>Ey h (Int.add_one_le_of_lt (WA.mp n))
theorem Rh{a b c:Int}:c+1<b->a=c->a<b:=λh e=>Y6 (bp e) (Uy (Int.lt_succ c) h)
theorem Rj{a b c:Int}:a<c-1->b=c->a<b:=λh e=>Y7 h (Ey (am4 c (by decide)) (bp e.symm))
theorem Rk{a b c d:Int}:a+1<c->d<b->c<=d->a+1<b:=λh k l=>Uy (Y7 h l) k
theorem Rl{a b c d:Int}:a-1<=c->c<d->d<=b->a-1<=b:=λh k l=>Ey h (Ey (ZE k) l)
theorem Rm{a b c d:Int}:0<=b/\(b<=c/\c<=d)->d<=1114111->b<=a->a<=c->0<=a/\a<=1114111:=λh k p q=>⟨Ey h.1 p,Ey q (Ey h.2.2 k)⟩
theorem Rn{a b c:Int}:0<=b/\b<=c->b=a->c<=1114111->0<=a/\a<=1114111:=λh e k=>e▸⟨h.1,Ey h.2 k⟩
theorem Ro{a:Nat}:65<=(a:Int)/\(a:Int)<=90∨97<=(a:Int)/\(a:Int)<=122->a<123:=λh=>h.elim (λh=>ZQ (ZF.mp h.2) (by decide)) λh=>ZQ (ZF.mp h.2) (by decide)
theorem Rp{a:Int}:65<=a/\a<=90∨97<=a/\a<=122->0<=a:=λh=>h.elim (λh=>Ey (Yn 65) h.1) λh=>Ey (Yn 97) h.1
theorem Rq{a b c d e:Int}:a=e->c=d->a=c+32->(a=b∨(b=a∨b=a-32)↔c<=b/\b<=d∨a<=b/\b<=e):=λh1 h2 h3=>by
 subst h1;subst h2;subst h3;rw[XI];exact⟨λh=>h.elim (λh=>.inr ⟨bp h,bp h.symm⟩) λh=>h.elim (λh=>.inr ⟨bp h.symm,bp h⟩) λh=>.inl ⟨bp h.symm,bp h⟩,
  λh=>h.elim (λh=>.inr (.inr (X7 h.2 h.1))) λh=>.inl (X7 h.1 h.2)⟩
theorem Rr{a b c d:Int}:65<=b->b=c->a=d->a=b+32->b<=90->¬(a<=90):=λh1 U U h4 U k=>MQ (Ey (Z1 h1 32) (Ey (bp h4.symm) k)) (by decide)
theorem Rs{a b c d e:Int}:65<=c->c=d->a=e->a=c+32->c<=90->e<=b->0<=a/\a<=b:=λh1 U h3 h4 U h6=>⟨Ey (show (0:Int)<=c+32 from VN (Ey (by decide) h1) (by decide)) (bp h4.symm),Ey (bp h3) h6⟩
theorem Rv{a b c d:Int}:65<=b->b=c->a=d->a=b+32->b<=90->65<=a/\a<=90∨97<=a/\a<=122:=λh1 U U h4 h5=>.inr ⟨Ey (show (97:Int)<=b+32 from Z1 h1 32) (bp h4.symm),Ey (bp h4) (show b+32<=(122:Int) from Z1 h5 32)⟩
theorem Rw{a b c:Int}:0<=a->a=c->c<=b->0<=a/\a<=b:=λh e k=>⟨h,Ey (bp e) k⟩
theorem Rx{a:Nat}:2+10*1+0+a+0<=12+a:=EC (2+10*1+0+a+0)
theorem Ry{a b c:Int}:c<=b/\b<=a->¬(b<a)->a=b:=λh n=>X7 (Yw.mp n) h.2
theorem RA{a b c:Int}:a<=c/\c<=b->¬(c<b)->a<=b:=λh U=>Ey h.1 h.2
theorem RB{a b c d:Nat}:12+d<=c->a<=b+d->a+10<=b+c:=ao (v4 a b c d) 2 0xa402843000086200600214cc100004 rfl
theorem RC{a b c:Nat}:12+b<=c->a+c<=1000000->a+b<=1000000:=ao (v3 a b c) 2 0x3d0903e220c00023d0903e228c0002148c100004 rfl
theorem RD{a b c d:Nat}:12+d<=c->a<=b+1->a+10<=b+c:=ao (v4 a b c d) 2 0x14805086000c022200601814cc10002c rfl
theorem RE{a b c d e:Nat}:12+d<=c->a<=e+1->e<=b+1->a+10<=b+c:=ao (v5 a b c d e) 3 0xa40284300008111007001022380600214cc100004 rfl
theorem RG{a b c d:Nat}:12+b<=c->d+c<=1000000->a<=d+1->a<=1000000:=ao (v4 a b c d) 3 0x7a1207c4300c02230060183d0903e22980018148c100004 rfl
theorem RI{a b:Int}:(a<=b/\b<=a↔a=b):=⟨λh=>X7 h.1 h.2,λh=>⟨bp h,bp h.symm⟩⟩
theorem RJ{a b:Nat}:12+a<=2+10*1+b+a+0:=ao (v2 a b) 0 0x86408941108000006c100004 rfl
theorem RM{a b c d:Nat}:d<=b+1->a<=d+c->a<=b+(c+1):=ao (v4 a b c d) 2 0x222808018008530060020444018004 rfl
theorem RN{a b c:Nat}:c+(b+1)<=1000000->a<=c+1->a+b<=1000000:=ao (v3 a b c) 2 0x1e8481f1106000102228060023d0903e208880280004 rfl
theorem RP{a b c i:Nat}:i<=b->2<=c->a<=12+0+i->a+0+20*1<=b+20*c:=ao (v4 a b c i) 3 0x168120022a04021800002180260800180085108040218004 rfl
theorem RO{a b c d:Nat}:2<=c->d=c->b<=1000000->a<=12+0+(b-10*c)->a+0+20*1<=b+20*c:=λh1 U U h=>RP (Nat.sub_le _ _) h1 h
theorem RQ{a b:Nat}:a=1->a=0->b=0:=by lia -abstractProof
theorem RS{a b c d:Nat}:12*c<=d->2<=c->a=1->b=c->d<=1000000->a<=b:=ao (v4 a b c d) 5 0x830021e8481f118000290007088600514420010c5604000 rfl
theorem RT{a:Nat}:a<=1000000->0+a<=1000000:=ao (v1 a) 1 0x3d0903e2180400011e8481f10c004 rfl
theorem RV{a b c d e f i j:Nat}:i+10*e=d->j+10*(e+1)=c+d->f+10<=b+c->a<=12+f+i->a<=12+b+j:=ao (v8 a b c d e f i j) 4 0x511820006002250c100030010a402848000086280223814150000731d41480006 rfl
theorem RW{d e:Nat}:12*e<=d->10*e<=d:=ao (v2 d e) 1 0x19141006064604014 rfl
theorem FZ{c d e:Nat}:12*(e+1)<=c+d->10*(e+1)<=c+d:=ao (v3 c d e) 1 0x8300445028200c1060088a0604014 rfl
theorem R7{a b c d j:Nat}:j+10*(d+1)=a+c->12*d<=c->a<=12+b+j:=ao (v5 a b c d j) 2 0x39182000600c14cc080285180223014138001b rfl
theorem RU{a b c d e f:Nat}:12*(e+1)<=c+d->12*e<=d->f+10<=b+c->a<=12+f+(d-10*e)->a<=12+b+(c+d-10*(e+1)):=λh1 h2 h3 h4=>RV (YZ (RW h2)) (YZ (FZ h1)) h3 h4
theorem RX{a b c d:Nat}:c+(d+b)<=1000000->a+10<=c+d->a+b<=1000000:=ao (v4 a b c d) 2 0x3d0903e220c000218a0508600011e8481f110c0280004 rfl
theorem RZ{a b c d:Nat}:12*(d+1)<=a+c->12*d<=c->b+(a+c)<=1000000->a<=12+b+(a+c-10*(d+1)):=λh1 h2 U=>R7 (YZ (FZ h1)) h2
theorem R8{a b c d:Int}:0<=b/\(b<=c/\c<=d)->d<=1114111->a<=c->a<=1114111:=λh k p=>Ey p (Ey h.2.2 k)
theorem R9{a b c d:Int}:0<=b/\(b<=c/\c<=d)->b<=a->0<=a:=λh p=>Ey h.1 p
theorem Sa{a b c d:Nat}:12*a<=c->12+d<=b->12*(a+1)<=b+c:=ao (v4 a b c d) 2 0x2900110c0c080084330400010a3604004 rfl
theorem Sb{a b c d e f i:Nat}:b=0->c=1->d=e->c=f+d->a=f+i->e<=b->i<=b->a=1:=λh0 h1 h2 h3 h4 h5 h6=>Zc (ao (v7 a b c d e f i) 7 0x44300108900108700012800c00632005001ce60008222800c0110006 rfl h0 h1 h2 h3 h4 h5 h6) (ao (v7 a b c d e f i) 7 0xc2200108900008700112800c007320050018e60018222800e0110006 rfl h0 h1 h2 h3 h4 h5 h6)
theorem Sc{a b c d e f i j:Nat}:1<=b->2*b<=c->d+20*e<=1000000->f=1->i=a->e=c+j->f=b+i->a<=j->a=0:=λh0 h1 h2 h3 h4 h5 h6 h7=>Zc (ao (v8 a b c d e f i j) 8 0x4300114300012402000751407000869001c224000cf4240f88f409800001482080004088004 rfl h0 h1 h2 h3 h4 h5 h6 h7) (ao (v8 a b c d e f i j) 8 0xc020011430001240200025140700086900082240004f4240f88f409800001482080004088000 rfl h0 h1 h2 h3 h4 h5 h6 h7)
theorem Sd{a b c d e f i j:Nat}:1<=d->2*d<=e->a+7*f<=5+7*i->j=f->c=e+i->b=d+j->a+2+7*b<=7*c:=ao (v8 a b c d e f i j) 6 0x538487088430000045180400792701401f42801e49c251010708c00021cc208038608801c rfl
theorem Se{a b c d e f i j:Nat}:1<=c->2*c<=d->e+20*b<=1000000->f=i->a=c+f->b=d+j->i<=j->a+0=0->b=0:=by lia -abstractProof
theorem Sf{a b c d e f i j k l m n o p q:Nat}:2*e<=f->i+20*j+4<=2*e->k+20*l+f<=c+20*d->m+20*n<=k+20*l->o=n->b=j+o->d=p+l->q<=2+m->a<=2+i+(q+0)->a+0+20*(b+0)<=c+20*d:=ao (OG a b c d e f i j k l m n o p q) 9 0xd409400110140804300000400a204884000c0046884088008c800c0013d40200a4e780a4ca05607502d000086a04a04328158000021c41209540a400001107104004 rfl
theorem Sg{a b c d e f i:Nat}:1<=c->2*c<=d->e=f->a=c+e->b=d+i->f<=i->a+0<=b:=ao (v7 a b c d e f i) 6 0x8010c000225000224c02000e7280600320e00318a2080085088004 rfl
theorem Si{a b c d e f i j k l m n o p:Nat}:2*c<=d->a+20*e+4<=2*c->f+20*i+d<=j+20*k->j+20*k<=1000000->l+20*m<=f+20*i->n=m->k=o+i->p=e+n->b<=2+l->a+(b+0)<=1000000:=ao (FG a b c d e f i j k l m n o p) 9 0xf4240f880220060001182100800238e0800049781600135c0012681401b40b000023d0903e25d02a00008ba05403268140000021441208f408c000010c5104004 rfl
theorem Sj{a b c d e f i j k l m n o p:Nat}:2*a<=b->2*c<=d->e+20*f+4<=2*c->i+20*j+d<=k+20*l->k+20*l<=1000000->b+20*m<=i+20*j->n=m->l=o+j->p=f+n->a<=1000000:=ao (FG a b c d e f i j k l m n o p) 9 0x3d0903e218010e402000129e060004d70004aa05206d02400008f4240f89940ac00023281580caa0520000085104824502700000031441000083104004 rfl
theorem Sk{a b c d e f i:Nat}:2*a<=b->b+20*c+d<=e+20*f->e+20*f<=1000000->f=i+c->a<=1000000:=ao (v7 a b c d e f i) 4 0x1e8481f10c0082a4080009e8481f1228138000445027018b409000001083104004 rfl
theorem Sl{a b c:Nat}:a<=b->a<=b+2*c+1:=ao (v3 a b c) 1 0x4451048000c00420c004 rfl
theorem Sm{a b c d e f i j k:Nat}:1<=c->2*d<=e->f+20*c+4<=2*d->a+20*b+e<=i+20*j->i+20*j<=1000000->j=k+b->a+20*b<=1000000:=ao (v9 a b c d e f i j k) 6 0x7a1207c44a046000108b0280027a1207c4aa05200011540a40725023000004308241168140000001cc2080005088000 rfl
theorem So{a b c d:Nat}:1<=c->d=c+a->d<=b+1->a<=b:=ao (v4 a b c d) 3 0x83001022200c0020ca03000e5088004 rfl
theorem Sn{a b c d e f:Nat}:1<=c->d=c+a->e<=f/\d<=b+1->a<=b:=λh e k=>So h e k.2
theorem Sq{a b c d:Nat}:1<=b->c=b+d->c<=a->a=a-1+1:=λh1 h2 h3=>(YZ (Le h1 (Le (oW _ _) (h2▸h3)))).symm
theorem Sr{a b c d e f i j k l m n:Nat}:a+20*c+f<=i+20*k->b+20*d+e<=j+20*l->l=m+d->k=n+c->a+b+20*(c+d)+(e+f)<=i+j+20*(k+l):=ao (OF a b c d e f i j k l m n) 4 0x62c140a920020e031414090600000042b80b0008cd0300026502a01cd4090000011740a4082d023000004 rfl
theorem Su{a b c d e f:Nat}:a=d+e->b=c+f->a+b=c+d+(e+f):=λh0 h1=>Zc (ao (v6 a b c d e f) 2 0x41c0628004180004414040018e600c006 rfl h0 h1) (ao (v6 a b c d e f) 2 0x20c08380c500000441404001ce600c007 rfl h0 h1)
theorem Sv{a b c d e f:Nat}:a+2+7*c<=7*e->b+7*d<=7*f->a+2+b+7*(c+d)<=7*(e+f):=ao (v6 a b c d e f) 2 0x10701c26280e120843000000220e131c24000087384a708843000004 rfl
theorem Sw{a b c d e f:Nat}:c+2+7*d<=7*e->f+a+20*(e+b)<=1000000->a+20*b<=1000000:=ao (v6 a b c d e f) 2 0xf4240f889408c00023d0903e221c1408d00000087384c708845000000 rfl
theorem Sx{a b c d:Nat}:a+c+20*(b+d)<=1000000->a+20*b<=1000000:=ao (v4 a b c d) 1 0x7a1207c44a04600011e8481f11880a04a3000004 rfl
theorem Sy{a b c d:Nat}:a+7*c<=7*d->a+7*(b+c)<=7*(b+d):=ao (v4 a b c d) 1 0x3100709480384600010c7094e1180004 rfl
theorem Sz{a b c d:Nat}:c+a+20*(d+b)<=1000000->a+20*b<=1000000:=ao (v4 a b c d) 1 0x7a1207c44a04600011e8481f110c0a0465000004 rfl
theorem SA{a b c d e f:Nat}:f=c->e=c+b->a<=d->a+20*b+20*c<=d+20*e:=ao (v6 a b c d e f) 3 0xf409805a049408c000010c300108501c0532a0002 rfl
theorem SB{a b c:Nat}:0<c->b=c->a<=2+11*c->a+20*b+4<=2*(20*c):=ao (v3 a b c) 3 0x5a04412089408c000010ab08840180085200a45008019 rfl
theorem SC{a b:Nat}:min a b=a->a<=b:=λe=>Le (aG e.symm) (Z8 a b)
theorem SD{a b c:Nat}:1<=b->1<=a->2<=a+(b+c):=ao (v3 a b c) 2 0x148018042001061100084088004 rfl
theorem SE{a b c:Nat}:c=a->b<=a->a=b+(a-b):=by lia -abstractProof
theorem SF{a b c d:Nat}:12+d<=c->12<=2+10*0+a+b+(c+0):=ao (v4 a b c d) 1 0x45010601282210000030400c14cc100014 rfl
theorem SH{a:Nat}:12+0+a+0=12+a:=Nat.add_left_inj.mpr rfl
theorem SI{a:Nat}:a=1->1<=a:=ao (v1 a) 1 0x6110008110c007 rfl
theorem SJ{a b c d e f i:Nat}:a+f<=d+2->i=1->c=f->e=i+b->a+20*b+(c+18)<=d+20*e:=ao (v7 a b c d e f i) 4 0x7a04c0908a02502300000422407014d05001822480a6211808180004 rfl
theorem SK{a b:Nat}:12<=a->b=1->a+20*b+4<=2*(a+18):=ao (v2 a b) 2 0x242180412089408c00001022200a43608000 rfl
theorem SL{a b c d e f:Nat}:a<=2+f->a+b<=2+10*c+d+e+(b+f)+2:=ao (v6 a b c d e f) 1 0x212080398aa088400000020c0002204200c004 rfl
theorem SM{a b c:Nat}:2<=a->a=1->a=b+c->¬(a=1):=λh1 U U=>Nat.ne_of_lt' h1
theorem SN{a:Int}:a<=2->¬(a=2)->a+1<=2:=λh n=>WT.mpr ⟨h,n⟩
theorem SO{a:Int}:a<=2->¬(a=2)->¬(2<=a):=λh n k=>n (X7 h k)
theorem SQ{a b:Nat}:b=0->a=0->a+(b+0)=0:=λh0 h1=>Zc (ao (v2 a b) 2 0x802200600010021800c0110006 rfl h0 h1) (ao (v2 a b) 2 0x88018002001002180040110002 rfl h0 h1)
theorem SR{a b c d e f i j:Nat}:d=0->c=2+10*e+f+i+j->a+0+20*(b+0)<=a+(c+0)+20*(b+(d+0)):=ao (v8 a b c d e f i j) 2 0x8c020281008a0180001101408043000004525075044200000280040118002 rfl
theorem ST{a b:Nat}:b=0->a+0<=a+(b+0):=λU=>oW (a+0) (b+0)
theorem SU{a b c:Nat}:b+a+c<=1000000->0+a<=1000000:=ao (v3 a b c) 1 0x3d0903e2180400011e8481f11464000004 rfl
theorem SV{a b:Nat}:2*a<=b->b<=1000000->a<=1000000:=ao (v2 a b) 2 0x1e8481f10c0087a1207c44001083104004 rfl
theorem SW{a b c d e f i:Nat}:c=2+10*e+f+i+a->d=b->a+20*b<=c+0+20*(d+0):=ao (v7 a b c d e f i) 2 0x11814080450009408c000210c0298d283a82210000014007 rfl
theorem SX{a b c:Nat}:a<=c->a+1<=b+1+c:=ao (v3 a b c) 1 0x284440002218000428c004 rfl
theorem SY{a b c d e f i:Nat}:b+7*e<=7*f->a+7*f<=7*i->c<=e->i<=d->0+(a+(b+(0+(0+0+1)+1)+1)+1)+1+7*c<=5+7*d:=ao (v7 a b c d e f i) 4 0xc70944029c211044110441100401000010004000600004000000432401c39401c49c283846000110709ce1200004 rfl
theorem SZ{a b c d e:Nat}:2*a<=b->c+20*d<=1000000->b+20*e<=c+20*d->a<=1000000:=ao (v5 a b c d e) 3 0x1e8481f10c0083502501e812000047a1207c46a04a0001083104004 rfl
theorem S0{a b c d:Nat}:b+20*c<=1000000->a+20*d<=b+20*c->a<=1000000:=ao (v4 a b c d) 2 0x7a1207c430010b409006a04600011e8481f11681200004 rfl
theorem S2{a b c d:Nat}:c+20*d<=1000000->a+20*b<=c+20*d->a+20*b<=1000000:=λh1 h2=>FP h1 h2
theorem S3{a b c d e f:Nat}:2*a<=b->c=2+10*d+e+f+b->c<=20000->a<=10000:=ao (v6 a b c d e f) 3 0x2710f886004013883e228008441cca0884000005001c83104004 rfl
theorem S4{a b c d e f:Nat}:b=2+10*c+d+e+f->a<=10*c->b<=20000->a<=1000000:=ao (v6 a b c d e f) 3 0xf4240f886002013883e2200085504600220e62a82210000010007 rfl
theorem S5{a b:Nat}:(a:Int)+(b:Int)=((a+b:Nat):Int):=Int.ofNat_add_ofNat a b
theorem S6{a b c d e:Nat}:a<=e->a<=2+10*b+c+d+e:=ao (v5 a b c d e) 1 0x1cc5228221000000c00438c004 rfl
theorem S7{a:Int}:a=1∨(a=2∨(a=3∨(a=4∨(a=5∨(a=6∨(a=7∨(a=8∨(a=9∨(a=10∨(a=11∨(a=12∨(a=13∨a=20))))))))))))->¬(a=1)->¬(a=10)->¬(a=11)->¬(a=12)->¬(a=13)->¬(a=2)->¬(a=20)->¬(a=3)->¬(a=4)->¬(a=5)->¬(a=6)->¬(a=7)->¬(a=8)->¬(a=9)->False:=by lia -abstractProof
theorem S8{a:Nat}:(a:Int)=1->2<=a->False:=by lia -abstractProof
theorem S9{a b:Int}:0=b->1=b->a=10:=by lia -abstractProof
theorem Ta{a b:Int}:(-1)=b->1=b->a=10:=λh k=>MQ (h.trans k.symm) (by decide)
theorem Tb{a b:Int}:(-1)=b->0=b->a=10:=λh k=>MQ (h.trans k.symm) (by decide)
theorem Tc{a b c:Nat}:a<=3->b<=3*c->a+b<=3*(c+1):=ao (v3 a b c) 2 0x222806120c0002146120008310c004 rfl
theorem Te{a b c:Nat}:a<=40->b<=40*c->a+b<=40*(c+1):=ao (v3 a b c) 2 0x1114000028f8483000085000147c24001000051f10c004 rfl
theorem Tf{b c:Nat}{a:Int}:0<=a/\a<3->c<=2->b<=4->min (Zr a) b+c<=4:=λh h2 U=>Zh (Le (Yq _ _) (Y4 ((Uz h.1 (n:=3)).mpr h.2))) h2
theorem F5{a:Int}:0<=a/\a<35->Zr a<35:=λh=>(Uz h.1 (n:=35)).mpr h.2
theorem Th{a:Int}:255<=a->(0:Int)<=98/\98<=a:=λh=>⟨Yn 98,Ey (by decide) h⟩
theorem Ti{a:Int}:255<=a->(0:Int)<=97/\97<=a:=λh=>⟨Yn 97,Ey (by decide) h⟩
theorem Tj{a:Nat}:a<25->a<35->¬(a<12)->¬(a<16)->a-16<9:=λh U U k=>akB (Zq.mp k) h
theorem Tk{a:Int}:108<=a->0<=a:=by lia -abstractProof
theorem Tl{a:Int}:255<=a->107<=a:=λh=>Ey (by decide) h
theorem Tm{a:Int}:108<=a->107<a:=λh1=>Int.lt_of_add_one_le h1
theorem Tn{a:Nat}:a<16->a<35->¬(a<12)->a=12∨(a=13∨(a=14∨a=15)):=λh U n=>(VQ (Zq.mp n)).elim (λe=>.inl e.symm) λk=>(VQ k).elim (λe=>.inr (.inl e.symm)) λk=>(VQ k).elim (λe=>.inr (.inr (.inl e.symm))) λk=>.inr (.inr (.inr (Zc (Y4 h) k)))
theorem Tp{a:Nat}:a<=2->2+10*1+0+a+0<=40:=ao (v1 a) 1 0x28f880218041128221000000008210c004 rfl
theorem Tq{a b:Int}:0<=a/\a<=255->255<=b->0<=a/\a<=b:=λh k=>⟨h.1,Ey h.2 k⟩
theorem Ts{a:Int}:0<=a/\a<=255->¬(a<0):=λh=>Yw.mpr h.1
theorem Tt{a b:Int}:108<=a->a<=b->0<=a/\a<=b:=λh k=>⟨Ey (Yn 108) h,k⟩
theorem Tu{a b:Nat}:1<=b->a<=2+11*b->b<=3->a<=40:=ao (v2 a b) 3 0x28f8860020c4400b08b08840180084088000 rfl
theorem Tv{a b:Nat}:a<=b->(a:Int)<=(b:Int):=λh1=>ZF.mpr h1
theorem Tw{a b c d e f i:Nat}:b+1<=10->c+20*d<=500*b->e+20*f<=c+20*d->a+7*f<=5+7*d->i=b->a<=900000:=ao (v7 a b c d e f i) 5 0x1b7741f10c05022400231c251010708c00281a812811409c000010003e9f09a8128001c508222036b0 rfl
theorem Tx{a b c d e f:Nat}:b+1<=10->c+20*d<=500*b->a+20*e<=c+20*d->f=b->a<=20000:=ao (v6 a b c d e f) 4 0x4e20f8860021100011a81280f408c000210003e9f09a81280004508222007d0 rfl
theorem Ty{a b c d:Nat}:b+1<=10->a+20*c<=500*b->d=b->a<=20000:=ao (v4 a b c d) 3 0x4e20f88600210c00110003e9f09681180004508222007d0 rfl
theorem Tz{a b c d:Nat}:c+1<=10->a+20*b<=500*c->d=c->a+20*b<=1000000:=ao (v4 a b c d) 3 0xf4240f889408c000214c00114003e9f09281180004508222807d0 rfl
theorem TB{b:Nat}{a:Int}:0<=a/\a<(b:Int)+1->a<=(b:Int):=λh=>alU h.2
theorem TC{a:Nat}:a<=50->0<(a:Int)+1:=λU=>Int.succ_ofNat_pos a
theorem TD{a b:Nat}{c:Int}:b=4->a<=0+3*min (Zr c) b->a<=50:=λh k=>Le k (Le (aG (kI _)) (Le (Z0 3 (Le (Z8 _ _) (aG h))) (l9 rfl)))
theorem TE{a:Nat}:8=a+1+1+1+1->a=4:=λh0=>Zc (ao (v1 a) 1 0x82180081104411044300000408007 rfl h0) (ao (v1 a) 1 0x64100081104411044300000408006 rfl h0)
theorem TF{a b:Nat}:2*a<=b->b<=20000->a<=1000000:=ao (v2 a b) 2 0x1e8481f10c008027107c44001083104004 rfl
theorem TG{a b:Nat}:2*a<=b->b<=20000->a<=10000:=ao (v2 a b) 2 0x4e21f10c008027107c44001083104004 rfl
theorem TH{b c d:Nat}{a:Int}:1<=a/\((b-c:Nat):Int)+a<=(d:Int)->¬(b<c)->1<=a/\(b:Int)+a<=((c+d:Nat):Int):=λh n=>⟨h.1,(congrArg (λz:Nat=>(z:Int)+a<=((c+d:Nat):Int)) (amz (Zq.mp n))).mp (Ey (bp (Int.add_assoc (c:Int) ((b-c:Nat):Int) a)) (Int.add_le_add_left h.2 (c:Int)))⟩
theorem TJ{a b:Nat}:¬(b<a)->a<=b:=λh1=>VY h1
theorem TR{a b c d e f i j:Nat}:a+20*b<=c+20*d->e+20*f<=i+20*j->a+e+20*(b+f)<=c+i+20*(d+j):=ao (v8 a b c d e f i j) 2 0x518140a4a002080a04e300000455029022813800043502501281180004 rfl
theorem TK{b c d:Nat}{a:Int}:1<=a/\(b:Int)+a<=(c:Int)->1<=a/\(b:Int)+a<=((c+d:Nat):Int):=λh=>⟨h.1,Ey h.2 (ZF.mpr (oW c d))⟩
theorem Pa{a b c d e:Nat}:(d+a) / 2=b->a-d=c->b<a->d<a->a<=e->a-(b+1)<c:=λh1 h2 h3 h4 U=>FR (Pb ((alz (Ym 1)).mpr (Le (aG (VB d)) (Xi (YW h4) d))) h1 (YZ (YW h4)) h2) h3
end Mine.Internal
namespace Mine.Internal
open PySem PySem.W PySem.Calls PyProof.Rows
abbrev Fz:=MW->Option Obj
abbrev ai:=List (MW×(Obj->Prop))
noncomputable def Fz.cI(F:Fz)(a:MW)(o:Obj):Fz:=λb=>if b=a then Ss o else F b
structure bA(F:Fz)(R:ai)(h:Ex):Prop where
 fz:∀a o,F a=Ss o->h.get? a=Ss o
 b8:∀p∈R,∃o,h.get? p.1=Ss o/\p.2 o
 nd:(R.map (·.1)).Nodup
 fH:∀p∈R,F p.1=M4
namespace bA
variable {F:Fz}{R R' L1 L2:ai}{h h':Ex}{a:MW}{p p':Obj->Prop}{o:Obj}
theorem g8(H:bA F R h)(e:R.Perm R'):bA F R' h:=
 ⟨H.fz,λq hq=>H.b8 q (e.mem_iff.mpr hq),(e.map _).nodup_iff.mp H.nd,λq hq=>H.fH q (e.mem_iff.mpr hq)⟩
theorem jJ(H:bA F R h)(k:∀b o,h.get? b=Ss o->h'.get? b=Ss o):bA F R h':=
 ⟨λa o e=>k _ _ (H.fz a o e),λq hq=>let⟨o,e,x⟩:=H.b8 q hq;⟨o,k _ _ e,x⟩,H.nd,H.fH⟩
theorem fS(H:bA F (L1++R) h):bA F R h:=
 ⟨H.fz,λq hq=>H.b8 q (s7 _ hq),by have:=H.nd;rw[wh] at this;exact (Y3.mp this).2.1,λq hq=>H.fH q (s7 _ hq)⟩
theorem gp(H:bA F (L1++(a,p)::L2) h):∃o,h.get? a=Ss o/\p o:=H.b8 (a,p) (by simp)
theorem lZ(H:bA F (L1++(a,p)::L2) h):F a=M4:=H.fH (a,p) (by simp)
theorem D6(H:bA F (L1++(a,p)::L2) h){q:MW×(Obj->Prop)}(hq:q∈L1++L2):q.1≠a:=by
 have hp:=(VH (a:=(a,p)) (l₁:=L1) (l₂:=L2))
 have H':=H.g8 hp;have nd:=H'.nd;rw[Zv,bS] at nd;exact λe=>nd.1 (zK.mpr ⟨q,hq,e⟩)
theorem ii(H:bA F (L1++(a,p)::L2) h)(k:∀b o,b≠a->h.get? b=Ss o->h'.get? b=Ss o)(e:∃o',h'.get? a=Ss o'/\p' o'):bA F (L1++(a,p')::L2) h':=by
 refine⟨λb o q=>k _ _ (λz=>?_) (H.fz b o q),λq hq=>?_,?_,λq hq=>?_⟩
 ·have:=H.lZ;rw[<- z,q] at this;exact lu this
 ·rcases bT.mp hq with y|y
  ·refine aj (H.b8 q (l8 _ y)) λo e1 e2=>?_;exact⟨o,k _ _ (H.D6 (l8 _ y)) e1,e2⟩
  ·rcases K7.mp y with rfl|y
   ·exact e
   ·refine aj (H.b8 q (s7 _ (.tail _ y))) λo e1 e2=>?_;exact⟨o,k _ _ (H.D6 (s7 _ y)) e1,e2⟩
 ·have:=H.nd;simp only[wh,Zv] at this ⊢;exact this
 ·rcases bT.mp hq with y|y
  ·exact H.fH q (l8 _ y)
  ·rcases K7.mp y with rfl|y
   ·exact H.lZ
   ·exact H.fH q (s7 _ (.tail _ y))
theorem oK(H:bA F R h)(k:∀b o,h.get? b=Ss o->h'.get? b=Ss o)(hn:h.get? a=M4)(e:∃o',h'.get? a=Ss o'/\p o'):bA F ((a,p)::R) h':=by
 have H':=H.jJ k;refine⟨H'.fz,λq hq=>?_,?_,λq hq=>?_⟩
 ·rcases K7.mp hq with rfl|y
  ·exact e
  ·exact H'.b8 q y
 ·rw[Zv,bS];refine⟨λm=>?_,H.nd⟩;refine aj (zK.mp m) λq hq e=>?_;refine aj (H.b8 q hq) λo e1 U=>?_;rw[e,hn] at e1;exact aY e1
 ·rcases K7.mp hq with rfl|y
  ·cases z:F a with
   |none=>rfl
   |some o=>have:=H.fz a o z;rw[hn] at this;exact aY this
  ·exact H.fH q y
theorem jK(H:bA F R h)(hf:o.isFreed=PO)(hp:p o):bA F ((h.objs.size,p)::R) (h.push o):=
 H.oK (λU U e=>Zf _ e) (by
  cases z:h.get? h.objs.size with
  |none=>rfl
  |some o=>exact MQ (WC z) (YD _)) ⟨o,VV _ hf,hp⟩
set_option tactic.hygienic true in
theorem kK(H:bA F ((a,p)::R) h):∃o,p o/\bA (F.cI a o) R h/\∀b x,F b=Ss x->F.cI a o b=Ss x:=by
 refine aj (H.b8 (a,p) (.head _)) λo e hp=>?_;have ha:F a=M4:=H.fH (a,p) (.head _);have nd:=H.nd;rw[Zv,bS] at nd;refine⟨o,hp,⟨λb x q=>?_,λq hq=>H.b8 q (.tail _ hq),nd.2,λq hq=>?_⟩,λb x q=>?_⟩
 ·unfold Fz.cI at q;split at q
  ·rename_i z;(have y9:=K6 q;clear q;subst y9);rw[z];exact e
  ·exact H.fz b x q
 ·unfold Fz.cI;have:q.1≠a:=λz=>nd.1 (zK.mpr ⟨q,hq,z⟩);rw[MZ this];exact H.fH q (.tail _ hq)
 ·unfold Fz.cI;have:b≠a:=λz=>by rw[z,ha] at q;exact aY q
  rw[MZ this];exact q
theorem Mq(H:bA F ((a,p)::R) h)(w:∀o,p o->p' o):bA F ((a,p')::R) h:=by refine aj (H.b8 (a,p) (.head _)) λo e hp=>?_;have:=H.ii (L1:=[]) (p':=p') (h':=h) (λU U U e=>e) ⟨o,e,w o hp⟩;exact this
end bA
inductive AV where
 |none
 |bool (b:Bool)
 |int (i:Int)
 |str (s:Str)
 |bytes (b:Array UInt8)
 |tup (xs:List AV)
 |lst (xs:List AV)
 |dict (es:List (Int×AV))
 |sdict (es:List (Str×AV))
 |inst (c:Nat) (fs:List (Nat×AV))
 |ref (i:Nat)
 deriving Inhabited
noncomputable def aQ:Nat->Str
 |0=>"op" |1=>"flags" |2=>"subs" |3=>"low" |4=>"high" |5=>"cap" |6=>"name" |7=>"rune" |8=>"runes" |9=>"ranges" |10=>"match_id"
 |11=>"prefix" |12=>"made" |13=>"items" |14=>"splice" |15=>"round" |16=>"at" |17=>"rows"
 |_=>"?"
def bN(m:Str->Option M5)(o:Obj):Prop:=∃es ep,o.data=.dict es ep/\StrKeys es/\∀name,nsFind es name=m name
theorem pD{h:Ex}{a:MW}{o:Obj}{m:Str->Option M5}(e:h.get? a=Ss o)(p:bN m o):h.Ns a m:=let⟨es,ep,x,y,z⟩:=p;⟨o,es,ep,e,x,y,z⟩
theorem wY{h:Ex}{a:MW}{m:Str->Option M5}(n:h.Ns a m):∃o,h.get? a=Ss o/\bN m o:=let⟨o,es,ep,e,x,y,z⟩:=n;⟨o,e,es,ep,x,y,z⟩
noncomputable def mG(m:Str->Option M5):Nat:=((ZY 18).filter λf=>(m (aQ f)).isSome).length
def cA(m:Str->Option M5)(o:Obj):Prop:=∃es ep,o={ cls:=.type "dict",data:=.dict es ep }/\StrKeys es/\(∀name,nsFind es name=m name)/\es.size<=mG m
def bO(vs:List M5)(o:Obj):Prop:=∃n,o={ cls:=.type "list",data:=.seq vs.toArray n }
def jp(vs:List M5)(o:Obj):Prop:=∃n,o={ cls:=.type "tuple",data:=.seq vs.toArray n }
def jW(v:Option M5)(o:Obj):Prop:=o.data=.cell v
set_option genInjectivity false in
structure Gx where
 w:bc
 κ:Nat->MW
 mh:MY
 mg:Str->Option M5
 mb:Str->Option M5
 fa:Nat->MW
set_option genInjectivity false in
structure Wd where
 F:Fz
 φ:Nat->Option MW
abbrev pw:ZB:=PySem.Challenge.pw_sj0140_01
def jm(g:Gx)(kvs:List (Int×M5))(o:Obj):Prop:=
 ∃es ep,o.ExactDict/\o.data=.dict es ep/\KeysOf (fK pw g.w) es/\Pairs (fK pw g.w) es.toList kvs/\(kvs.map (·.1)).Nodup
def wU(g:Gx)(kvs:List (Str×M5))(o:Obj):Prop:=
 ∃es ep,o.ExactDict/\o.data=.dict es ep/\KeysOf (ZT pw g.w) es/\Pairs (ZT pw g.w) es.toList kvs/\(kvs.map (·.1)).Nodup
structure Wd.J(W W':Wd):Prop where
 F:∀a o,W.F a=Ss o->W'.F a=Ss o
 φ:∀i a,W.φ i=Ss a->W'.φ i=Ss a
theorem Wd.J.Q(W:Wd):W.J W:=⟨λU U e=>e,λU U e=>e⟩
theorem Wd.J.S{W W' M7:Wd}(x:W.J W')(y:W'.J M7):W.J M7:=⟨λa o e=>y.F a o (x.F a o e),λa o e=>y.φ a o (x.φ a o e)⟩
class inductive Vr(g:Gx)(W:Wd):AV->M5->Prop
 |none:Vr g W .none .none
 |bool (b:Bool):Vr g W (.bool b) (.bool b)
 |int (i:Int) (t:Tok):Vr g W (.int i) (.int i t)
 |str (s:Str) (t:Tok):Vr g W (.str s) (.str s t)
 |bytes (b:Array UInt8) (t:Tok):Vr g W (.bytes b) (.bytes b t)
 |tup0 {a:MW}{o:Obj}{vs:List M5}{xs:List AV}:W.F a=Ss o->jp vs o->vs.length=xs.length->(∀(i:Nat) (x:AV) (v:M5),xs[i]?=Ss x->vs[i]?=Ss v->Vr g W x v)->Vr g W (.tup xs) (.ref a)
 |lst0 {a:MW}{o:Obj}{vs:List M5}{xs:List AV}:W.F a=Ss o->bO vs o->vs.length=xs.length->(∀(i:Nat) (x:AV) (v:M5),xs[i]?=Ss x->vs[i]?=Ss v->Vr g W x v)->Vr g W (.lst xs) (.ref a)
 |dict0 {a:MW}{o:Obj}{vs:List (Int×M5)}{xs:List (Int×AV)}:W.F a=Ss o->jm g vs o->vs.length=xs.length->(∀(i:Nat) (x:Int×AV) (v:Int×M5),xs[i]?=Ss x->vs[i]?=Ss v->x.1=v.1)->(∀(i:Nat) (x:Int×AV) (v:Int×M5),xs[i]?=Ss x->vs[i]?=Ss v->Vr g W x.2 v.2)->Vr g W (.dict xs) (.ref a)
 |sdict0 {a:MW}{o:Obj}{vs:List (Str×M5)}{xs:List (Str×AV)}:W.F a=Ss o->wU g vs o->vs.length=xs.length->(∀(i:Nat) (x:Str×AV) (v:Str×M5),xs[i]?=Ss x->vs[i]?=Ss v->x.1=v.1)->(∀(i:Nat) (x:Str×AV) (v:Str×M5),xs[i]?=Ss x->vs[i]?=Ss v->Vr g W x.2 v.2)->Vr g W (.sdict xs) (.ref a)
 |inst0 {c:Nat}{a d:MW}{o:Obj}{m:Str->Option M5}{fs:List (Nat×AV)}{vf:Nat->M5}:W.F a=Ss (s0 (g.κ c) d)->W.F d=Ss o->cA m o->(∀p∈fs,m (aQ p.1)=Ss (vf p.1))->(∀p∈fs,Vr g W p.2 (vf p.1))->Vr g W (.inst c fs) (.ref a)
 |ref {i:Nat}{a:MW}:W.φ i=Ss a->Vr g W (.ref i) (.ref a)
theorem Vr.aE{g:Gx}{W W':Wd}(le:W.J W'){x:AV}{v:M5}(h:Vr g W x v):Vr g W' x v:=by
 induction h with
 |none=>exact .none
 |bool b=>exact .bool b
 |int i t=>exact .int i t
 |str s t=>exact .str s t
 |bytes b t=>exact .bytes b t
 |tup0 e p l r ih=>exact .tup0 (le.F _ _ e) p l ih
 |lst0 e p l r ih=>exact .lst0 (le.F _ _ e) p l ih
 |dict0 e p l k r ih=>exact .dict0 (le.F _ _ e) p l k ih
 |sdict0 e p l k r ih=>exact .sdict0 (le.F _ _ e) p l k ih
 |inst0 e e' p k r ih=>exact .inst0 (le.F _ _ e) (le.F _ _ e') p k ih
 |ref e=>exact .ref (le.φ _ _ e)
class inductive Al{α β:Type}(R:α->β->Prop):List α->List β->Prop
 |nil:Al R [] []
 |cons {x:α}{xs:List α}{v:β}{vs:List β}:R x v->Al R xs vs->Al R (x::xs) (v::vs)
namespace Al
variable {α β:Type}{R R':α->β->Prop}{xs ys:List α}{vs us:List β}
theorem sO(h:Al R [] vs):vs=[]:=by cases (h);rfl
theorem gG{x:α}(h:Al R (x::xs) vs):∃v us,vs=v::us/\R x v/\Al R xs us:=by cases (h) with|cons a b=>exact⟨_,_,rfl,a,b⟩
theorem of(l:vs.length=xs.length)(h:∀(i:Nat) (x:α) (v:β),xs[i]?=Ss x->vs[i]?=Ss v->R x v):Al R xs vs:=by
 induction xs generalizing vs with
 |nil=>rw[Wh.mp l];exact .nil
 |cons x xs ih=>
  induction vs using K1 with
  |nil=>cases l
  |cons v vs=>exact .cons (h 0 _ _ rfl rfl) (ih (ZG l) λi=>h (i+1))
theorem cz(h:Al R xs vs):vs.length=xs.length:=by
 induction h with
 |nil=>rfl
 |cons _ _ ih=>exact congrArg Xy ih
theorem gp(h:Al R xs vs):∀(i:Nat) (x:α) (v:β),xs[i]?=Ss x->vs[i]?=Ss v->R x v:=by
 induction h with
 |nil=>intro i x v e;exact aY e
 |cons h _ ih=>
  intro i x v e e';induction i using vI with
  |zero=>(have y9:=K6 e;clear e;subst y9);(have y9:=K6 e';clear e';subst y9);exact h
  |succ i=>exact ih i x v e e'
theorem qA(h:Al R xs vs)(k:∀x v,R x v->R' x v):Al R' xs vs:=by
 induction h with
 |nil=>exact .nil
 |cons h _ ih=>exact .cons (k _ _ h) ih
theorem kH(h:Al R xs vs)(h':Al R ys us):Al R (xs++ys) (vs++us):=by
 induction h with
 |nil=>exact h'
 |cons h _ ih=>exact .cons h ih
theorem D3(h:Al R xs vs)(n:Nat):Al R (xs.take n) (vs.take n):=by
 induction h generalizing n with
 |nil=>rw[Uu,Uu];exact .nil
 |cons h _ ih=>induction n using vI with
  |zero=>exact .nil
  |succ n=>exact .cons h (ih n)
theorem fS(h:Al R xs vs)(n:Nat):Al R (xs.drop n) (vs.drop n):=by
 induction h generalizing n with
 |nil=>rw[Ut,Ut];exact .nil
 |cons h r ih=>induction n using vI with
  |zero=>exact .cons h r
  |succ n=>exact ih n
theorem D0(h:Al R xs vs):Al R xs.reverse vs.reverse:=by
 induction h with
 |nil=>exact .nil
 |cons h _ ih=>rw[Yc,Yc];exact ih.kH (.cons h .nil)
theorem cI(h:Al R xs vs)(n:Nat){x:α}{v:β}(k:R x v):Al R (xs.set n x) (vs.set n v):=by
 induction h generalizing n with
 |nil=>exact .nil
 |cons h r ih=>induction n using vI with
  |zero=>exact .cons k r
  |succ n=>exact .cons h (ih n)
theorem sN(h:Al R xs vs){i:Nat}{x:α}(e:xs[i]?=Ss x):∃v,vs[i]?=Ss v/\R x v:=by
 induction h generalizing i with
 |nil=>exact aY e
 |cons h _ ih=>induction i using vI with
  |zero=>(have y9:=K6 e;clear e;subst y9);exact⟨_,rfl,h⟩
  |succ i=>exact ih e
theorem Mm{x:α}(h:Al R (xs++[x]) vs):∃us v,vs=us++[v]/\Al R xs us/\R x v:=by
 induction xs generalizing vs with
 |nil=>refine eX (h.gG) λv us y9 h1 r=>?_;subst y9;obtain rfl:=r.sO;exact⟨[],_,rfl,.nil,h1⟩
 |cons y ys ih=>refine eX (h.gG) λv us y9 h1 r=>?_;subst y9;refine eX (ih r) λus v y9 r' e=>?_;subst y9;exact⟨_::us,v,rfl,.cons h1 r',e⟩
end Al
abbrev aO(g:Gx)(W:Wd):List AV->List M5->Prop:=Al (Vr g W)
abbrev gN(g:Gx)(W:Wd)(κ:Type):List (κ×AV)->List (κ×M5)->Prop:=Al λp q=>p.1=q.1/\Vr g W p.2 q.2
abbrev jq(g:Gx)(W:Wd):List (Int×AV)->List (Int×M5)->Prop:=gN g W Int
abbrev An(g:Gx)(W:Wd):List (Str×AV)->List (Str×M5)->Prop:=gN g W Str
class inductive ip(g:Gx)(W:Wd):List (Nat×AV)->(Str->Option M5)->Prop
 |nil {m:Str->Option M5}:ip g W [] m
 |cons {f:Nat}{x:AV}{fs:List (Nat×AV)}{v:M5}{m:Str->Option M5}:m (aQ f)=Ss v->Vr g W x v->ip g W fs m->ip g W ((f,x)::fs) m
section
variable {g:Gx}{W W':Wd}
theorem aO.aE(le:W.J W'){xs:List AV}{vs:List M5}(h:aO g W xs vs):aO g W' xs vs:=h.qA λU U h=>h.aE le
theorem Ds{κ:Type}(le:W.J W'){xs:List (κ×AV)}{vs:List (κ×M5)}(h:gN g W κ xs vs):gN g W' κ xs vs:=h.qA λU U h=>⟨h.1,h.2.aE le⟩
theorem ip.aE(le:W.J W'){fs:List (Nat×AV)}{m:Str->Option M5}(h:ip g W fs m):ip g W' fs m:=by
 induction h with
 |nil=>exact .nil
 |cons e h _ ih=>exact .cons e (h.aE le) ih
theorem ip.of{fs:List (Nat×AV)}{m:Str->Option M5}{vf:Nat->M5}(k:∀p∈fs,m (aQ p.1)=Ss (vf p.1))(r:∀p∈fs,Vr g W p.2 (vf p.1)):ip g W fs m:=by
 induction fs with
 |nil=>exact .nil
 |cons p fs ih=>exact .cons (k _ (.head _)) (r _ (.head _)) (ih (λq h=>k q (.tail _ h)) λq h=>r q (.tail _ h))
theorem ip.l6{fs:List (Nat×AV)}{m:Str->Option M5}(h:ip g W fs m):∀p∈fs,m (aQ p.1)=Ss ((m (aQ p.1)).getD .none)/\Vr g W p.2 ((m (aQ p.1)).getD .none):=by
 induction h with
 |nil=>intro p h;exact aT h
 |cons e h _ ih=>
  intro p hp;rcases K7.mp hp with rfl|hp
  ·dsimp only;rw[e];exact⟨rfl,h⟩
  ·exact ih p hp
theorem Vr.zq{a:MW}{o:Obj}{vs:List M5}{xs:List AV}(e:W.F a=Ss o)(p:jp vs o)(r:aO g W xs vs):Vr g W (.tup xs) (.ref a):=.tup0 e p r.cz r.gp
theorem Vr.zp{a:MW}{o:Obj}{vs:List M5}{xs:List AV}(e:W.F a=Ss o)(p:bO vs o)(r:aO g W xs vs):Vr g W (.lst xs) (.ref a):=.lst0 e p r.cz r.gp
theorem Vr.dict{a:MW}{o:Obj}{vs:List (Int×M5)}{xs:List (Int×AV)}(e:W.F a=Ss o)(p:jm g vs o)(r:jq g W xs vs):Vr g W (.dict xs) (.ref a):=.dict0 e p r.cz (λi x v q q'=>(r.gp i x v q q').1) λi x v q q'=>(r.gp i x v q q').2
theorem Vr.aeY{a:MW}{o:Obj}{vs:List (Str×M5)}{xs:List (Str×AV)}(e:W.F a=Ss o)(p:wU g vs o)(r:An g W xs vs):Vr g W (.sdict xs) (.ref a):=.sdict0 e p r.cz (λi x v q q'=>(r.gp i x v q q').1) λi x v q q'=>(r.gp i x v q q').2
theorem Vr.aeX{c:Nat}{a d:MW}{o:Obj}{m:Str->Option M5}{fs:List (Nat×AV)}(e:W.F a=Ss (s0 (g.κ c) d))(e':W.F d=Ss o)(p:cA m o)(r:ip g W fs m):Vr g W (.inst c fs) (.ref a):=.inst0 (vf:=λf=>(m (aQ f)).getD .none) e e' p (λq h=>(r.l6 q h).1) λq h=>(r.l6 q h).2
inductive jV(W:Wd)(P:List M5->Obj->Prop)(L:List M5->Prop)(v:M5):Prop
 |mk (a:MW) (o:Obj) (vs:List M5) (hv:v=.ref a) (e:W.F a=Ss o) (p:P vs o) (r:L vs)
inductive q9(W:Wd){κ:Type}(P:List (κ×M5)->Obj->Prop)(L:List (κ×M5)->Prop)(v:M5):Prop
 |mk (a:MW) (o:Obj) (vs:List (κ×M5)) (hv:v=.ref a) (e:W.F a=Ss o) (p:P vs o) (r:L vs)
inductive Fv(g:Gx)(W:Wd)(c:Nat)(fs:List (Nat×AV))(v:M5):Prop
 |mk (a d:MW) (o:Obj) (m:Str->Option M5) (hv:v=.ref a) (e:W.F a=Ss (s0 (g.κ c) d)) (e':W.F d=Ss o) (p:cA m o) (r:ip g W fs m)
def Os(g:Gx)(W:Wd)(x:AV)(v:M5):Prop:=@AV.casesOn (λU=>Prop) x (v=.none) (λb=>v=.bool b) (λi=>∃t,v=.int i t) (λs=>∃t,v=.str s t) (λb=>∃t,v=.bytes b t) (λxs=>jV W jp (aO g W xs) v) (λxs=>jV W bO (aO g W xs) v) (λxs=>q9 W (jm g) (jq g W xs) v) (λxs=>q9 W (wU g) (An g W xs) v) (λc fs=>Fv g W c fs v) (λi=>∃a,W.φ i=Ss a/\v=.ref a)
theorem Vr.dv{x:AV}{v:M5}(h:Vr g W x v):Os g W x v:=by
 induction h with
 |none=>exact rfl
 |bool b=>exact rfl
 |int i t=>exact⟨t,rfl⟩
 |str s t=>exact⟨t,rfl⟩
 |bytes b t=>exact⟨t,rfl⟩
 |tup0 e p l r=>exact⟨_,_,_,rfl,e,p,.of l r⟩
 |lst0 e p l r=>exact⟨_,_,_,rfl,e,p,.of l r⟩
 |dict0 e p l k r=>exact⟨_,_,_,rfl,e,p,.of l λi x v q q'=>⟨k i x v q q',r i x v q q'⟩⟩
 |sdict0 e p l k r=>exact⟨_,_,_,rfl,e,p,.of l λi x v q q'=>⟨k i x v q q',r i x v q q'⟩⟩
 |inst0 e e' p k r=>exact⟨_,_,_,_,rfl,e,e',p,.of k r⟩
 |ref e=>exact⟨_,e,rfl⟩
theorem Vr.qI{v:M5}(h:Vr g W .none v):v=.none:=h.dv
theorem Vr.Mv{b:Bool}{v:M5}(h:Vr g W (.bool b) v):v=.bool b:=h.dv
theorem Vr.kO{i:Int}{v:M5}(h:Vr g W (.int i) v):∃t,v=.int i t:=h.dv
theorem Vr.Mx{i:Str}{v:M5}(h:Vr g W (.str i) v):∃t,v=.str i t:=h.dv
theorem Vr.vM{b:Array UInt8}{v:M5}(h:Vr g W (.bytes b) v):∃t,v=.bytes b t:=h.dv
theorem Vr.oL{i:Nat}{v:M5}(h:Vr g W (.ref i) v):∃a,W.φ i=Ss a/\v=.ref a:=h.dv
theorem Vr.sT{xs:List AV}{v:M5}(h:Vr g W (.tup xs) v):jV W jp (aO g W xs) v:=h.dv
theorem Vr.jM{xs:List AV}{v:M5}(h:Vr g W (.lst xs) v):jV W bO (aO g W xs) v:=h.dv
theorem Vr.Mw{xs:List (Int×AV)}{v:M5}(h:Vr g W (.dict xs) v):q9 W (jm g) (jq g W xs) v:=h.dv
theorem Vr.aeZ{xs:List (Str×AV)}{v:M5}(h:Vr g W (.sdict xs) v):q9 W (wU g) (An g W xs) v:=h.dv
theorem Vr.qJ{c:Nat}{fs:List (Nat×AV)}{v:M5}(h:Vr g W (.inst c fs) v):Fv g W c fs v:=h.dv
end
set_option genInjectivity false in
inductive PS:Type 1
 |leaf (p:Prop)
 |rq (p:Prop) (k:PS)
 |ex {α:Type} (k:α->PS)
 |ite (c:Bool) (k:Bool->PS)
 |bot
def rj(φ:PS):Prop:=PS.rec (motive:=λU=>Prop) (λp=>p) (λp U ih=>p/\ih) (λU ih=>∃a,ih a) (λc U ih=>ih c) False φ
def pi:PS->Prop->Prop
 |.leaf p,G=>p->G
 |.rq p k,G=>p->pi k G
 |.ex k,G=>∀a,pi (k a) G
 |.ite c k,G=>∀x,c=x->pi (k x) G
 |.bot,j4=>True
def ok(φ:PS):Prop:=∀G,pi φ G->G
noncomputable instance:CoeSort PS Prop:=⟨rj⟩
noncomputable instance:Coe PS Prop:=⟨rj⟩
theorem OD{φ:PS}:∀{G:Prop},(rj φ->G)->pi φ G:=by
 induction φ with
 |leaf p=>exact λh=>h
 |rq p k ih=>exact λh a=>ih λb=>h ⟨a,b⟩
 |ex k ih=>exact λh a=>ih a λb=>h ⟨a,b⟩
 |ite c k ih=>exact λh x e=>ih x λb=>h (e.symm▸b)
 |bot=>exact λU=>trivial
theorem ok.ny{φ:PS}(h:ok φ):rj φ:=h _ (OD id)
noncomputable def br(c:Bool)(a b:PS):PS:=.ite c λx=>match x with|true=>a|false=>b
namespace AV
noncomputable def L(x:AV)(P:Int->PS):PS:=@AV.casesOn (λU=>PS) x .bot (λU=>.bot) P (λU=>.bot) (λU=>.bot) (λU=>.bot) (λU=>.bot) (λU=>.bot) (λU=>.bot) (λU U=>.bot) (λU=>.bot)
noncomputable def kG(x:AV)(P:Bool->PS):PS:=@AV.casesOn (λU=>PS) x .bot P (λU=>.bot) (λU=>.bot) (λU=>.bot) (λU=>.bot) (λU=>.bot) (λU=>.bot) (λU=>.bot) (λU U=>.bot) (λU=>.bot)
noncomputable def sM(x:AV)(P:Str->PS):PS:=@AV.casesOn (λU=>PS) x .bot (λU=>.bot) (λU=>.bot) P (λU=>.bot) (λU=>.bot) (λU=>.bot) (λU=>.bot) (λU=>.bot) (λU U=>.bot) (λU=>.bot)
noncomputable def fG(x:AV)(P:List AV->PS):PS:=@AV.casesOn (λU=>PS) x .bot (λU=>.bot) (λU=>.bot) (λU=>.bot) (λU=>.bot) (λU=>.bot) P (λU=>.bot) (λU=>.bot) (λU U=>.bot) (λU=>.bot)
noncomputable def vH(x:AV)(P:List AV->PS):PS:=@AV.casesOn (λU=>PS) x .bot (λU=>.bot) (λU=>.bot) (λU=>.bot) (λU=>.bot) P (λU=>.bot) (λU=>.bot) (λU=>.bot) (λU U=>.bot) (λU=>.bot)
noncomputable def jI(x:AV)(P:Bool->List AV->PS):PS:=@AV.casesOn (λU=>PS) x .bot (λU=>.bot) (λU=>.bot) (λU=>.bot) (λU=>.bot) (P PO) (P WL) (λU=>.bot) (λU=>.bot) (λU U=>.bot) (λU=>.bot)
noncomputable def sL(x:AV)(P:List (Int×AV)->PS):PS:=@AV.casesOn (λU=>PS) x .bot (λU=>.bot) (λU=>.bot) (λU=>.bot) (λU=>.bot) (λU=>.bot) (λU=>.bot) P (λU=>.bot) (λU U=>.bot) (λU=>.bot)
noncomputable def DZ(x:AV)(P:List (Str×AV)->PS):PS:=@AV.casesOn (λU=>PS) x .bot (λU=>.bot) (λU=>.bot) (λU=>.bot) (λU=>.bot) (λU=>.bot) (λU=>.bot) (λU=>.bot) P (λU U=>.bot) (λU=>.bot)
noncomputable def lY(x:AV)(P:Nat->PS):PS:=@AV.casesOn (λU=>PS) x .bot (λU=>.bot) (λU=>.bot) (λU=>.bot) (λU=>.bot) (λU=>.bot) (λU=>.bot) (λU=>.bot) (λU=>.bot) (λU U=>.bot) P
noncomputable def zi(x:AV)(P:Nat->List (Nat×AV)->PS):PS:=@AV.casesOn (λU=>PS) x .bot (λU=>.bot) (λU=>.bot) (λU=>.bot) (λU=>.bot) (λU=>.bot) (λU=>.bot) (λU=>.bot) (λU=>.bot) P (λU=>.bot)
inductive Is{α:Type}(f:α->AV)(P:α->PS)(x:AV):Prop
 |mk (a:α) (e:x=f a) (h:P a)
inductive aeK(P:Nat->List (Nat×AV)->PS)(x:AV):Prop
 |mk (c:Nat) (fs:List (Nat×AV)) (e:x=.inst c fs) (h:P c fs)
theorem vG{x:AV}{P:Int->PS}(h:x.L P):Is .int P x:=by induction x using AV.casesOn<;>first|exact⟨_,rfl,h⟩|exact h.elim
theorem aeL{x:AV}{P:Bool->PS}(h:x.kG P):Is .bool P x:=by induction x using AV.casesOn<;>first|exact⟨_,rfl,h⟩|exact h.elim
theorem aeN{x:AV}{P:Str->PS}(h:x.sM P):Is .str P x:=by induction x using AV.casesOn<;>first|exact⟨_,rfl,h⟩|exact h.elim
theorem iJ{x:AV}{P:List AV->PS}(h:x.fG P):Is .lst P x:=by induction x using AV.casesOn<;>first|exact⟨_,rfl,h⟩|exact h.elim
theorem Ml{x:AV}{P:List AV->PS}(h:x.vH P):Is .tup P x:=by induction x using AV.casesOn<;>first|exact⟨_,rfl,h⟩|exact h.elim
theorem Mk{x:AV}{P:Bool->List AV->PS}(h:x.jI P):Is .lst (P WL) x∨Is .tup (P PO) x:=by induction x using AV.casesOn<;>first|exact .inl ⟨_,rfl,h⟩|exact .inr ⟨_,rfl,h⟩|exact h.elim
theorem zh{x:AV}{P:List (Int×AV)->PS}(h:x.sL P):Is .dict P x:=by induction x using AV.casesOn<;>first|exact⟨_,rfl,h⟩|exact h.elim
theorem aeM{x:AV}{P:List (Str×AV)->PS}(h:x.DZ P):Is .sdict P x:=by induction x using AV.casesOn<;>first|exact⟨_,rfl,h⟩|exact h.elim
theorem qz{x:AV}{P:Nat->PS}(h:x.lY P):Is .ref P x:=by induction x using AV.casesOn<;>first|exact⟨_,rfl,h⟩|exact h.elim
theorem DY{x:AV}{P:Nat->List (Nat×AV)->PS}(h:x.zi P):aeK P x:=by induction x using AV.casesOn<;>first|exact⟨_,_,rfl,h⟩|exact h.elim
end AV
section
variable {g:Gx}{W:Wd}{x y:AV}{v u:M5}
@[elab_as_elim] theorem fq{M:M5->Prop}{P:Int->PS}(h:x.L P)(hx:Vr g W x v)(k:∀i t,P i->M (.int i t)):M v:=by obtain⟨i,rfl,h⟩:=AV.vG h;refine a7 (hx.kO) λt y9=>?_;subst y9;exact k i t h
@[elab_as_elim] theorem jY{M:M5->M5->Prop}{P:Int->Int->PS}(h:x.L λi=>y.L (P i))(hx:Vr g W x v)(hy:Vr g W y u)(k:∀i j t t',P i j->M (.int i t) (.int j t')):M v u:=
 fq (M:=λv=>M v u) h hx λi t h=>fq (M:=λu=>M _ u) h hy λj t' h=>k i j t t' h
@[elab_as_elim] theorem FF{M:M5->Prop}{P:Str->PS}(h:x.sM P)(hx:Vr g W x v)(k:∀i t,P i->M (.str i t)):M v:=by obtain⟨i,rfl,h⟩:=AV.aeN h;refine a7 (hx.Mx) λt y9=>?_;subst y9;exact k i t h
@[elab_as_elim] theorem OE{M:M5->Prop}{P:Nat->PS}(h:x.lY P)(hx:Vr g W x v)(k:∀i a,W.φ i=Ss a->P i->M (.ref a)):M v:=by obtain⟨i,rfl,h⟩:=AV.qz h;refine aj (hx.oL) λa e y9=>?_;subst y9;exact k i a e h
theorem OA{G:Prop}{P:List AV->PS}(h:x.fG P)(hx:Vr g W x v)(k:∀xs,P xs->Vr g W (.lst xs) v->G):G:=by obtain⟨i,rfl,h⟩:=AV.iJ h;exact k i h hx
end
noncomputable def jZ{α:Type}(x:Option α)(P:α->PS):PS:=.ex λa=>.rq (x=Ss a) (P a)
inductive Ah{α:Type}(P:α->PS)(x:Option α):Prop
 |mk (a:α) (e:x=Ss a) (h:P a)
theorem nO{α:Type}{x:Option α}{P:α->PS}(h:jZ x P):Ah P x:=by refine aj h λa e h=>?_;exact⟨a,e,h⟩
noncomputable def cL(b:Bool)(P:PS):PS:=match b with|true=>P|false=>.bot
theorem fM{b:Bool}{P:PS}(h:cL b P):b=WL/\P:=by induction b with|true=>exact⟨rfl,h⟩|false=>exact h.elim
noncomputable def bY(b:Bool)(P:PS):PS:=match b with|false=>P|true=>.bot
theorem Ou{b:Bool}{P:PS}(h:bY b P):b=PO/\P:=by induction b with|false=>exact⟨rfl,h⟩|true=>exact h.elim
set_option genInjectivity false in
inductive an where
 |none
 |val (v:AV)
 |own (v:AV)
 deriving Inhabited
set_option genInjectivity false in
structure MO where
 cls:Nat
 fs:List (Nat×an)
set_option genInjectivity false in
structure St where
 aD:List an
 aI:List (Option MO)
set_option genInjectivity false in
inductive aS where
 |val (v:AV)
 |own (v:AV)
noncomputable def aS.v:aS->AV
 |.val v=>v
 |.own v=>v
noncomputable def aS.jN:aS->an
 |.val v=>.val v
 |.own v=>.own v
set_option genInjectivity false in
inductive Fl where
 |next|brk|cont
 |ret (v:AV)
inductive im(g:Gx)(W:Wd):AV->M5->ai->Prop
 |lst {a:MW}{vs:List M5}{xs:List AV}:aO g W xs vs->im g W (.lst xs) (.ref a) [(a,bO vs)]
 |dict {a:MW}{vs:List (Int×M5)}{xs:List (Int×AV)}:jq g W xs vs->im g W (.dict xs) (.ref a) [(a,jm g vs)]
inductive ee(g:Gx)(W:Wd):an->Option M5->ai->Prop
 |none {r:Option M5}:ee g W .none r []
 |val {v:AV}{x:M5}:Vr g W v x->ee g W (.val v) (Ss x) []
 |own {v:AV}{x:M5}{l:ai}:im g W v x l->ee g W (.own v) (Ss x) l
inductive io(g:Gx)(W:Wd):aS->M5->ai->Prop
 |val {v:AV}{x:M5}:Vr g W v x->io g W (.val v) x []
 |own {v:AV}{x:M5}{l:ai}:im g W v x l->io g W (.own v) x l
section
variable {g:Gx}{W:Wd}{v:AV}{x:M5}{r:Option M5}{l:ai}
def On(g:Gx)(W:Wd)(v:AV)(x:M5)(l:ai):Prop:=@AV.casesOn (λU=>Prop) v False (λU=>False) (λU=>False) (λU=>False) (λU=>False) (λU=>False) (λxs=>∃a vs,x=.ref a/\l=[(a,bO vs)]/\aO g W xs vs) (λxs=>∃a vs,x=.ref a/\l=[(a,jm g vs)]/\jq g W xs vs) (λU=>False) (λU U=>False) (λU=>False)
theorem im.dv(h:im g W v x l):On g W v x l:=by
 induction h with
 |lst h=>exact⟨_,_,rfl,rfl,h⟩
 |dict h=>exact⟨_,_,rfl,rfl,h⟩
theorem im.oL(h:im g W v x l):∃a,x=.ref a:=by
 induction h with
 |lst h=>exact⟨_,rfl⟩
 |dict h=>exact⟨_,rfl⟩
theorem im.jM{xs:List AV}(h:im g W (.lst xs) x l):∃a vs,x=.ref a/\l=[(a,bO vs)]/\aO g W xs vs:=h.dv
def Oq(g:Gx)(W:Wd)(s:an)(r:Option M5)(l:ai):Prop:=@an.casesOn (λU=>Prop) s (l=[]) (λv=>∃x,r=Ss x/\l=[]/\Vr g W v x) (λv=>∃x,r=Ss x/\im g W v x l)
theorem ee.dv{s:an}(h:ee g W s r l):Oq g W s r l:=by
 induction h with
 |none=>exact rfl
 |val h=>exact⟨_,rfl,rfl,h⟩
 |own h=>exact⟨_,rfl,h⟩
theorem ee.qI(h:ee g W .none r l):l=[]:=h.dv
theorem ee.Ed(h:ee g W (.val v) r l):∃x,r=Ss x/\l=[]/\Vr g W v x:=h.dv
theorem ee.Ec(h:ee g W (.own v) r l):∃x,r=Ss x/\im g W v x l:=h.dv
end
class inductive fW(g:Gx)(W:Wd):List an->List (Option M5)->ai->Prop
 |nil:fW g W [] [] []
 |cons {s:an}{r:Option M5}{l L:ai}{ss:List an}{rs:List (Option M5)}:ee g W s r l->fW g W ss rs L->fW g W (s::ss) (r::rs) (l++L)
class inductive fV(g:Gx)(W:Wd):List (Nat×an)->(Str->Option M5)->ai->Prop
 |nil {m:Str->Option M5}:fV g W [] m []
 |cons {f:Nat}{s:an}{v:M5}{l L:ai}{fs:List (Nat×an)}{m:Str->Option M5}:m (aQ f)=Ss v->ee g W s (Ss v) l->fV g W fs m L->fV g W ((f,s)::fs) m (l++L)
class inductive il(g:Gx)(W:Wd):Nat->List (Option MO)->ai->Prop
 |nil {k:Nat}:il g W k [] []
 |dead {k:Nat}{ms:List (Option MO)}{L:ai}:il g W (k+1) ms L->il g W k (M4::ms) L
 |live {k:Nat}{a d:MW}{mo:MO}{ms:List (Option MO)}{m:Str->Option M5}{l L:ai}:W.φ k=Ss a->fV g W mo.fs m l->(∀nm,(∀p∈mo.fs,aQ p.1≠nm)->m nm=M4)->
  il g W (k+1) ms L->il g W k (Ss mo::ms) ((a,λo=>o=s0 (g.κ mo.cls) d)::(d,cA m)::(l++L))
section
variable {g:Gx}{W W':Wd}(le:W.J W')
include le
theorem im.aE{v:AV}{x:M5}{l:ai}(h:im g W v x l):im g W' v x l:=by
 induction h with
 |lst r=>exact .lst (r.aE le)
 |dict r=>exact .dict (Ds le r)
theorem ee.aE{v:an}{x:Option M5}{l:ai}(h:ee g W v x l):ee g W' v x l:=by
 induction h with
 |none=>exact .none
 |val r=>exact .val (r.aE le)
 |own r=>exact .own (r.aE le)
theorem io.aE{v:aS}{x:M5}{l:ai}(h:io g W v x l):io g W' v x l:=by
 induction h with
 |val r=>exact .val (r.aE le)
 |own r=>exact .own (r.aE le)
theorem fW.aE{v:List an}{x:List (Option M5)}{l:ai}(h:fW g W v x l):fW g W' v x l:=by
 induction h with
 |nil=>exact .nil
 |cons h _ ih=>exact .cons (h.aE le) ih
theorem fV.aE{v:List (Nat×an)}{x:Str->Option M5}{l:ai}(h:fV g W v x l):fV g W' v x l:=by
 induction h with
 |nil=>exact .nil
 |cons e h _ ih=>exact .cons e (h.aE le) ih
theorem il.aE{k:Nat}{v:List (Option MO)}{l:ai}(h:il g W k v l):il g W' k v l:=by
 induction h with
 |nil=>exact .nil
 |dead _ ih=>exact .dead ih
 |live e h n _ ih=>exact .live (le.φ _ _ e) (h.aE le) n ih
end
theorem tH{α:Type}{x:α}{l:List α}:∀{i:Nat},l[i]?=Ss x->l.set i x=l:=by
 induction l with
 |nil=>intro i h;rfl
 |cons y l ih=>intro i h;induction i using vI with
  |zero=>(have y9:=K6 h;clear h;subst y9);rfl
  |succ i=>exact congrArg (y::·) (ih h)
inductive Op(g:Gx)(W:Wd)(ss:List an)(rs:List (Option M5))(i:Nat)(s:an)(L:ai):Prop
 |mk (r:Option M5) (l L1 L2:ai) (e:rs[i]?=Ss r) (eL:L=L1++(l++L2)) (h:ee g W s r l) (k:∀W',W.J W'->∀s' r' l',ee g W' s' r' l'->fW g W' (ss.set i s') (rs.set i r') (L1++(l'++L2)))
set_option tactic.hygienic true in
theorem fW.jL{g:Gx}{W:Wd}{ss:List an}{rs:List (Option M5)}{L:ai}(h:fW g W ss rs L):∀{i:Nat}{s:an},ss[i]?=Ss s->Op g W ss rs i s L:=by
 induction h with
 |nil=>intro i s e;exact aY e
 |cons h r ih=>
  rename_i l L _ _;intro i s e;induction i using vI with
  |zero=>(have y9:=K6 e;clear e;subst y9);exact⟨_,l,[],L,rfl,rfl,h,λW' le s' r' l' h'=>fW.cons (l:=l') h' (r.aE le)⟩
  |succ i=>obtain⟨r1,l1,L1,L2,a,rfl,c,d⟩:=ih e;refine⟨r1,l1,l++L1,L2,a,(zx ..).symm,c,λW' le s' r' l' h'=>?_⟩;rw[zx];exact .cons (h.aE le) (d W' le s' r' l' h')
theorem fW.D7{g:Gx}{W:Wd}{ss:List an}{rs:List (Option M5)}{L:ai}(h:fW g W ss rs L):rs.length=ss.length:=by
 induction h with
 |nil=>rfl
 |cons _ _ ih=>exact congrArg Xy ih
theorem fW.kH{g:Gx}{W:Wd}{ss:List an}{rs:List (Option M5)}{L:ai}(h:fW g W ss rs L){M8:List an}{iM:List (Option M5)}{L':ai}(h':fW g W M8 iM L'):fW g W (ss++M8) (rs++iM) (L++L'):=by
 induction h with
 |nil=>exact h'
 |cons h _ ih=>rw[zx];exact .cons h ih
inductive Om(g:Gx)(W:Wd)(k:Nat)(ms:List (Option MO))(i:Nat)(mo:MO)(L:ai):Prop
 |mk (a d:MW) (m:Str->Option M5) (l L1 L2:ai) (e:W.φ (k+i)=Ss a) (eL:L=L1++((a,λo=>o=s0 (g.κ mo.cls) d)::(d,cA m)::(l++L2))) (h:fV g W mo.fs m l) (n:∀nm,(∀p∈mo.fs,aQ p.1≠nm)->m nm=M4)
  (u:∀W',W.J W'->∀cJ m' l',fV g W' cJ m' l'->(∀nm,(∀p∈cJ,aQ p.1≠nm)->m' nm=M4)->il g W' k (ms.set i (Ss ⟨mo.cls,cJ⟩)) (L1++((a,λo=>o=s0 (g.κ mo.cls) d)::(d,cA m')::(l'++L2))))
  (z:∀W',W.J W'->il g W' k (ms.set i M4) (L1++L2))
set_option tactic.hygienic true in
theorem il.jL{g:Gx}{W:Wd}{ms:List (Option MO)}{k:Nat}{L:ai}(h:il g W k ms L):∀{i:Nat}{mo:MO},ms[i]?=Ss (Ss mo)->Om g W k ms i mo L:=by
 induction h with
 |nil=>intro i mo e;exact aY e
 |dead r ih=>
  intro i mo x;induction i using vI with
  |zero=>cases x
  |succ i=>obtain⟨a,d,m,l,L1,L2,q1,rfl,q3,q4,q5,q6⟩:=ih x;exact⟨a,d,m,l,L1,L2,by rw[<- q1,Xa];rfl,rfl,q3,q4,λW' le cJ m' l' h' n'=>.dead (q5 W' le cJ m' l' h' n'),λW' le=>.dead (q6 W' le)⟩
 |live e h n r ih=>
  rename_i a0 d0 mo0 _ m0 l0 L0;intro i mo x;induction i using vI with
  |zero=>cases x;exact⟨_,d0,_,l0,[],L0,e,rfl,h,n,λW' le cJ m' l' h' n'=>.live (mo:=⟨_,cJ⟩) (le.φ _ _ e) h' n' (r.aE le),λW' le=>.dead (r.aE le)⟩
  |succ i=>
   obtain⟨a,d,m,l,L1,L2,q1,rfl,q3,q4,q5,q6⟩:=ih x;refine⟨a,d,m,l,(a0,λo=>o=s0 (g.κ mo0.cls) d0)::(d0,cA m0)::(l0++L1),L2,by rw[<- q1,Xa];rfl,by rw[aU,aU,zx],q3,q4,λW' le cJ m' l' h' n'=>?_,λW' le=>?_⟩
   ·rw[aU,aU,zx];exact .live (le.φ _ _ e) (h.aE le) n (q5 W' le cJ m' l' h' n')
   ·rw[aU,aU,zx];exact .live (le.φ _ _ e) (h.aE le) n (q6 W' le)
theorem il.D8{g:Gx}{W:Wd}{ms:List (Option MO)}{k:Nat}{L:ai}(h0:il g W k ms L){mo:MO}{a d:MW}{m:Str->Option M5}{l:ai}:W.φ (k+ms.length)=Ss a->fV g W mo.fs m l->
 (∀nm,(∀p∈mo.fs,aQ p.1≠nm)->m nm=M4)->il g W k (ms++[Ss mo]) (L++((a,λo=>o=s0 (g.κ mo.cls) d)::(d,cA m)::l)):=by
 induction h0 with
 |nil=>intro e h n;have:=il.live (d:=d) e h n .nil;rw[zB] at this;exact this
 |dead r ih=>intro e h n;exact .dead (ih (by rw[<- e,Xa];rfl) h n)
 |live e' h' n' r ih=>intro e h n;rw[aU,aU,aU,zx];exact .live e' h' n' (ih (by rw[<- e,Xa];rfl) h n)
inductive NK where
 |loc|cell|hid|out
 deriving DecidableEq
noncomputable def NK.rd:NK->Bool
 |.loc=>WL
 |.cell=>WL
 |_=>PO
set_option genInjectivity false in
structure FI where
 nv:List (Str×NK)
 ng:List Str
 di:Bool
noncomputable def NK.qE:NK->Bool
 |.cell=>WL
 |.hid=>WL
 |_=>PO
noncomputable def bP(ca:Nat->MW):Nat->List (Str×NK)->List (Option M5)->ai
 |k,p::nv,r::rs=>bif p.2.qE then (ca k,jW r)::bP ca (k+1) nv rs else bP ca (k+1) nv rs
 |j4,j5,j6=>[]
set_option genInjectivity false in
structure Ca where
 cu:Nat->MW
 pin:Nat->Option MW
 cQ:Str->Option M5
def jX(ca:Ca):Prop:=∀i,ca.pin i=M4
structure bq(fi:FI)(env:Env)(ca:Ca):Prop where
 kind:env.scope.kind=.function
 oI:env.globals=ZX
 blt:env.builtins=Y2
 aD:∀(i:Nat) (nm:Str),fi.nv[i]?=Ss (nm,NK.loc)->env.kindOf nm=Ss .local
 qB:∀(i:Nat) (nm:Str),fi.nv[i]?=Ss (nm,NK.cell)->(env.kindOf nm=Ss .cell∨env.kindOf nm=Ss .free/\(nm==("__classdict__":Str))=PO)/\env.cells.lookup nm=Ss (ca.cu i)
 gl:∀(j:Nat) (nm:Str),fi.ng[j]?=Ss nm->env.kindOf nm=Ss .globalImplicit
 sR:∀(i:Nat) (nm:Str) (k:NK),fi.nv[i]?=Ss (nm,k)->(nm==("__debug__":Str))=PO
 qC:∀(j:Nat) (nm:Str),fi.ng[j]?=Ss nm->(nm==("__debug__":Str))=PO
 inj:∀(i j:Nat) (nm:Str),fi.nv[i]?=Ss (nm,NK.loc)->fi.nv[j]?=Ss (nm,NK.loc)->i=j
 ck:fi.di=WL->∀(i:Nat) (nm:Str),fi.nv[i]?=Ss (nm,NK.cell)->env.kindOf nm=Ss .cell
structure lh(g:Gx)(s:MY):Prop where
 qG:s.gens=g.mh.gens
 os:s.os=g.mh.os
structure gy(g:Gx)(W:Wd)(fi:FI)(env:Env)(ca:Ca)(st:St)(Rz:ai)(s:MY)(rs:List (Option M5))(m:Str->Option M5)(L ML:ai):Prop where
 len:st.aD.length=fi.nv.length
 ms:∀(i:Nat) (nm:Str),fi.nv[i]?=Ss (nm,NK.loc)->rs[i]?=Ss (m nm)
 aD:fW g W st.aD rs L
 aI:il g W 0 st.aI ML
 di:∀i,st.aI.length<=i->W.φ i=M4
 cm:bA W.F ((env.locals,bN m)::(bP ca.cu 0 fi.nv rs++(L++(ML++Rz)))) s.heap
 bI:∀a o,g.mh.heap.get? a=Ss o->W.F a=Ss o
 cv:lh g s
 pin:(∀i a,ca.pin i=Ss a->(∃nm,fi.nv[i]?=Ss (nm,NK.loc))/\rs[i]?=Ss (Ss (.ref a)))/\∀(i:Nat) (nm:Str),fi.nv[i]?=Ss (nm,NK.out)->rs[i]?=Ss (ca.cQ nm)
def am(g:Gx)(W:Wd)(fi:FI)(env:Env)(ca:Ca)(st:St)(Rz:ai)(s:MY):Prop:=∃rs m L ML,gy g W fi env ca st Rz s rs m L ML
theorem ri{ca:Nat->MW}{k:Nat}{nv:List (Str×NK)}{p:Str×NK}{r:Option M5}{rs:List (Option M5)}(h:p.2.qE=WL):bP ca k (p::nv) (r::rs)=(ca k,jW r)::bP ca (k+1) nv rs:=by refine (?_:(bif p.2.qE then _ else _)=_);rw[h];rfl
theorem wW{ca:Nat->MW}{k:Nat}{nv:List (Str×NK)}{p:Str×NK}{r:Option M5}{rs:List (Option M5)}(h:p.2.qE=PO):bP ca k (p::nv) (r::rs)=bP ca (k+1) nv rs:=by refine (?_:(bif p.2.qE then _ else _)=_);rw[h];rfl
inductive Ok(ca:Nat->MW)(k:Nat)(nv:List (Str×NK))(rs:List (Option M5))(i:Nat)(r:Option M5):Prop
 |mk (C1 C2:ai) (e:bP ca k nv rs=C1++(ca (k+i),jW r)::C2) (h:∀r',bP ca k nv (rs.set i r')=C1++(ca (k+i),jW r')::C2)
theorem Fx{ca:Nat->MW}{nm:Str}{r:Option M5}{nv:List (Str×NK)}:∀{k:Nat}{rs:List (Option M5)}{i:Nat},nv[i]?=Ss (nm,NK.cell)->rs[i]?=Ss r->Ok ca k nv rs i r:=by
 induction nv with
 |nil=>intro k rs i h;exact aY h
 |cons p nv ih=>
  intro k rs i h e;induction rs using K1 with
  |nil=>exact aY e
  |cons x rs=>induction i using vI with
   |zero=>(have y9:=K6 h;clear h;subst y9);(have y9:=K6 e;clear e;subst y9);exact⟨[],_,ri rfl,λr'=>ri rfl⟩
   |succ i=>
    obtain⟨C1,C2,a,b⟩:=ih (k:=k+1) h e;rw[Xa] at a b;cases hb:p.2.qE with
    |true=>exact⟨(ca k,jW x)::C1,C2,by rw[ri hb,a];rfl,λr'=>by rw[VP,ri hb,b];rfl⟩
    |false=>exact⟨C1,C2,by rw[wW hb,a];rfl,λr'=>by rw[VP,wW hb,b];rfl⟩
theorem Ov{ca:Nat->MW}{nm:Str}{nv:List (Str×NK)}:∀{k:Nat}{rs:List (Option M5)}{i:Nat},nv[i]?=Ss (nm,NK.loc)->∀r',bP ca k nv (rs.set i r')=bP ca k nv rs:=by
 induction nv with
 |nil=>intro k rs i h;exact aY h
 |cons p nv ih=>
  intro k rs i h r';induction rs using K1 with
  |nil=>rfl
  |cons x rs=>induction i using vI with
   |zero=>(have y9:=K6 h;clear h;subst y9);rfl
   |succ i=>
    rw[VP];cases hb:p.2.qE with
    |true=>rw[ri hb,ri hb,ih h]
    |false=>rw[wW hb,wW hb,ih h]
noncomputable def li(ls:List ai):List Nat->ai
 |[]=>[]
 |[i]=>ls.getD i []
 |i::j::r=>ls.getD i []++li ls (j::r)
theorem tB(ls:List ai):∀p:List Nat,li ls p=p.flatMap λi=>ls.getD i []
 |[]=>rfl
 |[i]=>by rw[List.flatMap_singleton];rfl
 |i::j::r=>by rw[Zw,<- tB ls (j::r)];rfl
theorem Av(ls:List ai)(p q:List Nat)(h:autoParam (p.isPerm q=WL) t_rfl):(li ls p).Perm (li ls q):=by rw[tB,tB];exact (am3.mp h).flatMap_right _
noncomputable def rk(ls:List ai):List (List Nat)->ai
 |[]=>[]
 |[i]=>li ls i
 |i::j::r=>li ls i++rk ls (j::r)
theorem Ao(ls:List ai):∀p:List (List Nat),rk ls p=p.flatten.flatMap λi=>ls.getD i []
 |[]=>rfl
 |[i]=>by rw[amA,List.flatten_nil,zB];exact tB ls i
 |i::j::r=>by rw[amA,ZA,<- Ao ls (j::r),<- tB];rfl
theorem tG(ls:List ai)(p q:List (List Nat))(h:autoParam (p.flatten.isPerm q.flatten=WL) t_rfl):(rk ls p).Perm (rk ls q):=by rw[Ao,Ao];exact (am3.mp h).flatMap_right _
theorem bA.fI{F:Fz}{h:Ex}(ls:List ai)(p q:List (List Nat))(H:bA F (rk ls p) h)(e:autoParam (p.flatten.isPerm q.flatten=WL) t_rfl):bA F (rk ls q) h:=H.g8 (Mine.Internal.tG ls p q e)
theorem bA.kL{F:Fz}{h:Ex}(ls:List ai)(p q:List Nat)(H:bA F (li ls p) h)(e:autoParam (p.isPerm q=WL) t_rfl):bA F (li ls q) h:=H.g8 (Mine.Internal.Av ls p q e)
theorem fV.aeT{g:Gx}{W:Wd}{cJ:List (Nat×AV)}:∀{m:Str->Option M5}{l:ai},fV g W (cJ.map λp=>(p.1,an.val p.2)) m l->ip g W cJ m/\l=[]:=by
 induction cJ with
 |nil=>intro m l h;cases h;exact⟨.nil,rfl⟩
 |cons p cJ ih=>
  intro m l h;cases h with
  |cons e h r=>cases h with|val h=>refine ak (ih r) λa y9=>?_;subst y9;exact⟨.cons e h a,rfl⟩
noncomputable def an.Mu:an->Option AV
 |.val v=>Ss v
 |_=>M4
noncomputable def Ap:List (Nat×an)->Option (List (Nat×AV))
 |[]=>Ss []
 |p::fs=>p.2.Mu.bind λv=>(Ap fs).bind λr=>Ss ((p.1,v)::r)
noncomputable def MO.zk(mo:MO):Option (List (Nat×AV)):=Ap mo.fs
theorem OH{s:an}{v:AV}(h:s.Mu=Ss v):s=.val v:=by induction s<;>(first|exact aY h|(have y9:=K6 h;clear h;subst y9));rfl
theorem Ow{fs:List (Nat×an)}:∀{cJ:List (Nat×AV)},Ap fs=Ss cJ->fs=cJ.map (λp=>(p.1,an.val p.2)):=by
 induction fs with
 |nil=>intro cJ h;(have y9:=K6 h;clear h;subst y9);rfl
 |cons p fs ih=>
  intro cJ h;refine aj (aV.mp h) λv h1 h2=>?_;refine aj (aV.mp h2) λr h3 h4=>?_
  (have y9:=K6 h4;clear h4;subst y9);rw[ih h3,Zv];exact congrArg (·::_) (Ye rfl (OH h1))
section
variable {g:Gx}{W:Wd}{fi:FI}{env:Env}{ca:Ca}{st:St}{Rz l:ai}{s:MY}
abbrev iq(fi:FI)(env:Env)(ca:Ca)(rs:List (Option M5))(m:Str->Option M5)(L ML R:ai):ai:=(env.locals,bN m)::(bP ca.cu 0 fi.nv rs++(L++(ML++R)))
theorem bA.qD{F:Fz}{h:Ex}{rs:List (Option M5)}{m:Str->Option M5}{L ML R:ai}(x:ai)(H:bA F (iq fi env ca rs m L ML (x++R)) h):bA F (x++iq fi env ca rs m L ML R) h:=
 H.kL [[(env.locals,bN m)],bP ca.cu 0 fi.nv rs,L,ML,x,R] [0,1,2,3,4,5] [4,0,1,2,3,5]
theorem bA.vL{F:Fz}{h:Ex}{rs:List (Option M5)}{m:Str->Option M5}{L ML R:ai}(x:ai)(H:bA F (x++iq fi env ca rs m L ML R) h):bA F (iq fi env ca rs m L ML (x++R)) h:=
 H.kL [[(env.locals,bN m)],bP ca.cu 0 fi.nv rs,L,ML,x,R] [4,0,1,2,3,5] [0,1,2,3,4,5]
theorem bA.aeU{F:Fz}{h:Ex}{rs:List (Option M5)}{m:Str->Option M5}{L1 L2 ML R:ai}(x:ai)(H:bA F (iq fi env ca rs m (L1++(x++L2)) ML R) h):bA F (x++iq fi env ca rs m (L1++L2) ML R) h:=
 H.fI [[(env.locals,bN m)],bP ca.cu 0 fi.nv rs,L1,x,L2,ML++R] [[0],[1],[2,3,4],[5]] [[3],[0],[1],[2,4],[5]]
theorem iG{W:Wd}{a:MW}{o:Obj}(h:∀b x,W.F b=Ss x->(W.F.cI a o) b=Ss x):W.J { W with F:=W.F.cI a o }:=⟨h,λU U e=>e⟩
theorem lU{F:Fz}{a:MW}{o:Obj}:F.cI a o a=Ss o:=by unfold Fz.cI;rw[MS rfl]
theorem gy.on{W':Wd}{rs:List (Option M5)}{m:Str->Option M5}{L ML R₁:ai}{s':MY}(X:gy g W fi env ca st Rz s rs m L ML)(le:W.J W')(EN:W'.φ=W.φ)(k:lh g s')(H:bA W'.F (iq fi env ca rs m L ML R₁) s'.heap):gy g W' fi env ca st R₁ s' rs m L ML:=
 ⟨X.len,X.ms,X.aD.aE le,X.aI.aE le,λi h=>by rw[EN];exact X.di i h,H,λa o e=>le.F _ _ (X.bI a o e),k,X.pin⟩
theorem gy.kN{rs:List (Option M5)}{m:Str->Option M5}{L ML:ai}(X:gy g W fi env ca st Rz s rs m L ML):am g W fi env ca st Rz s:=⟨rs,m,L,ML,X⟩
theorem gy.Mt{W':Wd}{i:Nat}{sl:an}{rs:List (Option M5)}{m:Str->Option M5}{L L' ML R₁:ai}{s':MY}(X:gy g W fi env ca st Rz s rs m L ML)(le:W.J W')(EN:W'.φ=W.φ)(k:lh g s')(loc:fW g W' (st.aD.set i sl) rs L')(H:bA W'.F (iq fi env ca rs m L' ML R₁) s'.heap):am g W' fi env ca ⟨st.aD.set i sl,st.aI⟩ R₁ s':=
 ⟨rs,m,L',ML,by rw[aW];exact X.len,X.ms,loc,X.aI.aE le,λi h=>by rw[EN];exact X.di i h,H,λa o e=>le.F _ _ (X.bI a o e),k,X.pin⟩
inductive Ol(g:Gx)(W:Wd)(v:AV)(x:M5)(R:ai)(h:Ex):Prop
 |mk (W':Wd) (le:W.J W') (e:W'.φ=W.φ) (r:Vr g W' v x) (H:bA W'.F R h)
theorem im.kK{v:AV}{x:M5}{R:ai}{h:Ex}(o:im g W v x l)(H:bA W.F (l++R) h):Ol g W v x R h:=by
 induction o with
 |lst hl=>refine bV (bA.kK H) λo hp H' k=>?_;exact⟨_,iG k,rfl,.zp lU hp (hl.aE (iG k)),H'⟩
 |dict hl=>refine bV (bA.kK H) λo hp H' k=>?_;exact⟨_,iG k,rfl,.dict lU hp (Ds (iG k) hl),H'⟩
inductive Aj(g:Gx)(W:Wd)(fi:FI)(env:Env)(ca:Ca)(st:St)(Rz:ai)(s:MY)(v:AV)(x:M5):Prop
 |mk (W':Wd) (le:W.J W') (r:Vr g W' v x) (R:am g W' fi env ca st Rz s)
theorem am.kK{r:aS}{v:M5}(R:am g W fi env ca st (l++Rz) s)(h:io g W r v l):Aj g W fi env ca st Rz s r.v v:=by
 induction h with
 |val h=>exact⟨W,.Q _,h,R⟩
 |own h=>
  refine eg R λrs m L ML X=>?_
  obtain⟨W',le,e,r,H⟩:=h.kK (X.cm.qD _);exact⟨W',le,r,(X.on le e X.cv H).kN⟩
theorem gy.aeW{i:Nat}{v:AV}{rs:List (Option M5)}{m:Str->Option M5}{L ML:ai}{x:M5}(X:gy g W fi env ca st Rz s rs m L ML)(h:st.aD[i]?=Ss (.own v))(ex:rs[i]?=Ss (Ss x)):
 Aj g W fi env ca ⟨st.aD.set i (.val v),st.aI⟩ Rz s v x:=by
 obtain⟨r,l,L1,L2,e1,rfl,e3,e4⟩:=X.aD.jL h;refine aj (e3.Ec) λy y9 ho=>?_;subst y9;obtain rfl:y=x:=K6 (K6 (e1.symm.trans ex));obtain⟨W',le,e,r,H⟩:=ho.kK (X.cm.aeU _);have q:=e4 W' le _ _ [] (.val r);rw[tH e1] at q;exact⟨W',le,r,X.Mt le e X.cv q H⟩
theorem am.Ms{k:Nat}{mo:MO}{fs:List (Nat×AV)}{a:MW}(R:am g W fi env ca st Rz s)(h:st.aI[k]?=Ss (Ss mo))(hf:mo.zk=Ss fs)(ha:W.φ k=Ss a):
 Aj g W fi env ca ⟨st.aD,st.aI.set k M4⟩ Rz s (.inst mo.cls fs) (.ref a):=by
 refine eg R λrs m L ML X=>?_
 obtain⟨a',d,mm,l,L1,L2,q1,rfl,q3,q4,q5,q6⟩:=X.aI.jL h;rw[kI,ha] at q1;(have y9:=K6 q1;clear q1;subst y9)
 rw[Ow hf] at q3;refine ak (q3.aeT) λv y9=>?_;subst y9;have H:bA W.F ((a,λo=>o=s0 (g.κ mo.cls) d)::((d,cA mm)::iq fi env ca rs m L (L1++L2) Rz)) s.heap:=
  X.cm.fI [[(env.locals,bN m)],bP ca.cu 0 fi.nv rs,L,L1,[(a,λo=>o=s0 (g.κ mo.cls) d)],[(d,cA mm)],L2,Rz] [[0],[1],[2],[3,4,5,6],[7]] [[4],[5],[0],[1],[2],[3,6],[7]]
 refine bV (H.kK) λo y9 H1 k1=>?_;subst y9;refine bV (H1.kK) λo hp H2 k2=>?_;have le:W.J { W with F:=(W.F.cI a (s0 (g.κ mo.cls) d)).cI d o }:=(iG k1).S (iG (W:={ W with F:=W.F.cI a (s0 (g.κ mo.cls) d) }) k2);exact⟨_,le,.aeX (k2 _ _ lU) lU hp (v.aE le),rs,m,L,L1++L2,X.len,X.ms,X.aD.aE le,q6 _ le,λi h=>X.di i (by rw[aW] at h;exact h),H2,λa o e=>le.F _ _ (X.bI a o e),X.cv,X.pin⟩
theorem am.elim{P:Prop}(R:am g W fi env ca st Rz s)(k:∀rs m L ML,gy g W fi env ca st Rz s rs m L ML->P):P:=let⟨rs,m,L,ML,X⟩:=R;k rs m L ML X
theorem am.on{R₁:ai}{s':MY}(R:am g W fi env ca st Rz s)(k:lh g s->lh g s')(H:∀X:ai,bA W.F (X++Rz) s.heap->bA W.F (X++R₁) s'.heap):am g W fi env ca st R₁ s':=
 R.elim λrs m L ML X=>(X.on (.Q _) rfl (k X.cv) ((H ((env.locals,bN m)::(bP ca.cu 0 fi.nv rs++(L++ML))) (X.cm.fI [[(env.locals,bN m)],bP ca.cu 0 fi.nv rs,L,ML,Rz] [[0],[1],[2],[3],[4]] [[0,1,2,3],[4]])).fI [[(env.locals,bN m)],bP ca.cu 0 fi.nv rs,L,ML,R₁] [[0,1,2,3],[4]] [[0],[1],[2],[3],[4]])).kN
theorem am.aeV{s':MY}(R:am g W fi env ca st Rz s)(e:s'.heap=s.heap)(k:lh g s'):am g W fi env ca st Rz s':=R.on (λU=>k) λX H=>by rw[e];exact H
theorem am.cv(R:am g W fi env ca st Rz s):lh g s:=R.elim λU U U U X=>X.cv
theorem am.fz(R:am g W fi env ca st Rz s){a:MW}{o:Obj}(e:W.F a=Ss o):s.heap.get? a=Ss o:=R.elim λU U U U X=>X.cm.fz _ _ e
theorem am.bI(R:am g W fi env ca st Rz s){a:MW}{o:Obj}(e:g.mh.heap.get? a=Ss o):s.heap.get? a=Ss o:=R.elim λU U U U X=>X.cm.fz _ _ (X.bI _ _ e)
theorem lh.heap{h':Ex}{tk:Nat}(k:lh g s):lh g { s with heap:=h',toks:=tk }:=⟨k.qG,k.os⟩
theorem am.jJ{h':Ex}{tk:Nat}(R:am g W fi env ca st Rz s)(k:∀b o,s.heap.get? b=Ss o->h'.get? b=Ss o):am g W fi env ca st Rz { s with heap:=h',toks:=tk }:=R.on .heap λX H=>H.jJ k
theorem FC{X R:ai}{q:MW×(Obj->Prop)}:(q::(X++R)).Perm (X++q::R):=VH.symm
theorem am.oK{h':Ex}{tk:Nat}{a:MW}{p:Obj->Prop}(R:am g W fi env ca st Rz s)(k:∀b o,s.heap.get? b=Ss o->h'.get? b=Ss o)(hn:s.heap.get? a=M4)(e:∃o',h'.get? a=Ss o'/\p o'):
 am g W fi env ca st ((a,p)::Rz) { s with heap:=h',toks:=tk }:=R.on .heap λX H=>(H.oK k hn e).g8 FC
theorem am.jK{tk:Nat}{o:Obj}{p:Obj->Prop}(R:am g W fi env ca st Rz s)(hf:o.isFreed=PO)(hp:p o):am g W fi env ca st ((s.heap.objs.size,p)::Rz) { s with heap:=s.heap.push o,toks:=tk }:=R.on .heap λX H=>(H.jK hf hp).g8 FC
theorem am.ii{h':Ex}{tk:Nat}{a:MW}{p p':Obj->Prop}(R:am g W fi env ca st ((a,p)::Rz) s)(k:∀b o,b≠a->s.heap.get? b=Ss o->h'.get? b=Ss o)(e:∃o',h'.get? a=Ss o'/\p' o'):
 am g W fi env ca st ((a,p')::Rz) { s with heap:=h',toks:=tk }:=R.on .heap λX H=>H.ii k e
theorem am.fS(R:am g W fi env ca st (l++Rz) s):am g W fi env ca st Rz s:=R.on id λX H=>(H.kL [X,l,Rz] [0,1,2] [1,0,2]).fS
theorem am.g8{R₁:ai}(R:am g W fi env ca st Rz s)(e:Rz.Perm R₁):am g W fi env ca st R₁ s:=R.on id λX H=>H.g8 (e.append_left _)
theorem am.kL(ls:List ai)(p q:List Nat)(R:am g W fi env ca st (li ls p) s)(e:autoParam (p.isPerm q=WL) t_rfl):am g W fi env ca st (li ls q) s:=R.g8 (Mine.Internal.Av ls p q e)
theorem am.cQ{a:MW}{p:Obj->Prop}(R:am g W fi env ca st ((a,p)::Rz) s):∃o,s.heap.get? a=Ss o/\p o:=R.elim λU U U U X=>X.cm.b8 (a,p) (by simp)
end
section
variable {g:Gx}{W:Wd}{fi:FI}{env:Env}{ca:Ca}{st:St}{Rz l:ai}{s:MY}{A:K2}{E:M5->MY->Prop}{M:Model}
theorem gy.jN{i:Nat}{sl:an}{rs:List (Option M5)}{m:Str->Option M5}{L ML:ai}(X:gy g W fi env ca st Rz s rs m L ML)(hs:st.aD[i]?=Ss sl)(hn:sl≠.none):∃x l,rs[i]?=Ss (Ss x)/\ee g W sl (Ss x) l:=by
 obtain⟨r,l,L1,L2,e1,rfl,e3,e4⟩:=X.aD.jL hs;induction e3 with
 |none=>exact MQ rfl hn
 |val h=>exact⟨_,_,e1,.val h⟩
 |own h=>exact⟨_,_,e1,.own h⟩
theorem ro{i:Nat}{nm:Str}{k:NK}{pos:Pos}{Q:M5->MY->Prop}{rs:List (Option M5)}{m:Str->Option M5}{L ML:ai}{x:M5}(N:bq fi env ca)(X:gy g W fi env ca st Rz s rs m L ML)(hv:fi.nv[i]?=Ss (nm,k))(hk:k.rd=WL)
 (e1:rs[i]?=Ss (Ss x)) (h:Q x s):K8 M A (Er (.Name nm pos) env) Q E s:=by
 refine wpAny_Name ?_ (N.sR _ _ _ hv);induction k with
 |hid=>exact aX hk
 |out=>exact aX hk
 |loc=>refine aj (X.cm.b8 (env.locals,bN m) (.head _)) λo ho hp=>?_;have:=X.ms i nm hv;rw[e1] at this;exact wpAny_loadName_local N.kind (N.aD _ _ hv) (pD ho hp) (K6 this).symm h
 |cell=>
  refine ak (N.qB _ _ hv) λc1 c2=>?_;obtain⟨C1,C2,d1,d2⟩:=Fx (ca:=ca.cu) (k:=0) hv e1;rw[kI] at d1;refine aj (X.cm.b8 (ca.cu i,jW (Ss x)) (by rw[d1];simp)) λo ho hp=>?_;rcases c1 with c1|⟨c1,c3⟩
  ·exact wpAny_loadName_cell N.kind c1 c2 ⟨o,ho,hp⟩ h
  ·exact wpAny_loadName_free N.kind c1 c2 ⟨o,ho,hp⟩ h c3
theorem rp{i:Nat}{nm:Str}{k:NK}{r:aS}{v:M5}{Q:Unit->MY->Prop}(N:bq fi env ca)(np:jX ca)(R:am g W fi env ca st (l++Rz) s)(hv:fi.nv[i]?=Ss (nm,k))(hk:k=.cell->env.kindOf nm=Ss .cell)(hh:k.rd=WL)(hr:io g W r v l)
 (h:∀s',am g W fi env ca ⟨st.aD.set i r.jN,st.aI⟩ Rz s'->Q () s'):K8 M A (storeName env nm v) Q E s:=by
 refine eg R λrs m L ML X=>?_
 have hi:i<st.aD.length:=by rw[X.len];exact (sV.mp hv).1
 obtain⟨r0,l0,L1,L2,e1,rfl,e3,e4⟩:=X.aD.jL (i:=i) (Zs hi);have hsl:ee g W r.jN (Ss v) l:=by cases hr with|val h=>exact .val h|own h=>exact .own h
 have M9:=e4 W (.Q _) r.jN (Ss v) l hsl;have gJ:rs.length=fi.nv.length:=X.aD.D7.trans X.len;induction k with
 |hid=>exact aX hh
 |out=>exact aX hh
 |loc=>
  refine aj (X.cm.b8 (env.locals,bN m) (.head _)) λo ho hp=>?_;refine wpAny_storeName_local (N.aD _ _ hv) (pD ho hp) (λh' hn hs=>h _ ?_) (by rw[N.kind];rfl);have H':=X.cm.ii (L1:=[]) (p':=bN λy=>if y=nm then Ss v else m y) (λb o hb e=>(hs.2 b hb).trans e) (wY hn);refine⟨rs.set i (Ss v),λy=>if y=nm then Ss v else m y,_,ML,by simp[X.len],λj mi hj=>?_,M9,X.aI,X.di,?_,X.bI,⟨X.cv.qG,X.cv.os⟩,λj a e=>by rw[np j] at e;(exact aY e),λj mi hj=>?_⟩
  ·by_cases nB:j=i
   ·subst nB;rw[hv] at hj;cases hj;rw[Xp (by rw[X.aD.D7];exact hi),MS rfl]
   ·have fh:mi≠nm:=λz=>nB (N.inj _ _ _ hj (z▸hv));rw[Yo (Yu nB),MZ fh];exact X.ms j mi hj
  ·rw[Ov hv];exact (H'.fI [[(env.locals,bN λy=>if y=nm then Ss v else m y)],bP ca.cu 0 fi.nv rs,L1,l0,L2,ML,l,Rz] [[0],[1],[2,3,4],[5],[6],[7]] [[3],[0],[1],[2,6,4],[5],[7]]).fS
  ·have nB:j≠i:=λz=>by subst z;rw[hv] at hj;cases hj
   rw[Yo (Yu nB)];exact X.pin.2 j mi hj
 |cell=>
  refine ak (N.qB _ _ hv) λc1 c2=>?_;obtain⟨C1,C2,d1,d2⟩:=Fx (ca:=ca.cu) (k:=0) hv e1;rw[kI] at d1 d2;have H:=X.cm;rw[d1] at H;have H1:bA W.F (((env.locals,bN m)::C1)++(ca.cu i,jW r0)::(C2++(L1++(l0++L2)++(ML++(l++Rz))))) s.heap:=by simpa using H
  refine aj (H1.gp) λo ho hp=>?_;refine wpAny_storeName_cell N.kind (hk rfl) c2 ⟨o,ho,hp⟩ (λh' hn hs=>h _ ?_);have H':=H1.ii (p':=jW (Ss v)) (λb o hb e=>(hs.2 b hb).trans e) hn;refine⟨rs.set i (Ss v),m,_,ML,by simp[X.len],λj mi hj=>?_,M9,X.aI,X.di,?_,X.bI,⟨X.cv.qG,X.cv.os⟩,λj a e=>by rw[np j] at e;(exact aY e),λj mi hj=>?_⟩
  ·have nB:j≠i:=λz=>by subst z;rw[hv] at hj;cases hj
   rw[Yo (Yu nB)];exact X.ms j mi hj
  ·rw[d2 (Ss v)];exact (H'.fI [[(env.locals,bN m)],C1,[(ca.cu i,jW (Ss v))],C2,L1,l0,L2,ML,l,Rz] [[0,1],[2],[3],[4,5,6],[7],[8],[9]] [[5],[0],[1,2,3],[4,8,6],[7],[9]]).fS
  ·have nB:j≠i:=λz=>by subst z;rw[hv] at hj;cases hj
   rw[Yo (Yu nB)];exact X.pin.2 j mi hj
end
end Mine.Internal
namespace Mine.Internal
noncomputable def oo{α:Type}{β:Type u}(x:Option (Option α))(d:β)(f:α->β):β:=@Option.casesOn _ (λU=>β) x d λy=>@Option.casesOn _ (λU=>β) y d f
theorem FE{α:Type}{β:Type u}{x:Option (Option α)}{d:β}{f:α->β}{G:Prop}(h1:∀a,x=Ss (Ss a)->oo x d f=f a->G)(h2:oo x d f=d->G):G:=by
 induction x using Y8 with
 |none=>exact h2 rfl
 |some y=>
  induction y using Y8 with
  |none=>exact h2 rfl
  |some a=>exact h1 a rfl rfl
end Mine.Internal
namespace Mine.Internal
open PySem PySem.W PySem.Calls PyProof.Rows
noncomputable def rl(l:List Nat)(e:M3):Bool:=!l.any (e.ctorIdx==·)
abbrev cT:=rl [22]
abbrev mI:=rl [8,9,10]
abbrev pB:=rl [7]
abbrev tD:=rl [26]
abbrev tF:=rl [16]
abbrev FD:=rl [0,3,5,15]
theorem attr_plain{e:M3}{nm:Str}{pos:Pos}(h:tF e=WL)(env:Env):Er (.Attribute e nm pos) env=(do
 let o <- Er e env
 Zy pos.atName
 let r <- Xv [o] (getAttr o nm WL);letTemporaryGo e o r
 pure r):=by
 induction e using Y5<;>first|(with_unfolding_all rfl)|exact aX h
theorem test_plain{e:M3}(h:FD e=WL)(env:Env):isTrue e env (Er e env)=(do let v <- Er e env;Zy e.pos;Xv [v] (truthy v)):=by induction e using Y5<;>first|rfl|exact aX h
theorem wV{nm name:Str}{p:Pos}(env:Env):attributeBase (.Name nm p) name env (Er (.Name nm p) env)=Er (.Name nm p) env:=rfl
theorem star_cons{e:M3}{es:List M3}(h:cT e=WL)(env:Env):sZ (e::es) env=(PO,Er e env)::sZ es env:=by induction e using Y5<;>first|rfl|exact aX h
theorem star_any{pos:Pos}:∀{es:List M3},es.all cT=WL->∀env,(dP pos (sZ es env)).any (·.1)=PO
 |[],j4,j5=>rfl
 |e::es,h,env=>by refine ak (zA.mp (show (cT e&&es.all cT)=WL from h)) λh1 h2=>?_;rw[star_cons h1];exact star_any h2 env
theorem noSwap{e:M3}{t:Option M3}{n:Nat}(h:mI e=WL)(env:Env):W8 e t n env=pure PO:=by induction e using Y5<;>first|rfl|exact aX h
theorem noFold{e:M3}(h:pB e=WL)(env:Env)(x:M5):Wb e env x=pure x:=by induction e using Y5<;>first|rfl|exact aX h
theorem plainOf{e:M3}(h:tD e=WL):∀o i,XT e PO o i=operate [o,i] (Yd o i):=by intro o i;induction e using Y5<;>first|(with_unfolding_all rfl)|exact aX h
noncomputable def FI.st(fi:FI):NK->Bool
 |.loc=>WL
 |.cell=>fi.di
 |_=>PO
theorem tK{fi:FI}{k:NK}(h:fi.st k=WL):k.rd=WL:=by induction k<;>first|rfl|exact aX h
theorem tJ{fi:FI}{env:Env}{ca:Ca}{i:Nat}{nm:Str}{k:NK}(N:bq fi env ca)(hv:fi.nv[i]?=Ss (nm,k))(h:fi.st k=WL)(e:k=.cell):env.kindOf nm=Ss .cell:=by subst e;exact N.ck h i nm hv
abbrev DE:=St->(aS->St->PS)->PS
abbrev DT:=St->(Bool->St->PS)->PS
abbrev DS:=St->(Fl->St->PS)->PS
structure bF(d:Nat)(A:K2):Prop where
 hh:A.handled=M4
 sP:A.depth+3*d+6<VL
 un:A.units+40*d+200<Zx
structure GOK(g:Gx):Prop where
 ns:g.mh.heap.Ns ZX g.mg
 nb:g.mh.heap.Ns Y2 g.mb
 lim:g.mh.heap.NoLimit
abbrev Mo(g:Gx):Model:=ZL pw g.w
inductive lg(g:Gx)(W:Wd)(fi:FI)(env:Env)(ca:Ca)(Rz:ai)(Q:aS->St->PS)(v:M5)(s:MY):Prop
 |mk (W':Wd) (r:aS) (st:St) (l:ai) (le:W.J W') (q:Q r st) (rr:io g W' r v l) (R:am g W' fi env ca st (l++Rz) s)
inductive rh(g:Gx)(W:Wd)(fi:FI)(env:Env)(ca:Ca)(Rz:ai)(Q:Bool->St->PS)(b:Bool)(s:MY):Prop
 |mk (W':Wd) (st:St) (le:W.J W') (q:Q b st) (R:am g W' fi env ca st Rz s)
def wT(g:Gx)(W':Wd)(f:Flow)(fl:Fl):Prop:=match f,fl with|.next,.next=>True|.brk,.brk=>True|.cont,.cont=>True|.ret v,.ret x=>Vr g W' x v|j4,j5=>False
inductive mF(g:Gx)(W:Wd)(fi:FI)(env:Env)(ca:Ca)(Rz:ai)(Q:Fl->St->PS)(f:Flow)(s:MY):Prop
 |mk (W':Wd) (fl:Fl) (st:St) (le:W.J W') (q:Q fl st) (m:wT g W' f fl) (R:am g W' fi env ca st Rz s)
inductive Ak(g:Gx)(W:Wd)(fi:FI)(env:Env)(ca:Ca)(Rz:ai)(K:AV->St->PS)(u:M5)(s:MY):Prop
 |mk (W1:Wd) (ab:St) (x:AV) (le:W.J W1) (v:Vr g W1 x u) (q:K x ab) (R:am g W1 fi env ca ab Rz s)
inductive Oo(g:Gx)(W:Wd)(fi:FI)(env:Env)(ca:Ca)(Rz:ai)(K:AV->AV->St->PS)(u w:M5)(s:MY):Prop
 |mk (W2:Wd) (az:St) (x y:AV) (le:W.J W2) (v1:Vr g W2 x u) (v2:Vr g W2 y w) (q:K x y az) (R:am g W2 fi env ca az Rz s)
abbrev aK:M5->MY->Prop:=λU U=>False
def ada(g:Gx)(d:Nat)(fi:FI)(e:M3)(D:DE):Prop:=∀(A:K2) (W:Wd) (env:Env) (ca:Ca) (st:St) (Q:aS->St->PS) (Rz:ai) (s:MY),
 bF d A->bq fi env ca->D st Q->am g W fi env ca st Rz s->K8 (Mo g) A (Er e env) (lg g W fi env ca Rz Q) aK s
structure au(g:Gx)(d:Nat)(fi:FI)(e:M3)(D:DE):Prop where
 aN:ada g d fi e D
def adg(g:Gx)(d:Nat)(fi:FI)(e:M3)(D:DT):Prop:=∀(A:K2) (W:Wd) (env:Env) (ca:Ca) (st:St) (Q:Bool->St->PS) (Rz:ai) (s:MY),
 bF d A->bq fi env ca->D st Q->am g W fi env ca st Rz s->K8 (Mo g) A (isTrue e env (Er e env)) (rh g W fi env ca Rz Q) aK s
structure fX(g:Gx)(d:Nat)(fi:FI)(e:M3)(D:DT):Prop where
 aN:adg g d fi e D
def ade(g:Gx)(d:Nat)(fi:FI)(e:v0)(D:DS):Prop:=∀(A:K2) (W:Wd) (env:Env) (ca:Ca) (st:St) (Q:Fl->St->PS) (Rz:ai) (s:MY),
 bF d A->bq fi env ca->jX ca->D st Q->am g W fi env ca st Rz s->K8 (Mo g) A (exec e env) (mF g W fi env ca Rz Q) aK s
structure eJ(g:Gx)(d:Nat)(fi:FI)(e:v0)(D:DS):Prop where
 aN:ade g d fi e D
def adf(g:Gx)(d:Nat)(fi:FI)(e:List v0)(D:DS):Prop:=∀(A:K2) (W:Wd) (env:Env) (ca:Ca) (st:St) (Q:Fl->St->PS) (Rz:ai) (s:MY),
 bF d A->bq fi env ca->jX ca->D st Q->am g W fi env ca st Rz s->K8 (Mo g) A (execs e env) (mF g W fi env ca Rz Q) aK s
structure jn(g:Gx)(d:Nat)(fi:FI)(e:List v0)(D:DS):Prop where
 aN:adf g d fi e D
namespace D
noncomputable def Y(v:AV):DE:=λst Q=>Q (.val v) st
noncomputable def iK(st:St)(k:Nat):Option (List (Nat×AV)):=oo st.aI[k]? M4 λmo=>if mo.cls=0 then mo.zk else M4
noncomputable def vJ:AV->Option Nat
 |.ref k=>Ss k
 |_=>M4
noncomputable def rd(st:St)(i:Nat)(v:AV)(Q:aS->St->PS):PS:=match vJ v with
 |some k=>(match iK st k with
  |some fs=>Q (.val (.inst 0 fs)) ⟨st.aD.set i (.val (.inst 0 fs)),st.aI.set k M4⟩
  |none=>Q (.val v) st)
 |none=>Q (.val v) st
theorem Mp{v:AV}{k:Nat}(h:vJ v=Ss k):v=.ref k:=by induction v using AV.casesOn<;>(first|exact aY h|(have y9:=K6 h;clear h;subst y9));rfl
set_option tactic.hygienic true in
theorem Mn{st:St}{k:Nat}{fs:List (Nat×AV)}(h:iK st k=Ss fs):∃mo,st.aI[k]?=Ss (Ss mo)/\mo.cls=0/\mo.zk=Ss fs:=by
 exact FE (x:=st.aI[k]?) (d:=M4) (f:=λmo:MO=>if mo.cls=0 then mo.zk else M4) (λmo hm q=>by
  have h:=q.symm.trans h;by_cases hc:mo.cls=0
  ·rw[MS hc] at h;exact⟨mo,hm,hc,h⟩
  ·rw[MZ hc] at h;exact aY h) λq=>aY (q.symm.trans h)
set_option tactic.hygienic true in
noncomputable def u(i:Nat):DE:=λst Q=>match st.aD[i]? with
 |some (.own v)=>Q (.val v) ⟨st.aD.set i (.val v),st.aI⟩
 |some (.val v)=>rd st i v Q
 |_=>.bot
end D
section
variable {g:Gx}{d:Nat}{fi:FI}{A:K2}{W:Wd}{env:Env}{ca:Ca}{st:St}{Rz l:ai}{s:MY}
theorem cF{W':Wd}{Q:aS->St->PS}{v:M5}(le:W.J W')(h:lg g W' fi env ca Rz Q v s):lg g W fi env ca Rz Q v s:=let⟨a,r,st,l,b,c,d,e⟩:=h;⟨a,r,st,l,le.S b,c,d,e⟩
theorem Lp{W':Wd}{Q:Bool->St->PS}{v:Bool}(le:W.J W')(h:rh g W' fi env ca Rz Q v s):rh g W fi env ca Rz Q v s:=let⟨a,st,b,c,d⟩:=h;⟨a,st,le.S b,c,d⟩
theorem Dr{W':Wd}{Q:Fl->St->PS}{v:Flow}(le:W.J W')(h:mF g W' fi env ca Rz Q v s):mF g W fi env ca Rz Q v s:=let⟨a,f,st,b,c,d,e⟩:=h;⟨a,f,st,le.S b,c,d,e⟩
theorem aL{α:Type}{M:Model}{t:Sem α}{Q Q':α->MY->Prop}{E:M5->MY->Prop}(h:K8 M A t Q E s)(k:∀a s,Q a s->Q' a s):K8 M A t Q' E s:=Ws h k λU U e=>e
theorem nP{a:M3}{Da:DE}{K:AV->St->PS}(ha:au g d fi a Da)(C:bF d A)(N:bq fi env ca)(h:Da st λr ab=>K r.v ab)(R:am g W fi env ca st Rz s):
 K8 (Mo g) A (Er a env) (Ak g W fi env ca Rz K) aK s:=by
 refine aL (ha.aN A W env ca st _ Rz s C N h R) λu s1 ⟨W1,r,ab,l,le,q,rr,R1⟩=>?_;obtain⟨W2,dx,v,R2⟩:=R1.kK rr;exact⟨W2,ab,r.v,le.S dx,v,q,R2⟩
theorem eM{a:M3}{Da:DE}{K:AV->St->PS}{M:M5->MY->Prop}(ha:au g d fi a Da)(C:bF d A)(N:bq fi env ca)(h:Da st λr ab=>K r.v ab)(R:am g W fi env ca st Rz s)
 (k:∀u s1 W1 ab x,W.J W1->Vr g W1 x u->K x ab->am g W1 fi env ca ab Rz s1->M u s1):K8 (Mo g) A (Er a env) M aK s:=aL (nP ha C N h R) λu s1 ⟨W1,ab,x,le,v,q,R1⟩=>k u s1 W1 ab x le v q R1
theorem au.C{a:M3}{D:DE}{Q:aS->St->PS}{M:M5->MY->Prop}(ha:au g d fi a D)(C:bF d A)(N:bq fi env ca)(h:D st Q)(R:am g W fi env ca st Rz s)
 (k:∀u s1 W1 r ab l,W.J W1->Q r ab->io g W1 r u l->am g W1 fi env ca ab (l++Rz) s1->M u s1):K8 (Mo g) A (Er a env) M aK s:=aL (ha.aN A W env ca st Q Rz s C N h R) λu s1 ⟨W1,r,ab,l,le,q,rr,R1⟩=>k u s1 W1 r ab l le q rr R1
theorem fX.C{a:M3}{D:DT}{Q:Bool->St->PS}{M:Bool->MY->Prop}(ha:fX g d fi a D)(C:bF d A)(N:bq fi env ca)(h:D st Q)(R:am g W fi env ca st Rz s)
 (k:∀b s1 W1 ab,W.J W1->Q b ab->am g W1 fi env ca ab Rz s1->M b s1):K8 (Mo g) A (isTrue a env (Er a env)) M aK s:=aL (ha.aN A W env ca st Q Rz s C N h R) λu s1 ⟨W1,ab,le,q,R1⟩=>k u s1 W1 ab le q R1
theorem eJ.C{a:v0}{D:DS}{Q:Fl->St->PS}{M:Flow->MY->Prop}(ha:eJ g d fi a D)(C:bF d A)(N:bq fi env ca)(np:jX ca)(h:D st Q)(R:am g W fi env ca st Rz s)
 (k:∀f s1 W1 fl ab,W.J W1->Q fl ab->wT g W1 f fl->am g W1 fi env ca ab Rz s1->M f s1):K8 (Mo g) A (exec a env) M aK s:=aL (ha.aN A W env ca st Q Rz s C N np h R) λu s1 ⟨W1,fl,ab,le,q,m,R1⟩=>k u s1 W1 fl ab le q m R1
theorem jn.C{a:List v0}{D:DS}{Q:Fl->St->PS}{M:Flow->MY->Prop}(ha:jn g d fi a D)(C:bF d A)(N:bq fi env ca)(np:jX ca)(h:D st Q)(R:am g W fi env ca st Rz s)
 (k:∀f s1 W1 fl ab,W.J W1->Q fl ab->wT g W1 f fl->am g W1 fi env ca ab Rz s1->M f s1):K8 (Mo g) A (execs a env) M aK s:=aL (ha.aN A W env ca st Q Rz s C N np h R) λu s1 ⟨W1,fl,ab,le,q,m,R1⟩=>k u s1 W1 fl ab le q m R1
theorem tL{a b:M3}{Da Db:DE}{K:AV->AV->St->PS}(ha:au g d fi a Da)(hb:au g d fi b Db)(C:bF d A)(N:bq fi env ca)
 (h:Da st λr ab=>Db ab λq az=>K r.v q.v az) (R:am g W fi env ca st Rz s) :
 K8 (Mo g) A (Er a env) (λu s1=>K8 (Mo g) A (Er b env) (Oo g W fi env ca Rz K u) aK s1) aK s:=by
 refine aL (nP (K:=λx ab=>Db ab λq az=>K x q.v az) ha C N h R) λu s1 ⟨W1,ab,x,EO,v1,k1,R1⟩=>?_;refine aL (nP hb C N k1 R1) λw s2 ⟨W2,az,y,dx,v2,k2,R2⟩=>?_;exact⟨W2,az,x,y,EO.S dx,v1.aE dx,v2,k2,R2⟩
theorem eN{Q:aS->St->PS}{x:AV}{v:M5}(h:Q (.val x) st)(hv:Vr g W x v)(R:am g W fi env ca st Rz s):lg g W fi env ca Rz Q v s:=⟨W,.val x,st,[],.Q _,h,.val hv,R⟩
theorem am.Z{tk:Nat}(R:am g W fi env ca st Rz s):am g W fi env ca st Rz { s with toks:=tk }:=R.aeV rfl ⟨R.cv.qG,R.cv.os⟩
end
namespace E
variable {g:Gx}{d:Nat}{fi:FI}
theorem x{i:Int}{k:Nat}{pos:Pos}:au g d fi (.Constant (.int i) k pos) (D.Y (.int i)):=
 ⟨λA W env ca st Q Rz s C N h R=>wpAny_Constant_int (eN h (.int _ _) R.Z)⟩
theorem cK{b:Bool}{k:Nat}{pos:Pos}:au g d fi (.Constant (.bool b) k pos) (D.Y (.bool b)):=
 ⟨λA W env ca st Q Rz s C N h R=>wpAny_Constant_bool (eN h (.bool _) R)⟩
theorem none{k:Nat}{pos:Pos}:au g d fi (.Constant .none k pos) (D.Y .none):=
 ⟨λA W env ca st Q Rz s C N h R=>wpAny_Constant_none (eN h .none R)⟩
theorem A{x:Str}{k:Nat}{pos:Pos}:au g d fi (.Constant (.str x) k pos) (D.Y (.str x)):=
 ⟨λA W env ca st Q Rz s C N h R=>wpAny_Constant_str (eN h (.str _ _) R.Z)⟩
theorem aeR{x:List UInt8}{k:Nat}{pos:Pos}:au g d fi (.Constant (.bytes x) k pos) (D.Y (.bytes x.toArray)):=by constructor;intro A W env ca st Q Rz s C N h R;refine (?_:K8 _ _ (mkTextBytes x.toArray) _ _ _);exact EJ (wpAny_fresh (zI (eN h (.bytes _ _) R.Z)))
theorem aeS{A:K2}{W:Wd}{env:Env}{ca:Ca}{st:St}{Rz:ai}{s:MY}{i:Nat}{v:AV}{Q:aS->St->PS}{x:M5}{rs:List (Option M5)}{m:Str->Option M5}{L ML:ai}
 (X:gy g W fi env ca st Rz s rs m L ML) (hs:st.aD[i]?=Ss (.val v)) (e1:rs[i]?=Ss (Ss x)) (hv:Vr g W v x) (h:D.rd st i v Q):lg g W fi env ca Rz Q x s:=by
 have R:am g W fi env ca st Rz s:=X.kN;unfold D.rd at h;cases hk:D.vJ v with
 |none=>rw[hk] at h;exact eN h hv R
 |some k=>
  rw[hk] at h;dsimp only at h;cases hd:D.iK st k with
  |none=>rw[hd] at h;exact eN h hv R
  |some fs=>rw[hd] at h;obtain rfl:=D.Mp hk;refine bV (D.Mn hd) λmo hm hc hf=>?_;refine aj (hv.oL) λa ha y9=>?_;subst y9;obtain⟨W',le,v',⟨iM,m',L',oY,X'⟩⟩:=R.Ms hm hf ha;rw[hc] at v';obtain⟨r,l',L1,L2,q1,rfl,q3,q4⟩:=X'.aD.jL hs;refine bV (q3.Ed) λy y9 y8 qb=>?_;subst y9;subst y8;refine aj (qb.oL) λa' qc y9=>?_;subst y9;obtain rfl:a=a':=K6 ((le.φ _ _ ha).symm.trans qc);have z:=q4 W' (.Q _) (.val (.inst 0 fs)) _ [] (.val v');rw[tH q1] at z;exact⟨W',.val (.inst 0 fs),_,[],le,h,.val v',X'.Mt (.Q _) rfl X'.cv z X'.cm⟩
set_option tactic.hygienic true in
theorem u(i:Nat){nm:Str}{k:NK}{pos:Pos}(hv:autoParam (fi.nv[i]?=Ss (nm,k)) t_rfl)(hk:autoParam (k.rd=WL) t_rfl):au g d fi (.Name nm pos) (D.u i):=by
 constructor;intro A W env ca st Q Rz s C N h R;refine eg R λrs m L ML X=>?_
 unfold D.u at h;split at h
 ·rename_i v hs;refine hJ (X.jN hs (by intro e;exact an.noConfusion e)) λx l e1 e2=>?_;refine ro N X hv hk e1 ?_;obtain⟨W',le,v',R'⟩:=X.aeW hs e1;exact⟨W',.val v,_,[],le,h,.val v',R'⟩
 ·rename_i v hs;refine hJ (X.jN hs (by intro e;exact an.noConfusion e)) λx l e1 e2=>?_;refine bV (e2.Ed) λy ey U eb=>?_;obtain rfl:=K6 ey;exact ro N X hv hk e1 (aeS (A:=A) X hs e1 eb h)
 ·exact h.elim
end E
inductive iQ(g:Gx)(W:Wd)(fi:FI)(env:Env)(ca:Ca)(st:St)(Rz:ai)(P:aS->PS)(v:M5)(s':MY):Prop
 |mk (W':Wd) (r:aS) (l:ai) (le:W.J W') (q:P r) (rr:io g W' r v l) (R:am g W' fi env ca st (l++Rz) s')
theorem eR{g:Gx}{W:Wd}{fi:FI}{env:Env}{ca:Ca}{st:St}{Rz:ai}{P:aS->PS}{x:AV}{v:M5}{s:MY}(h:P (.val x))(hv:Vr g W x v)(R:am g W fi env ca st Rz s):iQ g W fi env ca st Rz P v s:=⟨W,.val x,[],.Q _,h,.val hv,R⟩
theorem iQ.e{g:Gx}{W:Wd}{fi:FI}{env:Env}{ca:Ca}{st:St}{Rz:ai}{Q:aS->St->PS}{v:M5}{s:MY}(h:iQ g W fi env ca st Rz (λr=>Q r st) v s):lg g W fi env ca Rz Q v s:=
 let⟨W',r,l,a,b,c,d⟩:=h;⟨W',r,st,l,a,b,c,d⟩
theorem iQ.aE{g:Gx}{W:Wd}{fi:FI}{env:Env}{ca:Ca}{st:St}{Rz:ai}{P P':aS->PS}{v:M5}{s:MY}(h:iQ g W fi env ca st Rz P v s)(k:∀r,P r->P' r):iQ g W fi env ca st Rz P' v s:=
 let⟨W',r,l,a,b,c,d⟩:=h;⟨W',r,l,a,k _ b,c,d⟩
def wS(A:K2):Prop:=A.handled=M4/\A.depth+6<VL/\A.units+200<Zx
theorem bF.a{d:Nat}{A:K2}(C:bF d A):wS A:=⟨C.hh,by have:=C.sP;exact ON this,by have:=C.un;exact OM this⟩
def adc(g:Gx)(t:M5->M5->Sem M5)(f:AV->AV->(aS->PS)->PS):Prop:=∀(A:K2) (W:Wd) (fi:FI) (env:Env) (ca:Ca) (st:St) (Rz:ai) (s:MY) (x y:AV) (a b:M5) (P:aS->PS),
 wS A->Vr g W x a->Vr g W y b->f x y P->am g W fi env ca st Rz s->K8 (Mo g) A (t a b) (iQ g W fi env ca st Rz P) aK s
structure dz(g:Gx)(t:M5->M5->Sem M5)(f:AV->AV->(aS->PS)->PS):Prop where
 aN:adc g t f
def adb(g:Gx)(t:M5->Sem M5)(f:AV->(aS->PS)->PS):Prop:=∀(A:K2) (W:Wd) (fi:FI) (env:Env) (ca:Ca) (st:St) (Rz:ai) (s:MY) (x:AV) (a:M5) (P:aS->PS),
 wS A->Vr g W x a->f x P->am g W fi env ca st Rz s->K8 (Mo g) A (t a) (iQ g W fi env ca st Rz P) aK s
structure Ai(g:Gx)(t:M5->Sem M5)(f:AV->(aS->PS)->PS):Prop where
 aN:adb g t f
theorem aO.jd{g:Gx}{W:Wd}{xs:List AV}{vs:List M5}(h:aO g W xs vs):vs.toArray.size=xs.length:=by rw[Zl];exact h.cz
section
variable {g:Gx}{W:Wd}{fi:FI}{env:Env}{ca:Ca}{st:St}{Rz:ai}{s:MY}{a:MW}{x:M5}{xs:List AV}
inductive Am(g:Gx)(W:Wd)(T:String)(xs:List AV)(x:M5)(h:Ex):Prop
 |mk (a:MW) (vs:List M5) (n:Nat) (e:x=.ref a) (r:aO g W xs vs) (ho:h.get? a=Ss { cls:=.type T,data:=.seq vs.toArray n })
theorem mH(h:Vr g W (.lst xs) x)(R:am g W fi env ca st Rz s):Am g W "list" xs x s.heap:=by obtain⟨a,o,vs,rfl,e,⟨n,rfl⟩,r⟩:=h.jM;exact⟨a,vs,n,rfl,r,R.fz e⟩
theorem Aw(h:Vr g W (.tup xs) x)(R:am g W fi env ca st Rz s):Am g W "tuple" xs x s.heap:=by obtain⟨a,o,vs,rfl,e,⟨n,rfl⟩,r⟩:=h.sT;exact⟨a,vs,n,rfl,r,R.fz e⟩
theorem As{tk:Nat}{P:aS->PS}{vs:List M5}{n:Nat}(h:P (.own (.lst xs)))(r:aO g W xs vs)(R:am g W fi env ca st Rz s):
 iQ g W fi env ca st Rz P (.ref s.heap.objs.size) { s with heap:=s.heap.push { cls:=.type "list",data:=.seq vs.toArray n },toks:=tk }:=
 ⟨W,.own (.lst xs),[(s.heap.objs.size,bO vs)],.Q _,h,.own (.lst r),R.jK rfl ⟨n,rfl⟩⟩
theorem Au{tk:Nat}{P:aS->PS}{vs:List M5}{n:Nat}(h:P (.val (.tup xs)))(r:aO g W xs vs)(R:am g W fi env ca st Rz s):
 iQ g W fi env ca st Rz P (.ref s.heap.objs.size) { s with heap:=s.heap.push { cls:=.type "tuple",data:=.seq vs.toArray n },toks:=tk }:=by
 refine eg (R.jK (tk:=tk) (o:={ cls:=.type "tuple",data:=.seq vs.toArray n }) (p:=jp vs) rfl ⟨n,rfl⟩) λrs m L ML X=>?_;refine bV ((X.cm.qD [(s.heap.objs.size,jp vs)]).kK) λo hp H' k=>?_;exact⟨_,.val (.tup xs),[],iG k,h,.val (.zq lU hp (r.aE (iG k))),(X.on (iG k) rfl X.cv H').kN⟩
end
theorem gO{n:Nat}(h:n<=1000000):n<=YL:=Le h (by decide)
inductive Fw(K:Int->Int->PS)(a b:M5):Prop
 |mk (i j:Int) (t u:Tok) (ea:a=.int i t) (eb:b=.int j u) (h:K i j)
noncomputable def Ot(x y:AV)(P:aS->PS):PS:=match x with
 |.int a=>y.L λb=>P (.val (.int (a+b)))
 |.lst a=>y.fG λb=>.rq (a.length+b.length<=1000000) (P (.own (.lst (a++b))))
 |_=>.bot
namespace O
variable {g:Gx}
theorem D9{W:Wd}{x y:AV}{a b:M5}{K:Int->Int->PS}(hx:Vr g W x a)(hy:Vr g W y b)(h:x.L λi=>y.L (K i)):Fw K a b:=by exact jY (M:=λa b=>Fw K a b) h hx hy λi j t u h=>⟨i,j,t,u,rfl,rfl,h⟩
theorem e9:dz g (ZN .Add) Ot:=by
 constructor;intro A W fi env ca st Rz s x y a b P C hx hy h R;induction x using AV.casesOn with
 |int i=>refine a7 (hx.kO) λt y9=>?_;subst y9;refine fq h hy λj t' h1=>?_;exact alO (eR h1 (.int _ _) R.Z)
 |lst xs=>
  obtain⟨ys,rfl,h1⟩:=AV.iJ h;replace h:=h1;obtain⟨a,vs,n,rfl,r1,e1⟩:=mH hx R;obtain⟨b,us,m,rfl,r2,e2⟩:=mH hy R;refine PySem.P.add_list e1 e2 ?_ (by rw[r1.jd,r2.jd];exact gO h.1);have:=As (tk:=s.toks) (n:=0) h.2 (r1.kH r2) R
  rwa [<- List.append_toArray] at this
 |_=>exact h.elim
theorem zn:dz g (ZN .Sub) λx y P=>x.L λa=>y.L λb=>P (.val (.int (a-b))):=by constructor;intro A W fi env ca st Rz s x y a b P C hx hy h R;refine jY h hx hy λi j t u h=>?_;exact alM (eR h (.int _ _) R.Z)
theorem kM:dz g (ZN .BitAnd) λx y P=>x.L λa=>y.L λb=>P (.val (.int (vT a b))):=by constructor;intro A W fi env ca st Rz s x y a b P C hx hy h R;refine jY h hx hy λi j t u h=>?_;exact PyProof.Rows.and_int (eR h (.int _ _) R.Z)
theorem sS:dz g (ZN .BitOr) λx y P=>x.L λa=>y.L λb=>P (.val (.int (dM a b))):=by constructor;intro A W fi env ca st Rz s x y a b P C hx hy h R;refine jY h hx hy λi j t u h=>?_;exact PyProof.Rows.or_int (eR h (.int _ _) R.Z)
theorem zo:dz g (ZN .BitXor) λx y P=>x.L λa=>y.L λb=>P (.val (.int (ar a b))):=by constructor;intro A W fi env ca st Rz s x y a b P C hx hy h R;refine jY h hx hy λi j t u h=>?_;exact PyProof.Rows.xor_int (eR h (.int _ _) R.Z)
theorem Eb:dz g (ZN .Mod) λx y P=>x.L λa=>y.L λb=>.rq (b≠0) (P (.val (.int (a.fmod b)))):=by constructor;intro A W fi env ca st Rz s x y a b P C hx hy h R;refine jY h hx hy λi j t u h=>?_;exact PyProof.Rows.mod_int h.1 (eR h.2 (.int _ _) R.Z)
theorem Mr:dz g (ZN .FloorDiv) λx y P=>x.L λa=>y.L λb=>.rq (b≠0) (.rq (b.natAbs<1073741824) (P (.val (.int (a.fdiv b))))):=by constructor;intro A W fi env ca st Rz s x y a b P C hx hy h R;refine jY h hx hy λi j t u h=>?_;exact PyProof.Rows.floordiv_int h.1 (eR h.2.2 (.int _ _) R.Z) (Yt (PyProof.noPylong_small h.2.1))
theorem qF:Ai g (unaryOp .USub) λx P=>x.L λa=>P (.val (.int (-a))):=by constructor;intro A W fi env ca st Rz s x a P C hx h R;refine fq h hx λi t h=>?_;exact alN (eR h (.int _ _) R.Z)
theorem dv:Ai g (unaryOp .Invert) λx P=>x.L λa=>P (.val (.int (Zi a))):=by constructor;intro A W fi env ca st Rz s x a P C hx h R;refine fq h hx λi t h=>?_;exact PyProof.Rows.invert_int (eR h (.int _ _) R.Z)
theorem lt:dz g (Zz .Lt) λx y P=>x.L λa=>y.L λb=>P (.val (.bool (decide (a<b)))):=by constructor;intro A W fi env ca st Rz s x y a b P C hx hy h R;refine jY h hx hy λi j t u h=>?_;exact PySem.P.lt_int (eR h (.bool _) R)
theorem le:dz g (Zz .LtE) λx y P=>x.L λa=>y.L λb=>P (.val (.bool (decide (a<=b)))):=by constructor;intro A W fi env ca st Rz s x y a b P C hx hy h R;refine jY h hx hy λi j t u h=>?_;exact PySem.P.le_int (eR h (.bool _) R)
theorem gt:dz g (Zz .Gt) λx y P=>x.L λa=>y.L λb=>P (.val (.bool (decide (a>b)))):=by constructor;intro A W fi env ca st Rz s x y a b P C hx hy h R;refine jY h hx hy λi j t u h=>?_;exact PySem.P.gt_int (eR h (.bool _) R)
theorem ge:dz g (Zz .GtE) λx y P=>x.L λa=>y.L λb=>P (.val (.bool (decide (a≥b)))):=by constructor;intro A W fi env ca st Rz s x y a b P C hx hy h R;refine jY h hx hy λi j t u h=>?_;exact PySem.P.ge_int (eR h (.bool _) R)
noncomputable def g9:AV->Bool
 |.none=>WL
 |_=>PO
theorem zm{W:Wd}{x:AV}{v:M5}(h:Vr g W x v):(v==Value.none)=g9 x:=by induction h<;>rfl
theorem zl:dz g (Zz .Is) λx y P=>.rq (g9 y=WL) (P (.val (.bool (g9 x)))):=by
 constructor;intro A W fi env ca st Rz s x y a b P C hx hy h R;obtain rfl:b=.none:=by have:=zm hy;rw[h.1] at this;exact zH this
 refine is_none ?_;rw[zm hx];exact eR h.2 (.bool _) R
theorem Ea:dz g (Zz .IsNot) λx y P=>.rq (g9 y=WL) (P (.val (.bool (!g9 x)))):=by
 constructor;intro A W fi env ca st Rz s x y a b P C hx hy h R;obtain rfl:b=.none:=by have:=zm hy;rw[h.1] at this;exact zH this
 refine isNot_none ?_;rw[zm hx];exact eR h.2 (.bool _) R
end O
namespace D
noncomputable def zj(f:AV->AV->(aS->PS)->PS)(a b:DE):DE:=λst Q=>a st λx ab=>b ab λy az=>f x.v y.v λr=>Q r az
noncomputable def op1(f:AV->(aS->PS)->PS)(a:DE):DE:=λst Q=>a st λx ab=>f x.v λr=>Q r ab
noncomputable def vK(a:DE):DT:=λst Q=>a st λx ab=>x.v.kG λb=>Q b ab
noncomputable def aeQ(a:DT):DT:=λst Q=>a st λb ab=>Q (!b) ab
noncomputable def aeO(a b:DT):DT:=λst Q=>a st λx ab=>br x (b ab Q) (Q PO ab)
noncomputable def orT(a b:DT):DT:=λst Q=>a st λx ab=>br x (Q WL ab) (b ab Q)
noncomputable def D4(t:DT)(a b:DE):DE:=λst Q=>t st λx ab=>br x (a ab Q) (b ab Q)
noncomputable def sQ:DT:=λst Q=>Q WL st
noncomputable def aeP:DT:=λst Q=>Q PO st
end D
inductive Oj(K:Bool->PS)(v:M5)(l:ai):Prop
 |mk (b:Bool) (e:v=.bool b) (el:l=[]) (h:K b)
theorem io.cK{g:Gx}{W:Wd}{r:aS}{v:M5}{l:ai}{K:Bool->PS}(h:io g W r v l)(p:r.v.kG K):Oj K v l:=by
 induction h with
 |val h=>obtain⟨b,rfl,p⟩:=AV.aeL p;(have y9:=Vr.Mv h;clear h;subst y9);exact⟨_,rfl,rfl,p⟩
 |own h=>induction h<;>exact p.elim
section
variable {g:Gx}{d:Nat}{fi:FI}
theorem bC{op:Operator}{f:AV->AV->(aS->PS)->PS}{a b:M3}{Da Db:DE}{pos:Pos}(o:dz g (ZN op) f)(ha:au g d fi a Da)(hb:au g d fi b Db):au g d fi (.BinOp a op b pos) (D.zj f Da Db):=by constructor;intro A W env ca st Q Rz s C N h R;refine wpAny_BinOp (aL (tL (K:=λx y az=>f x y λr=>Q r az) ha hb C N h R) λu s1 hu=>aL hu λw s2 ⟨W2,az,x,y,le,v1,v2,k,R2⟩=>?_);exact aL (o.aN A W2 fi env ca az Rz s2 x y u w _ C.a v1 v2 k R2) λz s3 hz=>cF le hz.e
theorem lT{op:UnaryOp}{f:AV->(aS->PS)->PS}{a:M3}{Da:DE}{pos:Pos}(o:Ai g (unaryOp op) f)(ha:au g d fi a Da):au g d fi (.UnaryOp op a pos) (D.op1 f Da):=by constructor;intro A W env ca st Q Rz s C N h R;refine UnaryOp_ (eM (K:=λx az=>f x λr=>Q r az) ha C N h R λu s1 W2 az x le v1 k R2=>?_);exact aL (o.aN A W2 fi env ca az Rz s1 x u _ C.a v1 k R2) λz s3 hz=>cF le hz.e
theorem cD{op:CmpOp}{f:AV->AV->(aS->PS)->PS}{a b:M3}{Da Db:DE}{pos:Pos}(o:dz g (Zz op) f)(ha:au g d fi a Da)(hb:au g d fi b Db)(hm:autoParam (YE op b=PO) t_rfl):au g d fi (.Compare a [op] [b] pos) (D.zj f Da Db):=by constructor;intro A W env ca st Q Rz s C N h R;refine wpAny_Compare1 (aL (tL (K:=λx y az=>f x y λr=>Q r az) ha hb C N h R) λu s1 hu=>aL hu λw s2 ⟨W2,az,x,y,le,v1,v2,k,R2⟩=>?_) hm;exact aL (o.aN A W2 fi env ca az Rz s2 x y u w _ C.a v1 v2 k R2) λz s3 hz=>cF le hz.e
theorem bn{op:CmpOp}{f:AV->AV->(aS->PS)->PS}{a b:M3}{Da Db:DE}{pos:Pos}(o:dz g (Zz op) f)(ha:au g d fi a Da)(hb:au g d fi b Db)(hm:autoParam (YE op b=PO) t_rfl):fX g d fi (.Compare a [op] [b] pos) (D.vK (D.zj f Da Db)):=by constructor;intro A W env ca st Q Rz s C N h R;refine Vj (aL (tL (K:=λx y az=>f x y λr=>r.v.kG λb=>Q b az) ha hb C N h R) λu s1 hu=>aL hu λw s2 ⟨W2,az,x,y,le,v1,v2,k,R2⟩=>?_) hm;refine aL (o.aN A W2 fi env ca az Rz s2 x y u w _ C.a v1 v2 k R2) λz s3 ⟨W3,r,l,fU,p,rr,R3⟩=>?_;obtain⟨b,rfl,rfl,p⟩:=rr.cK p;exact Z9 ⟨W3,az,le.S fU,p,R3⟩
theorem eT{a:M3}{Da:DE}(ha:au g d fi a Da)(hi:autoParam (FD a=WL) t_rfl):fX g d fi a (D.vK Da):=by constructor;intro A W env ca st Q Rz s C N h R;refine isTrue_plain (ha.C C N h R λz s3 W3 r az l fU p rr R3=>?_) (test_plain hi env);obtain⟨b,rfl,rfl,p⟩:=rr.cK p;exact Z9 ⟨W3,az,fU,p,R3⟩
theorem sH{a:M3}{Da:DT}{pos:Pos}(ha:fX g d fi a Da):fX g d fi (.UnaryOp .Not a pos) (D.aeQ Da):=by constructor;intro A W env ca st Q Rz s C N h R;exact isTrue_not (ha.C C N h R λb s1 W1 ab le q R1=>⟨W1,ab,le,q,R1⟩)
def ac9(g:Gx)(d:Nat)(fi:FI)(op:BoolOp)(es:List M3)(D:DT):Prop:=∀(A:K2) (W:Wd) (env:Env) (ca:Ca) (st:St) (Q:Bool->St->PS) (Rz:ai) (s:MY),
 bF d A->bq fi env ca->D st Q->am g W fi env ca st Rz s->K8 (Mo g) A (allTrue op es env) (rh g W fi env ca Rz Q) aK s
structure pA(g:Gx)(d:Nat)(fi:FI)(op:BoolOp)(es:List M3)(D:DT):Prop where
 aN:ac9 g d fi op es D
theorem cq{op:BoolOp}{es:List M3}{Da:DT}{pos:Pos}(h:pA g d fi op es Da):fX g d fi (.BoolOp op es pos) Da:=
 ⟨λA W env ca st Q Rz s C N p R=>wpAny_isTrue_BoolOp (h.aN A W env ca st Q Rz s C N p R)⟩
theorem eS:pA g d fi .And [] D.sQ:=⟨λA W env ca st Q Rz s C N p R=>wpAny_allTrue_And_nil ⟨W,st,.Q _,p,R⟩⟩
theorem iF:pA g d fi .Or [] D.aeP:=⟨λA W env ca st Q Rz s C N p R=>wpAny_allTrue_Or_nil ⟨W,st,.Q _,p,R⟩⟩
theorem bL{e:M3}{es:List M3}{Da Db:DT}(ha:fX g d fi e Da)(hb:pA g d fi .And es Db):pA g d fi .And (e::es) (D.aeO Da Db):=by
 constructor;intro A W env ca st Q Rz s C N p R;refine wpAny_allTrue_And_cons (ha.C C N p R λb s1 W1 ab le q R1=>?_);induction b with
 |true=>exact aL (hb.aN A W1 env ca ab Q Rz s1 C N q R1) λU U=>Lp le
 |false=>exact⟨W1,ab,le,q,R1⟩
theorem cY{e:M3}{es:List M3}{Da Db:DT}(ha:fX g d fi e Da)(hb:pA g d fi .Or es Db):pA g d fi .Or (e::es) (D.orT Da Db):=by
 constructor;intro A W env ca st Q Rz s C N p R;refine wpAny_allTrue_Or_cons (ha.C C N p R λb s1 W1 ab le q R1=>?_);induction b with
 |false=>exact aL (hb.aN A W1 env ca ab Q Rz s1 C N q R1) λU U=>Lp le
 |true=>exact⟨W1,ab,le,q,R1⟩
theorem cE{t a b:M3}{Dt:DT}{Da Db:DE}{pos:Pos}(ht:fX g d fi t Dt)(ha:au g d fi a Da)(hb:au g d fi b Db):au g d fi (.IfExp t a b pos) (D.D4 Dt Da Db):=by
 constructor;intro A W env ca st Q Rz s C N p R;refine IfExp_ (ht.C C N p R λc s1 W1 ab le q R1=>?_);induction c with
 |true=>exact aL (ha.aN A W1 env ca ab Q Rz s1 C N q R1) λU U=>cF le
 |false=>exact aL (hb.aN A W1 env ca ab Q Rz s1 C N q R1) λU U=>cF le
theorem sG{e:M3}{Da:DE}{pos:Pos}(ha:au g d fi e Da):au g d fi (.BoolOp .And [e] pos) Da:=⟨λA W env ca st Q Rz s C N p R=>BoolOp_one (ha.aN A W env ca st Q Rz s C N p R)⟩
theorem qt{e:M3}{Da:DE}{pos:Pos}(ha:au g d fi e Da):au g d fi (.BoolOp .Or [e] pos) Da:=⟨λA W env ca st Q Rz s C N p R=>BoolOp_one (ha.aN A W env ca st Q Rz s C N p R)⟩
theorem sF{e e2:M3}{es:List M3}{Da Db:DE}{pos:Pos}(ha:au g d fi e Da)(hb:au g d fi (.BoolOp .And (e2::es) pos) Db):au g d fi (.BoolOp .And (e::e2::es) pos) (D.D4 (D.vK Da) Db (D.Y (.bool PO))):=by
 constructor;intro A W env ca st Q Rz s C N p R;refine BoolOp_and (ha.C C N p R λv s1 W1 r ab l le q rr R1=>?_);obtain⟨b,rfl,rfl,q⟩:=rr.cK q;refine Z9 ?_;induction b with
 |true=>exact aL (hb.aN A W1 env ca ab Q Rz s1 C N q R1) λU U=>cF le
 |false=>exact cF le (eN q (.bool _) R1)
theorem oD{e e2:M3}{es:List M3}{Da Db:DE}{pos:Pos}(ha:au g d fi e Da)(hb:au g d fi (.BoolOp .Or (e2::es) pos) Db):au g d fi (.BoolOp .Or (e::e2::es) pos) (D.D4 (D.vK Da) (D.Y (.bool WL)) Db):=by
 constructor;intro A W env ca st Q Rz s C N p R;refine BoolOp_or (ha.C C N p R λv s1 W1 r ab l le q rr R1=>?_);obtain⟨b,rfl,rfl,q⟩:=rr.cK q;refine Z9 ?_;induction b with
 |false=>exact aL (hb.aN A W1 env ca ab Q Rz s1 C N q R1) λU U=>cF le
 |true=>exact cF le (eN q (.bool _) R1)
end
inductive Vs(g:Gx)(W:Wd)(h:Ex):Bool->AV->M5->Prop
 |val {x:AV}{v:M5}:Vr g W x v->Vs g W h PO x v
 |lst {a:MW}{vs:List M5}{xs:List AV}{n:Nat}:aO g W xs vs->h.get? a=Ss { cls:=.type "list",data:=.seq vs.toArray n }->Vs g W h WL (.lst xs) (.ref a)
inductive tX(g:Gx)(W:Wd)(P:Bool->AV->PS)(s:MY)(v:M5)(s':MY):Prop
 |mk (b:Bool) (x:AV) (tk:Nat) (e:s'={ s with toks:=tk }) (q:P b x) (r:Vs g W s.heap b x v)
abbrev DR:=St->(Bool->AV->PS)->PS
def adL(g:Gx)(d:Nat)(fi:FI)(e:M3)(D:DR):Prop:=∀(A:K2) (W:Wd) (env:Env) (ca:Ca) (st:St) (P:Bool->AV->PS) (Rz:ai) (s:MY),
 bF d A->bq fi env ca->D st P->am g W fi env ca st Rz s->K8 (Mo g) A (Er e env) (tX g W P s) aK s
structure bB(g:Gx)(d:Nat)(fi:FI)(e:M3)(D:DR):Prop where
 aN:adL g d fi e D
structure Gc(g:Gx)(K:Frag)(c:Nat)(fs:List Nat):Prop where
 ga:ZM K (.ref (g.κ c)) "__getattribute__"=Ss (Ss (.builtin "object.__getattribute__"))
 cd:∃cd,clsIn K (g.κ c)=Ss cd/\cd.hasDict=WL
 My:∀f∈fs,ZM K (.ref (g.κ c)) (aQ f)=Ss M4
 sa:ZM K (.ref (g.κ c)) "__setattr__"=Ss (Ss (.builtin "object.__setattr__"))
 po:plainOver K (g.κ c)=WL
noncomputable def gA:Nat->List Nat
 |0=>[0,1,2,3,4,5,6,7,8,9,10]
 |1=>[11,2,12]
 |2=>[13,14,15,16]
 |3=>[17]
 |_=>[]
structure GOK2(g:Gx):Prop extends GOK g where
 Vy:∃K:Frag,K.In g.mh.heap/\∀c,c<4->Gc g K c (gA c)
 len:g.mg "len"=M4/\g.mb "len"=Ss (.builtin "len")
def AF(g:Gx)(nm:Str)(x:AV):Prop:=∃v,g.mg nm=Ss v/\Vr g ⟨g.mh.heap.get?,λU=>M4⟩ x v
def adI(g:Gx)(t:M5->M5->Sem M5)(f:AV->AV->(AV->PS)->PS):Prop:=∀(A:K2) (W:Wd) (s:MY) (x y:AV) (a b:M5) (P:AV->PS) (Q:M5->MY->Prop),
 Vr g W x a->Vr g W y b->f x y P->(∀r v tk,P r->Vr g W r v->Q v { s with toks:=tk })->K8 (Mo g) A (t a b) Q aK s
structure AI(g:Gx)(t:M5->M5->Sem M5)(f:AV->AV->(AV->PS)->PS):Prop where
 aN:adI g t f
section
variable {g:Gx}{d:Nat}{fi:FI}{W:Wd}{env:Env}{ca:Ca}{st:St}{Rz:ai}{s:MY}
theorem am.MD(R:am g W fi env ca st Rz s):Wd.J ⟨g.mh.heap.get?,λU=>M4⟩ W:=by
 refine eg R λrs m L ML X=>?_
 exact⟨X.bI,λi a e=>by exact aY e⟩
theorem am.ME(R:am g W fi env ca st Rz s)(G:GOK g):s.heap.Ns ZX g.mg:=by refine aj (wY G.ns) λo e p=>?_;exact pD (R.bI e) p
theorem am.nsB(R:am g W fi env ca st Rz s)(G:GOK g):s.heap.Ns Y2 g.mb:=by refine aj (wY G.nb) λo e p=>?_;exact pD (R.bI e) p
theorem lC{A:K2}{nm:Str}{pos:Pos}{Q:M5->MY->Prop}{v:M5}{j:Nat}(G:GOK g)(N:bq fi env ca)(R:am g W fi env ca st Rz s)(hj:fi.ng[j]?=Ss nm)(e:g.mg nm=Ss v)(h:Q v s):
 K8 (Mo g) A (Er (.Name nm pos) env) Q aK s:=
 Name_function_global N.kind (N.gl _ _ hj) (loadGlobal_global (by rw[N.oI];exact R.ME G) e h) (N.qC _ _ hj)
theorem mL{A:K2}{nm:Str}{pos:Pos}{Q:M5->MY->Prop}{v:M5}{j:Nat}(G:GOK g)(N:bq fi env ca)(R:am g W fi env ca st Rz s)(hj:fi.ng[j]?=Ss nm)(e:g.mg nm=M4)(e':g.mb nm=Ss v)(h:Q v s):
 K8 (Mo g) A (Er (.Name nm pos) env) Q aK s:=
 Name_function_global N.kind (N.gl _ _ hj) (loadGlobal_builtin (by rw[N.oI];exact R.ME G) e (by rw[N.blt];exact R.nsB G) e' h) (N.qC _ _ hj)
theorem adD{nm:Str}{pos:Pos}{x:AV}(j:Nat)(G:GOK g)(c:AF g nm x)(hj:autoParam (fi.ng[j]?=Ss nm) t_rfl):au g d fi (.Name nm pos) (D.Y x):=by
 constructor;intro A W env ca st Q Rz s C N h R;refine aj c λv e hv=>?_
 exact lC G N R hj e (eN h (hv.aE R.MD) R)
theorem LC{nm:Str}{pos:Pos}{x:AV}(j:Nat)(G:GOK g)(c:AF g nm x)(hj:autoParam (fi.ng[j]?=Ss nm) t_rfl):bB g d fi (.Name nm pos) (λU P=>P PO x):=by
 constructor;intro A W env ca st Q Rz s C N h R;refine aj c λv e hv=>?_
 exact lC G N R hj e ⟨PO,x,s.toks,rfl,h,.val (hv.aE R.MD)⟩
theorem aF{i:Int}{k:Nat}{pos:Pos}:bB g d fi (.Constant (.int i) k pos) (λU P=>P PO (.int i)):=
 ⟨λA W env ca st Q Rz s C N h R=>wpAny_Constant_int ⟨PO,_,_,rfl,h,.val (.int _ _)⟩⟩
theorem af1{k:Nat}{pos:Pos}:bB g d fi (.Constant .none k pos) (λU P=>P PO .none):=
 ⟨λA W env ca st Q Rz s C N h R=>wpAny_Constant_none ⟨PO,_,s.toks,rfl,h,.val .none⟩⟩
theorem af2{x:Str}{k:Nat}{pos:Pos}:bB g d fi (.Constant (.str x) k pos) (λU P=>P PO (.str x)):=
 ⟨λA W env ca st Q Rz s C N h R=>wpAny_Constant_str ⟨PO,_,_,rfl,h,.val (.str _ _)⟩⟩
noncomputable def vz(sl:Option an)(P:Bool->AV->PS):PS:=match sl with
 |some (.val v)=>P PO v
 |some (.own v)=>v.fG λxs=>P WL (.lst xs)
 |_=>.bot
inductive U2(g:Gx)(W:Wd)(h:Ex)(P:Bool->AV->PS)(x:Option M5):Prop
 |mk (b:Bool) (y:AV) (v:M5) (e:x=Ss v) (q:P b y) (r:Vs g W h b y v)
theorem Gy{sl:Option an}{Na:an}{x:Option M5}{l:ai}{h:Ex}{P:Bool->AV->PS}(hs:sl=Ss Na)(r:ee g W Na x l)(hl:∀q∈l,∃o,h.get? q.1=Ss o/\q.2 o)(p:vz sl P):U2 g W h P x:=by
 subst hs;induction r with
 |none=>exact p.elim
 |val r=>exact⟨_,_,_,rfl,p,.val r⟩
 |own r=>
  obtain⟨xs,rfl,q⟩:=AV.iJ p;cases r with
  |lst r=>obtain⟨o,ho,n,rfl⟩:=hl _ (.head _);exact⟨_,_,_,rfl,q,.lst r ho⟩
theorem Gw{sl:Option an}{P:Bool->AV->PS}(h:vz sl P):∃s,sl=Ss s:=by induction sl with|none=>exact h.elim|some s=>exact⟨s,rfl⟩
noncomputable def DD(i:Nat):DR:=λst P=>vz st.aD[i]? P
theorem gy.MF{rs:List (Option M5)}{m:Str->Option M5}{L ML L1 L2 l:ai}(X:gy g W fi env ca st Rz s rs m L ML)(e:L=L1++(l++L2)):∀q∈l,∃o,s.heap.get? q.1=Ss o/\q.2 o:=by subst e;exact λq h=>X.cm.b8 q (.tail _ (s7 _ (l8 _ (s7 _ (l8 _ h)))))
theorem ah(i:Nat){nm:Str}{k:NK}{pos:Pos}(hv:autoParam (fi.nv[i]?=Ss (nm,k)) t_rfl)(hk:autoParam (k.rd=WL) t_rfl):bB g d fi (.Name nm pos) (DD i):=by constructor;intro A W env ca st P Rz s C N h ⟨rs,m,L,ML,X⟩;refine a7 (Gw h) λsl hs=>?_;obtain⟨r,l,L1,L2,e1,eL,e3,e4⟩:=X.aD.jL hs;obtain⟨b,y,v,rfl,q,r⟩:=Gy hs e3 (X.MF eL) h;exact ro N X hv hk e1 ⟨b,y,s.toks,rfl,q,r⟩
theorem alm{name:Str}{o:Obj}{es:Array XR}{ep:Nat}{v:M5}(e:o.data=.dict es ep)(k:StrKeys es)(f:nsFind es name=Ss v):lookIn name o=Ss (Ss v):=by
 unfold lookIn;rw[e];simp only[];unfold nsFind findBy at f;refine aj (ZU.mp f) λx h1 h2=>?_;have h1:es.toList.find? (λe=>e.key.isStr name)=Ss x:=by rw[Array.find?_toList];exact h1
 rw[h1];exact congrArg (λz=>Ss (Ss z)) h2
theorem AM{x:AV}{v:M5}(h:Vr g W x v):handedIn v=WL:=by induction h<;>rfl
theorem AW{A:K2}{a dd:MW}{c f:Nat}{o:Obj}{m:Str->Option M5}{v:M5}{b:Bool}{Q:M5->MY->Prop}(G:GOK2 g)(R:am g W fi env ca st Rz s)(hc:c<4)(hf:f∈gA c)
 (h1:s.heap.get? a=Ss (s0 (g.κ c) dd)) (h2:s.heap.get? dd=Ss o) (hm:cA m o) (hv:m (aQ f)=Ss v) (hh:handedIn v=WL) (h:Q v { s with toks:=s.toks+1 }):K8 (Mo g) A (getAttr (.ref a) (aQ f) b) Q aK s:=by
 refine aj (G.Vy) λK hK qV=>?_;have C:=qV c hc;refine nR hm λes ep y9 k1 k2 k3=>?_;subst y9
 refine aj (C.cd) λcd EP EQ=>?_;have I:InstAt s.heap a (s0 (g.κ c) dd) (g.κ c) (Ss _):=⟨h1,rfl,rfl,h2⟩
 refine get_value (hK.keeps λb o e=>R.bI e) I C.ga ?_ hh h;unfold findObj;rw[EP,X4,C.My f hf,X4];rw[show ownOf cd (Ss { cls:=Value.type "dict",data:=Data.dict es ep }) (aQ f)=Ss (Ss v) from (MS EQ).trans (alm (o:={ cls:=Value.type "dict",data:=Data.dict es ep }) rfl k1 ((k2 _).trans hv))];rfl
inductive UJ(g:Gx)(W:Wd)(m:Str->Option M5)(f:Nat)(x:AV):Prop
 |mk (v:M5) (e:m (aQ f)=Ss v) (r:Vr g W x v)
set_option tactic.hygienic true in
theorem ip.sN{fs:List (Nat×AV)}{m:Str->Option M5}(h:ip g W fs m){f:Nat}{x:AV}:fs.lookup f=Ss x->UJ g W m f x:=by
 induction h with
 |nil=>intro e;exact aY e
 |cons e1 e2 e3 ih=>
  rename_i f' _ _ _ _;intro e;rw[Zp] at e;cases hb:f==f' with
  |true=>rw[hb] at e;(have y9:=K6 e;clear e;subst y9);rw[zH hb];exact⟨_,e1,e2⟩
  |false=>rw[hb] at e;exact ih e
inductive UI(g:Gx)(W:Wd)(m:Str->Option M5)(f:Nat)(x:an)(l:ai):Prop
 |mk (v:M5) (l' L1 L2:ai) (e:m (aQ f)=Ss v) (r:ee g W x (Ss v) l') (el:l=L1++(l'++L2))
set_option tactic.hygienic true in
theorem fV.sN{fs:List (Nat×an)}{m:Str->Option M5}{l:ai}(h:fV g W fs m l){f:Nat}{x:an}:fs.lookup f=Ss x->UI g W m f x l:=by
 induction h with
 |nil=>intro e;exact aY e
 |cons e1 e2 e3 ih=>
  rename_i f' _ _ l' L _ _;intro e;rw[Zp] at e;cases hb:f==f' with
  |true=>rw[hb] at e;(have y9:=K6 e;clear e;subst y9);rw[zH hb];exact⟨_,l',[],L,e1,e2,rfl⟩
  |false=>rw[hb] at e;obtain⟨v',l2,L1,L2,q1,q2,rfl⟩:=ih e;exact⟨v',l2,l'++L1,L2,q1,q2,(zx ..).symm⟩
noncomputable def St.oQ(st:St)(k:Nat)(P:MO->PS):PS:=oo st.aI[k]? .bot P
theorem uc{k:Nat}{P:MO->PS}(h:st.oQ k P):∃mo,st.aI[k]?=Ss (Ss mo)/\P mo:=by exact FE (x:=st.aI[k]?) (d:=.bot) (f:=P) (λmo e q=>⟨mo,e,q▸(show rj (oo st.aI[k]? .bot P) from h)⟩) λq=>(show False from (congrArg rj q).mp h).elim
inductive UP(g:Gx)(W:Wd)(h:Ex)(mo:MO)(u:M5):Prop
 |mk (a dd:MW) (mm:Str->Option M5) (o:Obj) (l:ai) (e:u=.ref a) (e1:h.get? a=Ss (s0 (g.κ mo.cls) dd)) (e2:h.get? dd=Ss o) (p:cA mm o) (f:fV g W mo.fs mm l) (n:∀nm,(∀p∈mo.fs,aQ p.1≠nm)->mm nm=M4) (led:∀q∈l,∃o,h.get? q.1=Ss o/\q.2 o)
theorem AR{k:Nat}{mo:MO}{u:M5}(R:am g W fi env ca st Rz s)(hx:Vr g W (.ref k) u)(kT:st.aI[k]?=Ss (Ss mo)):UP g W s.heap mo u:=by
 refine aj (hx.oL) λa ha y9=>?_;subst y9;refine eg R λrs m L ML X=>?_
 obtain⟨a',dd,mm,l,L1,L2,q1,rfl,q3,q4,q5,q6⟩:=X.aI.jL kT;rw[kI,ha] at q1;(have y9:=K6 q1;clear q1;subst y9)
 have mem:∀q∈(_,λo=>o=s0 (g.κ mo.cls) dd)::(dd,cA mm)::(l++L2),∃o,s.heap.get? q.1=Ss o/\q.2 o:=λq hq=>X.cm.b8 q (.tail _ (s7 _ (s7 _ (l8 _ (s7 _ hq)))))
 refine aj (mem _ (.head _)) λo1 e1 y9=>?_;subst y9;refine aj (mem _ (.tail _ (.head _))) λo2 e2 p2=>?_;exact⟨_,dd,mm,o2,l,rfl,e1,e2,p2,q3,q4,λq hq=>mem q (.tail _ (.tail _ (l8 _ hq)))⟩
noncomputable def rA(c f:Nat):Bool:=Xu c 4&&(gA c).contains f
theorem w9{c f:Nat}(h:rA c f=WL):c<4/\f∈gA c:=by refine ak (zA.mp h) λa b=>?_;exact⟨WZ (l9 a),Vh.mp b⟩
noncomputable def Gp(o:Option AV)(P:AV->PS):PS:=match o with|some a=>P a|none=>.bot
theorem ald{x:Option AV}{P:AV->PS}(h:Gp x P):Ah P x:=by induction x with|none=>exact h.elim|some a=>exact⟨a,rfl,h⟩
noncomputable def Dz(st:St)(f:Nat)(x:AV)(P:Bool->AV->PS):PS:=match x with
 |.inst c fs=>cL (rA c f) (Gp (fs.lookup f) (P PO))
 |.ref k=>st.oQ k λmo=>cL (rA mo.cls f) (vz (mo.fs.lookup f) P)
 |_=>.bot
theorem GF{A:K2}{x:AV}{v:M5}{f:Nat}{b:Bool}{P:Bool->AV->PS}(G:GOK2 g)(R:am g W fi env ca st Rz s)(hv:Vr g W x v)(h:Dz st f x P):
 K8 (Mo g) A (getAttr v (aQ f) b) (tX g W P s) aK s:=by
 induction x using AV.casesOn with
 |inst c fs=>refine ak (fM h) λhc h=>?_;refine ak (w9 hc) λhc hf=>?_;obtain⟨y,hy,h⟩:=ald h;obtain⟨a,d,o,m,rfl,h1,h2,h3,h4⟩:=hv.qJ;obtain⟨u,q1,q2⟩:=h4.sN hy;exact AW G R hc hf (R.fz h1) (R.fz h2) h3 q1 (AM q2) ⟨PO,y,_,rfl,h,.val q2⟩
 |ref k=>
  refine aj (uc h) λmo kT h=>?_;refine ak (fM h) λhc h=>?_;refine ak (w9 hc) λhc hf=>?_;obtain⟨a,dd,mm,o,l,rfl,e1,e2,p2,q3,_,led⟩:=AR R hv kT;refine a7 (Gw h) λsl hs=>?_;obtain⟨u,l',M1,M2,z1,z2,rfl⟩:=q3.sN hs;obtain⟨b,y,v,ev,q,r⟩:=Gy hs z2 (λq hq=>led q (s7 _ (l8 _ hq))) h
  (have y9:=K6 ev;clear ev;subst y9);exact AW G R hc hf e1 e2 p2 z1 (by induction r with|val r=>exact AM r|lst _ _=>rfl) ⟨b,y,_,rfl,q,r⟩
 |_=>exact h.elim
theorem LA{P:Bool->AV->PS}{v:M5}{s':MY}{tk:Nat}(h:tX g W P { s with toks:=tk } v s'):tX g W P s v s':=by obtain⟨b,x,tk,rfl,q,r⟩:=h;exact⟨b,x,tk,rfl,q,r⟩
inductive UU(g:Gx)(W:Wd)(fi:FI)(env:Env)(ca:Ca)(st:St)(Rz:ai)(P:AV->PS)(s:MY)(v:M5)(s':MY):Prop
 |mk (x:AV) (tk:Nat) (e:s'={ s with toks:=tk }) (q:P x) (r:Vr g W x v) (R:am g W fi env ca st Rz s')
theorem tX.nz{P:AV->PS}{v:M5}{s':MY}(h:tX g W (λb x=>bY b (P x)) s v s')(R:am g W fi env ca st Rz s):UU g W fi env ca st Rz P s v s':=by obtain⟨b,x,tk,rfl,q,r⟩:=h;refine ak (Ou q) λy9 q=>?_;subst y9;cases r with|val r=>exact⟨x,tk,rfl,q,r,R.Z⟩
theorem bB.vP{A:K2}{a:M3}{D:DR}{P:Bool->AV->PS}{M:M5->MY->Prop}(ha:bB g d fi a D)(C:bF d A)(N:bq fi env ca)(h:D st P)(R:am g W fi env ca st Rz s)
 (k:∀u b x tk,P b x->Vs g W s.heap b x u->M u { s with toks:=tk }):K8 (Mo g) A (Er a env) M aK s:=aL (ha.aN A W env ca st P Rz s C N h R) λu s1 ⟨b,x,tk,e,q,v⟩=>e▸k u b x tk q v
theorem bB.C{A:K2}{a:M3}{D:DR}{P:AV->PS}{M:M5->MY->Prop}(ha:bB g d fi a D)(C:bF d A)(N:bq fi env ca)(h:D st λb x=>bY b (P x))(R:am g W fi env ca st Rz s)
 (k:∀u x tk,Vr g W x u->P x->am g W fi env ca st Rz { s with toks:=tk }->M u { s with toks:=tk }):K8 (Mo g) A (Er a env) M aK s:=aL (ha.aN A W env ca st _ Rz s C N h R) λu s1 hh=>by
 obtain⟨x,tk,rfl,q,v,R1⟩:=hh.nz R;exact k u x tk v q R1
noncomputable def DB(f:Nat)(a:DR):DR:=λst P=>a st λb x=>bY b (Dz st f x P)
theorem vA{e:M3}{Da:DR}{nm:Str}{pos:Pos}(f:Nat)(G:GOK2 g)(ha:bB g d fi e Da)(hn:autoParam (nm=aQ f) t_rfl)
 (he:autoParam (tF e=WL) t_rfl):bB g d fi (.Attribute e nm pos) (DB f Da):=by
 constructor;intro A W env ca st P Rz s C N h R;refine WP (ha.C C N h R λv x tk hv hp R1=>?_) (attr_plain he env);subst hn;exact aL (GF G R1 hv hp) λU U=>LA
noncomputable def Lr(a:DR):DE:=λst Q=>a st λb x=>bY b (Q (.val x) st)
theorem ax{e:M3}{Da:DR}(ha:bB g d fi e Da):au g d fi e (Lr Da):=by constructor;intro A W env ca st Q Rz s C N h R;refine ha.C C N h R λv x tk hv hp R1=>?_;exact eN hp hv R1
noncomputable def adx(f:AV->AV->(AV->PS)->PS)(a b:DR):DR:=λst P=>a st λp x=>bY p (b st λq y=>bY q (f x y (P PO)))
theorem vB{op:Operator}{f:AV->AV->(AV->PS)->PS}{a b:M3}{Da Db:DR}{pos:Pos}(o:AI g (ZN op) f)(ha:bB g d fi a Da)(hb:bB g d fi b Db):bB g d fi (.BinOp a op b pos) (adx f Da Db):=by constructor;intro A W env ca st P Rz s C N h R;refine wpAny_BinOp (ha.C C N h R λu x tk v1 h1 R1=>?_);refine hb.C C N h1 R1 λu2 y eH v2 h2 R2=>?_;exact o.aN A W _ x y u u2 _ _ v1 v2 h2 λr v tf hp hv=>⟨PO,r,tf,rfl,hp,.val hv⟩
theorem nf{a:M3}{Da:DR}{pos:Pos}(ha:bB g d fi a Da):bB g d fi (.UnaryOp .USub a pos) (λst P=>Da st λb x=>bY b (x.L λi=>P PO (.int (-i)))):=by constructor;intro A W env ca st P Rz s C N h R;refine UnaryOp_ (ha.C C N h R λu x tk v1 h1 R1=>?_);refine fq h1 v1 λi t h2=>?_;exact alN ⟨PO,_,_,rfl,h2,.val (.int _ _)⟩
theorem adH:AI g (ZN .Add) λx y P=>x.L λa=>y.L λb=>P (.int (a+b)):=by constructor;intro A W s x y a b P Q hx hy e h;obtain⟨i,j,t,u,rfl,rfl,e⟩:=O.D9 hx hy e;exact alO (h _ _ _ e (.int _ _))
theorem zb:AI g (ZN .Sub) λx y P=>x.L λa=>y.L λb=>P (.int (a-b)):=by constructor;intro A W s x y a b P Q hx hy e h;obtain⟨i,j,t,u,rfl,rfl,e⟩:=O.D9 hx hy e;exact alM (h _ _ _ e (.int _ _))
noncomputable def fY(xs:List AV)(i:Int):Option AV:=if 0<=i then xs[i.toNat]? else if -(xs.length:Int)<=i then xs[(i+xs.length).toNat]? else M4
noncomputable def ady(a b:DR):DR:=λst P=>a st λU x=>b st λq y=>bY q (x.jI λU xs=>y.L λi=>.rq (xs.length<2 ^ 62) (jZ (fY xs i) (P PO)))
theorem cU{h:Ex}{a:MW}{vs:Array M5}{n:Nat}(e:h.get? a=Ss { cls:=.type "list",data:=.seq vs n }):h.IsList a vs:=⟨_,e,rfl,n,rfl⟩
theorem fP{h:Ex}{a:MW}{vs:Array M5}{n:Nat}(e:h.get? a=Ss { cls:=.type "tuple",data:=.seq vs n }):h.IsTuple a vs:=⟨_,e,rfl,n,rfl⟩
end
section
variable {g:Gx}{d:Nat}{fi:FI}{W:Wd}{env:Env}{ca:Ca}{st:St}{Rz:ai}{s:MY}
theorem rD{A:K2}{nC nD:M3}{o i:M5}{T id:String}{Q:M5->MY->Prop}(hT:s.TypeIs o T)(hl:typeLookup (.type T) "__getitem__"=pure (Ss (.builtin id)))(h:K8 (Mo g) A (Yd o i) Q aK s)
 (hs:XT nD PO o i=operate [o,i] (Yd o i)):K8 (Mo g) A (Xc nC nD o i) Q aK s:=
 kba_turn (value':=YO (Wz "_") ⟨0,0,0,0⟩) (λU=>rfl) (subscriptTail_builtin hT hl h hs (λU=>rfl))
def UR(e:M3):Prop:=∀o i,XT e PO o i=operate [o,i] (Yd o i)
theorem rB{a:MW}{T:String}{o:Obj}(e:s.heap.get? a=Ss o)(hc:o.cls=.type T):s.TypeIs (.ref a) T:=⟨o,e,hc⟩
inductive U0(g:Gx)(W:Wd)(h:Ex)(K:Bool->List AV->PS)(u:M5):Prop
 |mk (l:Bool) (xs:List AV) (a:MW) (vs:List M5) (n:Nat) (e:u=.ref a) (r:aO g W xs vs) (ho:h.get? a=Ss { cls:=.type (if l then "list" else "tuple"),data:=.seq vs.toArray n }) (q:K l xs)
theorem qw{b:Bool}{x:AV}{u:M5}{K:Bool->List AV->PS}(hx:Vs g W s.heap b x u)(R:am g W fi env ca st Rz s)(h:x.jI K):U0 g W s.heap K u:=by
 induction hx with
 |val hx=>
  rcases AV.Mk h with⟨xs,rfl,q⟩|⟨xs,rfl,q⟩
  ·obtain⟨a,vs,n,rfl,r,ho⟩:=mH hx R;exact⟨WL,_,_,_,n,rfl,r,ho,q⟩
  ·obtain⟨a,vs,n,rfl,r,ho⟩:=Aw hx R;exact⟨PO,_,_,_,n,rfl,r,ho,q⟩
 |lst r ho=>exact⟨WL,_,_,_,_,rfl,r,ho,h⟩
theorem aln{xs:List AV}{vs:List M5}{i:Int}{r:AV}(r1:aO g W xs vs)(h0:0<=i)(e:fY xs i=Ss r):∃v,vs[i.toNat]?=Ss v/\Vr g W r v:=by unfold fY at e;rw[MS h0] at e;exact r1.sN e
theorem alp{xs:List AV}{vs:List M5}{i:Int}{r:AV}(r1:aO g W xs vs)(h0:¬ 0<=i)(e:fY xs i=Ss r):-(vs.length:Int)<=i/\∃v,vs[(i+vs.length).toNat]?=Ss v/\Vr g W r v:=by
 unfold fY at e;rw[MZ h0,<- r1.cz] at e;by_cases h1:-(vs.length:Int)<=i
 ·rw[MS h1] at e;exact⟨h1,r1.sN e⟩
 ·rw[MZ h1] at e;exact aY e
theorem GH{A:K2}{l:Bool}{a:MW}{n:Nat}{vs:List M5}{i:Int}{tk:Tok}{nC nD:M3}{r:AV}{xs:List AV}{Q:M5->MY->Prop}(hs:UR nD)
 (r1:aO g W xs vs) (ho:s.heap.get? a=Ss { cls:=.type (if l then "list" else "tuple"),data:=.seq vs.toArray n }) (hl:xs.length<2 ^ 62) (e:fY xs i=Ss r) (h:∀v,Vr g W r v->Q v s):K8 (Mo g) A (Xc nC nD (.ref a) (.int i tk)) Q aK s:=by
 have gJ:=r1.cz;by_cases h0:0<=i
 ·refine aj (aln r1 h0 e) λv h1 h2=>?_;have hi:=(sV.mp h1).1;induction l with
  |true=>exact rD (rB ho rfl) VW (wpAny_getItem_list (cU ho) h0 (FL hi hl gJ) (by simpa using h1) (h _ h2)) (hs _ _)
  |false=>
   refine rD (rB ho rfl) XJ.lookup (akm (j:=i.toNat) (fP ho) (O7 h0) (FL hi hl gJ) ?_ (by simpa using h1) (h _ h2)) (hs _ _);have h3:¬ i<0:=by exact FK h0
   have h4:i<(vs.length:Int):=by exact amq h0 hi
   simp[seqIndex?,h3,h0,h4]
 ·obtain⟨h5,v,h1,h2⟩:=alp r1 h0 e;have h6:i<0:=by exact Uo h0
  induction l with
  |true=>exact rD (rB ho rfl) VW (wpAny_getItem_list_neg (cU ho) h6 (by rw[Zl];exact Ud h5) (F8 h5 hl gJ) (by simpa using h1) (h _ h2)) (hs _ _)
  |false=>
   refine rD (rB ho rfl) XJ.lookup (akm (j:=(i+vs.length).toNat) (fP ho) (F8 h5 hl gJ) (TV h0) ?_ (by simpa using h1) (h _ h2)) (hs _ _);have h3:(0:Int)<=i+vs.length:=by exact TA h5
   have h4:i+vs.length<(vs.length:Int):=by exact Rt h0
   simp[seqIndex?,h6,h3,h4]
theorem aB{a b:M3}{Da Db:DR}{pos:Pos}(ha:bB g d fi a Da)(hb:bB g d fi b Db)(hs:autoParam (tD b=WL) t_rfl):bB g d fi (.Subscript a b pos) (ady Da Db):=by constructor;intro A W env ca st P Rz s C N h R;refine Yh (ha.vP C N h R λu p x tk h1 v1=>?_);refine hb.C C N h1 R.Z λu2 y eH v2 h2 R2=>?_;obtain⟨l,xs,a,vs,n,rfl,r1,ho,q⟩:=qw (s:={ s with toks:=eH }) v1 R2 h2;refine fq q v2 λi t q=>?_;refine ak q λhl q=>?_;obtain⟨r,hr,q⟩:=nO q;exact GH (plainOf hs) r1 ho hl hr λv hv=>⟨PO,_,eH,rfl,q,.val hv⟩
noncomputable def Gm(x y:AV)(P:AV->PS):PS:=x.jI λU xs=>y.L λi=>.rq (xs.length<2 ^ 62) (jZ (fY xs i) P)
noncomputable def adB(a:DE)(b:DR):DE:=λst Q=>a st λr ab=>b ab λq y=>bY q (Gm r.v y λz=>Q (.val z) ab)
theorem Lx{a b:M3}{Da:DE}{Db:DR}{pos:Pos}(ha:au g d fi a Da)(hb:bB g d fi b Db)(hs:autoParam (tD b=WL) t_rfl):au g d fi (.Subscript a b pos) (adB Da Db):=by constructor;intro A W env ca st Q Rz s C N h R;refine Yh (eM (K:=λx ab=>Db ab λq y=>bY q (Gm x y λz=>Q (.val z) ab)) ha C N h R λu s1 W1 ab x le v1 h1 R1=>?_);refine hb.C C N h1 R1 λu2 y eH v2 h2 R2=>?_;obtain⟨l,xs,a,vs,n,rfl,r1,ho,q⟩:=qw (s:={ s1 with toks:=eH }) (.val v1) R2 h2;refine fq q v2 λi t q=>?_;refine ak q λhl q=>?_;obtain⟨r,hr,q⟩:=nO q;exact GH (plainOf hs) r1 ho hl hr λv hv=>cF le (eN q hv R2)
theorem GC{A:K2}{nm:Str}{id:String}{a:M3}{p pos:Pos}{Q:M5->MY->Prop}(he:∀env,sZ [a] env=(PO,Er a env)::sZ [] env)
 (hn:∀Q',Q' (.builtin id) s->K8 (Mo g) A (Er (.Name nm p) env) Q' aK s) (h:K8 (Mo g) A (Er a env) (λv s1=>K8 (Mo g) A (call (.builtin id) [v]) Q aK s1) aK s):K8 (Mo g) A (Er (.Call (.Name nm p) [a] [] pos) env) Q aK s:=
 Ze (hn _ (Wa (ZS (aL h λv s1 h1=>Z5 h1) (he env)) (he env)))
noncomputable def adw(a:DR):DR:=λst P=>a st λU x=>x.jI λU xs=>.rq (xs.length<2 ^ 62) (P PO (.int xs.length))
theorem cG{a:M3}{Da:DR}{p pos:Pos}(j:Nat)(G:GOK2 g)(ha:bB g d fi a Da)(hj:autoParam (fi.ng[j]?=Ss ("len":Str)) t_rfl)(he:autoParam (cT a=WL) t_rfl):
 bB g d fi (.Call (.Name "len" p) [a] [] pos) (adw Da):=by
 constructor;intro A W env ca st P Rz s C N h R;refine GC (star_cons he) (λQ' hq=>mL G.toGOK N R hj G.len.1 G.len.2 hq) (ha.vP C N h R λu b x tk h1 v1=>?_);obtain⟨l,xs,a,vs,n,rfl,r1,ho,hl,q⟩:=qw (s:={ s with toks:=tk }) v1 R.Z h1;have hz:=r1.jd;induction l with
 |true=>exact call_len_list (cU ho) (FS hl hz) (by rw[hz];exact⟨PO,_,_,rfl,q,.val (.int _ _)⟩)
 |false=>exact PyProof.Rows.len_tuple (fP ho) (FS hl hz) (by rw[hz];exact⟨PO,_,_,rfl,q,.val (.int _ _)⟩)
inductive UT(g:Gx)(W:Wd)(fi:FI)(env:Env)(ca:Ca)(Rz:ai)(Q:List AV->St->PS)(vs:List M5)(s':MY):Prop
 |mk (W':Wd) (xs:List AV) (bM:St) (le:W.J W') (q:Q xs bM) (r:aO g W' xs vs) (R:am g W' fi env ca bM Rz s')
def adE(g:Gx)(d:Nat)(fi:FI)(es:List M3)(D:St->(List AV->St->PS)->PS):Prop:=∀(A:K2) (W:Wd) (env:Env) (ca:Ca) (st:St) (Q:List AV->St->PS) (Rz:ai) (s:MY) (pos:Pos),
 bF d A->bq fi env ca->D st Q->am g W fi env ca st Rz s->K8 (Mo g) A (spliced (dP pos (sZ es env))) (UT g W fi env ca Rz Q) aK s
structure gz(g:Gx)(d:Nat)(fi:FI)(es:List M3)(D:St->(List AV->St->PS)->PS):Prop where
 aN:adE g d fi es D
theorem gz.C{A:K2}{a:List M3}{D:St->(List AV->St->PS)->PS}{Q:List AV->St->PS}{M:List M5->MY->Prop}{pos:Pos}(ha:gz g d fi a D)(C:bF d A)(N:bq fi env ca)(h:D st Q)(R:am g W fi env ca st Rz s)
 (k:∀u s1 W1 xs ab,W.J W1->Q xs ab->aO g W1 xs u->am g W1 fi env ca ab Rz s1->M u s1):K8 (Mo g) A (spliced (dP pos (sZ a env))) M aK s:=aL (ha.aN A W env ca st Q Rz s pos C N h R) λu s1 ⟨W1,xs,ab,le,q,r,R1⟩=>k u s1 W1 xs ab le q r R1
noncomputable def yZ:St->(List AV->St->PS)->PS:=λst Q=>Q [] st
noncomputable def adq(a:DE)(b:St->(List AV->St->PS)->PS):St->(List AV->St->PS)->PS:=λst Q=>a st λr ab=>b ab λxs az=>Q (r.v::xs) az
theorem ag:gz g d fi [] yZ:=⟨λA W env ca st Q Rz s pos C N h R=>Z5 ⟨W,[],st,.Q _,h,.nil,R⟩⟩
theorem aa{a:M3}{es:List M3}{Da:DE}{Db}(ha:au g d fi a Da)(hb:gz g d fi es Db)(he:autoParam (cT a=WL) t_rfl):gz g d fi (a::es) (adq Da Db):=by constructor;intro A W env ca st Q Rz s pos C N h R;refine ZS (eM (K:=λx ab=>Db ab λxs az=>Q (x::xs) az) ha C N h R λu s1 W1 ab x le v1 h1 R1=>?_) (star_cons he env);refine hb.C C N h1 R1 λvs s2 W2 xs az dx q r2 R2=>?_;exact⟨W2,x::xs,az,le.S dx,q,.cons (v1.aE dx) r2,R2⟩
noncomputable def adC(a:St->(List AV->St->PS)->PS):DE:=λst Q=>a st λxs ab=>cL (Xs xs.length 1000000) (Q (.val (.tup xs)) ab)
noncomputable def adt(a:St->(List AV->St->PS)->PS):DE:=λst Q=>a st λxs ab=>cL (Xs xs.length 1000000) (Q (.own (.lst xs)) ab)
theorem bD{es:List M3}{De}{k:Nat}{pos:Pos}(h:gz g d fi es De):au g d fi (.Tuple es k pos) (adC De):=by constructor;intro A W env ca st Q Rz s C N p R;refine wpAny_Tuple (h.C C N p R λvs s1 W1 xs ab le hz r1 R1=>?_);refine ak (fM hz) λhz q=>?_;refine⟨by rw[r1.cz];exact gO (l9 hz),?_⟩;exact cF le (iQ.e (Au (tk:=s1.toks) (n:=0) q r1 R1))
theorem a9{es:List M3}{De}{pos:Pos}(h:gz g d fi es De):au g d fi (.List es pos) (adt De):=by constructor;intro A W env ca st Q Rz s C N p R;refine wpAny_List (h.C C N p R λvs s1 W1 xs ab le hz r1 R1=>?_);refine ak (fM hz) λhz q=>?_;refine⟨by rw[r1.cz];exact gO (l9 hz),?_⟩;exact cF le (iQ.e (As (tk:=s1.toks) (n:=0) q r1 R1))
end
namespace D
noncomputable def je(b:DS)(Q:Fl->St->PS)(f:Fl)(ab:St):PS:=match f with|.next=>b ab Q|f=>Q f ab
noncomputable def kP(a b:DS):DS:=λst Q=>a st (je b Q)
noncomputable def ik:DS:=λst Q=>Q .next st
noncomputable def Mz(i:Nat)(a:DE):DS:=λst Q=>a st λr ab=>Q .next ⟨ab.aD.set i r.jN,ab.aI⟩
noncomputable def oN(v:AV)(st:St)(Q:AV->St->PS):PS:=match vJ v with
 |some k=>(match iK st k with
  |some fs=>Q (.inst 0 fs) ⟨st.aD,st.aI.set k M4⟩
  |none=>Q v st)
 |none=>Q v st
noncomputable def ret(a:DE):DS:=λst Q=>a st λr ab=>oN r.v ab λv az=>Q (.ret v) az
noncomputable def ae3:DS:=λst Q=>Q (.ret .none) st
noncomputable def iff(t:DT)(a b:DS):DS:=λst Q=>t st λx ab=>br x (a ab Q) (b ab Q)
noncomputable def ae1:DS:=λst Q=>Q .cont st
noncomputable def ae2(a:DE):DS:=λst Q=>a st λU ab=>Q .next ab
end D
section
variable {g:Gx}{d:Nat}{fi:FI}
theorem af:jn g d fi [] D.ik:=⟨λA W env ca st Q Rz s C N np h R=>VD ⟨W,.next,st,.Q _,h,trivial,R⟩⟩
theorem ae{a:v0}{b:List v0}{Da Db:DS}(ha:eJ g d fi a Da)(hb:jn g d fi b Db):jn g d fi (a::b) (D.kP Da Db):=by
 constructor;intro A W env ca st Q Rz s C N np h R;refine wpAny_execs_cons (ha.C C N np h R λf s1 W1 fl ab le q m R1=>?_);induction f with
 |next=>
  induction fl with
  |next=>exact aL (hb.aN A W1 env ca ab Q Rz s1 C N np q R1) λU U=>Dr le
  |_=>exact m.elim
 |_=>
  induction fl with
  |next=>exact m.elim
  |_=>exact⟨W1,_,ab,le,q,m,R1⟩
theorem bg{nm:Str}{k:NK}{e:M3}{De:DE}{p pos:Pos}(i:Nat)(he:au g d fi e De)(hv:autoParam (fi.nv[i]?=Ss (nm,k)) t_rfl)(hk:autoParam (fi.st k=WL) t_rfl)
 (hs:autoParam (mI e=WL) t_rfl):eJ g d fi (.Assign [.Name nm p] e pos) (D.Mz i De):=by
 constructor;intro A W env ca st Q Rz s C N np h R;refine wpAny_Assign_Name (he.C C N h R λv s1 W1 r ab l le q rr R1=>?_) (noSwap hs env);exact rp N np R1 hv (tJ N hv hk) (tK hk) rr λs2 R2=>⟨W1,.next,_,le,q,trivial,R2⟩
theorem alu{A:K2}{W:Wd}{env:Env}{ca:Ca}{st:St}{Rz:ai}{s:MY}{v:AV}{x:M5}{Q:AV->St->PS}(hv:Vr g W v x)(h:D.oN v st Q)(R:am g W fi env ca st Rz s):Ak g W fi env ca Rz Q x s:=by
 unfold D.oN at h;cases hk:D.vJ v with
 |none=>rw[hk] at h;exact⟨W,st,v,.Q _,hv,h,R⟩
 |some k=>
  rw[hk] at h;dsimp only at h;cases hd:D.iK st k with
  |none=>rw[hd] at h;exact⟨W,st,v,.Q _,hv,h,R⟩
  |some fs=>rw[hd] at h;obtain rfl:=D.Mp hk;refine bV (D.Mn hd) λmo hm hc hf=>?_;refine aj (hv.oL) λa ha y9=>?_;subst y9;obtain⟨W',le,v',R'⟩:=R.Ms hm hf ha;rw[hc] at v';exact⟨W',_,_,le,v',h,R'⟩
theorem aA{e:M3}{De:DE}{pos:Pos}(he:au g d fi e De):eJ g d fi (.Return (Ss e) pos) (D.ret De):=by constructor;intro A W env ca st Q Rz s C N np h R;refine wpAny_Return_some (eM (K:=λx ab=>D.oN x ab λv az=>Q (.ret v) az) he C N h R λv s1 W1 ab x le hv q R1=>?_);obtain⟨W2,az,y,dx,qW,q2,R2⟩:=alu (A:=A) hv q R1;exact⟨W2,.ret y,az,le.S dx,q2,qW,R2⟩
theorem afZ{pos:Pos}:eJ g d fi (.Return M4 pos) D.ae3:=
 ⟨λA W env ca st Q Rz s C N np h R=>wpAny_Return_none ⟨W,.ret .none,st,.Q _,h,Vr.none,R⟩⟩
theorem aJ{t:M3}{a b:List v0}{Dt:DT}{Da Db:DS}{pos:Pos}(ht:fX g d fi t Dt)(ha:jn g d fi a Da)(hb:jn g d fi b Db):eJ g d fi (.If t a b pos) (D.iff Dt Da Db):=by
 constructor;intro A W env ca st Q Rz s C N np p R;refine wpAny_If (ht.C C N p R λc s1 W1 ab le q R1=>?_);induction c with
 |true=>exact aL (ha.aN A W1 env ca ab Q Rz s1 C N np q R1) λU U=>Dr le
 |false=>exact aL (hb.aN A W1 env ca ab Q Rz s1 C N np q R1) λU U=>Dr le
theorem Dw{pos:Pos}:eJ g d fi (.Continue pos) D.ae1:=
 ⟨λA W env ca st Q Rz s C N np h R=>wpAny_Continue ⟨W,.cont,st,.Q _,h,trivial,R⟩⟩
theorem alq{fi:FI}{env:Env}{ca:Ca}(N:bq fi env ca):interactive env=PO:=by unfold interactive;rw[N.kind];rfl
theorem eF{e:M3}{De:DE}{pos:Pos}(he:au g d fi e De)(hs:autoParam (mI e=WL) t_rfl):eJ g d fi (.Expr e pos) (D.ae2 De):=by constructor;intro A W env ca st Q Rz s C N np h R;refine wpAny_Expr_any (he.C C N h R λv s1 W1 r ab l le q rr R1=>?_) (alq N) (noSwap hs env);exact⟨W1,.next,ab,le,q,trivial,R1.fS⟩
class inductive gQ(g:Gx)(W:Wd):List aS->List M5->ai->Prop
 |nil:gQ g W [] [] []
 |cons {r:aS}{v:M5}{l L:ai}{rs:List aS}{vs:List M5}:io g W r v l->gQ g W rs vs L->gQ g W (r::rs) (v::vs) (l++L)
theorem af0{W W':Wd}(le:W.J W'){rs:List aS}{vs:List M5}{L:ai}(h:gQ g W rs vs L):gQ g W' rs vs L:=by
 induction h with
 |nil=>exact .nil
 |cons h _ ih=>exact .cons (h.aE le) ih
theorem gQ.cz{W:Wd}{rs:List aS}{vs:List M5}{L:ai}(h:gQ g W rs vs L):vs.length=rs.length:=by
 induction h with
 |nil=>rfl
 |cons h _ ih=>rw[qR,qR,ih]
theorem LB{W:Wd}{xs:List AV}{vs:List M5}(h:aO g W xs vs):gQ g W (xs.map .val) vs []:=by
 induction xs generalizing vs with
 |nil=>obtain rfl:=h.sO;exact .nil
 |cons x xs ih=>refine eX (h.gG) λv us y9 h1 r=>?_;subst y9;exact gQ.cons (l:=[]) (.val h1) (ih r)
theorem gQ.D8{W:Wd}{rs:List aS}{vs:List M5}{L l:ai}{r:aS}{v:M5}(h:gQ g W rs vs L)(hr:io g W r v l):gQ g W (rs++[r]) (vs++[v]) (L++l):=by
 induction h with
 |nil=>have:=gQ.cons hr .nil;rw[zB] at this;exact this
 |cons h _ ih=>rw[zx];exact .cons h ih
inductive UZ(g:Gx)(W:Wd)(rs:List aS)(vs:List M5)(L:ai):Prop
 |mk (L':ai) (r:gQ g W rs vs L') (p:L.Perm L')
theorem gQ.D0{W:Wd}{rs:List aS}{vs:List M5}{L:ai}(h:gQ g W rs vs L):UZ g W rs.reverse vs.reverse L:=by
 induction h with
 |nil=>exact⟨[],.nil,.nil⟩
 |cons h _ ih=>obtain⟨L',q,p⟩:=ih;rw[Yc,Yc];exact⟨_,q.D8 h,List.perm_append_comm.trans (p.append_right _)⟩
inductive UV(g:Gx)(W:Wd)(fi:FI)(env:Env)(ca:Ca)(Rz:ai)(Q:List aS->St->PS)(vs:List M5)(s':MY):Prop
 |mk (W':Wd) (xs:List aS) (bM:St) (L:ai) (le:W.J W') (q:Q xs bM) (r:gQ g W' xs vs L) (R:am g W' fi env ca bM (L++Rz) s')
def adF(g:Gx)(d:Nat)(fi:FI)(es:List M3)(D:St->(List aS->St->PS)->PS):Prop:=∀(A:K2) (W:Wd) (env:Env) (ca:Ca) (st:St) (Q:List aS->St->PS) (Rz:ai) (s:MY) (pos:Pos),
 bF d A->bq fi env ca->D st Q->am g W fi env ca st Rz s->K8 (Mo g) A (spliced (dP pos (sZ es env))) (UV g W fi env ca Rz Q) aK s
structure pH(g:Gx)(d:Nat)(fi:FI)(es:List M3)(D:St->(List aS->St->PS)->PS):Prop where
 aN:adF g d fi es D
theorem pH.C{A:K2}{W:Wd}{env:Env}{ca:Ca}{st:St}{Rz:ai}{s:MY}{a:List M3}{D:St->(List aS->St->PS)->PS}{Q:List aS->St->PS}{M:List M5->MY->Prop}{pos:Pos}(ha:pH g d fi a D)(C:bF d A)(N:bq fi env ca)(h:D st Q)(R:am g W fi env ca st Rz s)
 (k:∀u s1 W1 xs ab L,W.J W1->Q xs ab->gQ g W1 xs u L->am g W1 fi env ca ab (L++Rz) s1->M u s1):K8 (Mo g) A (spliced (dP pos (sZ a env))) M aK s:=aL (ha.aN A W env ca st Q Rz s pos C N h R) λu s1 ⟨W1,xs,ab,L,le,q,r,R1⟩=>k u s1 W1 xs ab L le q r R1
noncomputable def adp:St->(List aS->St->PS)->PS:=λst Q=>Q [] st
noncomputable def ado(a:DE)(b:St->(List aS->St->PS)->PS):St->(List aS->St->PS)->PS:=λst Q=>a st λr ab=>b ab λxs az=>Q (r::xs) az
theorem iH:pH g d fi [] adp:=⟨λA W env ca st Q Rz s pos C N h R=>Z5 ⟨W,[],st,[],.Q _,h,.nil,R⟩⟩
theorem dg{a:M3}{es:List M3}{Da:DE}{Db}(ha:au g d fi a Da)(hb:pH g d fi es Db)(he:autoParam (cT a=WL) t_rfl):pH g d fi (a::es) (ado Da Db):=by constructor;intro A W env ca st Q Rz s pos C N h R;refine ZS (ha.C C N h R λu s1 W1 r ab l le h1 rr R1=>?_) (star_cons he env);refine hb.C C N h1 R1 λvs s2 W2 xs az L dx q r2 R2=>?_;exact⟨W2,r::xs,az,l++L,le.S dx,q,.cons (rr.aE dx) r2,R2.g8 (tG [L,l,Rz] [[0],[1],[2]] [[1,0],[2]])⟩
class inductive Tg(fi:FI):List M3->List Nat->Prop
 |nil:Tg fi [] []
 |cons {nm:Str}{k:NK}{p:Pos}{i:Nat}{es:List M3}{is:List Nat}:fi.nv[i]?=Ss (nm,k)->fi.st k=WL->Tg fi es is->Tg fi (.Name nm p::es) (i::is)
noncomputable def lx(loc:List an):List Nat->List aS->List an
 |i::is,r::rs=>lx (loc.set i r.jN) is rs
 |j4,j5=>loc
theorem Ge(nm:Str)(p:Pos)(es:List M3)(env:Env):Y1 (.Name nm p::es) env=(PO,λv=>YH (.Name nm p) env v)::Y1 es env:=rfl
theorem Tg.qL{es:List M3}{is:List Nat}(h:Tg fi es is)(env:Env):(Y1 es env).length=is.length/\(Y1 es env).findIdx? (·.1)=M4:=by
 induction h with
 |nil=>exact⟨rfl,rfl⟩
 |cons _ _ _ ih=>rw[Ge];exact⟨congrArg Xy ih.1,by rw[amm,ih.2];rfl⟩
class inductive pG(g:Gx)(fi:FI)(A:K2)(env:Env)(ca:Ca):List (M5->Sem Unit)->List Nat->Prop
 |nil:pG g fi A env ca [] []
 |cons {f:M5->Sem Unit}{i:Nat}{fs:List (M5->Sem Unit)}{is:List Nat}:(∀(W:Wd) (st:St) (r:aS) (v:M5) (l Rz:ai) (s:MY) (Q:Unit->MY->Prop),io g W r v l->am g W fi env ca st (l++Rz) s->(∀s',am g W fi env ca ⟨st.aD.set i r.jN,st.aI⟩ Rz s'->Q () s')->K8 (Mo g) A (f v) Q aK s)->
  pG g fi A env ca fs is->pG g fi A env ca (f::fs) (i::is)
set_option tactic.hygienic true in
theorem GA{A:K2}{W:Wd}{env:Env}{ca:Ca}{Rz:ai}{Q:Unit->MY->Prop}{fs:List (M5->Sem Unit)}{is:List Nat}(t:pG g fi A env ca fs is):∀{st:St}{s:MY}{rs:List aS}{vs:List M5}{L:ai},gQ g W rs vs L->rs.length=is.length->
 am g W fi env ca st (L++Rz) s->(∀s',am g W fi env ca ⟨lx st.aD is rs,st.aI⟩ Rz s'->Q () s')->K8 (Mo g) A (Uw fs vs) Q aK s:=by
 induction t with
 |nil=>intro st s rs vs L hr hl R h;induction hr with|nil=>exact assignInOrder_nil (h s R)|cons _ _=>cases hl
 |cons hf _ ih=>
  intro st s rs vs L hr hl R h;cases hr with
  |nil=>cases hl
  |cons hr hrs=>rename_i r v l L rs vs;exact assignInOrder_cons (hf W st r v l (L++Rz) s _ hr (R.g8 (tG [l,L,Rz] [[0,1],[2]] [[0],[1],[2]])) λs1 R1=>ih hrs (ZG hl) R1 h)
theorem Tg.vQ{A:K2}{env:Env}{ca:Ca}{es:List M3}{is:List Nat}(N:bq fi env ca)(np:jX ca)(t:Tg fi es is):pG g fi A env ca ((Y1 es env).map (·.2)) is:=by
 induction t with
 |nil=>exact .nil
 |cons hv hk _ ih=>rw[Ge];exact .cons (λW st r v l Rz s Q hr R k=>VX (rp N np R hv (tJ N hv hk) (tK hk) hr k)) ih
noncomputable def adm(is:List Nat)(a:DE):DS:=λst Q=>a st λr ab=>r.v.jI λU xs=>cL (ie xs.length is.length) (Q .next ⟨lx ab.aD is (xs.map .val),ab.aI⟩)
theorem am.MC{W:Wd}{env:Env}{ca:Ca}{st:St}{Rz:ai}{s:MY}{h':Ex}(R:am g W fi env ca st Rz s)(e:Heap.ExtBut s.heap.objs.size s.heap h'):am g W fi env ca st Rz { s with heap:=h' }:=
 R.jJ (tk:=s.toks) λb o q=>e b o (WB (WC q)) q
theorem AY{A:K2}{W W':Wd}{env:Env}{ca:Ca}{Rz:ai}{st:St}{Q:Fl->St->PS}{fs:List (M5->Sem Unit)}{is:List Nat}(t:pG g fi A env ca fs is){s:MY}{h':Ex}{rs:List aS}{vs:List M5}{L:ai}(le:W.J W')(hr:gQ g W' rs vs L)(hl:rs.length=is.length)
 (R:am g W' fi env ca st (L++Rz) s) (hx:Heap.ExtBut s.heap.objs.size s.heap h') (h:Q .next ⟨lx st.aD is rs,st.aI⟩):K8 (Mo g) A (Uw fs vs) (λU=>mF g W fi env ca Rz Q .next) aK { s with heap:=h' }:=
 GA t hr hl (R.MC hx) λs2 R2=>⟨W',.next,_,le,h,trivial,R2⟩
theorem kE{es:List M3}{e:M3}{De:DE}{k:Nat}{tp pos:Pos}{is:List Nat}(t:Tg fi es is)(he:au g d fi e De)(hs:autoParam (∀env:Env,swapsWithSole [.Tuple es k tp] e pos.line env=pure PO) t_intro_env__rfl)
 (hw:autoParam (∀env:Env,Xg [.Tuple es k tp] e env=pure M4) t_intro_env__rfl):eJ g d fi (.Assign [.Tuple es k tp] e pos) (adm is De):=by
 constructor;intro A W env ca st Q Rz s C N np h R;refine Assign_Tuple (eM (K:=λx ab=>x.jI λU xs=>cL (ie xs.length is.length) (Q .next ⟨lx ab.aD is (xs.map .val),ab.aI⟩)) he C N h R λv s1 W1 ab x le hv q R1=>?_) (hs env) (hw env);obtain⟨l,xs,a,vs,n,rfl,r1,ho,q⟩:=qw (.val hv) R1 q;refine ak (fM q) λhl q=>?_;replace hl:=ZI hl;have e1:(Y1 es env).length=vs.toArray.size:=by rw[(t.qL env).1,r1.jd,hl]
 have ji:∀h',Heap.ExtBut s1.heap.objs.size s1.heap h'->K8 (Mo g) A (Uw ((Y1 es env).map (·.2)) vs) (λU=>mF g W fi env ca Rz Q .next) aK { s1 with heap:=h' }:=
  λh' hx=>AY (t.vQ N np) le (LB r1) (by rw[K4];exact hl) R1 hx q
 induction l with
 |false=>exact VS C.hh (fP ho) e1 (t.qL env).2 ji
 |true=>refine aL (Q:=λU=>mF g W fi env ca Rz Q .next) ?_ λU U z=>z;rw[arm_assign_Tuple];refine EJ (XY ?_);unfold unpack;rw[e1,(t.qL env).2];exact EJ (XB (kun_itemsOf C.hh (cU ho) ji))
inductive UW(g:Gx)(W:Wd)(fi:FI)(env:Env)(ca:Ca)(Rz:ai)(Q:List aS->St->PS)(v:M5)(s1:MY):Prop
 |mk (a:MW) (us:List M5) (W1:Wd) (rs:List aS) (ab:St) (L:ai) (e:v=.ref a) (ho:s1.heap.IsTuple a (List.toArray us)) (le:W.J W1) (q:Q rs ab) (r:gQ g W1 rs us L) (R:am g W1 fi env ca ab (L++Rz) s1)
noncomputable def AK(is:List Nat)(rs:List aS):Bool:=Xs rs.length 1000&&ie rs.length is.length
theorem GM{A:K2}{W:Wd}{env:Env}{ca:Ca}{st:St}{Rz:ai}{s:MY}{vs:List M3}{Dv}{kv:Nat}{vp:Pos}{is:List Nat}{Q:List aS->St->PS}(hv:pH g d fi vs Dv)(C:bF d A)(N:bq fi env ca)(h:Dv st λrs ab=>cL (AK is rs) (Q rs ab))(R:am g W fi env ca st Rz s):
 K8 (Mo g) A (Er (.Tuple vs kv vp) env) (UW g W fi env ca Rz λrs ab=>.rq (rs.length=is.length) (Q rs ab)) aK s:=by
 refine wpAny_Tuple (hv.C C N h R λus s1 W1 rs ab L le q r1 R1=>?_);refine ak (fM q) λhz q=>?_;refine ak (zA.mp hz) λh1 h2=>?_;exact⟨by rw[r1.cz];exact gO (Le (l9 h1) (by decide)),_,us,W1,rs,ab,L,rfl,fP (VV _ rfl),le,⟨ZI h2,q⟩,r1,R1.jJ (tk:=s1.toks) λb o e=>Zf _ e⟩
noncomputable def adl(is:List Nat)(a:St->(List aS->St->PS)->PS):DS:=λst Q=>a st λrs ab=>cL (AK is rs) (Q .next ⟨lx ab.aD is rs,ab.aI⟩)
theorem Lq{es vs:List M3}{Dv}{k kv:Nat}{tp vp pos:Pos}{is:List Nat}(t:Tg fi es is)(hv:pH g d fi vs Dv)
 (hw:∀env ca,bq fi env ca->Xg [.Tuple es k tp] (.Tuple vs kv vp) env=pure M4):eJ g d fi (.Assign [.Tuple es k tp] (.Tuple vs kv vp) pos) (adl is Dv):=by
 constructor;intro A W env ca st Q Rz s C N np h R;refine Assign_Tuple (aL (GM (is:=is) (Q:=λrs ab=>Q .next ⟨lx ab.aD is rs,ab.aI⟩) hv C N h R) λv s1 hh=>?_) rfl (hw env ca N);obtain⟨a,us,W1,rs,ab,L,rfl,ht,le,⟨hl,q⟩,r1,R1⟩:=hh;exact VS C.hh ht (by rw[(t.qL env).1,Zl,r1.cz,hl]) (t.qL env).2 λh' hx=>AY (t.vQ N np) le r1 hl R1 hx q
class inductive tZ(fi:FI):List Str->List Nat->Prop
 |nil:tZ fi [] []
 |cons {nm:Str}{k:NK}{i:Nat}{es:List Str}{is:List Nat}:fi.nv[i]?=Ss (nm,k)->fi.st k=WL->tZ fi es is->tZ fi (nm::es) (i::is)
theorem tZ.vQ{A:K2}{env:Env}{ca:Ca}{es:List Str}{is:List Nat}(N:bq fi env ca)(np:jX ca)(t:tZ fi es is):pG g fi A env ca (es.map λn=>bindName env n) is:=by
 induction t with
 |nil=>exact .nil
 |cons hv hk _ ih=>exact .cons (λW st r v l Rz s Q hr R k=>bindName_ (rp N np R hv (tJ N hv hk) (tK hk) hr k)) ih
noncomputable def adn(is:List Nat)(a:St->(List aS->St->PS)->PS):DS:=λst Q=>a st λrs ab=>cL (AK is rs) (Q .next ⟨lx ab.aD is rs.reverse,ab.aI⟩)
theorem jE{es vs:List M3}{Dv}{k kv:Nat}{tp vp pos:Pos}{is:List Nat}{names:List Str}(t:tZ fi names.reverse is)(hv:pH g d fi vs Dv)
 (hw:∀env ca,bq fi env ca->Xg [.Tuple es k tp] (.Tuple vs kv vp) env=pure (Ss names)) (hn:autoParam (names.length=is.length) t_rfl):eJ g d fi (.Assign [.Tuple es k tp] (.Tuple vs kv vp) pos) (adn is Dv):=by
 constructor;intro A W env ca st Q Rz s C N np h R;refine Assign_Tuple_swapped (aL (GM (is:=is) (Q:=λrs ab=>Q .next ⟨lx ab.aD is rs.reverse,ab.aI⟩) hv C N h R) λv s1 hh=>?_) rfl (hw env ca N);obtain⟨a,us,W1,rs,ab,L,rfl,ht,le,⟨hl,q⟩,r1,R1⟩:=hh;rw[show names.length=us.toArray.size by rw[Zl,r1.cz,hl,hn]];obtain⟨L',r2,hc⟩:=r1.D0;exact wpAny_unpackItems_tuple C.hh ht λh' hx=>AY (t.vQ N np) le r2 (by rw[Xh];exact hl) (R1.g8 (hc.append_right _)) hx q
end
section
variable {g:Gx}{d:Nat}{fi:FI}{A:K2}{W:Wd}{env:Env}{ca:Ca}{st:St}{Rz l:ai}{s:MY}
noncomputable def Ca.at(ca:Ca)(i:Nat)(a:MW):Ca:={ ca with pin:=λj=>if j=i then Ss a else ca.pin j }
theorem bq.at{i:Nat}{a:MW}(N:bq fi env ca):bq fi env (ca.at i a):=⟨N.kind,N.oI,N.blt,N.aD,N.qB,N.gl,N.sR,N.qC,N.inj,N.ck⟩
inductive UM(g:Gx)(W:Wd)(fi:FI)(env:Env)(ca:Ca)(st:St)(Rz:ai)(s:MY)(i:Nat)(v:AV)(rs:List (Option M5)):Prop
 |mk (a:MW) (l:ai) (o:im g W v (.ref a) l) (e:rs[i]?=Ss (Ss (.ref a))) (led:∀q∈l,∃o,s.heap.get? q.1=Ss o/\q.2 o) (hp:∀b,ca.pin i=Ss b->b=a) (R:am g W fi env (ca.at i a) ⟨st.aD.set i .none,st.aI⟩ (l++Rz) s)
theorem gy.MG{i:Nat}{v:AV}{rs:List (Option M5)}{m:Str->Option M5}{L ML:ai}(X:gy g W fi env ca st Rz s rs m L ML)(h:st.aD[i]?=Ss (.own v)){nm:Str}(hv:fi.nv[i]?=Ss (nm,NK.loc)):UM g W fi env ca st Rz s i v rs:=by
 obtain⟨r,l,L1,L2,e1,eL,e3,e4⟩:=X.aD.jL h;have led:=X.MF eL;subst eL;refine aj (e3.Ec) λx y9 e5=>?_;subst y9;refine a7 (e5.oL) λa y9=>?_;subst y9;have q:=e4 W (.Q _) .none _ [] (.none (r:=Ss (.ref a)));rw[tH e1] at q;refine⟨a,l,e5,e1,led,λb e=>?_,rs,m,L1++L2,ML,by rw[aW];exact X.len,X.ms,q,X.aI,X.di,X.cm.fI [[(env.locals,bN m)],bP ca.cu 0 fi.nv rs,L1,l,L2,ML,Rz] [[0],[1],[2,3,4],[5],[6]] [[0],[1],[2,4],[5],[3],[6]],X.bI,X.cv,λj b e=>?_,X.pin.2⟩
 ·have:=(X.pin.1 i b e).2;rw[e1] at this;cases this;rfl
 ·by_cases z:j=i
  ·have e:(if j=i then Ss a else ca.pin j)=Ss b:=e;rw[MS z] at e;(have y9:=K6 e;clear e;subst y9);rw[z];exact⟨⟨nm,hv⟩,e1⟩
  ·have e:(if j=i then Ss a else ca.pin j)=Ss b:=e;rw[MZ z] at e;exact X.pin.1 j b e
theorem am.MB{i:Nat}{a:MW}{v:AV}(R:am g W fi env (ca.at i a) st (l++Rz) s)(hv:im g W v (.ref a) l)(h:st.aD[i]?=Ss .none)(hp:∀b,ca.pin i=Ss b->b=a):
 am g W fi env ca ⟨st.aD.set i (.own v),st.aI⟩ Rz s:=by
 refine eg R λrs m L ML X=>?_
 refine ak (X.pin.1 i a (MS rfl)) λhl hr=>?_;obtain⟨r,l0,L1,L2,e1,rfl,e3,e4⟩:=X.aD.jL h;rw[hr] at e1;(have y9:=K6 e1;clear e1;subst y9)
 obtain rfl:=e3.qI;have q:=e4 W (.Q _) (.own v) (Ss (.ref a)) l (.own hv);rw[tH hr] at q;refine⟨rs,m,_,ML,by rw[aW];exact X.len,X.ms,q,X.aI,X.di,X.cm.fI [[(env.locals,bN m)],bP ca.cu 0 fi.nv rs,L1,L2,ML,l,Rz] [[0],[1],[2,3],[4],[5],[6]] [[0],[1],[2,5,3],[4],[6]],X.bI,X.cv,λj b e=>?_,X.pin.2⟩;by_cases hj:j=i
 ·subst hj;rw[hp b e];exact⟨hl,hr⟩
 ·exact X.pin.1 j b ((MZ hj).trans e)
inductive UN(g:Gx)(W:Wd)(fi:FI)(env:Env)(ca:Ca)(st:St)(Rz:ai)(s:MY)(i:Nat)(xs:List AV)(rs:List (Option M5)):Prop
 |mk (a:MW) (vs:List M5) (hl:aO g W xs vs) (e:rs[i]?=Ss (Ss (.ref a))) (ho:∃o,s.heap.get? a=Ss o/\bO vs o) (hp:∀b,ca.pin i=Ss b->b=a) (R:am g W fi env (ca.at i a) ⟨st.aD.set i .none,st.aI⟩ ((a,bO vs)::Rz) s)
theorem gy.vO{i:Nat}{xs:List AV}{rs:List (Option M5)}{m:Str->Option M5}{L ML:ai}(X:gy g W fi env ca st Rz s rs m L ML)(h:st.aD[i]?=Ss (.own (.lst xs))){nm:Str}(hv:fi.nv[i]?=Ss (nm,NK.loc)):UN g W fi env ca st Rz s i xs rs:=by obtain⟨a,l,o,e,led,hp,R⟩:=X.MG h hv;refine eX (o.jM) λa' vs e' y9 r=>?_;subst y9;obtain rfl:=Uv e';exact⟨_,_,r,e,led _ (.head _),hp,R⟩
theorem am.vN{i:Nat}{a:MW}{xs:List AV}{vs:List M5}(R:am g W fi env (ca.at i a) st ((a,bO vs)::Rz) s)(hv:aO g W xs vs)(h:st.aD[i]?=Ss .none)(hp:∀b,ca.pin i=Ss b->b=a):am g W fi env ca ⟨st.aD.set i (.own (.lst xs)),st.aI⟩ Rz s:=am.MB (l:=[_]) R (.lst hv) h hp
noncomputable def oS(x:Option an)(a:PS)(b c:AV->PS):PS:=@Option.casesOn an (λU=>PS) x .bot λs=>@an.casesOn (λU=>PS) s a b c
theorem ub{x:Option an}{a:PS}{b c:AV->PS}{G:Prop}(h:oS x a b c)(h1:x=Ss .none->a->G)(h2:∀v,x=Ss (.val v)->b v->G)(h3:∀v,x=Ss (.own v)->c v->G):G:=by
 induction x using Y8 with
 |none=>exact Zg h
 |some s=>
  induction s using an.casesOn with
  |none=>exact h1 rfl h
  |val v=>exact h2 v rfl h
  |own v=>exact h3 v rfl h
noncomputable def St.kQ(st:St)(i:Nat)(P:List AV->PS):PS:=oS st.aD[i]? .bot (λU=>.bot) λv=>v.fG P
theorem ue{i:Nat}{P:List AV->PS}(h:st.kQ i P):∃xs,st.aD[i]?=Ss (.own (.lst xs))/\P xs:=by exact ub h (λU z=>Zg z) (λU U z=>Zg z) λv e z=>by obtain⟨xs,rfl,q⟩:=AV.iJ z;exact⟨xs,e,q⟩
noncomputable def St.lZ(st:St)(i:Nat)(P:PS):PS:=oS st.aD[i]? P (λU=>.bot) λU=>.bot
theorem Gl{i:Nat}{P:PS}(h:st.lZ i P):st.aD[i]?=Ss .none/\P:=by exact ub h (λe z=>⟨e,z⟩) (λU U z=>Zg z) λU U z=>Zg z
theorem rC{h:Ex}{a:MW}{vs:List M5}{n:Nat}(f:Array M5->Array M5)(e:h.get? a=Ss { cls:=.type "list",data:=.seq vs.toArray n }):
 (∀b o,b≠a->h.get? b=Ss o->(h.update a (Vz f)).get? b=Ss o)/\∃o',(h.update a (Vz f)).get? a=Ss o'/\bO (f vs.toArray).toList o':=
 ⟨λb o hb q=>(alf h _ (Yu hb)).trans q,_,als _ e rfl,_,by simp[Vz];rfl⟩
theorem xe{i:Nat}{nm:Str}{k:NK}{p iN pos:Pos}{name:Str}{id:String}{args:List M3}{Q:M5->MY->Prop}{a:MW}{vs:List M5}{rs:List (Option M5)}{m:Str->Option M5}{L ML:ai}
 (N:bq fi env ca) (X:gy g W fi env ca st Rz s rs m L ML) (hv:fi.nv[i]?=Ss (nm,k)) (hk:k.rd=WL) (e1:rs[i]?=Ss (Ss (.ref a))) (ho:∃o,s.heap.get? a=Ss o/\bO vs o)
 (afB:PySem.Slot "list" name id) (hty:typeOf (.builtin id)=pure (.type "method_descriptor"))
 (afC:attributeBase (.Name nm p) name env (Er (.Name nm p) env)=Er (.Name nm p) env)
 (wn:((dP pos (sZ args env)).all (λx=>!x.1)&&(YK pos (YN [] env)).all (λx=>x.1.isSome)&&decide (args.length+([]:List YJ).length+(if ([]:List YJ).isEmpty then 0 else 1)<30))=WL)
 (nE:(iN.endLine==pos.line)=WL)
 (h:K8 (Mo g) A (Wo pos (.builtin id) [.ref a] (dP pos (sZ args env)) []) Q aK s):K8 (Mo g) A (Er (.Call (.Attribute (.Name nm p) name iN) args [] pos) env) Q aK s:=by
 obtain⟨o,ho,n,rfl⟩:=ho;refine wpAny_Call_method afC wn nE PySem.F.plainAttrs_list afB hty (ro N X hv hk e1 ⟨⟨_,ho,rfl⟩,λb e=>?_,h⟩)
 (injection e with y9;subst y9);exact⟨_,ho,rfl⟩
noncomputable def adk(i:Nat)(a:DE):DE:=λst Q=>st.kQ i λxs=>.rq (xs.length<=1000000) (a ⟨st.aD.set i .none,st.aI⟩ λr ab=>ab.lZ i (Q (.val .none) ⟨ab.aD.set i (.own (.lst (xs++[r.v]))),ab.aI⟩))
theorem DG{xs:List AV}{vs:List M5}{x:AV}{v:M5}(h:aO g W xs vs)(hx:Vr g W x v):aO g W (xs++[x]) (vs++[v]):=Al.kH h (.cons hx .nil)
theorem few1{e:M3}{pos:Pos}(h:cT e=WL)(env:Env):((dP pos (sZ [e] env)).all (λx=>!x.1)&&(YK pos (YN [] env)).all (λx=>x.1.isSome)&&decide (([e]:List M3).length+([]:List YJ).length+(if ([]:List YJ).isEmpty then 0 else 1)<30))=WL:=by rw[star_cons h];rfl
theorem g5{nm:Str}{p iN pos:Pos}{e:M3}{De:DE}(i:Nat)(he:au g d fi e De)(hv:autoParam (fi.nv[i]?=Ss (nm,NK.loc)) t_rfl)
 (ER:autoParam (cT e=WL) t_rfl)
 (wn:autoParam (∀env:Env,((dP pos (sZ [e] env)).all (λx=>!x.1)&&(YK pos (YN [] env)).all (λx=>x.1.isSome)&&decide (([e]:List M3).length+([]:List YJ).length+(if ([]:List YJ).isEmpty then 0 else 1)<30))=WL) t_exact_few1_rfl)
 (nE:autoParam ((iN.endLine==pos.line)=WL) t_rfl):au g d fi (.Call (.Attribute (.Name nm p) "append" iN) [e] [] pos) (adk i De):=by
 constructor;intro A W env ca st Q Rz s C N h ⟨rs,m,L,ML,X⟩;refine bV (ue h) λxs hs hz h=>?_;obtain⟨a,vs,hl,e1,ho,hp,R⟩:=X.vO hs hv;refine xe (args:=[e]) N X hv rfl e1 ho akM akL (wV env) (wn env) nE ?_;rw[show dP pos (sZ [e] env)=[(PO,Er e env)] by rw[star_cons ER env];rfl];refine al2 (eM (K:=λx ab=>ab.lZ i (Q (.val .none) ⟨ab.aD.set i (.own (.lst (xs++[x]))),ab.aI⟩)) he C N.at h R λv s1 W1 ab x le v1 q R1=>?_);refine ak (Gl q) λq1 q=>?_;obtain⟨o,ho,n,rfl⟩:=R1.cQ;refine ak (rC (λxs=>xs.push v) ho) λu1 u2=>?_;refine⟨vs.toArray,n,by rw[hl.jd];exact gO hz,ho,W1,.val .none,_,[],le,q,.val .none,(R1.ii (tk:=s1.toks) u1 u2).vN (xs:=xs++[x]) ?_ q1 hp⟩;rw[amF];exact (aO.aE le hl).kH (.cons v1 .nil)
end
theorem U8(m:Str->Option M5):mG m<=18:=by unfold mG;exact Le (alD _ _) (by simp)
theorem Gk:∀a b:Nat,a<18->b<18->aQ a=aQ b->a=b:=by
 have:∀a:Fin 18,∀b:Fin 18,aQ a.val=aQ b.val->a=b:=by decide +kernel
 intro a b ha hb h;exact congrArg Fin.val (this ⟨a,ha⟩ ⟨b,hb⟩ h)
noncomputable def fZ(m:Str->Option M5)(n:Str)(v:M5):Str->Option M5:=λy=>if y=n then Ss v else m y
theorem AL{α:Type}{p q:α->Bool}(h:∀x,p x=WL->q x=WL):∀l:List α,(l.filter p).length<=(l.filter q).length
 |[]=>EC _
 |x::l=>by
  have ih:=AL h l;rw[YT,YT];by_cases hp:p x=WL
  ·rw[MS hp,MS (h x hp)];simpa using ih
  ·rw[MZ hp];split
   ·rw[qR];exact AC ih
   ·exact ih
theorem Gj{α:Type}{p q:α->Bool}{a:α}(h:∀x,p x=WL->q x=WL)(hp:p a=PO)(hq:q a=WL):∀l:List α,a∈l->(l.filter p).length+1<=(l.filter q).length
 |[],m=>by exact aT m
 |x::l,m=>by
  rw[YT,YT];rcases K7.mp m with e|m
  ·subst e;rw[MZ (by rw[hp];decide),MS hq,qR];have:=AL h l;exact PH this
  ·have ih:=Gj h hp hq l m;by_cases hx:p x=WL
   ·rw[MS hx,MS (h x hx)];simp only[qR];exact PC ih
   ·rw[MZ hx];split
    ·rw[qR];exact Pz ih
    ·exact ih
theorem Gg{m:Str->Option M5}{f:Nat}{v:M5}(hf:f<18):mG m<=mG (fZ m (aQ f) v)/\(m (aQ f)=M4->mG m+1<=mG (fZ m (aQ f) v)):=by
 have mono:∀x,(m (aQ x)).isSome=WL->(fZ m (aQ f) v (aQ x)).isSome=WL:=by
  intro x hx;unfold fZ;split
  ·rfl
  ·exact hx
 refine⟨AL mono _,λh=>Gj (a:=f) mono (by rw[h];rfl) (by unfold fZ;rw[MS rfl];rfl) _ (by simpa using hf)⟩
theorem t8{k:M5}{n a:Str}{t:Tok}(h:k=.str a t):k.isStr n=(a==n):=by subst h;rfl
theorem alb{n:Str}{v:M5}{h:Int}{tk:Tok}:∀(l:List XR),(∀e∈l,∃a t,e.key=.str a t)->
 (∀e∈Yy (λe=>e.key.isStr n) (λe=>{ e with val:=v }) ⟨h,.str n tk,v⟩ l,∃a t,e.key=.str a t)/\
 (∀y,((Yy (λe=>e.key.isStr n) (λe=>{ e with val:=v }) ⟨h,.str n tk,v⟩ l).find? λe=>e.key.isStr y).map (·.val)=if y=n then Ss v else (l.find? λe=>e.key.isStr y).map (·.val))/\
 (Yy (λe=>e.key.isStr n) (λe=>{ e with val:=v }) ⟨h,.str n tk,v⟩ l).length=l.length+(if l.any (·.key.isStr n) then 0 else 1):=by
 intro l;induction l with
 |nil=>
  intro _;refine⟨by intro e he;simp[Yy] at he;subst he;exact⟨_,_,rfl⟩,λy=>?_,by simp[Yy]⟩;have:(Value.str n tk).isStr y=(n==y):=t8 rfl;simp only[Yy,List.findIdx?_nil,YR,YQ,this,List.find?_nil];by_cases hy:y=n
  ·subst hy;simp
  ·have:(n==y)=PO:=by simpa using λz=>hy z.symm
   simp[this,hy]
 |cons e l ih=>
  intro hk;refine dm (hk e (.head _)) λa t he=>?_;have Nb:∀e∈l,∃a t,e.key=.str a t:=λe h=>hk e (.tail _ h);refine ce (ih Nb) λi1 i2 i3=>?_;by_cases hn:e.key.isStr n=WL
  ·have Nc:a=n:=by rw[t8 he] at hn;exact K5.mp hn
   rw[putIn_hit (λe:XR=>e.key.isStr n) _ _ _ _ hn];refine⟨λx hx=>?_,λy=>?_,by simp[hn]⟩
   ·rcases K7.mp hx with rfl|hx
    ·exact⟨a,t,he⟩
    ·exact Nb x hx
   ·simp only[YQ,t8 he];by_cases hy:y=n
    ·subst hy;subst Nc;simp
    ·have:(a==y)=PO:=by simp;intro z;exact hy (z▸Nc)
     simp[this,hy]
  ·have hp:Yy (λe=>e.key.isStr n) (λe=>{ e with val:=v }) ⟨h,.str n tk,v⟩ (e::l)=e::Yy (λe=>e.key.isStr n) (λe=>{ e with val:=v }) ⟨h,.str n tk,v⟩ l:=by
    have jj:e.key.isStr n=PO:=by simpa using hn
    simp only[Yy,amm,jj];cases l.findIdx? λe=>e.key.isStr n<;>simp
   rw[hp];have jj:e.key.isStr n=PO:=by simpa using hn
   refine⟨λx hx=>?_,λy=>?_,by simp only[qR,i3,YC,jj,Us];exact Px⟩
   ·rcases K7.mp hx with rfl|hx
    ·exact⟨a,t,he⟩
    ·exact i1 x hx
   ·rw[t8 he] at jj;simp only[YQ,t8 he];by_cases hy:y=n
    ·subst hy;rw[jj];simp only;rw[i2];simp
    ·cases hay:a==y
     ·simp only;rw[i2]
     ·simp[hy]
theorem xa(l:List XR)(n:Str):nsFind l.toArray n=(l.find? λe=>e.key.isStr n).map (·.val):=by unfold nsFind findBy;rw[List.find?_toArray]
theorem UL{m:Str->Option M5}{o:Obj}{f:Nat}{v:M5}{h:Int}{tk:Tok}(p:cA m o)(hf:f<18):
 cA (fZ m (aQ f) v) (WG (aQ f) h (.str (aQ f) tk) v o)/\(WG (aQ f) h (.str (aQ f) tk) v o).isFreed=PO/\(lookIn (aQ f) o).isSome=WL/\
  ∃es n,(WG (aQ f) h (.str (aQ f) tk) v o).data=.dict es n/\es.size<=YL+1:=by
 obtain⟨⟨l⟩,ep,rfl,k1,k2,k3⟩:=p;have Nf:∀e∈l,∃a t,e.key=.str a t:=λe he=>k1 e (by simpa using he);refine ce (alb (n:=aQ f) (v:=v) (h:=h) (tk:=tk) l Nf) λi1 i2 i3=>?_;rw[putName_eq];have kU:(Yy (λe=>e.key.isStr (aQ f)) (λe=>{ e with val:=v }) ⟨h,.str (aQ f) tk,v⟩ l).length<=mG (fZ m (aQ f) v):=by
  rw[i3];have k3:l.length<=mG m:=by simpa using k3
  by_cases ha:l.any (·.key.isStr (aQ f))=WL
  ·rw[MS ha];have:=(Gg (m:=m) (v:=v) hf).1;exact FP this k3
  ·rw[MZ ha];have:m (aQ f)=M4:=by rw[<- k2,xa];rw[List.find?_eq_none.mpr];rfl;intro x hx hxx;exact ha (Z7.mpr ⟨x,hx,hxx⟩)
   have:=(Gg (v:=v) hf).2 this;exact Pt this k3
 refine⟨⟨_,_,rfl,λe he=>i1 e (by simpa using he),λy=>?_,by simpa using kU⟩,rfl,?_,_,_,rfl,?_⟩
 ·rw[xa,i2];unfold fZ;split
  ·rfl
  ·rw[<- k2,xa]
 ·unfold lookIn;simp only;split
  ·rfl
  ·rw[MZ];rfl;intro z;refine aj (Z7.mp z) λx hx hr=>?_;refine dm (Nf x hx) λa t e=>?_;unfold Vb at hr;rw[e] at hr;exact aX hr
 ·have:=U8 (fZ m (aQ f) v);unfold YL;simp only[Zl];exact Pi i3 this kU
section
variable {g:Gx}{d:Nat}{fi:FI}{A:K2}{W:Wd}{env:Env}{ca:Ca}{st:St}{Rz l:ai}{s:MY}
theorem U7:∀c,(gA c).all (λf=>decide (f<18))=WL
 |0=>rfl
 |1=>rfl
 |2=>rfl
 |3=>rfl
 |j4+4=>rfl
theorem Gf{c f:Nat}(h:f∈gA c):f<18:=by exact zL (Z6.mp (U7 c) f h)
theorem alc{a dd:MW}{c f:Nat}{o:Obj}{m:Str->Option M5}{v:M5}{tk0:Tok}{R:Xw->MY->Prop}{K:Frag}(X:K.In s.heap)(C:Gc g K c (gA c))(hf:f∈gA c)
 (h1:s.heap.get? a=Ss (s0 (g.κ c) dd)) (h2:s.heap.get? dd=Ss o) (hm:cA m o)
 (h:∀h' tk,(∀b x,b≠dd->s.heap.get? b=Ss x->h'.get? b=Ss x)->(∃o',h'.get? dd=Ss o'/\cA (fZ m (aQ f) v) o')->R (.ok (.ret .none)) { s with heap:=h',toks:=tk }) :
 ZC (Mo g) A (.call (.builtin "object.__setattr__") ⟨[.ref a,.str (aQ f) tk0,v],[]⟩) R s:=by
 refine aj (C.cd) λcd EP EQ=>?_;have I:InstAt s.heap a (s0 (g.κ c) dd) (g.κ c) (Ss o):=⟨h1,rfl,rfl,h2⟩
 have ht:takerIn K (g.κ c) (aQ f)=Ss M4:=by unfold takerIn;rw[C.My f hf];rfl
 refine osa_open X I C.po ht λb=>?_;refine EJ (zI (EJ (EJ (wpAny_loadPart h1 (EJ ((looks_clsIn X EP).here ?_))))));rw[EQ];refine zI (a:=Ss dd) (EJ (zI (EJ ?_)));unfold nsSet;refine EJ (EJ (wpAny_askSetting (zI (EJ (wpAny_mkText (EJ (wpAny_loadPart h2 ?_)))))));obtain⟨p1,p2,p3,kW,n',p4,p5⟩:=UL (v:=v) (h:=PyData.keyHash g.w.params (aQ f)) (tk:=s.toks) hm (Gf hf);refine nR hm λes ep y9 k1 k2 k3=>?_;subst y9
 dsimp only;have c0:(!es.any (·.key.isStr (aQ f))&&es.any (·.refKey))=PO:=by
  have:es.any (·.refKey)=PO:=by rw[<- Array.any_toList,<- Wc];intro z;refine aj (Z7.mp z) λx hx hr=>?_;refine dm (k1 x (by simpa using hx)) λa t e=>?_;unfold Vb at hr;rw[e] at hr;exact aX hr
  rw[this,X6]
 rw[aRefKeyMayBeTheName_at,c0];have D':=als (WG (aQ f) (PyData.keyHash g.w.params (aQ f)) (.str (aQ f) s.toks) v) h2 p2;refine wpAny_updatePart h2 ?_;refine EJ (wpAny_lookBehind D' (by rw[p4];exact pastItsLine_dict p5) ?_);exact zI (h _ _ (λb x hb e=>(alf s.heap _ (Yu hb)).trans e) ⟨_,D',p1⟩)
theorem alW{a dd:MW}{c f:Nat}{o:Obj}{m:Str->Option M5}{v:M5}{Q:Unit->MY->Prop}(G:GOK2 g)(B:∀a o,g.mh.heap.get? a=Ss o->s.heap.get? a=Ss o)(hc:c<4)(hf:f∈gA c)
 (h1:s.heap.get? a=Ss (s0 (g.κ c) dd)) (h2:s.heap.get? dd=Ss o) (hm:cA m o)
 (h:∀h' tk,(∀b x,b≠dd->s.heap.get? b=Ss x->h'.get? b=Ss x)->(∃o',h'.get? dd=Ss o'/\cA (fZ m (aQ f) v) o')->Q () { s with heap:=h',toks:=tk }) :
 K8 (Mo g) A (setAttr (.ref a) (aQ f) v) Q aK s:=by
 refine aj (G.Vy) λK hK qV=>?_;have C:=qV c hc;have X:K.In s.heap:=hK.keeps B;have I:InstAt s.heap a (s0 (g.κ c) dd) (g.κ c) (Ss o):=⟨h1,rfl,rfl,h2⟩
 exact set_plain X I C.sa (alc (s:={ s with toks:=s.toks+1 }) X C hf h1 h2 hm h)
noncomputable def ir:List (Nat×an)->Nat->an->List (Nat×an)
 |[],f,x=>[(f,x)]
 |(f',y)::fs,f,x=>if f'=f then (f,x)::fs else (f',y)::ir fs f x
theorem fV.ii{f:Nat}{v:M5}{fs:List (Nat×an)}{m:Str->Option M5}{L:ai}(h:fV g W fs m L)(hf:f<18)(gv:∀p∈fs,p.1<18)(hn:∀p∈fs,p.1≠f):fV g W fs (fZ m (aQ f) v) L:=by
 induction fs generalizing L with
 |nil=>cases h;exact .nil
 |cons p fs ih=>
  obtain⟨f',y⟩:=p;cases h with
  |cons e1 e2 e3=>refine .cons ?_ e2 (ih e3 (λp hp=>gv p (.tail _ hp)) λp hp=>hn p (.tail _ hp));unfold fZ;rw[MZ];exact e1;intro z;exact hn _ (.head _) (Gk _ _ (gv _ (.head _)) hf z)
theorem xb{f f':Nat}{x y:an}{fs:List (Nat×an)}:ir ((f',y)::fs) f x=if f'=f then (f,x)::fs else (f',y)::ir fs f x:=rfl
inductive UK(g:Gx)(W:Wd)(fs:List (Nat×an))(m:Str->Option M5)(L l':ai):Prop
 |mk (L' X:ai) (r:fV g W fs m L') (p:(L++l').Perm (X++L'))
set_option tactic.hygienic true in
theorem fV.cI{f:Nat}{v:M5}{fs:List (Nat×an)}{m:Str->Option M5}{L l':ai}{x:an}(h:fV g W fs m L)(hf:f<18)(gv:∀p∈fs,p.1<18)(hn:(fs.map (·.1)).Nodup)(hx:ee g W x (Ss v) l'):
 UK g W (ir fs f x) (fZ m (aQ f) v) L l':=by
 induction fs generalizing L with
 |nil=>cases h;have:=fV.cons (m:=fZ m (aQ f) v) (fs:=[]) (f:=f) (MS rfl) hx .nil;rw[zB] at this;exact⟨l',[],this,.rfl⟩
 |cons p fs ih=>
  obtain⟨f',y⟩:=p;rw[Zv,bS] at hn;cases h with
  |cons e1 e2 e3=>
   rename_i w l1 L1;rw[xb];by_cases z:f'=f
   ·rw[MS z];subst z;exact⟨l'++L1,l1,.cons (MS rfl) hx (e3.ii hf (λp hp=>gv p (.tail _ hp)) λp hp z=>hn.1 (zK.mpr ⟨p,hp,z⟩)),tG [l1,L1,l'] [[0,1],[2]] [[0],[2,1]]⟩
   ·rw[MZ z];obtain⟨L',X,i1,i2⟩:=ih e3 (λp hp=>gv p (.tail _ hp)) hn.2;refine⟨l1++L',X,.cons ?_ e2 i1,(tG [l1,L1,l'] [[0,1],[2]] [[0],[1,2]]).trans ((i2.append_left l1).trans (Av [l1,X,L'] [0,1,2] [1,0,2]))⟩;exact (MZ λq=>z (Gk _ _ (gv _ (.head _)) hf q)).trans e1
set_option tactic.hygienic true in
theorem AT{fs:List (Nat×an)}{f:Nat}{x:an}:(∀p∈fs,∃q∈ir fs f x,q.1=p.1)/\∃q∈ir fs f x,q.1=f:=by
 induction fs with
 |nil=>exact⟨(λp hp=>nomatch hp),(f,x),.head _,rfl⟩
 |cons p fs ih=>
  obtain⟨f',y⟩:=p;rw[xb];split
  ·rename_i z;subst z;exact⟨λp hp=>by
    rcases K7.mp hp with rfl|hp
    ·exact⟨_,.head _,rfl⟩
    ·exact⟨p,.tail _ hp,rfl⟩,_,.head _,rfl⟩
  ·refine⟨λp hp=>?_,?_⟩
   ·rcases K7.mp hp with rfl|hp
    ·exact⟨_,.head _,rfl⟩
    ·refine aj (ih.1 p hp) λq hq e=>?_;exact⟨q,.tail _ hq,e⟩
   ·refine aj (ih.2) λq hq e=>?_;exact⟨q,.tail _ hq,e⟩
def alr(fs:List (Nat×an)):Prop:=(∀p∈fs,p.1<18)/\(fs.map (·.1)).Nodup
noncomputable def AQ:List Nat->Bool
 |[]=>WL
 |x::l=>!l.contains x&&AQ l
noncomputable def uf(mo:MO)(f:Nat):Bool:=rA mo.cls f&&(mo.fs.all λp=>Xu p.1 18)&&AQ (mo.fs.map (·.1))
theorem ale{l:List Nat}(h:AQ l=WL):l.Nodup:=by
 induction l with
 |nil=>exact .nil
 |cons x l ih=>refine ak (zA.mp h) λh1 h2=>?_;rw[bS];exact⟨λz=>(by rw[Vh.mpr z] at h1;exact aX h1),ih h2⟩
theorem ala{mo:MO}{f:Nat}(h:uf mo f=WL):(mo.cls<4/\f∈gA mo.cls)/\alr mo.fs:=by refine ak (zA.mp h) λh1 h3=>?_;refine ak (zA.mp h1) λh1 h2=>?_;exact⟨w9 h1,λp hp=>WZ (l9 (Z6.mp h2 p hp)),ale h3⟩
theorem alV{k f:Nat}{mo:MO}{a:MW}{x:an}{v:M5}{Q:Unit->MY->Prop}(G:GOK2 g)(R:am g W fi env ca st (l++Rz) s)(ha:W.φ k=Ss a)(hm:st.aI[k]?=Ss (Ss mo))(ES:uf mo f=WL)
 (hx:ee g W x (Ss v) l) (h:∀s',am g W fi env ca ⟨st.aD,st.aI.set k (Ss ⟨mo.cls,ir mo.fs f x⟩)⟩ Rz s'->Q () s'):K8 (Mo g) A (setAttr (.ref a) (aQ f) v) Q aK s:=by
 obtain⟨⟨hc,hf⟩,ho⟩:=ala ES;refine eg R λrs m L ML X=>?_
 obtain⟨a',dd,mm,l1,L1,L2,q1,rfl,q3,q4,q5,q6⟩:=X.aI.jL hm;rw[kI,ha] at q1;(have y9:=K6 q1;clear q1;subst y9)
 have H:bA W.F ([]++(dd,cA mm)::([(a,λo=>o=s0 (g.κ mo.cls) dd),(env.locals,bN m)]++(bP ca.cu 0 fi.nv rs++(L++(L1++(l1++(L2++(l++Rz)))))))) s.heap:=
  X.cm.fI [[(env.locals,bN m)],bP ca.cu 0 fi.nv rs,L,L1,[(a,λo=>o=s0 (g.κ mo.cls) dd)],[(dd,cA mm)],l1,L2,l,Rz] [[0],[1],[2],[3,4,5,6,7],[8],[9]] [[5],[4,0],[1],[2],[3],[6],[7],[8],[9]]
 refine aj (H.b8 (a,λo=>o=s0 (g.κ mo.cls) dd) (.tail _ (.head _))) λo1 e1 p1=>?_;refine aj (H.b8 (dd,cA mm) (.head _)) λo2 e2 p2=>?_;subst p1;refine alW G (λa o e=>X.cm.fz _ _ (X.bI _ _ e)) hc hf e1 e2 p2 λh' tk k1 k2=>h _ ?_;obtain⟨L',XX,f1,f2⟩:=q3.cI (Gf hf) ho.1 ho.2 hx;have M':=q5 W (.Q _) (ir mo.fs f x) _ L' f1 (λnm hn=>by
  unfold fZ;have fh:nm≠aQ f:=λz=>by refine aj ((AT (fs:=mo.fs) (f:=f) (x:=x)).2) λq hq e=>?_;exact hn q hq (by rw[e,z])
  rw[MZ fh];exact q4 nm λp hp=>by refine aj ((AT (f:=f) (x:=x)).1 p hp) λq hq e=>?_;rw[<- e];exact hn q hq)
 have H1:=(H.ii k1 k2).fI [[(dd,cA (fZ mm (aQ f) v))],[(a,λo=>o=s0 (g.κ mo.cls) dd)],[(env.locals,bN m)],bP ca.cu 0 fi.nv rs,L,L1,l1,L2,l,Rz] [[0],[1,2],[3],[4],[5],[6],[7],[8],[9]] [[6,8],[2],[3],[4],[5],[1],[0],[7],[9]];have H2:=((H1.g8 (f2.append_right _)).fI [XX,L',[(env.locals,bN m)],bP ca.cu 0 fi.nv rs,L,L1,[(a,λo=>o=s0 (g.κ mo.cls) dd)],[(dd,cA (fZ mm (aQ f) v))],L2,Rz] [[0,1],[2],[3],[4],[5],[6],[7],[8],[9]] [[0],[2],[3],[4],[5,6,7,1,8],[9]]).fS;exact⟨rs,m,L,_,X.len,X.ms,X.aD,M',λi hi=>X.di i (by rw[aW] at hi;exact hi),H2,X.bI,X.cv.heap,X.pin⟩
noncomputable def y7(st:St)(f:Nat)(x:AV)(y:an)(Q:St->PS):PS:=x.lY λk=>st.oQ k λmo=>cL (uf mo f) (Q ⟨st.aD,st.aI.set k (Ss ⟨mo.cls,ir mo.fs f y⟩)⟩)
theorem AX{x:AV}{u v:M5}{y:an}{f:Nat}{P:St->PS}{Q:Unit->MY->Prop}(G:GOK2 g)(R:am g W fi env ca st (l++Rz) s)(hu:Vr g W x u)(hy:ee g W y (Ss v) l)(h:y7 st f x y P)(q:∀bM s',P bM->am g W fi env ca bM Rz s'->Q () s'):
 K8 (Mo g) A (setAttr u (aQ f) v) Q aK s:=by
 obtain⟨k,rfl,h1⟩:=AV.qz h;refine aj (uc h1) λmo hm h2=>?_;refine ak (fM h2) λh3 h4=>?_;refine aj (hu.oL) λa ha y9=>?_;subst y9;exact alV G R ha hm h3 hy λs' R'=>q _ s' h4 R'
noncomputable def adA(f:Nat)(b:DR)(a:DE):DS:=λst Q=>a st λr ab=>b ab λp x=>bY p (y7 ab f x (.val r.v) λaz=>Q .next az)
noncomputable def adz(f:Nat)(b:DR)(a:DE):DS:=λst Q=>a st λr ab=>b ab λp x=>bY p (y7 ab f x r.jN λaz=>Q .next az)
theorem fF{o e:M3}{Do:DR}{De:DE}{nm:Str}{ap pos:Pos}(f:Nat)(G:GOK2 g)(ho:bB g d fi o Do)(he:au g d fi e De)(hn:autoParam (nm=aQ f) t_rfl)
 (hs:autoParam (mI e=WL) t_rfl):eJ g d fi (.Assign [.Attribute o nm ap] e pos) (adA f Do De):=by
 constructor;intro A W env ca st Q Rz s C N np h R;refine Vu (eM (K:=λy ab=>Do ab λp x=>bY p (y7 ab f x (.val y) λaz=>Q .next az)) he C N h R λv s1 W1 ab y le v1 q R1=>?_) (noSwap hs env);refine ho.C C N q R1 λu x tk v2 h2 R2=>?_;subst hn;exact AX (l:=[]) G R2 v2 (.val v1) h2 λaz s3 q R3=>⟨W1,.next,az,le,q,trivial,R3⟩
theorem io.sl{r:aS}{v:M5}(h:io g W r v l):ee g W r.jN (Ss v) l:=by induction h with|val h=>exact .val h|own h=>exact .own h
theorem adh{o e:M3}{Do:DR}{De:DE}{nm:Str}{ap pos:Pos}(f:Nat)(G:GOK2 g)(ho:bB g d fi o Do)(he:au g d fi e De)(hn:autoParam (nm=aQ f) t_rfl)
 (hs:autoParam (mI e=WL) t_rfl):eJ g d fi (.Assign [.Attribute o nm ap] e pos) (adz f Do De):=by
 constructor;intro A W env ca st Q Rz s C N np h R;refine Vu (he.C C N h R λv s1 W1 r ab l le q rr R1=>?_) (noSwap hs env);refine ho.C C N q R1 λu x tk v2 h2 R2=>?_;subst hn;exact AX G R2 v2 rr.sl h2 λaz s3 q R3=>⟨W1,.next,az,le,q,trivial,R3⟩
end
section
variable {g:Gx}{d:Nat}{fi:FI}{A:K2}{W:Wd}{env:Env}{ca:Ca}{st:St}{Rz l:ai}{s:MY}
inductive UQ(P:Option Int->PS)(s:MY)(v:M5)(s':MY):Prop
 |mk (lo:Option Int) (tk:Nat) (e:s'={ s with toks:=tk }) (q:P lo) (p:IsPart v lo)
def adK(g:Gx)(d:Nat)(fi:FI)(x:Option M3)(D:St->(Option Int->PS)->PS):Prop:=∀(A:K2) (W:Wd) (env:Env) (ca:Ca) (st:St) (P:Option Int->PS) (Rz:ai) (s:MY),
 bF d A->bq fi env ca->D st P->am g W fi env ca st Rz s->K8 (Mo g) A (evalPart x env) (UQ P s) aK s
structure SP(g:Gx)(d:Nat)(fi:FI)(x:Option M3)(D:St->(Option Int->PS)->PS):Prop where
 aN:adK g d fi x D
theorem SP.C{x:Option M3}{D:St->(Option Int->PS)->PS}{P:Option Int->PS}{M:M5->MY->Prop}(ha:SP g d fi x D)(C:bF d A)(N:bq fi env ca)(h:D st P)(R:am g W fi env ca st Rz s)
 (k:∀u lo tk,P lo->IsPart u lo->M u { s with toks:=tk }):K8 (Mo g) A (evalPart x env) M aK s:=aL (ha.aN A W env ca st P Rz s C N h R) λu s1 ⟨lo,tk,e,q,p⟩=>e▸k u lo tk q p
theorem SP.none:SP g d fi M4 (λU P=>P M4):=by constructor;intro A W env ca st P Rz s C N h R;rw[Xe];exact zI ⟨_,s.toks,rfl,h,.none⟩
theorem SP.some{e:M3}{Da:DR}(ha:bB g d fi e Da):SP g d fi (Ss e) (λst P=>Da st λb x=>bY b (x.L λi=>P (Ss i))):=by constructor;intro A W env ca st P Rz s C N h R;rw[Xf];refine ha.C C N h R λv x tk hv h1 R1=>?_;refine fq h1 hv λi t h2=>?_;exact⟨_,tk,rfl,h2,.int _ _⟩
noncomputable def cx{α:Type}(l:List α)(lo hi:Option Int):List α:=(l.drop (kms_lo lo l.length)).take (kms_hi hi l.length-kms_lo lo l.length)
theorem LD{xs:List AV}{vs:List M5}(h:aO g W xs vs)(lo hi:Option Int):aO g W (cx xs lo hi) (kms_pick vs lo hi):=by unfold Mine.Internal.cx kms_pick;rw[h.cz];exact Al.D3 (Al.fS h _) _
theorem GL{nC nD:M3}{o i:M5}{T id:String}{ops:List M5}{Q:M5->MY->Prop}(hT:s.TypeIs o T)(hl:typeLookup (.type T) "__getitem__"=pure (Ss (.builtin id)))(h:K8 (Mo g) A (Yd o i) Q aK s)
 (hs:XT nD PO o i=operate ops (Yd o i)):K8 (Mo g) A (Xc nC nD o i) Q aK s:=by
 refine kba_turn (value':=YO (Wz "_") ⟨0,0,0,0⟩) (λU=>rfl) ?_;unfold Xc;refine EJ ?_;rw[getitemInPython_of_ne hT.not_modules];refine EJ (wpAny_specialOf hT hl ?_);have fin:K8 (Mo g) A (XT nD PO o i) (λr oZ=>K8 (Mo g) A (letTemporaryGo (YO (Wz "_") ⟨0,0,0,0⟩) o r >>= λU=>pure r) Q aK oZ) aK s:=by rw[hs];exact wpAny_operating (Ws h (λr oZ afD=>EJ (zI (zI afD))) λU U x=>x)
 first
  |exact zI (EJ fin)
  |exact wpAny_bind (wpAny_pure (wpAny_bind fin))
  |exact wpAny_bind fin
def U1(gK gL step:Option M3)(p:Pos):Prop:=∀o i,∃ops,XT (.Slice gK gL step p) PO o i=operate ops (Yd o i)
theorem Gv(gK gL st:Option M3)(p:Pos):U1 gK gL st p:=by intro o i;induction gK<;>induction gL<;>induction st<;>exact⟨_,by with_unfolding_all rfl⟩
theorem AZ{nC:M3}{gK gL step:Option M3}{p:Pos}{a:MW}{vs:List M5}{xs:List AV}{n:Nat}{vl vu vk:M5}{lo hi sk:Option Int}{Q:M5->MY->Prop}(R:am g W fi env ca st Rz s)
 (ho:s.heap.get? a=Ss { cls:=.type "list",data:=.seq vs.toArray n }) (hz:vs.length<=1000000) (pl:IsPart vl lo) (pu:IsPart vu hi) (pk:IsPart vk sk) (h0:sk≠Ss 0) (r:aO g W xs (slicePick vs.toArray lo hi sk).toList) (q:∀v s',iQ g W fi env ca st Rz (λr=>.leaf (r=.own (.lst xs))) v s'->Q v s') :
 K8 (Mo g) A (Xc nC (.Slice gK gL step p) (.ref a) (.ref s.heap.objs.size)) Q aK { s with heap:=s.heap.push { cls:=.type "slice",data:=.fields #[vl,vu,vk] } }:=by
 refine a7 (Gv gK gL step p (.ref a) (.ref s.heap.objs.size)) λops hs=>?_;have dY:(s.heap.push { cls:=.type "slice",data:=.fields #[vl,vu,vk] }).get? a=Ss { cls:=.type "list",data:=.seq vs.toArray n }:=Zf _ ho;refine GL (s:={ s with heap:=s.heap.push { cls:=.type "slice",data:=.fields #[vl,vu,vk] } }) (rB dY rfl) VW ?_ hs;refine wpAny_getItem_list_slice (cU dY) (VR s.heap vl vu vk) pl pu pk h0 (q _ _ ?_) (by unfold YL;simp;exact P3 hz);have R1:am g W fi env ca st Rz { s with heap:=s.heap.push { cls:=.type "slice",data:=.fields #[vl,vu,vk] } }:=R.jJ (tk:=s.toks) λb o e=>Zf _ e;have:=As (P:=λr=>.leaf (r=.own (.lst xs))) (tk:=s.toks) (n:=0) rfl r R1;simpa using this
theorem Gs{vs:List M5}{lo hi:Option Int}:(slicePick vs.toArray lo hi M4).toList=kms_pick vs lo hi:=by rw[kms_pick_eq]
theorem AP{b:Bool}{xs:List AV}{v:M5}(h:Vs g W s.heap b (.lst xs) v)(R:am g W fi env ca st Rz s):Am g W "list" xs v s.heap:=by
 cases h with
 |val h=>exact mH h R
 |lst r e=>exact⟨_,_,_,rfl,r,e⟩
abbrev DP:=St->(Option Int->PS)->PS
noncomputable def xd(x:AV)(ab:St)(lo hi:DP)(Q:aS->St->PS):PS:=x.fG λxs=>.rq (xs.length<=1000000) (lo ab λl=>hi ab λh=>Q (.own (.lst (cx xs l h))) ab)
theorem GK{nC:M3}{gK gL:Option M3}{Dl Dh:DP}{p:Pos}{b:Bool}{x:AV}{u:M5}{Q:aS->St->PS}(C:bF d A)(N:bq fi env ca)(R:am g W fi env ca st Rz s)(v1:Vs g W s.heap b x u)(hl:SP g d fi gK Dl)(hh:SP g d fi gL Dh)(h1:xd x st Dl Dh Q):
 K8 (Mo g) A (Er (.Slice gK gL M4 p) env) (λi s'=>K8 (Mo g) A (Xc nC (.Slice gK gL M4 p) u i) (lg g W fi env ca Rz Q) aK s') aK s:=by
 obtain⟨xs,rfl,hz,h2⟩:=AV.iJ h1;refine Wx (hl.C C N h2 R λvl lo eH h2 p1=>?_);refine hh.C C N h2 R.Z λvu hi tf h3 p2=>?_;have R3:am g W fi env ca st Rz { s with toks:=tf }:=R.Z;rw[Xe];refine zI ?_;obtain⟨a,vs,n,rfl,r1,ho⟩:=AP (s:={ s with toks:=tf }) v1 R3;exact AZ R3 ho (by rw[r1.cz];exact hz) p1 p2 .none (by intro z;exact aY z) (by rw[Gs];exact LD r1 lo hi) λv s4 hp=>iQ.e (hp.aE λr hr=>by rw[hr];exact h3)
theorem jG{a:M3}{gK gL:Option M3}{Da:DR}{Dl Dh:DP}{p pos:Pos}(ha:bB g d fi a Da)(hl:SP g d fi gK Dl)(hh:SP g d fi gL Dh):
 au g d fi (.Subscript a (.Slice gK gL M4 p) pos) (λst Q=>Da st λU x=>xd x st Dl Dh Q):=by
 constructor;intro A W env ca st Q Rz s C N h R;refine Yh (ha.vP C N h R λu b x tk h1 v1=>?_);exact GK (s:={ s with toks:=tk }) C N R.Z v1 hl hh h1
theorem Lw{a:M3}{gK gL:Option M3}{Da:DE}{Dl Dh:DP}{p pos:Pos}(ha:au g d fi a Da)(hl:SP g d fi gK Dl)(hh:SP g d fi gL Dh):
 au g d fi (.Subscript a (.Slice gK gL M4 p) pos) (λst Q=>Da st λr ab=>xd r.v ab Dl Dh Q):=by
 constructor;intro A W env ca st Q Rz s C N h R;refine Yh (eM (K:=λx ab=>xd x ab Dl Dh Q) ha C N h R λu s1 W1 ab x le v1 h1 R1=>?_);exact aL (GK C N R1 (.val v1) hl hh h1) λi s2 h2=>aL h2 λv s3=>cF le
noncomputable def adv(a:DR):DE:=λst Q=>a st λU x=>x.fG λxs=>.rq (xs.length<=1000000) (Q (.own (.lst xs.reverse)) st)
theorem Lv{a e:M3}{Da:DR}{De:DR}{p pos:Pos}(ha:bB g d fi a Da)(he:bB g d fi e De)(hm:∀st P,P PO (.int (-1))->De st P):
 au g d fi (.Subscript a (.Slice M4 M4 (Ss e) p) pos) (adv Da):=by
 constructor;intro A W env ca st Q Rz s C N h R;refine Yh (ha.vP C N h R λu b x tk h1 v1=>?_);obtain⟨xs,rfl,hz,h2⟩:=AV.iJ h1;refine Wx ?_;rw[Xe,Xf];refine zI (zI ?_);refine aL (he.aN A W env ca st (λb x=>bY b (.leaf (x=.int (-1)))) Rz _ C N (hm st _ rfl) R.Z) λvk s3 hk=>?_;obtain⟨y,tf,rfl,rfl,v3,R3⟩:=hk.nz R.Z;obtain⟨a,vs,n,rfl,r1,ho⟩:=AP (s:={ s with toks:=tf }) v1 R3
 (have y9:=Vr.kO v3;clear v3;rcases y9 with ⟨t,y9⟩;subst y9);exact AZ R3 ho (by rw[r1.cz];exact hz) .none .none (.int _ _) (by intro z;cases z) (by rw[krv_pick];simpa using Al.D0 r1) λv s4 hp=>iQ.e (hp.aE λr hr=>by rw[hr];exact h2)
noncomputable def adu(i:Nat):DE:=λst Q=>st.kQ i λxs=>.rq (xs.length<=1000000) (.ex λys=>.ex λx=>.rq (xs=ys++[x]) (Q (.val x) ⟨st.aD.set i (.own (.lst ys)),st.aI⟩))
theorem alv{us:List M5}{v:M5}:(akR (us++[v]).toArray ((us++[v]).toArray.size-1)).toList=us:=by simp[akR];rw[List.eraseIdx_append_of_length_le (EC _),Wu];exact zB _
theorem DF{nm:Str}{p iN pos:Pos}(i:Nat)(hv:autoParam (fi.nv[i]?=Ss (nm,NK.loc)) t_rfl)(nE:autoParam ((iN.endLine==pos.line)=WL) t_rfl):au g d fi (.Call (.Attribute (.Name nm p) "pop" iN) [] [] pos) (adu i):=by constructor;intro A W env ca st Q Rz s C N h ⟨rs,m,L,ML,X⟩;obtain⟨xs,hs,hz,ys,x,rfl,h⟩:=ue h;obtain⟨a,vs,hl,e1,ho,hp,R⟩:=X.vO hs hv;refine xe (args:=[]) N X hv rfl e1 ho PySem.F.slot_list_pop PySem.F.type_list_pop (wV env) rfl nE ?_;obtain⟨o,ho,n,rfl⟩:=R.cQ;rw[<- hl.cz] at hz;refine eX (hl.Mm) λus v y9 r1 v1=>?_;subst y9;refine ak (rC (λxs=>xs.eraseIdxIfInBounds ((us++[v]).toArray.size-1)) ho) λu1 u2=>?_;refine PySem.P.pop_list ho (y:=v) (by simp) ?_ (by rw[Zl];exact gO hz);have R2:=R.ii (tk:=s.toks) u1 u2;rw[alv] at R2;have R3:=R2.vN (xs:=ys) r1 (Xp (sV.mp hs).1) hp;rw[Wt] at R3;exact⟨W,.val x,_,[],.Q _,h,.val v1,R3⟩
noncomputable def ads(i:Nat)(a:DE):DE:=λst Q=>st.kQ i λxs=>a ⟨st.aD.set i .none,st.aI⟩ λr ab=>ab.lZ i (r.v.fG λys=>.rq (xs.length+ys.length<=1000000) (Q (.val .none) ⟨ab.aD.set i (.own (.lst (xs++ys))),ab.aI⟩))
theorem Lu{nm:Str}{p iN pos:Pos}{e:M3}{De:DE}(i:Nat)(he:au g d fi e De)(hv:autoParam (fi.nv[i]?=Ss (nm,NK.loc)) t_rfl)
 (ER:autoParam (cT e=WL) t_rfl)
 (wn:autoParam (∀env:Env,((dP pos (sZ [e] env)).all (λx=>!x.1)&&(YK pos (YN [] env)).all (λx=>x.1.isSome)&&decide (([e]:List M3).length+([]:List YJ).length+(if ([]:List YJ).isEmpty then 0 else 1)<30))=WL) t_exact_few1_rfl)
 (nE:autoParam ((iN.endLine==pos.line)=WL) t_rfl):au g d fi (.Call (.Attribute (.Name nm p) "extend" iN) [e] [] pos) (ads i De):=by
 constructor;intro A W env ca st Q Rz s C N h ⟨rs,m,L,ML,X⟩;refine aj (ue h) λxs hs h=>?_;obtain⟨a,vs,hl,e1,ho,hp,R⟩:=X.vO hs hv;refine xe (args:=[e]) N X hv rfl e1 ho PySem.F.slot_list_extend PySem.F.type_list_extend (wV env) (wn env) nE ?_;rw[show dP pos (sZ [e] env)=[(PO,Er e env)] by rw[star_cons ER env];rfl];refine PySem.P.extend_list (eM (K:=λx ab=>ab.lZ i (x.fG λys=>.rq (xs.length+ys.length<=1000000) (Q (.val .none) ⟨ab.aD.set i (.own (.lst (xs++ys))),ab.aI⟩))) he C N.at h R λv s1 W1 ab x le v1 q R1=>?_);refine ak (Gl q) λq1 q=>?_;obtain⟨ys,rfl,hz,q⟩:=AV.iJ q;obtain⟨o,ho,n,rfl⟩:=R1.cQ;obtain⟨b,us,n2,rfl,r2,zN⟩:=mH v1 R1;refine ak (rC (λxs=>xs++us.toArray) ho) λu1 u2=>?_;have z1:=hl.jd;have z2:=r2.jd;refine⟨b,vs.toArray,us.toArray,n,n2,by rw[z1];exact gO (Le (oW _ _) hz),by rw[z1,z2];exact ZP (gO hz),?_,rfl,ho,zN,?_⟩
 ·rw[z1,z2,show akN (xs.length+ys.length)=PO from decide_eq_false (Zq.mpr (gO hz))];rw[X6];exact qH
 ·have R2:=R1.ii (tk:=s1.toks) u1 u2;exact⟨W1,.val .none,_,[],le,q,.val .none,R2.vN (xs:=xs++ys) (by simpa using Al.kH (aO.aE le hl) r2) q1 hp⟩
end
def dA(l:MW)(i:Nat)(o:Obj):Prop:=o.cls=.type "list_iterator"/\o.data=.fields #[.ref l,.int i 0]
def AG(l:MW)(i:Nat)(o:Obj):Prop:=o.cls=.type "tuple_iterator"/\o.data=.fields #[.ref l,.int i 0]
def pI(x:Int)(n:Nat)(o:Obj):Prop:=o={ cls:=.type "range_iterator",dict:=M4,data:=.fields #[YI x,YI n,YI 1],slots:=#[] }
noncomputable def kb(x:Int)(n:Nat):List AV:=(ZY n).map λk:Nat=>.int (x+(k:Int))
theorem AN(x:Int)(n:Nat):kb x (n+1)=.int x::kb (x+1) n:=by
 unfold kb;rw[ali,Zv,Za];congr 1
 ·simp
 ·apply YG;intro k _;simp;exact Qk
inductive hL(g:Gx)(W:Wd):M5->List AV->ai->Prop
 |list {l it:MW}{o:Obj}{vs:List M5}{xs:List AV}{i:Nat}:W.F l=Ss o->bO vs o->aO g W xs (vs.drop i)->hL g W (.ref it) xs [(it,dA l i)]
 |tup {l it:MW}{o:Obj}{vs:List M5}{xs:List AV}{i:Nat}:W.F l=Ss o->jp vs o->aO g W xs (vs.drop i)->hL g W (.ref it) xs [(it,AG l i)]
 |range {it:MW}{x:Int}{n:Nat}:hL g W (.ref it) (kb x n) [(it,pI x n)]
theorem hL.aE{g:Gx}{W W':Wd}(le:W.J W'){it:M5}{xs:List AV}{L:ai}(h:hL g W it xs L):hL g W' it xs L:=by
 induction h with
 |list e p r=>exact .list (le.F _ _ e) p (r.aE le)
 |tup e p r=>exact .tup (le.F _ _ e) p (r.aE le)
 |range=>exact .range
section
variable {g:Gx}{d:Nat}{fi:FI}{A:K2}{W:Wd}{env:Env}{ca:Ca}{st:St}{Rz l:ai}{s:MY}
theorem am.oP{h':Ex}{tk:Nat}{a:MW}{p p':Obj->Prop}(R:am g W fi env ca st ((a,p)::Rz) s)(k:Heap.SameBut a s.heap h')(e:∃o',h'.get? a=Ss o'/\p' o'):am g W fi env ca st ((a,p')::Rz) { s with heap:=h',toks:=tk }:=
 R.ii (λb o hb q=>(k.2 b hb).trans q) e
theorem bA.qK{F:Fz}{R:ai}{h h':Ex}{a:MW}{p:Obj->Prop}(H:bA F ((a,p)::R) h)(k:∀b o,b≠a->h.get? b=Ss o->h'.get? b=Ss o):bA F R h':=by
 have H2:bA F R h:=H.fS (L1:=[(a,p)]);refine⟨λb o q=>k b o (λz=>?_) (H2.fz b o q),λq hq=>?_,H2.nd,H2.fH⟩
 ·have:=H.fH (a,p) (.head _);rw[<- z] at this;rw[q] at this;exact lu this
 ·refine aj (H2.b8 q hq) λo e1 e2=>?_;exact⟨o,k _ _ (H.D6 (L1:=[]) hq) e1,e2⟩
theorem am.qK{h':Ex}{a:MW}{p:Obj->Prop}(R:am g W fi env ca st ((a,p)::Rz) s)(k:∀b o,b≠a->s.heap.get? b=Ss o->h'.get? b=Ss o):am g W fi env ca st Rz { s with heap:=h' }:=
 R.on (λk=>k.heap) λX H=>(H.g8 VH).qK k
inductive UH(g:Gx)(W:Wd)(x:AV)(xs:List AV)(vs:List M5)(i:Nat):Prop
 |mk (v:M5) (e:vs[i]?=Ss v) (h:Vr g W x v) (r:aO g W xs (vs.drop (i+1)))
theorem t6{x:AV}{xs:List AV}{vs:List M5}{i:Nat}(r:aO g W (x::xs) (vs.drop i)):UH g W x xs vs i:=by
 cases hd:vs.drop i with
 |nil=>rw[hd] at r;refine hJ (r.gG) λU U e U=>?_;exact fO e
 |cons v us=>
  rw[hd] at r;refine eX (r.gG) λv' th e r1 r2=>?_;refine ak (dj e) λy9 y8=>?_;subst y9;subst y8;refine⟨v,?_,r1,?_⟩
  ·rw[<- List.head?_drop,hd];rfl
  ·rw[<- List.tail_drop,hd];exact r2
theorem t7{vs:List M5}{i:Nat}(r:aO g W [] (vs.drop i)):vs.length<=i:=by have:=Al.cz r;rw[Xk] at this;exact Nat.le_of_sub_eq_zero this
set_option tactic.hygienic true in
theorem GI{it:M5}{xs:List AV}{L:ai}{Q:Option M5->MY->Prop}(hh:A.handled=M4)(I:hL g W it xs L)(R:am g W fi env ca st (L++Rz) s)
 (h0:xs=[]->∀s',am g W fi env ca st Rz s'->Q M4 s')
 (h1:∀x r,xs=x::r->∀v L' s',Vr g W x v->hL g W it r L'->am g W fi env ca st (L'++Rz) s'->Q (Ss v) s'):K8 (Mo g) A (pyNext it) Q aK s:=by
 cases I with
 |list e p r=>
  rename_i l it o vs i;refine aj (R.cQ) λo ho hp=>?_;have kX:s.heap.IsListIter it l i:=⟨o,ho,hp.1,hp.2⟩
  refine a7 (id p) λn y9=>?_;subst y9;induction xs using K1 with
  |nil=>exact wpAny_pyNext_list_end hh kX (cU (R.fz e)) (by rw[Z3];exact Xr (t7 r)) λh' hx=>h0 rfl _ (R.qK λb o hb q=>hx b o hb q)
  |cons x xs=>obtain⟨v,hv,r1,r2⟩:=t6 r;exact wpAny_pyNext_list_item kX (cU (R.fz e)) (x:=v) (by rw[Z3];exact hv) λh' hi hb=>h1 x xs rfl v [(it,dA l (i+1))] _ r1 (.list e p r2) (R.oP (tk:=s.toks) hb hi)
 |tup e p r=>
  rename_i l it o vs i;refine aj (R.cQ) λo ho hp=>?_;have kX:s.heap.IsTupleIter it l i:=⟨o,ho,hp.1,hp.2⟩
  refine a7 (id p) λn y9=>?_;subst y9;induction xs using K1 with
  |nil=>exact wpAny_pyNext_tuple_end hh kX (fP (R.fz e)) (by rw[Z3];exact Xr (t7 r)) λh' hx=>h0 rfl _ (R.qK λb o hb q=>hx b o hb q)
  |cons x xs=>obtain⟨v,hv,r1,r2⟩:=t6 r;exact wpAny_pyNext_tuple_item kX (fP (R.fz e)) (x:=v) (by rw[Z3];exact hv) λh' hi hb=>h1 x xs rfl v [(it,AG l (i+1))] _ r1 (.tup e p r2) (R.oP (tk:=s.toks) hb hi)
 |range=>
  rename_i it x n;refine aj (R.cQ) λo ho hp=>?_;unfold pI at hp;subst hp;induction n using vI with
  |zero=>exact wpAny_pyNext_range_end hh (it:=it) ho (ZW 0) λh' hx=>h0 rfl _ (R.qK λb o hb q=>hx b o hb q)
  |succ n=>refine wpAny_pyNext_range_item (it:=it) ho (Qd) λh' hi hb=>?_;refine h1 (.int x) (kb (x+1) n) (AN x n) _ [(it,pI (x+1) n)] _ (.int _ _) .range (R.oP hb ⟨_,hi,?_⟩);unfold pI;congr;exact XI n 1
theorem GJ{it:M5}{xs:List AV}{L:ai}{Q:M5->MY->Prop}(I:hL g W it xs L)(R:am g W fi env ca st (L++Rz) s)(h:Q it s):K8 (Mo g) A (pyIter it) Q aK s:=by
 induction I with
 |list e p r=>refine aj (R.cQ) λo ho hp=>?_;exact wpAny_pyIter_listiter ⟨o,ho,hp.1,hp.2⟩ h
 |tup e p r=>refine aj (R.cQ) λo ho hp=>?_;exact wpAny_pyIter_tupleiter ⟨o,ho,hp.1,hp.2⟩ h
 |range=>refine aj (R.cQ) λo ho hp=>?_;unfold pI at hp;subst hp;exact wpAny_pyIter_rangeiter ho h
inductive US(g:Gx)(W:Wd)(fi:FI)(env:Env)(ca:Ca)(Rz:ai)(P:St->PS)(s':MY):Prop
 |mk (bM:St) (q:P bM) (R:am g W fi env ca bM Rz s')
def adi(g:Gx)(d:Nat)(fi:FI)(t:M3)(D:AV->St->(St->PS)->PS):Prop:=∀(A:K2) (W:Wd) (env:Env) (ca:Ca) (st:St) (P:St->PS) (Rz:ai) (s:MY) (x:AV) (v:M5),
 bF d A->bq fi env ca->jX ca->D x st P->Vr g W x v->am g W fi env ca st Rz s->K8 (Mo g) A (YH t env v) (λU=>US g W fi env ca Rz P) aK s
structure ka(g:Gx)(d:Nat)(fi:FI)(t:M3)(D:AV->St->(St->PS)->PS):Prop where
 aN:adi g d fi t D
theorem cN{nm:Str}{k:NK}{p:Pos}(i:Nat)(hv:autoParam (fi.nv[i]?=Ss (nm,k)) t_rfl)(hk:autoParam (fi.st k=WL) t_rfl):
 ka g d fi (.Name nm p) λx st P=>P ⟨st.aD.set i (.val x),st.aI⟩:=by
 constructor;intro A W env ca st P Rz s x v C N np h jk R;exact VX (rp (l:=[]) N np R hv (tJ N hv hk) (tK hk) (.val jk) λs2 R2=>⟨_,h,R2⟩)
theorem qu{es:List M3}{is:List Nat}{k:Nat}{p:Pos}(t:Tg fi es is):ka g d fi (.Tuple es k p) λx st P=>x.vH λxs=>cL (ie xs.length is.length) (P ⟨lx st.aD is (xs.map .val),st.aI⟩):=by constructor;intro A W env ca st P Rz s x v C N np h hv R;obtain⟨xs,rfl,q⟩:=AV.Ml h;refine ak (fM q) λhl q=>?_;replace hl:=ZI hl;obtain⟨a,vs,n,rfl,r1,ho⟩:=Aw hv R;exact VS C.hh (fP ho) (by rw[(t.qL env).1,r1.jd,hl]) (t.qL env).2 λh' hx=>GA (t.vQ N np) (LB r1) (by rw[K4];exact hl) (R.MC hx) λs2 R2=>⟨_,q,R2⟩
theorem GG{t:M3}{it v:M5}{xs:List AV}{L:ai}{Q:Unit->MY->Prop}(I:hL g W it xs L)(R:am g W fi env ca st (L++Rz) s)(h:Q () s):K8 (Mo g) A (Ys t it v) Q aK s:=by
 have ji:∀{o:Obj}{a:MW}{n:String}{fs:Array M5},s.heap.get? a=Ss o->o.cls=.type n->o.data=.fields fs->["enumerate","zip","dict_itemiterator","dict_reverseitemiterator","odict_iterator","itertools.zip_longest","itertools.pairwise"].contains n=PO->K8 (Mo g) A (Ys t (.ref a) v) Q aK s:=by
  intro o a n fs ho hc hd hn;have two:∀es k p,K8 (Mo g) A (Ys (.Tuple es k p) (.ref a) v) Q aK s:=λes k p=>by
   show K8 (Mo g) A (do
    let (.ref r,.ref b):=(Value.ref a,v)|return
    _) Q aK s
   induction v using XF with
   |ref b=>refine EJ (wpAny_load ho ?_);rw[hc,hd];simp only[hn,XZ];exact zI h
   |_=>exact zI h
  induction t using Y5<;>first|exact zI h|exact two [] 0 default
 induction I with
 |list e p r=>refine bV (R.cQ) λo ho h1 h2=>?_;exact ji ho h1 h2 (by decide)
 |tup e p r=>refine bV (R.cQ) λo ho h1 h2=>?_;exact ji ho h1 h2 (by decide)
 |range=>refine aj (R.cQ) λo ho h1=>?_;subst h1;exact ji ho rfl rfl (by decide)
end
noncomputable def mK(Q:Fl->St->PS)(J:St->PS):Fl->St->PS
 |.next,st=>J st
 |.cont,st=>J st
 |.brk,st=>Q .next st
 |.ret v,st=>Q (.ret v) st
inductive UO(g:Gx)(W:Wd)(Q:Fl->St->PS)(J:St->PS)(f:Flow)(st:St):Prop
 |next (e:f=.next) (j:J st)
 |cont (e:f=.cont) (j:J st)
 |brk (e:f=.brk) (j:Q .next st)
 |ret (v:M5) (x:AV) (e:f=.ret v) (h:Vr g W x v) (j:Q (.ret x) st)
theorem Go{g:Gx}{W:Wd}{Q:Fl->St->PS}{J:St->PS}{f:Flow}{fl:Fl}{st:St}(m:wT g W f fl)(q:mK Q J fl st):UO g W Q J f st:=by
 induction fl with
 |next=>induction f with|next=>exact .next rfl q|_=>exact m.elim
 |cont=>induction f with|cont=>exact .cont rfl q|_=>exact m.elim
 |brk=>induction f with|brk=>exact .brk rfl q|_=>exact m.elim
 |ret v=>induction f with|ret u=>exact .ret u v rfl m q|_=>exact m.elim
@[irreducible] noncomputable def za(t:DT)(b:DS):DS:=λst Q=>.ex λI:Nat->St->Prop=>.ex λn:Nat=>.rq (I n st) (.leaf (∀n st,I n st->ok (t st λc ab=>br c (b ab (mK Q λaz=>.ex λm=>.rq (m<n) (.leaf (I m az)))) (Q .next ab))))
abbrev DX:=St->(List AV->St->PS)->PS
section
variable {g:Gx}{d:Nat}{fi:FI}{A:K2}{W:Wd}{env:Env}{ca:Ca}{st:St}{Rz l:ai}{s:MY}
theorem iu{α:Type}{M:Model}{t:Sem α}{Q:α->MY->Prop}{E:M5->MY->Prop}(h:K8 M A t Q aK s):K8 M A t Q E s:=Ws h (λU U x=>x) λU U x=>x.elim
theorem lV{t:M3}{b:List v0}{Dt:DT}{Db:DS}{pos:Pos}(ht:fX g d fi t Dt)(hb:jn g d fi b Db):eJ g d fi (.While t b [] pos) (za Dt Db):=by
 constructor;intro A W env ca st Q Rz s C N np h R;unfold za at h;refine hJ h λI n h0 h1=>?_
 refine wpAny_While (codeAny_whileLoop (λn s=>∃W' st,W.J W'/\I n st/\am g W' fi env ca st Rz s) ?_ n ⟨W,st,.Q _,h0,R⟩);rintro n s1 ⟨W1,ab,le,hI,R1⟩;refine iu (ht.C C N (h1 n ab hI).ny R1 λc s2 W2 az dx q R2=>?_);induction c with
 |true=>
  refine iu (hb.C C N np q R2 λf s3 W3 fl bE fU q3 m R3=>?_);have cS:=le.S (dx.S fU);have go:(∃m,m<n/\I m bE)->∃m,m<n/\∃W' st,W.J W'/\I m st/\am g W' fi env ca st Rz s3:=λ⟨m,hm,hi⟩=>⟨m,hm,W3,bE,cS,hi,R3⟩
  cases Go m q3 with
  |next e j=>subst e;exact go j
  |cont e j=>subst e;exact go j
  |brk e j=>subst e;exact⟨W3,.next,bE,cS,j,trivial,R3⟩
  |ret v x e h j=>subst e;exact⟨W3,.ret x,bE,cS,j,h,R3⟩
 |false=>exact VD ⟨W2,.next,az,le.S dx,q,trivial,R2⟩
inductive UX(g:Gx)(W:Wd)(fi:FI)(env:Env)(ca:Ca)(Rz:ai)(Q:List AV->St->PS)(it:M5)(s2:MY):Prop
 |mk (W':Wd) (xs:List AV) (bM:St) (L:ai) (le:W.J W') (q:Q xs bM) (I:hL g W' it xs L) (R:am g W' fi env ca bM (L++Rz) s2)
def adM(g:Gx)(d:Nat)(fi:FI)(e:M3)(D:DX):Prop:=∀(A:K2) (W:Wd) (env:Env) (ca:Ca) (st:St) (Q:List AV->St->PS) (Rz:ai) (s:MY),
 bF d A->bq fi env ca->D st Q->am g W fi env ca st Rz s->K8 (Mo g) A (Er e env) (λx s1=>K8 (Mo g) A (pyIter x) (UX g W fi env ca Rz Q) aK s1) aK s
structure lv(g:Gx)(d:Nat)(fi:FI)(e:M3)(D:DX):Prop where
 aN:adM g d fi e D
noncomputable def Gz(x:AV)(ab:St)(Q:List AV->St->PS):PS:=x.jI λU xs=>Q xs ab
theorem cH{e:M3}{De:DE}(he:au g d fi e De):lv g d fi e λst Q=>De st λr ab=>Gz r.v ab Q:=by
 constructor;intro A W env ca st Q Rz s C N h R;refine eM (K:=λx ab=>Gz x ab Q) he C N h R λu s1 W1 ab x le v1 q R1=>?_;rcases AV.Mk q with⟨xs,rfl,q⟩|⟨xs,rfl,q⟩
 ·obtain⟨a,o,vs,rfl,e,p,r⟩:=v1.jM;refine a7 (id p) λn y9=>?_;subst y9;exact wpAny_pyIter_list (cU (R1.fz e)) ⟨W1,_,ab,[(s1.heap.objs.size,dA a 0)],le,q,.list e p r,R1.jK (tk:=s1.toks) rfl ⟨rfl,rfl⟩⟩
 ·obtain⟨a,o,vs,rfl,e,p,r⟩:=v1.sT;refine a7 (id p) λn y9=>?_;subst y9;exact wpAny_pyIter_tuple (fP (R1.fz e)) ⟨W1,_,ab,[(s1.heap.objs.size,AG a 0)],le,q,.tup e p r,R1.jK (tk:=s1.toks) rfl ⟨rfl,rfl⟩⟩
@[irreducible] noncomputable def pJ(bd:AV->St->(St->PS)->PS)(b:DS)(Q:Fl->St->PS)(xs:List AV)(ab:St):PS:=.ex λI:List AV->St->Prop=>.rq (I xs ab) (.rq (∀x r st,I (x::r) st->ok (bd x st λaz=>b az (mK Q λbE=>.leaf (I r bE)))) (.leaf (∀st,I [] st->ok (Q .next st))))
noncomputable def DA(src:DX)(bd:AV->St->(St->PS)->PS)(b:DS):DS:=λst Q=>src st (pJ bd b Q)
structure w7(g:Gx)(t:M3)(it:M5)(I:Wd->List AV->ai->Prop):Prop where
 aE:∀{W W':Wd}{xs:List AV}{L:ai},W.J W'->I W xs L->I W' xs L
 zr:∀{fi:FI}{env:Env}{ca:Ca}{A:K2}{W:Wd}{st:St}{Rz:ai}{s:MY}{xs:List AV}{L:ai}{Q0:MY->Prop}{Q1:M5->MY->Prop},A.handled=M4->I W xs L->am g W fi env ca st (L++Rz) s->
  (xs=[]->∀s',am g W fi env ca st Rz s'->Q0 s')->
  (∀x r,xs=x::r->∀v W' L' s',W.J W'->Vr g W' x v->I W' r L'->am g W' fi env ca st (L'++Rz) s'->Q1 v s')->
  K8 (Mo g) A (pyNext it) (λo s'=>match o with|none=>Q0 s' |some v=>K8 (Mo g) A (Ys t it v) (λU o6=>Q1 v o6) aK s') aK s
theorem U9(t:M3)(it:M5):w7 g t it λW xs L=>hL g W it xs L where
 aE:=λle h=>h.aE le
 zr:=λhh I R h0 h1=>GI (Q:=λo s'=>match o with|none=>_|some v=>K8 (Mo g) _ (Ys t it v) (λU o6=>_) aK s') hh I R (λhn s' R'=>h0 hn s' R') λx r hx v L' s' hv hI R'=>GG hI R' (h1 x r hx v _ L' s' (.Q _) hv hI R')
inductive UY(g:Gx)(W:Wd)(fi:FI)(env:Env)(ca:Ca)(Rz:ai)(t:M3)(Q:List AV->St->PS)(it:M5)(s2:MY):Prop
 |mk (W':Wd) (xs:List AV) (bM:St) (L:ai) (I:Wd->List AV->ai->Prop) (le:W.J W') (q:Q xs bM) (dr:w7 g t it I) (hI:I W' xs L) (R:am g W' fi env ca bM (L++Rz) s2)
def adN(g:Gx)(d:Nat)(fi:FI)(t e:M3)(D:DX):Prop:=∀(A:K2) (W:Wd) (env:Env) (ca:Ca) (st:St) (Q:List AV->St->PS) (Rz:ai) (s:MY),
 bF d A->bq fi env ca->D st Q->am g W fi env ca st Rz s->K8 (Mo g) A (Er e env) (λx s1=>K8 (Mo g) A (pyIter x) (UY g W fi env ca Rz t Q) aK s1) aK s
structure w8(g:Gx)(d:Nat)(fi:FI)(t e:M3)(D:DX):Prop where
 aN:adN g d fi t e D
theorem lv.Ee{t e:M3}{D:DX}(h:lv g d fi e D):w8 g d fi t e D:=⟨λA W env ca st Q Rz s C N hD R=>aL (h.aN A W env ca st Q Rz s C N hD R) λx s1 h1=>aL h1 λit s2 hh=>by obtain⟨W1,xs,ab,L,le,q,hI,R1⟩:=hh;exact⟨W1,xs,ab,L,_,le,q,U9 t it,hI,R1⟩⟩
inductive UG(g:Gx)(W:Wd)(fi:FI)(env:Env)(ca:Ca)(st:St)(Rz:ai)(J:Wd->List AV->ai->Prop)(xs:List AV)(v:M5)(s':MY):Prop
 |mk (x:AV) (r:List AV) (W4:Wd) (L4:ai) (e:xs=x::r) (le:W.J W4) (hv:Vr g W4 x v) (hI:J W4 r L4) (R:am g W4 fi env ca st (L4++Rz) s')
inductive Gd(g:Gx)(W:Wd)(fi:FI)(env:Env)(ca:Ca)(Rz:ai)(J:Wd->List AV->ai->Prop)(I:List AV->St->Prop)(n:Nat)(s:MY):Prop
 |mk (xs:List AV) (W':Wd) (L:ai) (st:St) (hn:xs.length=n) (le:W.J W') (j:I xs st) (hI:J W' xs L) (R:am g W' fi env ca st (L++Rz) s)
theorem Dy{t e:M3}{b:List v0}{De:DX}{Db:DS}{Dt:AV->St->(St->PS)->PS}{pos:Pos}(he:w8 g d fi t e De)(ht:ka g d fi t Dt)(hb:jn g d fi b Db)
 (hs:autoParam (pB e=WL) t_rfl):eJ g d fi (.For t e b [] pos) (DA De Dt Db):=by
 constructor;intro A W env ca st Q Rz s C N np h R;refine wpAny_For (aL (he.aN A W env ca st _ Rz s C N h R) λx s1 h1=>aL h1 λit s2 hh=>?_) (noFold hs env);obtain⟨W1,xs,ab,L,J,le,q,dr,hI,R1⟩:=hh;unfold pJ at q;refine bV q λI i0 i1 i2=>?_
 refine codeAny_forLoop_any (λn s=>Gd g W fi env ca Rz J I n s) ?_ xs.length ⟨xs,W1,L,ab,rfl,le,i0,hI,R1⟩;rintro n s3 ⟨xs,W3,L3,bE,rfl,fU,j,hI3,R3⟩;refine iu (aL (dr.zr (Q0:=λs'=>xs=[]/\am g W3 fi env ca bE Rz s') (Q1:=UG g W3 fi env ca bE Rz J xs) C.hh hI3 R3 (λhn s4 R4=>⟨hn,R4⟩) λx r hx v W4 L4 s4 gM hv ET R4=>⟨x,r,W4,L4,hx,gM,hv,ET,R4⟩) λo s4 ho=>?_);induction o with
 |none=>
  refine ak ho λy9 R4=>?_;subst y9
  exact VD ⟨W3,.next,bE,fU,(i2 _ j).ny,trivial,R4⟩
 |some v=>
  refine iu (aL ho λU s4' h4=>?_);obtain⟨x,r,W4,L4,rfl,gM,hv,ET,R4⟩:=h4;refine iu (aL (ht.aN A W4 env ca bE _ _ s4' x v C N np (i1 x r bE j).ny hv R4) λU s5 hh=>?_);obtain⟨ti,q,R5⟩:=hh;refine iu (hb.C C N np q R5 λf s6 W6 fl tj zO q6 m R6=>?_);have cS:=fU.S (gM.S zO);have go:I r tj->∃m,m<(x::r).length/\Gd g W fi env ca Rz J I m s6:=λj=>⟨r.length,YB _,r,W6,L4,tj,rfl,cS,j,dr.aE zO ET,R6⟩
  cases Go m q6 with
  |next e j=>subst e;exact go j
  |cont e j=>subst e;exact go j
  |brk e j=>subst e;exact⟨W6,.next,tj,cS,j,trivial,R6.fS⟩
  |ret v x e h j=>subst e;exact⟨W6,.ret x,tj,cS,j,h,R6.fS⟩
theorem gF{t e:M3}{b:List v0}{De:DX}{Db:DS}{Dt:AV->St->(St->PS)->PS}{pos:Pos}(he:lv g d fi e De)(ht:ka g d fi t Dt)(hb:jn g d fi b Db)
 (hs:autoParam (pB e=WL) t_rfl):eJ g d fi (.For t e b [] pos) (DA De Dt Db):=Dy he.Ee ht hb hs
def alZ(m n:Int):Prop:=-(2 ^ 62)<=m/\m<2 ^ 62/\-(2 ^ 62)<=n/\n<2 ^ 62
noncomputable def ud(xs:List AV)(P:AV->AV->PS):PS:=@List.casesOn _ (λU=>PS) xs .bot λa l=>@List.casesOn _ (λU=>PS) l .bot λb l=>@List.casesOn _ (λU=>PS) l (P a b) λU U=>.bot
theorem Gq{xs:List AV}{P:AV->AV->PS}(h:ud xs P):∃a b,xs=[a,b]/\P a b:=by
 induction xs using K1 with
 |nil=>exact Zg h
 |cons a l=>
  induction l using K1 with
  |nil=>exact Zg h
  |cons b l=>
   induction l using K1 with
   |nil=>exact⟨a,b,rfl,h⟩
   |cons c l=>exact Zg h
inductive U4(K:Int->Int->PS)(vs:List M5):Prop
 |mk (m n:Int) (t u:Tok) (e:vs=[.int m t,.int n u]) (h:K m n)
theorem AU{xs:List AV}{vs:List M5}{K:Int->Int->PS}(r:aO g W xs vs)(h:ud xs λa b=>a.L λm=>b.L (K m)):U4 K vs:=by refine hJ (Gq h) λa b y9 h=>?_;subst y9;obtain⟨m,rfl,h⟩:=AV.vG h;obtain⟨n,rfl,h⟩:=AV.vG h;refine eX (r.gG) λv vs y9 v1 r1=>?_;subst y9;refine eX (r1.gG) λu us y9 v2 r2=>?_;subst y9;obtain rfl:=r2.sO;refine a7 (v1.kO) λt y9=>?_;subst y9;refine a7 (v2.kO) λt' y9=>?_;subst y9;exact⟨_,_,_,_,rfl,h⟩
noncomputable def alY(xs:List AV)(ab:St)(Q:List AV->St->PS):PS:=ud xs λa b=>a.L λm=>b.L λn=>.rq (alZ m n) (Q (kb m (n-m).toNat) ab)
theorem alX{m n:Int}:(if m<n then n-m else 0)=(((n-m).toNat:Nat):Int):=(Ux (m<n)).elim (λh=>(MS h).trans (Int.toNat_of_nonneg (ZE (amD h))).symm) λh=>(MZ h).trans (congrArg V9 (Int.toNat_of_nonpos (Int.sub_nonpos_of_le (Yw.mp h)))).symm
theorem DH{a b:M3}{De}{p pos:Pos}(j:Nat)(G:GOK g)(hg:g.mg "range"=M4/\g.mb "range"=Ss (.type "range"))(ha:gz g d fi [a,b] De)(hj:autoParam (fi.ng[j]?=Ss ("range":Str)) t_rfl)
 (he:autoParam (cT a=WL) t_rfl) (hp:autoParam (∀env,(dP pos (sZ [b] env)).any (·.1)=PO) t_exact_star_any_rfl) :
 lv g d fi (.Call (.Name "range" p) [a,b] [] pos) λst Q=>De st λxs ab=>alY xs ab Q:=by
 constructor;intro A W env ca st Q Rz s C N h R;refine Ze (mL G N R hj hg.1 hg.2 (Wg (ha.C C N h R λvs s1 W1 xs ab le q r1 R1=>?_) (star_cons he env) (hp env)));obtain⟨m,n,t1,t2,rfl,⟨b1,b2,b3,b4⟩,q⟩:=AU r1 q;refine call_range_2 ?_;have R2:=R1.jJ (h':=s1.heap.push { cls:=.type "range",data:=.fields #[.int m t1,.int n t2,.int 1 s1.toks] }) (tk:=s1.toks+1) λb o e=>Zf _ e;refine wpAny_pyIter_range (IsRange.new s1.heap m n 1 _ _ _) (small_one b1 b2 b3 b4) ⟨W1,_,ab,[(_,pI m (n-m).toNat)],le,q,.range,?_⟩;refine R2.jK (tk:=s1.toks+1) rfl ?_;unfold pI;rw[rangeSize_one,alX]
end
class inductive gP(scope:re):List (Str×NK)->List (Str×NK)->Prop
 |nil {ts:List Str}:(∀t∈ts,scope.names.lookup t=Ss .local)->gP scope [] (ts.map λt=>(t,NK.loc))
 |loc {nm:Str}{a b:List (Str×NK)}:gP scope a b->gP scope ((nm,.loc)::a) ((nm,.out)::b)
 |cell {nm:Str}{a b:List (Str×NK)}:scope.names.lookup nm=Ss .free->gP scope a b->gP scope ((nm,.cell)::a) ((nm,.cell)::b)
 |hid {nm:Str}{a b:List (Str×NK)}:gP scope a b->gP scope ((nm,.cell)::a) ((nm,.hid)::b)
structure mJ(scope:re)(fi aZ:FI):Prop where
 nv:gP scope fi.nv aZ.nv
 ng:∀nm∈aZ.ng,scope.names.lookup nm=Ss .globalImplicit
 kind:scope.kind=.function
 ae0:∀x∈scope.names,x.2≠.cell
 names:∀x∈scope.names,x.2=.local->scope.names.lookup x.1=Ss .local
 lZ:∀x∈scope.names,x.2=.free->∃i:Nat,fi.nv[i]?=Ss (x.1,NK.cell)
 sR:∀p∈aZ.nv,(p.1==("__debug__":Str))=PO
 qC:∀p∈aZ.ng,(p==("__debug__":Str))=PO
 inj:∀(i j:Nat) (nm:Str),aZ.nv[i]?=Ss (nm,NK.loc)->aZ.nv[j]?=Ss (nm,NK.loc)->i=j
 af6:∀(i j:Nat) (nm:Str),fi.nv[i]?=Ss (nm,NK.cell)->fi.nv[j]?=Ss (nm,NK.cell)->i=j
 di:aZ.di=PO
theorem gP.len{scope:re}{a b:List (Str×NK)}(h:gP scope a b):a.length<=b.length:=by
 induction h with
 |nil=>simp
 |loc _ ih=>simpa using ih
 |cell _ _ ih=>simpa using ih
 |hid _ ih=>simpa using ih
theorem gP.cQ{scope:re}{a b:List (Str×NK)}(h:gP scope a b):∀{i:Nat}{nm:Str},b[i]?=Ss (nm,NK.out)->a[i]?=Ss (nm,NK.loc):=by
 induction h with
 |nil=>intro i nm e;simp at e
 |loc _ ih=>intro i nm e;induction i using vI with|zero=>simp at e;subst e;rfl|succ i=>exact ih e
 |cell _ _ ih=>intro i nm e;induction i using vI with|zero=>simp at e|succ i=>exact ih e
 |hid _ ih=>intro i nm e;induction i using vI with|zero=>simp at e|succ i=>exact ih e
theorem gP.ae5{scope:re}{a b:List (Str×NK)}(h:gP scope a b):∀{i:Nat}{nm:Str},a[i]?=Ss (nm,NK.loc)->b[i]?=Ss (nm,NK.out):=by
 induction h with
 |nil=>intro i nm e;simp at e
 |loc _ ih=>intro i nm e;induction i using vI with|zero=>simp at e;subst e;rfl|succ i=>exact ih e
 |cell _ _ ih=>intro i nm e;induction i using vI with|zero=>simp at e|succ i=>exact ih e
 |hid _ ih=>intro i nm e;induction i using vI with|zero=>simp at e|succ i=>exact ih e
theorem gP.ae6{scope:re}{a b:List (Str×NK)}(h:gP scope a b):∀{i:Nat}{nm:Str},a[i]?=Ss (nm,NK.out)->False:=by
 induction h with
 |nil=>intro i nm e;simp at e
 |loc _ ih=>intro i nm e;induction i using vI with|zero=>simp at e|succ i=>exact ih e
 |cell _ _ ih=>intro i nm e;induction i using vI with|zero=>simp at e|succ i=>exact ih e
 |hid _ ih=>intro i nm e;induction i using vI with|zero=>simp at e|succ i=>exact ih e
theorem gP.ae4{scope:re}{a b:List (Str×NK)}(h:gP scope a b):∀{i:Nat}{nm:Str},b[i]?=Ss (nm,NK.cell)->a[i]?=Ss (nm,NK.cell)/\scope.names.lookup nm=Ss .free:=by
 induction h with
 |nil=>intro i nm e;simp at e
 |loc _ ih=>intro i nm e;induction i using vI with|zero=>simp at e|succ i=>exact ih e
 |cell h _ ih=>intro i nm e;induction i using vI with|zero=>simp at e;subst e;exact⟨rfl,h⟩|succ i=>exact ih e
 |hid _ ih=>intro i nm e;induction i using vI with|zero=>simp at e|succ i=>exact ih e
theorem gP.MA{scope:re}{a b:List (Str×NK)}(h:gP scope a b):∀{i:Nat}{nm:Str},b[i]?=Ss (nm,NK.loc)->a.length<=i/\scope.names.lookup nm=Ss .local:=by
 induction h with
 |nil hh=>
  intro i nm e;rw[ZZ,ZU] at e;refine aj e λt e1 e2=>?_
  (injection e2 with y9;subst y9);exact⟨by simp,hh _ (s8 e1)⟩
 |loc _ ih=>intro i nm e;induction i using vI with|zero=>simp at e|succ i=>refine ak (ih e) λx y=>?_;exact⟨by simpa using x,y⟩
 |cell h _ ih=>intro i nm e;induction i using vI with|zero=>simp at e|succ i=>refine ak (ih e) λx y=>?_;exact⟨by simpa using x,y⟩
 |hid _ ih=>intro i nm e;induction i using vI with|zero=>simp at e|succ i=>refine ak (ih e) λx y=>?_;exact⟨by simpa using x,y⟩
theorem U6{ca:Nat->MW}{ts:List Str}:∀{k:Nat}{rs:List (Option M5)},bP ca k (ts.map λt=>(t,NK.loc)) rs=[]:=by
 induction ts with
 |nil=>intro k rs;rfl
 |cons t ts ih=>intro k rs;induction rs using K1 with|nil=>rfl|cons r rs=>exact ih
theorem gP.zt{scope:re}{a b:List (Str×NK)}(h:gP scope a b){ca:Nat->MW}:∀{k:Nat}{rs wo:List (Option M5)},rs.length=a.length->bP ca k b (rs++wo)=bP ca k a rs:=by
 induction h with
 |nil=>intro k rs wo e;rw[U6];rfl
 |loc _ ih=>intro k rs wo e;induction rs using K1 with|nil=>cases e|cons r rs=>exact ih (ZG e)
 |cell _ _ ih=>intro k rs wo e;induction rs using K1 with|nil=>cases e|cons r rs=>exact congrArg (_::·) (ih (ZG e))
 |hid _ ih=>intro k rs wo e;induction rs using K1 with|nil=>cases e|cons r rs=>exact congrArg (_::·) (ih (ZG e))
section
variable {g:Gx}{d:Nat}{fi aZ:FI}{A:K2}{W:Wd}{env:Env}{ca:Ca}{st:St}{Rz l:ai}{s:MY}
inductive U5(g:Gx)(W:Wd)(s1 s2:List an)(rs:List (Option M5))(L:ai):Prop
 |mk (r1 r2:List (Option M5)) (L1 L2:ai) (er:rs=r1++r2) (eL:L=L1++L2) (h1:fW g W s1 r1 L1) (h2:fW g W s2 r2 L2) (e:r1.length=s1.length)
theorem fW.ae7{s2:List an}:∀{s1:List an}{rs:List (Option M5)}{L:ai},fW g W (s1++s2) rs L->U5 g W s1 s2 rs L:=by
 intro s1;induction s1 with
 |nil=>intro rs L h;exact⟨[],rs,[],L,rfl,rfl,.nil,h,rfl⟩
 |cons x s1 ih=>
  intro rs L h;cases h with
  |cons h1 h2=>obtain⟨r1,r2,L1,L2,rfl,rfl,a,b,c⟩:=ih h2;exact⟨_::r1,r2,_++L1,L2,rfl,(zx ..).symm,.cons h1 a,b,congrArg Xy c⟩
theorem Lz:∀n:Nat,fW g W (Zn n an.none) (Zn n M4) []
 |0=>.nil
 |n+1=>by have:=fW.cons (g:=g) (W:=W) (.none (r:=M4)) (Lz n);simpa [al7] using this
noncomputable def ua(fi aZ:FI):Nat:=aZ.nv.length-fi.nv.length
noncomputable def ug(fi aZ:FI)(st:St):St:=⟨st.aD++Zn (ua fi aZ) .none,st.aI⟩
theorem gy.ae8{scope:re}{cl:List (Str×MW)}{C:MW}{rs:List (Option M5)}{m:Str->Option M5}{L ML:ai}(K:mJ scope fi aZ)(X:gy g W fi env ca st ((C,bN λU=>M4)::Rz) s rs m L ML):
 am g W aZ (XM scope cl C env) ⟨ca.cu,λU=>M4,m⟩ (ug fi aZ st) ((env.locals,bN m)::Rz) s:=by
 have hl:rs.length=fi.nv.length:=X.aD.D7.trans X.len;have gJ:=K.nv.len;refine⟨rs++Zn (ua fi aZ) M4,λU=>M4,L,ML,?_,?_,?_,X.aI,X.di,?_,X.bI,X.cv,?_,?_⟩
 ·simp only[ug,ua,Es,alC,X.len];exact Ru gJ
 ·intro i nm h;refine ak (K.nv.MA h) λh1 h2=>?_;have hi:=(sV.mp h).1;rw[akn (Ri hl h1),List.getElem?_replicate_of_lt (by simp only[ua];exact Q7 hi hl gJ h1)]
 ·have:=X.aD.kH (Lz (g:=g) (W:=W) (ua fi aZ));simpa [ug] using this
 ·rw[K.nv.zt hl];exact X.cm.kL [[(env.locals,bN m)],bP ca.cu 0 fi.nv rs,L,ML,[(C,bN λU=>M4)],Rz] [0,1,2,3,4,5] [4,1,2,3,0,5]
 ·intro i a e;exact aY e
 ·intro i nm h;have h1:=K.nv.cQ h;have hi:=(sV.mp h1).1;rw[Yl (QX hi hl)];exact X.ms i nm h1
theorem adJ{scope:re}{cl:List (Str×MW)}{C:MW}{rs:List (Option M5)}{m:Str->Option M5}{W':Wd}{bM:St}{s':MY}{R₁:ai}(K:mJ scope fi aZ)(ms:∀(i:Nat) (nm:Str),fi.nv[i]?=Ss (nm,NK.loc)->rs[i]?=Ss (m nm))
 (pin:∀i a,ca.pin i=Ss a->(∃nm,fi.nv[i]?=Ss (nm,NK.loc))/\rs[i]?=Ss (Ss (.ref a)))
 (R:am g W' aZ (XM scope cl C env) ⟨ca.cu,λU=>M4,m⟩ bM ((env.locals,bN m)::R₁) s') :
 ∃m',am g W' fi env ca ⟨bM.aD.take fi.nv.length,bM.aI⟩ ((C,bN m')::R₁) s':=by
 refine eg R λiM m' L' oY X=>?_
 have gJ:=K.nv.len;have e0:bM.aD=bM.aD.take fi.nv.length++bM.aD.drop fi.nv.length:=(alA _ _).symm;have Ng:=X.aD;rw[e0] at Ng;obtain⟨r1,r2,L1,L2,rfl,rfl,l1,l2,hr⟩:=Ng.ae7;have EU:r1.length=fi.nv.length:=by rw[hr,Zo,X.len];exact QM gJ
 have Nh:∀(i:Nat) (nm:Str),fi.nv[i]?=Ss (nm,NK.loc)->r1[i]?=Ss (m nm):=by
  intro i nm h;have h1:=X.pin.2 i nm (K.nv.ae5 h);have hi:=(sV.mp h).1
  rwa [Yl (QE hi hr EU)] at h1
 refine⟨m',r1,m,L1,oY,by simp only[Zo,X.len];exact Qv EU hr gJ,Nh,l1,X.aI,X.di,?_,X.bI,X.cv,?_,?_⟩
 ·have H:=X.cm;rw[K.nv.zt EU] at H;exact (H.fI [[((XM scope cl C env).locals,bN m')],bP ca.cu 0 fi.nv r1,L1,L2,oY,[(env.locals,bN m)],R₁] [[0],[1],[2,3],[4],[5],[6]] [[3],[5],[1],[2],[4],[0],[6]]).fS
 ·intro i a e;obtain⟨⟨nm,h1⟩,h2⟩:=pin i a e;refine⟨⟨nm,h1⟩,?_⟩;rw[Nh i nm h1,<- ms i nm h1];exact h2
 ·intro i nm h;exact (K.nv.ae6 h).elim
end
theorem AS{env:Env}:∀{names:List (Str×Yg)}{x:Str}{k:Yg},names.lookup x=Ss k->
 (names.map λ(n,k)=>if (k==Zb&&env.scope.kind==.function&&env.kindOf n==Ss .cell) then (n,Xd) else (n,k)).lookup x=Ss (if (k==Zb&&env.scope.kind==.function&&env.kindOf x==Ss .cell) then Xd else k)
 |[],j4,j5,h=>by simp at h
 |(n,k)::r,x,k',h=>by
  have ih:=@AS env r x k';refine (?_:List.lookup x ((if (k==Zb&&env.scope.kind==.function&&env.kindOf n==Ss .cell)=WL then (n,Xd) else (n,k))::_)=_);cases hx:x==n with
  |true=>
   simp only[Zp,hx] at h
   (have y9:=K6 h;clear h;subst y9);have:x=n:=K5.mp hx;subst this;by_cases hc:(k==Zb&&env.scope.kind==.function&&env.kindOf x==Ss .cell)=WL
   ·rw[MS hc,MS hc];simp[Zp,hx]
   ·rw[MZ hc,MZ hc];simp[Zp,hx]
  |false=>
   simp only[Zp,hx] at h;by_cases hc:(k==Zb&&env.scope.kind==.function&&env.kindOf n==Ss .cell)=WL
   ·rw[MS hc];simp only[Zp,hx];exact ih h
   ·rw[MZ hc];simp only[Zp,hx];exact ih h
theorem AJ{env:Env}:∀(names:List (Str×Yg)) (acc:List (Str×MW)),(∀p∈acc,env.cells.lookup p.1=Ss p.2)->(∀p∈names,p.2=.free->∃a,env.cells.lookup p.1=Ss a)->
 ∃cl,(forIn names acc λ(x:Str×Yg) cs=>if x.2==Zb then (do let a <- cellOf env x.1;pure (WH ((x.1,a)::cs))) else pure (WH cs))=(pure cl:Sem (List (Str×MW)))/\
  (∀p∈cl,env.cells.lookup p.1=Ss p.2)/\(∀p∈names,p.2=.free->∃a,(p.1,a)∈cl)/\∀p∈acc,p∈cl
 |[],acc,h,j4=>⟨acc,rfl,h,(λp hp=>nomatch hp),λp hp=>hp⟩
 |(n,k)::names,acc,h,hn=>by
  have jj:∀p∈names,p.2=.free->∃a,env.cells.lookup p.1=Ss a:=λp hp=>hn p (.tail _ hp);rw[List.forIn_cons];by_cases hk:k=.free
  ·subst hk;refine a7 (hn (n,.free) (.head _) rfl) λa ha=>?_;refine nQ (AJ names ((n,a)::acc) (λp hp=>by rcases K7.mp hp with rfl|hp;exact ha;exact h p hp) jj) λcl c1 c2 c3 c4=>?_;refine⟨cl,?_,c2,λp hp hf=>?_,λp hp=>c4 p (.tail _ hp)⟩
   ·have:cellOf env n=pure a:=by unfold cellOf;rw[ha]
    simp only[this];exact c1
   ·rcases K7.mp hp with rfl|hp
    ·exact⟨a,c4 _ (.head _)⟩
    ·exact c3 p hp hf
  ·refine nQ (AJ names acc h jj) λcl c1 c2 c3 c4=>?_;refine⟨cl,?_,c2,λp hp hf=>?_,c4⟩
   ·have:(k==Zb)=PO:=by induction k<;>first|rfl|exact MQ rfl hk
    simp only[this];exact c1
   ·rcases K7.mp hp with rfl|hp
    ·exact MQ hf hk
    ·exact c3 p hp hf
theorem Gn{env:Env}:∀{cl:List (Str×MW)}{n:Str},(∀p∈cl,env.cells.lookup p.1=Ss p.2)->(∃a,(n,a)∈cl)->cl.lookup n=env.cells.lookup n
 |[],n,j4,⟨a,h⟩=>nomatch h
 |(k,b)::cl,n,hc,⟨a,h⟩=>by
  rw[Zp];cases hx:n==k with
  |true=>have:n=k:=K5.mp hx;subst this;exact (hc (n,b) (.head _)).symm
  |false=>
   refine Gn (λp hp=>hc p (.tail _ hp)) ⟨a,?_⟩;rcases K7.mp h with e|h
   ·(injection e with y8 y9;subst y8;subst y9);simp at hx
   ·exact h
theorem t9{α:Type}{n:Str}{k:α}:∀{l:List (Str×α)},l.lookup n=Ss k->(n,k)∈l
 |[],h=>by simp at h
 |(m,x)::l,h=>by
  rw[Zp] at h;cases hx:n==m with
  |true=>rw[hx] at h;(have y9:=K6 h;clear h;subst y9);have:n=m:=K5.mp hx;subst this;exact .head _
  |false=>rw[hx] at h;exact .tail _ (t9 h)
section
variable {g:Gx}{d:Nat}{fi aZ:FI}{A:K2}{W:Wd}{env:Env}{ca:Ca}{st:St}{Rz l:ai}{s:MY}
theorem Gi{scope:re}(K:mJ scope fi aZ)(N:bq fi env ca):∃cl,closureFor scope env=pure cl/\∀(C:MW) (pin:Nat->Option MW) (out:Str->Option M5),bq aZ (XM scope cl C env) ⟨ca.cu,pin,out⟩:=by
 obtain⟨cl,c1,c2,c3,c4⟩:=AJ (env:=env) scope.names [] (by intro p hp;exact aT hp) λp hp hf=>by refine a7 (K.lZ p hp hf) λi hi=>?_;exact⟨_,(N.qB i p.1 hi).2⟩
 refine⟨cl,?_,λC pin out=>⟨?_,N.oI,N.blt,?_,?_,?_,?_,?_,?_,λz=>by rw[K.di] at z;exact aX z⟩⟩
 ·refine (?_:closureFor scope env=pure cl);unfold closureFor;have:∀t:Sem (List (Str×MW)),t=pure cl->(t >>= λr=>pure r)=pure cl:=by intro t ht;rw[ht];rfl
  refine this _ ?_;refine Yx ?_ c1;congr
 ·exact K.kind
 ·intro i nm h;exact lookup_relabel_local (K.nv.MA h).2
 ·intro i nm h;refine ak (K.nv.ae4 h) λh1 h2=>?_;refine ak (N.qB i nm h1) λn1 n2=>?_;have hl:cl.lookup nm=Ss (ca.cu i):=by refine a7 (c3 (nm,.free) (t9 h2) rfl) λa ha=>?_;rw[Gn c2 ⟨a,ha⟩];exact n2
  refine⟨?_,hl⟩;have hr:=AS (env:=env) h2;rcases n1 with n1|⟨n1,n3⟩
  ·left;have e:(if (Zb==Zb&&env.scope.kind==.function&&env.kindOf nm==Ss .cell) then Xd else Zb)=.cell:=by rw[N.kind,n1];rfl
   rw[e] at hr;exact hr
  ·right;refine⟨?_,n3⟩;have e:(if (Zb==Zb&&env.scope.kind==.function&&env.kindOf nm==Ss .cell) then Xd else Zb)=.free:=by rw[N.kind,n1];rfl
   rw[e] at hr;exact hr
 ·intro j nm h;have hr:=AS (env:=env) (K.ng nm (s8 h));exact hr
 ·intro i nm k h;exact K.sR _ (s8 h)
 ·intro j nm h;exact K.qC _ (s8 h)
 ·exact K.inj
end
section
variable {g:Gx}{d:Nat}{fi aZ:FI}{A:K2}{W:Wd}{env:Env}{ca:Ca}{st:St}{Rz l:ai}{s:MY}
def adG(g:Gx)(d:Nat)(fi:FI)(eV:List M3)(D:DT):Prop:=∀(A:K2) (W:Wd) (env:Env) (ca:Ca) (st:St) (Q:Bool->St->PS) (Rz:ai) (s:MY),
 bF d A->bq fi env ca->D st Q->am g W fi env ca st Rz s->
  K8 (Mo g) A (forIn eV WL λc r=>if r=WL then do let ok <- isTrue c env (Er c env);pure (WH ok) else pure (WH r)) (rh g W fi env ca Rz Q) aK s
structure tW(g:Gx)(d:Nat)(fi:FI)(eV:List M3)(D:DT):Prop where
 aN:adG g d fi eV D
theorem iI:tW g d fi [] D.sQ:=⟨λA W env ca st Q Rz s C N h R=>wpAny_tests_nil ⟨W,st,.Q _,h,R⟩⟩
theorem Ly{c:M3}{Dc:DT}(h:fX g d fi c Dc):tW g d fi [c] Dc:=⟨λA W env ca st Q Rz s C N p R=>wpAny_tests_one (h.aN A W env ca st Q Rz s C N p R)⟩
inductive rz(g:Gx)(W:Wd)(fi:FI)(env:Env)(ca:Ca)(Rz:ai)(ac:MW)(Q:List AV->St->PS)(s:MY):Prop
 |mk (W':Wd) (ys:List AV) (vs:List M5) (st:St) (le:W.J W') (q:Q ys st) (hv:aO g W' ys vs) (R:am g W' fi env ca st ((ac,bO vs)::Rz) s)
abbrev DL:=List AV->St->(List AV->St->PS)->PS
def tY(g:Gx)(d:Nat)(fi:FI)(e:M3)(k:Nat)(rest:M5->M5->Env->Sem Fin)(el:DL):Prop:=
 ∀(A:K2) (W:Wd) (env:Env) (ca:Ca) (st:St) (ys:List AV) (vs:List M5) (it:M5) (ac:MW) (Q:List AV->St->PS) (Rz:ai) (s:MY),bF d A->bq fi env ca->jX ca->el ys st Q->aO g W ys vs->am g W fi env ca st ((ac,bO vs)::Rz) s->
  K8 (Mo g) A (rest it (.ref ac) env) (λfin s'=>fin=.again (.compLoop e k it (.ref ac) env)/\rz g W fi env ca Rz ac Q s') aK s
@[irreducible] noncomputable def ic(bd:AV->St->(St->PS)->PS)(el:DL)(xs ys:List AV)(st:St)(Q:List AV->St->PS):PS:=
 .ex λI:List AV->List AV->St->Prop=>.rq (I xs ys st) (.rq (∀x r ys st,I (x::r) ys st->ok (bd x st λab=>el ys ab λqX az=>.leaf (I r qX az))) (.leaf (∀ys st,I [] ys st->ok (Q ys st))))
inductive U3(g:Gx)(W:Wd)(fi:FI)(env:Env)(ca:Ca)(Rz:ai)(it:M5)(ac:MW)(I:List AV->List AV->St->Prop)(n:Nat)(s:MY):Prop
 |mk (xs ys:List AV) (vs:List M5) (W':Wd) (L:ai) (st:St) (hn:xs.length=n) (le:W.J W') (j:I xs ys st) (hI:hL g W' it xs L) (hv:aO g W' ys vs) (R:am g W' fi env ca st (L++(ac,bO vs)::Rz) s)
def t4(e t:M3)(k:Nat)(p:Pos)(rest:M5->M5->Env->Sem Fin):Prop:=∀it acc env,compTurn e k it acc env=(do
 Zy p
 match <- pyNext it with
 |none=>pure (.done .next)
 |some v=>
  Ys t it v
  YH t env v
  rest it acc env)
theorem GN{bx t:M3}{gens:List XA}{scope:re}{pos:Pos}{k:Nat}{p:Pos}{rest:M5->M5->Env->Sem Fin}{bd:AV->St->(St->PS)->PS}{el:DL}(ht:t4 (.ListComp bx gens scope pos) t k p rest)(hb:ka g d fi t bd)(hr:tY g d fi (.ListComp bx gens scope pos) k rest el){it:M5}{xs ys:List AV}{L:ai}{ac:MW}{vs:List M5}{Q:List AV->St->PS}
 {R:Xw->MY->Prop} (C:bF d A) (N:bq fi env ca) (np:jX ca) (hI:hL g W it xs L) (hv:aO g W ys vs) (h:ic bd el xs ys st Q) (R0:am g W fi env ca st (L++(ac,bO vs)::Rz) s)
 (hR:∀s',rz g W fi env ca Rz ac Q s'->R (.ok .next) s'):ZC (Mo g) A (.compLoop (.ListComp bx gens scope pos) k it (.ref ac) env) R s:=by
 unfold ic at h;refine bV h λI i0 i1 i2=>?_
 refine codeAny_loop rfl (U3 g W fi env ca Rz it ac I) (λn s1 hn=>?_) xs.length ⟨xs,ys,vs,W,L,st,rfl,.Q _,i0,hI,hv,R0⟩;obtain⟨xs,ys,vs,W1,L1,ab,rfl,le,j,hI1,zP,R1⟩:=hn;refine (?_:K8 _ A ((compTurn (.ListComp bx gens scope pos) k it (.ref ac) env).onRaise (λx=>do noteFrame x env;theTreesLotGoes x)) _ _ s1);refine wpAny_noted ?_;rw[ht];refine EJ (XY (EJ (iu (GI C.hh hI1 R1 (λhn s2 R2=>?_) λx r hx v L2 s2 qW Ni R2=>?_))))
 ·subst hn;exact zI (hR _ ⟨W1,ys,vs,ab,le,(i2 _ _ j).ny,zP,R2⟩)
 ·subst hx;refine EJ (iu (GG Ni R2 (EJ (iu (aL (hb.aN A W1 env ca ab _ _ s2 x v C N np (i1 x r ys ab j).ny qW R2) λU s3 h3=>?_)))));obtain⟨bE,q3,R3⟩:=h3;refine iu (aL (hr A W1 env ca bE ys vs it ac _ (L2++Rz) s3 C N np q3 zP (R3.kL [L2,[(ac,bO vs)],Rz] [0,1,2] [1,0,2])) λfin s4 h4=>?_);obtain⟨rfl,W4,ys4,Nj,o8,gM,q4,hv4,R4⟩:=h4;exact⟨rfl,r.length,YB _,r,ys4,Nj,W4,L2,o8,rfl,le.S gM,q4,Ni.aE gM,hv4,R4.kL [[(ac,bO Nj)],L2,Rz] [0,1,2] [1,0,2]⟩
noncomputable def oE(ts:DT)(el:DE):DL:=λys st Q=>ts st λb az=>br b (el az λv bE=>.rq (ys.length<=1000000) (Q (ys++[v.v]) bE)) (Q ys az)
theorem GE{bx:M3}{el:DE}(he:au g d fi bx el){ys:List AV}{vs:List M5}{ac:MW}{fin:Fin}{Q:List AV->St->PS}(C:bF d A)(N:bq fi env ca)(h:el st λv bE=>PS.rq (ys.length<=1000000) (Q (ys++[v.v]) bE))(hv:aO g W ys vs)(R:am g W fi env ca st ((ac,bO vs)::Rz) s):
 K8 (Mo g) A (do (do let _ <- call (.builtin "list.append") [.ref ac,<- Er bx env]);pure fin) (λf s'=>f=fin/\rz g W fi env ca Rz ac Q s') aK s:=by
 refine EJ (EJ (aL (nP (K:=λx ti=>PS.rq (ys.length<=1000000) (Q (ys++[x]) ti)) he C N h R) λu s5 h5=>?_));obtain⟨W5,ti,y,nF,vy,⟨hz,q5⟩,R5⟩:=h5;obtain⟨o,ho,n,rfl⟩:=R5.cQ;refine EJ (wpAny_list_append_plain ⟨n,ho⟩ (λh' hl hb=>?_) (by rw[hv.jd];exact gO hz));refine a7 hl λn' e1=>?_
 exact zI (zI ⟨rfl,W5,_,vs++[u],_,nF,q5,DG (hv.aE nF) vy,R5.oP (tk:=s5.toks) (p':=bO (vs++[u])) hb ⟨_,e1,n',by simp⟩⟩)
theorem Gu{bx target iter:M3}{eV:List M3}{scope:re}{pos:Pos}{ts:DT}{el:DE}(ht:tW g d fi eV ts)(he:au g d fi bx el):∃rest,t4 (.ListComp bx [⟨target,iter,eV,0⟩] scope pos) target 0 iter.pos rest/\tY g d fi (.ListComp bx [⟨target,iter,eV,0⟩] scope pos) 0 rest (oE ts el):=by
 refine⟨_,compTurn_list bx target iter eV scope pos,λA W env ca st ys vs it ac Q Rz s C N np h hv R=>?_⟩;refine EJ (aL (ht.aN A W env ca st _ _ s C N h R) λok s4 h4=>?_);obtain⟨W4,o8,gM,q4,R4⟩:=h4;induction ok with
 |false=>exact zI ⟨rfl,W4,ys,vs,o8,gM,q4,hv.aE gM,R4⟩
 |true=>exact aL (GE he C N q4 (hv.aE gM) R4) λf s5 ⟨e,W5,ys5,vs5,ti,nF,q5,hv5,R5⟩=>⟨e,W5,ys5,vs5,ti,gM.S nF,q5,hv5,R5⟩
def AH(g:Gx)(d:Nat)(fi:FI)(e:M3)(D:DL):Prop:=∀(A:K2) (W:Wd) (env:Env) (ca:Ca) (st:St) (it:M5) (xs:List AV) (L:ai) (ac:MW) (Q:List AV->St->PS) (Rz:ai) (s:MY) (R:Xw->MY->Prop),
 bF d A->bq fi env ca->jX ca->hL g W it xs L->D xs st Q->am g W fi env ca st (L++(ac,bO [])::Rz) s->(∀s',rz g W fi env ca Rz ac Q s'->R (.ok .next) s')->ZC (Mo g) A (.compLoop e 0 it (.ref ac) env) R s
theorem AO{bx t:M3}{gens:List XA}{scope:re}{pos:Pos}{p:Pos}{rest:M5->M5->Env->Sem Fin}{bd:AV->St->(St->PS)->PS}{el:DL}(hb:ka g d fi t bd)(h:t4 (.ListComp bx gens scope pos) t 0 p rest/\tY g d fi (.ListComp bx gens scope pos) 0 rest el):AH g d fi (.ListComp bx gens scope pos) λxs st Q=>ic bd el xs [] st Q:=
 λA W env ca st it xs L ac Q Rz s R C N np hI hD R0 hR=>GN h.1 hb h.2 C N np hI .nil hD R0 hR
theorem GD{bx target iter:M3}{eV:List M3}{more:List XA}{scope:re}{pos:Pos}{Dl:DL}{cl:List (Str×MW)}(K:mJ scope fi aZ)(hl:AH g d aZ (.ListComp bx (⟨target,iter,eV,0⟩::more) scope pos) Dl)
 (N':∀(C:MW) (pin:Nat->Option MW) (out:Str->Option M5),bq aZ (XM scope cl C env) ⟨ca.cu,pin,out⟩) {it:M5}{xs:List AV}{L:ai}{Q:List AV->St->PS}{RR:M5->MW->Xw->MY->Prop}
 (C:bF d A) (hI:hL g W it xs L) (h:Dl xs (ug fi aZ st) Q) (R0:am g W fi env ca st (L++Rz) s)
 (hR:∀ac C m' s',rz g W fi env ca ((C,bN m')::Rz) ac (λys st=>.ex λbM:St=>.rq (st=⟨bM.aD.take fi.nv.length,bM.aI⟩) (Q ys bM)) s'->RR (.ref ac) C (.ok .next) s') :
 K8 (Mo g) A (newList []) (λacc oZ=>K8 (Mo g) A (newFunctionEnv scope env.globals cl [] env.qual M4 .none (Ss env)) (λNk afE=>ZC (Mo g) A (.compStart (.ListComp bx (⟨target,iter,eV,0⟩::more) scope pos) 0 it acc { Nk with scope:=relabel scope env }) (RR acc Nk.locals) afE) aK oZ) aK s:=by
 refine wpAny_newObj_type (wpAny_newFunctionEnv K.ae0 (by intro y hy;exact aT hy) (λmj Nl afF=>?_) K.kind);have R1:=R0.jK (tk:=s.toks) (o:={ cls:=.type "list",data:=.seq ([]:List M5).toArray }) (p:=bO []) rfl ⟨0,rfl⟩;refine Ax Nl λo1 es ep c1 c2 c3 c4=>?_
 have R2:am g W fi env ca st (((s.heap.push { cls:=.type "list",data:=.seq ([]:List M5).toArray }).objs.size,bN λU=>M4)::(s.heap.objs.size,bO [])::(L++Rz)) { s with heap:=mj,toks:=s.toks }:=by
  refine R1.oK (tk:=s.toks) (h':=mj) (a:=(s.heap.push { cls:=.type "list",data:=.seq ([]:List M5).toArray }).objs.size) ?_ ?_ ⟨o1,c1,es,ep,c2,c3,λnm=>by rw[c4];rfl⟩
  ·intro b o e;exact afF.extBut b o (λz=>YD _ (z▸WC e)) (Zf _ e)
  ·exact ZH (EC _)
 refine eg R2 λrs m LL ML X=>?_
 have R3:=X.ae8 (cl:=cl) K;have wq:∀oZ:MY,oZ={ s with heap:=mj,toks:=s.toks+([]:List (Str×M5)).length }->ZC (Mo g) A (.compLoop (.ListComp bx (⟨target,iter,eV,0⟩::more) scope pos) 0 it (.ref s.heap.objs.size) (XM scope cl (s.heap.push { cls:=.type "list",data:=.seq ([]:List M5).toArray }).objs.size env))
  (RR (.ref s.heap.objs.size) (s.heap.push { cls:=.type "list",data:=.seq ([]:List M5).toArray }).objs.size) oZ:=by
  rintro oZ rfl;refine hl A W _ _ _ it xs L _ Q ((env.locals,bN m)::Rz) _ _ C (N' _ _ _) (λU=>rfl) hI h (R3.kL [[(env.locals,bN m)],[(s.heap.objs.size,bO [])],L,Rz] [0,1,2,3] [2,1,0,3]) λs' hh=>?_;obtain⟨W',qX,jl,bM,le,q,hv,R4⟩:=hh;refine a7 (adJ (rs:=rs) (R₁:=(s.heap.objs.size,bO jl)::Rz) K X.ms X.pin.1 (R4.g8 (.swap ..))) λm' R5=>?_;exact hR _ _ m' s' ⟨W',qX,jl,_,le,⟨bM,rfl,q⟩,hv,R5.g8 (.swap ..)⟩
 exact codeAny_compStart_list (wq _ rfl) (iu (GJ (L:=L) (Rz:=Rz) (st:=st) (env:=env) (ca:=ca) (fi:=fi) hI (X.kN.fS (l:=[((s.heap.push { cls:=.type "list",data:=.seq ([]:List M5).toArray }).objs.size,bN λU=>M4),(s.heap.objs.size,bO [])])) (wq _ rfl)))
noncomputable def yY(fi aZ:FI)(src:DX)(Dl:DL):DE:=λst Q=>src st λxs ab=>Dl xs (ug fi aZ ab) λys az=>Q (.own (.lst ys)) ⟨az.aD.take fi.nv.length,az.aI⟩
theorem Ls{bx target iter:M3}{eV:List M3}{more:List XA}{scope:re}{pos:Pos}{src:DX}{Dl:DL}(aZ:FI)(K:mJ scope fi aZ)(hs:lv g d fi iter src)(hl:AH g d aZ (.ListComp bx (⟨target,iter,eV,0⟩::more) scope pos) Dl)
 (hf:∀(env:Env) x,Wb iter env x=pure x):au g d fi (.ListComp bx (⟨target,iter,eV,0⟩::more) scope pos) (yY fi aZ src Dl):=by
 constructor;intro A W env ca st Q Rz s C N h R;refine aj (Gi K N) λcl qV N'=>?_;rw[eval_ListComp];refine akF (use:=M4) rfl (hf env) qV K.kind K.names (aL (hs.aN A W env ca st _ Rz s C N h R) λx s1 h1=>aL h1 λit s2 h2=>?_);obtain⟨W2,xs,az,L,le,q,hI,R2⟩:=h2;refine GD (RR:=λacc C=>compPost (Mo g) A aK M4 (lg g W fi env ca Rz Q) acc C) K hl N' C hI q R2 λac C m' s' hh=>?_;obtain⟨W',qX,jl,bM,cS,⟨bE,rfl,q'⟩,hv,R'⟩:=hh;have Nm:=R'.g8 (.swap ..);refine aj (Nm.cQ) λo ho hp=>?_;exact⟨m',pD ho hp,λh' hb=>⟨W',.own (.lst qX),_,[(ac,bO jl)],le.S cS,q',.own (.lst hv),Nm.qK (h':=h') λb o fh e=>hb.extBut b o fh e⟩⟩
theorem lW{bx target iter:M3}{eV:List M3}{scope:re}{pos:Pos}{src:DX}{bd:AV->St->(St->PS)->PS}{ts:DT}{el:DE}(aZ:FI)(K:mJ scope fi aZ)(hs:lv g d fi iter src)(hb:ka g d aZ target bd)(ht:tW g d aZ eV ts)(he:au g d aZ bx el)
 (hf:autoParam (pB iter=WL) t_rfl):au g d fi (.ListComp bx [⟨target,iter,eV,0⟩] scope pos) (yY fi aZ src λxs st Q=>ic bd (oE ts el) xs [] st Q):=
 let⟨_,h⟩:=Gu ht he;Ls aZ K hs (AO hb h) (noFold hf)
end
theorem bA.qM{F:Fz}{R N:ai}{h h':Ex}(H:bA F R h)(k:∀b o,h.get? b=Ss o->h'.get? b=Ss o)(fr:∀p∈N,h.get? p.1=M4)(nd:(N.map (·.1)).Nodup)(ok:∀p∈N,∃o,h'.get? p.1=Ss o/\p.2 o):bA F (N++R) h':=by
 refine⟨λa o e=>k _ _ (H.fz a o e),λq hq=>?_,?_,λq hq=>?_⟩
 ·rcases bT.mp hq with y|y
  ·exact ok q y
  ·refine aj (H.b8 q y) λo e x=>?_;exact⟨o,k _ _ e,x⟩
 ·rw[wh,Y3];refine⟨nd,H.nd,λa ha b hb e=>?_⟩;refine aj (zK.mp ha) λp hp y9=>?_;subst y9;refine aj (zK.mp hb) λq hq y9=>?_;subst y9;refine aj (H.b8 q hq) λo e' U=>?_;rw[<- e,fr p hp] at e';exact aY e'
 ·rcases bT.mp hq with y|y
  ·cases z:F q.1 with
   |none=>rfl
   |some o=>have:=H.fz q.1 o z;rw[fr q y] at this;exact aY this
  ·exact H.fH q y
structure rE(g:Gx)(a:MW)(fd:Zd)(body:List v0):Prop where
 gp:∃o,g.mh.heap.get? a=Ss o/\o.data=.func fd
 body:fd.body=.stmts body
 Eg:fd.closure=[]
 oI:fd.globals=ZX
 blt:fd.builtins=Y2
 cd:g.mh.heap.CodeRec fd.code fd.qualname
 kind:fd.scope.kind=.function
 co:fd.scope.isCoroutine=PO
 gen:fd.scope.isGenerator=PO
structure xh(fd:Zd)(fi:FI)(ps:List Str):Prop where
 oU:ps <+: fi.nv.map (·.1)
 Ef:(fi.nv.map (·.1)).Nodup
 aD:∀p∈fi.nv,p.2=.loc/\fd.scope.names.lookup p.1=Ss .local∨p.2=.cell/\fd.scope.names.lookup p.1=Ss .cell
 ng:∀nm∈fi.ng,fd.scope.names.lookup nm=Ss .globalImplicit
 sR:∀p∈fi.nv,(p.1==("__debug__":Str))=PO
 qC:∀p∈fi.ng,(p==("__debug__":Str))=PO
set_option tactic.hygienic true in
theorem GV{nm:Str}{names:List (Str×Yg)}:∀(n:Nat) (acc:List (Str×MW)),(nm,Xd)∈names∨(acc.lookup nm).isSome=WL->((cellsFrom n names acc).lookup nm).isSome=WL:=by
 induction names with
 |nil=>intro n acc h;rcases h with h|h;exact aT h;exact h
 |cons p r ih=>
  intro n acc h;obtain⟨m,k⟩:=p;unfold cellsFrom;split
  ·refine ih _ _ ?_;rcases h with h|h
   ·rcases K7.mp h with e|h
    ·(injection e with y8 y9;subst y8;subst y9);right;rw[List.lookup_cons_self];rfl
    ·exact Yt h
   ·right;rw[Zp];split
    ·rfl
    ·exact h
  ·rename_i hk;refine ih _ _ ?_;rcases h with h|h
   ·rcases K7.mp h with e|h
    ·(injection e with y8 y9;subst y8;subst y9);exact MQ rfl hk
    ·exact Yt h
   ·exact Or.inr h
theorem amL{nG:Str->Option Yg}{n:Str}{b:List (Str×M5)}:∀{m:Str->Option M5},(∀p∈b,p.1≠n)->bindL nG b m n=m n:=by
 induction b with
 |nil=>intro m _;rfl
 |cons p b ih=>
  intro m h;unfold bindL;rw[ih λp hp=>h p (.tail _ hp)];split
  ·exact MZ λz=>h _ (.head _) z.symm
  ·rfl
theorem amU{nG:Str->Option Yg}{n:Str}{b:List (Str×M5)}:∀{m:Str->Option M5},(∀p∈b,p.1≠n)->bindC nG b m n=m n:=by
 induction b with
 |nil=>intro m _;rfl
 |cons p b ih=>
  intro m h;unfold bindC;rw[ih λp hp=>h p (.tail _ hp)];split
  ·rfl
  ·exact MZ λz=>h _ (.head _) z.symm
theorem amM{nG:Str->Option Yg}{n:Str}{v:M5}(hk:nG n=Ss .local){b:List (Str×M5)}:∀{m:Str->Option M5},(b.map (·.1)).Nodup->(n,v)∈b->bindL nG b m n=Ss v:=by
 induction b with
 |nil=>intro m _ h;exact aT h
 |cons p b ih=>
  intro m nd h;rw[Zv,bS] at nd;unfold bindL;rcases K7.mp h with e|h
  ·subst e;rw[amL λp hp z=>nd.1 (zK.mpr ⟨p,hp,z⟩),MS hk];exact MS rfl
  ·exact ih nd.2 h
theorem amV{nG:Str->Option Yg}{n:Str}{v:M5}(hk:nG n≠Ss .local){b:List (Str×M5)}:∀{m:Str->Option M5},(b.map (·.1)).Nodup->(n,v)∈b->bindC nG b m n=Ss v:=by
 induction b with
 |nil=>intro m _ h;exact aT h
 |cons p b ih=>
  intro m nd h;rw[Zv,bS] at nd;unfold bindC;rcases K7.mp h with e|h
  ·subst e;rw[amU λp hp z=>nd.1 (zK.mpr ⟨p,hp,z⟩),MZ hk];exact MS rfl
  ·exact ih nd.2 h
inductive GO(ca:Nat->MW)(k:Nat)(nv:List (Str×NK))(rs:List (Option M5))(x:MW×(Obj->Prop)):Prop
 |mk (i:Nat) (nm:Str) (r:Option M5) (h:nv[i]?=Ss (nm,NK.cell)) (hr:rs[i]?=Ss r) (e:x=(ca (k+i),jW r))
theorem GU{ca:Nat->MW}{x:MW×(Obj->Prop)}{nv:List (Str×NK)}:∀{k:Nat}{rs:List (Option M5)},x∈bP ca k nv rs->(∀p∈nv,p.2=.loc∨p.2=.cell)->GO ca k nv rs x:=by
 induction nv with
 |nil=>intro k rs h;exact aT h
 |cons p nv ih=>
  intro k rs h q;induction rs using K1 with
  |nil=>exact aT h
  |cons r rs=>
   have go:x∈bP ca (k+1) nv rs->GO ca k (p::nv) (r::rs) x:=λh=>by obtain⟨i,nm,r',a,b,c⟩:=ih h λp hp=>q p (.tail _ hp);exact⟨i+1,nm,r',a,b,by rw[c,Xa];rfl⟩
   obtain⟨nm,kd⟩:=p;rcases q _ (.head _) with e|e
   ·subst e;exact go h
   ·subst e;rcases K7.mp h with e|h
    ·exact⟨0,nm,r,rfl,rfl,e⟩
    ·exact go h
theorem amK{ca:Nat->MW}{nv:List (Str×NK)}:∀{k:Nat}{rs:List (Option M5)},(∀p∈nv,p.2=.loc∨p.2=.cell)->
 (∀(i j:Nat) (a b:Str),nv[i]?=Ss (a,NK.cell)->nv[j]?=Ss (b,NK.cell)->ca (k+i)=ca (k+j)->i=j)->((bP ca k nv rs).map (·.1)).Nodup:=by
 induction nv with
 |nil=>intro k rs _ _;exact .nil
 |cons p nv ih=>
  intro k rs q h;induction rs using K1 with
  |nil=>exact .nil
  |cons r rs=>
   have nd:((bP ca (k+1) nv rs).map (·.1)).Nodup:=ih (λp hp=>q p (.tail _ hp)) λi j a b h1 h2 e=>ZG (h (i+1) (j+1) a b h1 h2 (by rw[<- Yj,<- Yj,YY k i,YY k j];exact e))
   obtain⟨nm,kd⟩:=p;rcases q _ (.head _) with e|e
   ·subst e;exact nd
   ·subst e;refine bS.mpr ⟨λz=>?_,nd⟩;refine aj (zK.mp z) λx hx e=>?_;obtain⟨i,mi,r',a,b,rfl⟩:=GU hx λp hp=>q p (.tail _ hp);have:=h (i+1) 0 mi nm a rfl (by rw[<- Yj,YY];exact e);cases this
structure nU(g:Gx)(W:Wd)(mem:List (Option MO))(R:ai)(s:MY):Prop where
 ex:∃ML,il g W 0 mem ML/\bA W.F (ML++R) s.heap
 di:∀i,mem.length<=i->W.φ i=M4
 bI:∀a o,g.mh.heap.get? a=Ss o->W.F a=Ss o
 cv:lh g s
section
variable {g:Gx}{d:Nat}{fi:FI}{A:K2}{W:Wd}{env:Env}{ca:Ca}{st:St}{Rz l:ai}{s:MY}
noncomputable def Ba(fi:FI)(env:Env)(ca:Ca)(rs:List (Option M5))(m:Str->Option M5)(L:ai):ai:=(env.locals,bN m)::(bP ca.cu 0 fi.nv rs++L)
theorem gy.Ej{rs:List (Option M5)}{m:Str->Option M5}{L ML:ai}(X:gy g W fi env ca st Rz s rs m L ML):nU g W st.aI (Ba fi env ca rs m L++Rz) s:=
 ⟨⟨ML,X.aI,X.cm.fI [[(env.locals,bN m)],bP ca.cu 0 fi.nv rs,L,ML,Rz] [[0],[1],[2],[3],[4]] [[3],[0,1,2],[4]]⟩,X.di,X.bI,X.cv⟩
theorem gy.Ei{rs:List (Option M5)}{m:Str->Option M5}{L ML:ai}{W':Wd}{mem:List (Option MO)}{s':MY}(X:gy g W fi env ca st Rz s rs m L ML)(le:W.J W')(M:nU g W' mem (Ba fi env ca rs m L++Rz) s'):am g W' fi env ca ⟨st.aD,mem⟩ Rz s':=by refine aj (M.ex) λoY m1 m2=>?_;exact⟨rs,m,L,oY,X.len,X.ms,X.aD.aE le,m1,M.di,m2.fI [[(env.locals,bN m)],bP ca.cu 0 fi.nv rs,L,oY,Rz] [[3],[0,1,2],[4]] [[0],[1],[2],[3],[4]],M.bI,M.cv,X.pin⟩
theorem LP(R:am g W fi env ca st Rz s):nU g W st.aI Rz s:=by
 refine eg R λrs m L ML X=>?_
 exact⟨⟨ML,X.aI,bA.fS (L1:=Ba fi env ca rs m L) (X.cm.fI [[(env.locals,bN m)],bP ca.cu 0 fi.nv rs,L,ML,Rz] [[0],[1],[2],[3],[4]] [[0,1,2],[3],[4]])⟩,X.di,X.bI,X.cv⟩
end
abbrev DC:=List AV->List (Option MO)->(AV->List (Option MO)->PS)->PS
inductive alG(g:Gx)(W:Wd)(R:ai)(P:AV->List (Option MO)->PS)(r:Xw)(s':MY):Prop
 |mk (v:M5) (W':Wd) (x:AV) (ct:List (Option MO)) (e:r=.ok (.ret v)) (le:W.J W') (q:P x ct) (hv:Vr g W' x v) (M:nU g W' ct R s')
def adR(g:Gx)(d:Nat)(a:MW)(Cf:DC):Prop:=∀(A:K2) (W:Wd) (R:ai) (s:MY) (vs:List M5) (xs:List AV) (mem:List (Option MO)) (P:AV->List (Option MO)->PS),
 bF d A->aO g W xs vs->Cf xs mem P->nU g W mem R s->
  ZC (Mo g) A (.call (.ref a) ⟨vs,[]⟩) (alG g W R P) s
structure bQ(g:Gx)(d:Nat)(a:MW)(Cf:DC):Prop where
 aN:adR g d a Cf
noncomputable def js(cs:List (Str×MW))(fi:FI)(i:Nat):MW:=match fi.nv[i]? with
 |some (nm,j4)=>(cs.lookup nm).getD 0
 |none=>0
theorem G9{α:Type}{x y:α}{r:α->α->Prop}(sy:∀a b,r a b->r b a):∀{l:List α},l.Pairwise r->x∈l->y∈l->x≠y->r x y
 |[],j4,h,j5,j6=>nomatch h
 |z::l,p,hx,hy,n=>by
  rw[Xl] at p;rcases K7.mp hx with e|hx
  ·rcases K7.mp hy with e' |hy
   ·exact MQ (e.trans e'.symm) n
   ·rw[e];exact p.1 y hy
  ·rcases K7.mp hy with e' |hy
   ·rw[e'];exact sy _ _ (p.1 x hx)
   ·exact G9 sy p.2 hx hy n
theorem ama{cs:List (Str×MW)}{fi:FI}{i:Nat}{nm:Str}{k:NK}(h:fi.nv[i]?=Ss (nm,k)):js cs fi i=(cs.lookup nm).getD 0:=by unfold js;rw[h]
theorem Be{α:Type}{x:α}:∀{l:List α},l.Nodup->∀{i j:Nat},l[i]?=Ss x->l[j]?=Ss x->i=j
 |[],j4,i,j,h,j5=>by simp at h
 |y::l,n,0,0,j4,j5=>rfl
 |y::l,n,0,j+1,h1,h2=>by rw[bS] at n;simp at h1;subst h1;exact MQ (s8 (by simpa using h2)) n.1
 |y::l,n,i+1,0,h1,h2=>by rw[bS] at n;simp at h2;subst h2;exact MQ (s8 (by simpa using h1)) n.1
 |y::l,n,i+1,j+1,h1,h2=>by rw[bS] at n;exact congrArg (·+1) (Be n.2 (i:=i) (j:=j) (by simpa using h1) (by simpa using h2))
noncomputable def Bg(P:AV->List (Option MO)->PS):Fl->St->PS
 |.ret v,st=>P v st.aI
 |.next,st=>P .none st.aI
 |j4,j5=>.bot
noncomputable def DI(n:Nat)(k:Nat)(b:DS):DC:=λxs mem P=>.rq (k=xs.length) (b ⟨xs.map .val++Zn (n-k) .none,mem⟩ (Bg P))
section
variable {g:Gx}{d:Nat}{fi:FI}{A:K2}{W:Wd}{env:Env}{ca:Ca}{st:St}{Rz l:ai}{s:MY}
theorem bF.afe{d:Nat}{A:K2}(C:bF (d+1) A)(env:Env):bF d (A.deeper env):=
 ⟨C.hh,by have:=C.sP;refine (?_:A.depth+1+_+_<_);exact F3 this,by have:=C.un;refine (?_:A.units+3+_+_<_);exact SS this⟩
theorem GT{fd:Zd}{body:List v0}{ps:List Str}{a L:MW}(F:rE g a fd body)(K:xh fd fi ps){pin:Nat->Option MW}{out:Str->Option M5}:bq fi (ay fd L a) ⟨js (ay fd L a).cells fi,pin,out⟩:=by
 refine⟨F.kind,F.oI,F.blt,?_,?_,?_,?_,?_,?_,?_⟩
 ·intro i nm h;rcases K.aD _ (s8 h) with⟨_,h2⟩|⟨h1,_⟩
  ·exact h2
  ·cases h1
 ·intro i nm h;rcases K.aD _ (s8 h) with⟨h1,_⟩|⟨_,h2⟩
  ·cases h1
  ·refine⟨Yt h2,?_⟩;have:((ay fd L a).cells.lookup nm).isSome=WL:=GV _ _ (Yt (t9 h2));refine a7 (akP.mp this) λc hc=>?_;refine (?_:(ay fd L a).cells.lookup nm=Ss (js (ay fd L a).cells fi i));rw[ama h,hc];rfl
 ·intro j nm h;exact K.ng nm (s8 h)
 ·intro i nm k h;exact K.sR _ (s8 h)
 ·intro j nm h;exact K.qC _ (s8 h)
 ·intro i j nm h1 h2;have e1:(fi.nv.map (·.1))[i]?=Ss nm:=by rw[ZZ,h1];rfl
  have e2:(fi.nv.map (·.1))[j]?=Ss nm:=by rw[ZZ,h2];rfl
  exact Be K.Ef e1 e2
 ·intro _ i nm h;rcases K.aD _ (s8 h) with⟨h1,_⟩|⟨_,h2⟩
  ·cases h1
  ·exact h2
set_option tactic.hygienic true in
theorem ad7{rs:List (Option M5)}:∀{xs:List AV}{vs:List M5},aO g W xs vs->∀n:Nat,rs.length=xs.length+n->(∀(i:Nat) (v:M5),vs[i]?=Ss v->rs[i]?=Ss (Ss v))->fW g W (xs.map an.val++Zn n .none) rs []:=by
 intro xs;induction xs generalizing rs with
 |nil=>
  intro vs h n hl hq;clear hq h;simp only[List.map_nil,YR];simp only[Yp,kI] at hl;induction n generalizing rs with
  |zero=>have:rs=[]:=Wh.mp hl;subst this;exact .nil
  |succ n ih=>
   induction rs using K1 with
   |nil=>simp at hl
   |cons r rs=>have:=fW.cons (g:=g) (W:=W) (.none (r:=r)) (ih (rs:=rs) (by simpa using hl));simpa [al7] using this
 |cons x xs ih=>
  intro vs h n hl hv;cases h with
  |cons h1 h2=>
   rename_i v vs;induction rs using K1 with
   |nil=>simp at hl;omega
   |cons r rs=>
    have e:r=Ss v:=by have:=hv 0 v rfl;simpa using this
    subst e;have:=fW.cons (.val h1) (ih (rs:=rs) h2 n (by simp at hl ⊢;exact SG hl) λi u hu=>by simpa using hv (i+1) u (by simpa using hu));simpa using this
theorem nU.afg{fd:Zd}{body:List v0}{ps:List Str}{a:MW}{xs:List AV}{vs:List M5}{mem:List (Option MO)}{kY:MY}(F:rE g a fd body)(K:xh fd fi ps)(M:nU g W mem Rz s)(hv:aO g W xs vs)(hl:xs.length=ps.length)
 (X:InCallC s (ay fd s.heap.objs.size a).locals (bindL (ay fd s.heap.objs.size a).kindOf (ps.zip vs) λU=>M4) (ay fd s.heap.objs.size a).cells (bindC (ay fd s.heap.objs.size a).kindOf (ps.zip vs) λU=>M4) kY) :
 am g W fi (ay fd s.heap.objs.size a) ⟨js (ay fd s.heap.objs.size a).cells fi,λU=>M4,λU=>M4⟩ ⟨xs.map .val++Zn (fi.nv.length-ps.length) .none,mem⟩ Rz kY:=by
 refine aj (M.ex) λML m1 m2=>?_;have N:=GT (L:=s.heap.objs.size) (pin:=λU=>M4) (out:=λU=>M4) F K;generalize hE:ay fd s.heap.objs.size a=E at X N ⊢;generalize wr:bindL E.kindOf (ps.zip vs) (λU=>M4)=ml at X;generalize hmc:bindC E.kindOf (ps.zip vs) (λU=>M4)=mc at X;obtain⟨⟨⟨h1,tk,rfl⟩,ns,EV,Nn⟩,afG,hap,wu⟩:=X;have No:ps.length<=fi.nv.length:=by have:=K.oU.length_le;simpa using this
 have zQ:vs.length=ps.length:=hv.cz.trans hl;have zR:∀p∈fi.nv,p.2=.loc∨p.2=.cell:=λp hp=>(K.aD p hp).imp And.left And.left;have psn:ps.Nodup:=K.oU.sublist.nodup K.Ef;have Np:((ps.zip vs).map (·.1)).Nodup:=by rw[List.map_fst_zip (F1 zQ)];exact psn
 have adr:∀(i:Nat) (nm:Str),fi.nv[i]?=Ss (nm,NK.cell)->(nm,js E.cells fi i)∈E.cells:=λi nm h=>t9 (N.qB i nm h).2;refine⟨fi.nv.map λp=>if p.2=.loc then ml p.1 else mc p.1,ml,[],ML,?_,?_,?_,m1,M.di,?_,M.bI,⟨M.cv.qG,M.cv.os⟩,?_,?_⟩
 ·simp only[Es,K4,alC,hl];exact Sh zQ No
 ·intro i nm h;rw[ZZ,h];rfl
 ·refine ad7 hv _ (by simp only[K4,hl];exact RY zQ No) λi v hi=>?_;have EW:i<ps.length:=by rw[<- zQ];exact (sV.mp hi).1
  refine a7 (K.oU) λt ht=>?_;have jT:(fi.nv.map (·.1))[i]?=Ss ps[i]:=by rw[<- ht,Yl EW];simp[EW]
  rw[ZZ] at jT ⊢;refine aj (ZU.mp jT) λp qY zS=>?_;rw[qY];have hz:(ps[i],v)∈ps.zip vs:=by refine s8 (i:=i) ?_;rw[List.getElem?_zip_eq_some];exact⟨by simp[EW],hi⟩
  simp only[WK,amu];obtain⟨nm,k⟩:=p;dsimp only at zS;subst zS;rcases zR _ (s8 qY) with hk|hk
  ·dsimp only at hk;subst hk;rw[MS rfl,<- wr];exact amM (N.aD _ _ qY) Np hz
  ·dsimp only at hk;subst hk;rw[MZ (by intro z;cases z),<- hmc];refine amV ?_ Np hz;intro z;rcases K.aD _ (s8 qY) with⟨q,_⟩|⟨_,q⟩
   ·cases q
   ·have:E.kindOf ps[i]=fd.scope.names.lookup ps[i]:=by rw[<- hE];rfl
    rw[this,q] at z;cases z
 ·have fr:∀a,s.heap.objs.size<=a->s.heap.get? a=M4:=λa ha=>ZH ha;have EX:∀x∈bP (js E.cells fi) 0 fi.nv (fi.nv.map λp=>if p.2=.loc then ml p.1 else mc p.1),∃(i:Nat) (nm:Str),fi.nv[i]?=Ss (nm,NK.cell)/\x=(js E.cells fi i,jW (mc nm)):=by intro x hx;obtain⟨i,nm,r,q1,q2,q3⟩:=GU hx zR;rw[ZZ,q1] at q2;simp only[WK,amu] at q2;rw[MZ (by intro z;cases z)] at q2;subst q2;exact⟨i,nm,q1,by rw[q3,kI]⟩
  have H:=m2.qM (N:=(E.locals,bN ml)::bP (js E.cells fi) 0 fi.nv (fi.nv.map λp=>if p.2=.loc then ml p.1 else mc p.1)) (h':=h1) EV ?_ ?_ ?_
  ·exact H.fI [[(E.locals,bN ml)],bP (js E.cells fi) 0 fi.nv (fi.nv.map λp=>if p.2=.loc then ml p.1 else mc p.1),ML,Rz] [[0,1],[2],[3]] [[0],[1],[2],[3]]
  ·intro p hp;rcases K7.mp hp with rfl|hp
   ·exact fr _ Nn
   ·refine hJ (EX p hp) λi nm q1 y9=>?_;subst y9;have:=wu nm _ (adr i nm q1);exact fr _ (YW (ZQ Nn this))
  ·rw[Zv,bS];refine⟨λz=>?_,amK zR λi j x y q1 q2 e=>?_⟩
   ·refine aj (zK.mp z) λp hp e=>?_;refine hJ (EX p hp) λi nm q1 y9=>?_;subst y9;have:=wu nm _ (adr i nm q1);dsimp only at e;rw[e] at this;exact YD _ this
   ·rw[kI,kI] at e;have a1:=adr i x q1;have a2:=adr j y q2;rw[e] at a1;have hxy:x=y:=by
     rcases Classical.em ((x,js E.cells fi j)=(y,js E.cells fi j)) with h|h
     ·cases h;rfl
     ·exact ((G9 (r:=λx y:Str×MW=>x.2≠y.2) (λU U h z=>h z.symm) hap a1 a2 h) rfl).elim
    subst hxy;have e1:(fi.nv.map (·.1))[i]?=Ss x:=by rw[ZZ,q1];rfl
    have e2:(fi.nv.map (·.1))[j]?=Ss x:=by rw[ZZ,q2];rfl
    exact Be K.Ef e1 e2
  ·intro p hp;rcases K7.mp hp with rfl|hp
   ·exact wY ns
   ·refine hJ (EX p hp) λi nm q1 y9=>?_;subst y9;exact afG nm _ (N.qB i nm q1).2
 ·intro i a e;exact aY e
 ·intro i nm h;rcases zR _ (s8 h) with hk|hk<;>cases hk
end
def uh(g:Gx)(nm:Str)(a:MW):Prop:=g.mg nm=Ss (.ref a)/\∃o fd,g.mh.heap.get? a=Ss o/\o.data=.func fd
section
variable {g:Gx}{d:Nat}{fi:FI}{A:K2}{W:Wd}{env:Env}{ca:Ca}{st:St}{Rz l:ai}{s:MY}
theorem um{a:MW}{Cf:DC}{vs:List M5}{xs:List AV}{P:AV->List (Option MO)->PS}{Q:M5->MY->Prop}(hc:bQ g d a Cf)(C:bF d A)(hv:aO g W xs vs)(h:Cf xs st.aI P)(R:am g W fi env ca st Rz s)
 (q:∀v W' x ct s',W.J W'->P x ct->Vr g W' x v->am g W' fi env ca ⟨st.aD,ct⟩ Rz s'->Q v s'):K8 (Mo g) A (call (.ref a) vs) Q aK s:=by
 refine eg R λrs m L ML X=>?_
 refine XW (YX (hc.aN A W _ s vs xs st.aI P C hv h X.Ej) λr s' hh=>?_);obtain⟨v,W',x,ct,e,le,p,jk,M⟩:=hh;subst e;exact q v W' x ct s' le p jk (X.Ei le M)
noncomputable def adT(a:St->(List AV->St->PS)->PS)(Cf:DC):DE:=λst Q=>a st λxs ab=>Cf xs ab.aI λv mem=>Q (.val v) ⟨ab.aD,mem⟩
theorem sJ{nm:Str}{a:MW}{Cf:DC}{e:M3}{es:List M3}{De:St->(List AV->St->PS)->PS}{p pos:Pos}(j:Nat)(G:GOK g)(gf:uh g nm a)(hc:bQ g d a Cf)(he:gz g d fi (e::es) De)(hj:autoParam (fi.ng[j]?=Ss nm) t_rfl)
 (hs:autoParam (cT e=WL) t_rfl):au g d fi (.Call (.Name nm p) (e::es) [] pos) (adT De Cf):=by
 constructor;intro A W env ca st Q Rz s C N h R;obtain⟨e1,o,fd,ho,hd⟩:=gf;refine Ze (lC G N R hj e1 (callWith_def hd (he.C C N h R λvs s1 W1 xs ab le q r1 R1=>?_) (star_cons hs env)));refine⟨R1.bI ho,?_⟩;exact um hc C r1 q R1 λv W' x ct s' cS p hv R'=>cF (le.S cS) ⟨W',.val x,_,[],.Q _,p,.val hv,R'⟩
end
structure xi(g:Gx)(nm:Str)(c:Nat)(iO:MW):Prop where
 val:g.mg nm=Ss (.ref (g.κ c))
 Eh:∃K:Frag,K.In g.mh.heap/\makesIn K (g.κ c)=WL/\ZM K (.ref (g.κ c)) "__init__"=Ss (Ss (.ref iO))/\typeIn K (.ref iO)=Ss (.type "function")/\keepIn K (.ref (g.κ c))=WL
section
variable {g:Gx}{d:Nat}{fi:FI}{A:K2}{W:Wd}{env:Env}{ca:Ca}{st:St}{Rz l:ai}{s:MY}
theorem bF.under{d:Nat}{A:K2}{c:MW}{vs:List M5}(C:bF (d+1) A):bF d (A.under (.builtin "type.__call__" ⟨.ref c::vs,[]⟩)):=by have e1:(A.under (.builtin "type.__call__" ⟨.ref c::vs,[]⟩)).depth=A.depth+1:=rfl;have e2:(A.under (.builtin "type.__call__" ⟨.ref c::vs,[]⟩)).units=A.units+1:=rfl;exact⟨C.hh,by rw[e1];have:=C.sP;exact F3 this,by rw[e2];have:=C.un;exact F4 this⟩
theorem alH:cA (λU=>M4) emptyDict:=⟨#[],0,rfl,(by intro e he;simp at he),(λU=>rfl),zJ _⟩
noncomputable def Wd.qN(W:Wd)(k:Nat)(a:MW):Wd:=⟨W.F,λi=>if i=k then Ss a else W.φ i⟩
theorem aeg{W:Wd}{k:Nat}{a:MW}(h:W.φ k=M4):W.J (W.qN k a):=⟨λU U e=>e,λi b e=>(MZ λz=>by rw[z,h] at e;exact aY e).trans e⟩
theorem nU.afh{mem:List (Option MO)}{R:ai}(c:Nat)(M:nU g W mem R s):W.J (W.qN mem.length (s.heap.objs.size+1))/\nU g (W.qN mem.length (s.heap.objs.size+1)) (mem++[Ss ⟨c,[]⟩]) R { s with heap:=(s.heap.push emptyDict).push (s0 (g.κ c) s.heap.objs.size) }:=by
 have le:W.J (W.qN mem.length (s.heap.objs.size+1)):=aeg (M.di _ (EC _));refine aj (M.ex) λML m1 m2=>?_;have hs:(s.heap.push emptyDict).objs.size=s.heap.objs.size+1:=Heap.size_push _ _;refine⟨le,⟨_,(m1.aE le).D8 (mo:=⟨c,[]⟩) (a:=s.heap.objs.size+1) (d:=s.heap.objs.size) (m:=λU=>M4) (l:=[]) (by rw[kI];unfold Wd.qN;exact MS rfl) .nil λU U=>rfl,?_⟩,λi hi=>?_,M.bI,⟨M.cv.qG,M.cv.os⟩⟩
 ·have H1:=m2.jK (o:=emptyDict) (p:=cA λU=>M4) rfl alH;have H2:=H1.jK (o:=s0 (g.κ c) s.heap.objs.size) (p:=λo=>o=s0 (g.κ c) s.heap.objs.size) rfl rfl;rw[hs] at H2;exact H2.fI [[(s.heap.objs.size+1,λo=>o=s0 (g.κ c) s.heap.objs.size)],[(s.heap.objs.size,cA λU=>M4)],ML,R] [[0],[1],[2],[3]] [[2,0,1],[3]]
 ·rw[Es] at hi;exact (MZ (V6 hi)).trans (M.di i (WY hi))
noncomputable def LF(c:Nat)(a:St->(List AV->St->PS)->PS)(Ci:DC):DE:=λst Q=>a st λxs ab=>Ci (.ref ab.aI.length::xs) (ab.aI++[Ss ⟨c,[]⟩]) λv mem=>.rq (.none=v) (Q (.val (.ref ab.aI.length)) ⟨ab.aD,mem⟩)
theorem Ho{nm:Str}{c:Nat}{iO:MW}{Ci:DC}{vs:List M5}{xs:List AV}{P:aS->St->PS}(gc:xi g nm c iO)(hc:bQ g d iO Ci)(C:bF (d+1) A)(hv:aO g W xs vs)(h:Ci (.ref st.aI.length::xs) (st.aI++[Ss ⟨c,[]⟩]) λv mem=>.rq (.none=v) (P (.val (.ref st.aI.length)) ⟨st.aD,mem⟩))
 (R:am g W fi env ca st Rz s):K8 (Mo g) A (call (.ref (g.κ c)) vs) (lg g W fi env ca Rz P) aK s:=by
 refine rx (gc.Eh) λK X0 k1 k2 k3 k4=>?_;have X1:K.In s.heap:=X0.keeps λb o e=>R.bI e;refine eg R λrs m L ML X=>?_
 refine ak (X.Ej.afh c) λle M=>?_;refine XW ?_;refine make_core (makes_of X1 k1) (looks_findIn X1 k2) (λafH=>bind_fn X1 afH k3) (Yt rfl) ?_;refine YX (hc.aN _ _ _ _ (.ref (s.heap.objs.size+1)::vs) (.ref st.aI.length::xs) _ _ C.under (.cons (.ref (by unfold Wd.qN;exact MS rfl)) (hv.aE le)) h M) λr s' hh=>?_;obtain⟨v,W',x,ct,e,cS,⟨p1,p2⟩,jk,M'⟩:=hh;subst e;subst p1
 (have y9:=Vr.qI jk;clear jk;subst y9);refine⟨rfl,W',.val (.ref st.aI.length),_,[],le.S cS,p2,.val (.ref (cS.φ _ _ (by unfold Wd.qN;exact MS rfl))),X.Ei (le.S cS) M'⟩
theorem jH{nm:Str}{c:Nat}{iO:MW}{Ci:DC}{e:M3}{es:List M3}{De:St->(List AV->St->PS)->PS}{p pos:Pos}(j:Nat)(G:GOK g)(gc:xi g nm c iO)(hc:bQ g d iO Ci)(he:gz g (d+1) fi (e::es) De)(hj:autoParam (fi.ng[j]?=Ss nm) t_rfl)
 (hs:autoParam (cT e=WL) t_rfl) (hp:autoParam (∀env,(dP pos (sZ es env)).any (·.1)=PO) t_exact_star_any_rfl):au g (d+1) fi (.Call (.Name nm p) (e::es) [] pos) (LF c De Ci):=by
 constructor;intro A W env ca st Q Rz s C N h R;refine rx (gc.Eh) λK X0 k1 k2 k3 k4=>?_;refine Ze (lC G N R hj gc.val (callWith_K X0 k4 (he.C C N h R λvs s1 W1 xs ab le q r1 R1=>?_) (star_cons hs env) (hp env)));refine⟨X0.keeps λb o e=>R1.bI e,?_⟩;exact aL (Ho gc hc C r1 q R1) λv s2=>cF le
structure rF(g:Gx)(c:Nat)(nm:Str)(f:MW):Prop where
 Zu:∃K:Frag,K.In g.mh.heap/\ZM K (.ref (g.κ c)) "__getattribute__"=Ss (Ss (.builtin "object.__getattribute__"))/\ZM K (.ref (g.κ c)) "__getattr__"=Ss M4/\
  ZM K (.ref (g.κ c)) nm=Ss (Ss (.ref f))/\typeIn K (.ref f)=Ss (.type "function")/\keepIn K (.ref f)=WL
end
section
variable {g:Gx}{d:Nat}{fi:FI}{A:K2}{W:Wd}{env:Env}{ca:Ca}{st:St}{Rz l:ai}{s:MY}
theorem akW{m:Str->Option M5}{o:Obj}{nm:Str}(p:cA m o)(h:m nm=M4):shadowIn (Ss o) nm=Ss PO:=by
 obtain⟨⟨es⟩,ep,rfl,k1,k2,k3⟩:=p;have hn:=(k2 nm).trans h;rw[xa,alg] at hn;unfold shadowIn lookIn;simp only;rw[hn];have:es.any (λx=>x.refKey)=PO:=by rw[<- Wc];intro z;refine aj (Z7.mp z) λx hx hr=>?_;refine dm (k1 x (by simpa using hx)) λa t e=>?_;unfold Vb at hr;rw[e] at hr;exact aX hr
 simp only[this];rfl
noncomputable def Bh(c:Nat)(mo:MO):Bool:=ie mo.cls c&&mo.fs.all λp=>(gA c).contains p.1
noncomputable def LH(st:St)(c:Nat)(x:AV)(P:PS):PS:=x.lY λk=>st.oQ k λmo=>cL (Bh c mo) P
theorem xp{c:Nat}{nm:Str}{f:MW}{x:AV}{v:M5}{pl:Sem Bool}{P:PS}{Q:M5×List M5->MY->Prop}(G:rF g c nm f)(jT:∀f∈gA c,aQ f≠nm)(R:am g W fi env ca st Rz s)(hv:Vr g W x v)(h:LH st c x P)(q:P->Q (.ref f,[v]) s):K8 (Mo g) A (Wn v nm pl) Q aK s:=by refine tO (G.Zu) λK X0 k1 k2 k3 k4 k5=>?_;have X1:K.In s.heap:=X0.keeps λb o e=>R.bI e;obtain⟨k,rfl,h⟩:=AV.qz h;refine aj (uc h) λmo kT h=>?_;refine ak (fM h) λES hP=>?_;refine ak (zA.mp ES) λhc hn=>?_;obtain⟨a,dd,mm,o,l,rfl,e1,e2,p2,_,q4,_⟩:=AR R hv kT;obtain rfl:=ZI hc;exact method_fn X1 ⟨e1,rfl,rfl,e2⟩ k1 k2 k3 k4 (akW p2 (q4 nm λp hp=>jT _ (Vh.mp (Z6.mp hn p hp)))) (q hP)
noncomputable def LG(c:Nat)(b:DR)(a:St->(List AV->St->PS)->PS)(Cf:DC):DE:=λst Q=>b st λp x=>bY p (LH st c x (a st λxs ab=>Cf (x::xs) ab.aI λv mem=>Q (.val v) ⟨ab.aD,mem⟩))
theorem zd{o e:M3}{es:List M3}{c:Nat}{nm:Str}{f:MW}{Cf:DC}{Do:DR}{De:St->(List AV->St->PS)->PS}{ap pos:Pos}(G:rF g c nm f)(hc:bQ g d f Cf)(ho:bB g d fi o Do)(he:gz g d fi (e::es) De)(pl:Env->Sem Bool)
 (hs:autoParam (cT e=WL) t_rfl) (hp:autoParam (∀env,(dP pos (sZ es env)).any (·.1)=PO) t_exact_star_any_rfl)
 (hm:autoParam (∀env,Er (.Call (.Attribute o nm ap) (e::es) [] pos) env=(do
  let ov <- Er o env
  Zy ap.atName
  let (f,first) <- Xv [ov] (Wn ov nm (pl env))
  Wo pos f first (dP pos (sZ (e::es) env)) (YK pos (YN [] env)))) t_intro_env__rfl) (jT:autoParam (∀f∈gA c,aQ f≠nm) t_decide_kernel):au g d fi (.Call (.Attribute o nm ap) (e::es) [] pos) (LG c Do De Cf):=by
 constructor;intro A W env ca st Q Rz s C N h R;refine WM (ho.C C N h R λv x tk hv h1 R1=>?_) (hm env);refine xp G jT R1 hv h1 λh2=>?_;refine tO (G.Zu) λK X0 k1 k2 k3 k4 k5=>?_;refine callWith_K X0 k5 (he.C C N h2 R1 λvs s2 W1 xs ab le q r1 R2=>?_) (star_cons hs env) (hp env);exact⟨X0.keeps λb o e=>R2.bI e,um hc C (.cons (hv.aE le) r1) q R2 λv W' x ct s' cS p hv R'=>cF (le.S cS) ⟨W',.val x,_,[],.Q _,p,.val hv,R'⟩⟩
theorem ad0{o:M3}{c:Nat}{nm:Str}{f:MW}{Cf:DC}{Do:DR}{ap pos:Pos}(G:rF g c nm f)(hc:bQ g d f Cf)(ho:bB g d fi o Do)(pl:Env->Sem Bool)
 (hm:autoParam (∀env,Er (.Call (.Attribute o nm ap) [] [] pos) env=(do
  let ov <- Er o env
  Zy ap.atName
  let (f,first) <- Xv [ov] (Wn ov nm (pl env))
  Wo pos f first (dP pos (sZ [] env)) (YK pos (YN [] env)))) t_intro_env__rfl) (jT:autoParam (∀f∈gA c,aQ f≠nm) t_decide_kernel):au g d fi (.Call (.Attribute o nm ap) [] [] pos) (LG c Do yZ Cf):=by
 constructor;intro A W env ca st Q Rz s C N h R;refine WM (ho.C C N h R λv x tk hv h1 R1=>?_) (hm env);refine xp G jT R1 hv h1 λh2=>?_;refine tO (G.Zu) λK X0 k1 k2 k3 k4 k5=>?_;refine callWith_K0 (X0.keeps λb o e=>R1.bI e) k5 ?_;exact um hc C (.cons hv .nil) h2 R1 λv W' x ct s' cS p hv R'=>cF cS ⟨W',.val x,_,[],.Q _,p,.val hv,R'⟩
end
structure GP(g:Gx)(c:Nat)(nm:Str)(f:MW):Prop where
 aff:∃(K:Frag) (p:MW) (rest:List M5),K.In g.mh.heap/\ZM K (.ref (g.κ c)) "__getattribute__"=Ss (Ss (.builtin "object.__getattribute__"))/\ZM K (.ref (g.κ c)) "__getattr__"=Ss M4/\(∃cd,clsIn K (g.κ c)=Ss cd)/\
  ZM K (.ref (g.κ c)) nm=Ss (Ss (.ref p))/\specialIn K (.ref p) "__get__"=Ss (Ss (.builtin "property.__get__"))/\takesIn K (.ref p)=Ss WL/\recIn K p "property"=Ss (.ref f::rest)
section
variable {g:Gx}{d:Nat}{fi:FI}{A:K2}{W:Wd}{env:Env}{ca:Ca}{st:St}{Rz l:ai}{s:MY}
theorem bF.in1{d:Nat}{A:K2}(C:bF (d+1) A):bF d A.in1:=⟨C.hh,by have:=C.sP;refine (?_:A.depth+_+_<_);exact To this,by have:=C.un;refine (?_:A.units+1+_+_<_);exact F4 this⟩
abbrev GB(g:Gx)(nm:Str)(v:M5):Prop:=g.mg nm=M4/\g.mb nm=Ss v
noncomputable def adU(c:Nat)(b:DR)(Cf:DC):DE:=λst Q=>b st λp x=>bY p (x.zi λc' U=>cL (ie c' c) (Cf [x] st.aI λv mem=>Q (.val v) ⟨st.aD,mem⟩))
theorem DK{e:M3}{c:Nat}{nm:Str}{f:MW}{Cf:DC}{De:DR}{pos:Pos}(G:GP g c nm f)(hc:bQ g d f Cf)(he':bB g (d+1) fi e De)
 (he:autoParam (tF e=WL) t_rfl):au g (d+1) fi (.Attribute e nm pos) (adU c De Cf):=by
 constructor;intro A W env ca st Q Rz s C N h R;refine WP (aL (he'.aN A W env ca st _ Rz s C N h R) λv s1 hh=>?_) (attr_plain he env);obtain⟨x,tk,rfl,h1,hv,R1⟩:=hh.nz R;obtain⟨K,p,rest,X0,k1,k2,⟨cd,k3⟩,k4,k5,k6,k7⟩:=G.aff;have X1:K.In s.heap:=X0.keeps λb o e=>R.bI e;obtain⟨c',fs,rfl,h2⟩:=AV.DY h1;refine ak (fM h2) λhc' h3=>?_;obtain rfl:=ZI hc';obtain⟨a,dd,o,m,rfl,q1,q2,q3,q4⟩:=hv.qJ;have I:InstAt s.heap a (s0 (g.κ c') dd) (g.κ c') (Ss o):=⟨R.fz q1,rfl,rfl,R.fz q2⟩
 refine get_bind (s:={ s with toks:=tk }) (g:=.builtin "property.__get__") (a:=.ref p) X1 I k1 ?_ k2 ?_
 ·unfold findObj;rw[k3,X4,k4,X4];simp only[k5,k6,X4]
 ·refine iu (XW (prop_get (s:={ s with toks:=tk+1 }) X1 k7 ?_));have R2:am g W fi env ca st Rz { s with toks:=tk+1 }:=R.Z;refine eg R2 λrs m' L ML X=>?_
  refine YX (hc.aN A.in1 W _ _ [.ref a] [.inst c' fs] st.aI _ C.in1 (.cons hv .nil) h3 X.Ej) λr s' hh=>?_;obtain⟨v,W',x,ct,e,le,p,jk,M⟩:=hh;subst e;refine (?_:K8 _ _ (handedOut v) _ _ s');rw[handedOut_of (AM jk)];exact zI ⟨W',.val x,_,[],le,p,.val jk,X.Ei le M⟩
theorem Ak.elim{K:AV->St->PS}{u:M5}{P:Prop}(h:Ak g W fi env ca Rz K u s)(q:∀W1 ab x,W.J W1->Vr g W1 x u->K x ab->am g W1 fi env ca ab Rz s->P):P:=by obtain⟨W1,ab,x,le,v1,k,R1⟩:=h;exact q W1 ab x le v1 k R1
theorem akG{nm:Str}{id:String}{e:M3}{De:DE}{K:AV->St->PS}{p pos:Pos}{Q:M5->MY->Prop}(j:Nat)(G:GOK g)(hg:g.mg nm=M4/\g.mb nm=Ss (.builtin id))(he:au g d fi e De)(hj:fi.ng[j]?=Ss nm)(hs:∀env,sZ [e] env=(PO,Er e env)::sZ [] env)
 (C:bF d A) (N:bq fi env ca) (h:De st λr ab=>K r.v ab) (R:am g W fi env ca st Rz s) (q:∀u s1 W1 ab x,W.J W1->Vr g W1 x u->K x ab->am g W1 fi env ca ab Rz s1->K8 (Mo g) A (call (.builtin id) [u]) Q aK s1) :
 K8 (Mo g) A (Er (.Call (.Name nm p) [e] [] pos) env) Q aK s:=
 GC hs (λQ' hq=>mL G N R hj hg.1 hg.2 hq) (aL (nP (K:=K) he C N h R) λu s1 hh=>hh.elim (q u s1))
theorem xq{nm:Str}{T:String}{e:M3}{De:DE}{K:AV->St->PS}{p pos:Pos}{Q:M5->MY->Prop}(j:Nat)(G:GOK g)(hg:g.mg nm=M4/\g.mb nm=Ss (.type T))(he:au g d fi e De)(hj:fi.ng[j]?=Ss nm)(hs:∀env,sZ [e] env=(PO,Er e env)::sZ [] env)
 (C:bF d A) (N:bq fi env ca) (h:De st λr ab=>K r.v ab) (R:am g W fi env ca st Rz s) (q:∀u s1 W1 ab x,W.J W1->Vr g W1 x u->K x ab->am g W1 fi env ca ab Rz s1->K8 (Mo g) A (call (.type T) [u]) Q aK s1) :
 K8 (Mo g) A (Er (.Call (.Name nm p) [e] [] pos) env) Q aK s:=
 Ze (mL G N R hj hg.1 hg.2 (Wg (ZS (aL (nP (K:=K) he C N h R) λu s1 hh=>Z5 (hh.elim (q u s1))) (hs env)) (hs env)))
noncomputable def xl(x:AV)(ab:St)(Q:aS->St->PS):PS:=x.jI λU xs=>.rq (xs.length<=1000000) (Q (.own (.lst xs)) ab)
theorem Hn{b:Bool}{x:AV}{u:M5}{Q:aS->St->PS}(hx:Vs g W s.heap b x u)(h:xl x st Q)(R:am g W fi env ca st Rz s):K8 (Mo g) A (call (.type "list") [u]) (lg g W fi env ca Rz Q) aK s:=by obtain⟨l,xs,a,vs,n,rfl,hv,ho,hz,hq⟩:=qw hx R h;refine call_list_seq a (T:=if l then "list" else "tuple") (by induction l with|true=>exact Yt rfl|false=>exact Or.inr rfl) ho rfl rfl (λh' c' k e=>?_) (by rw[hv.jd];exact gO hz);exact⟨W,.own (.lst xs),st,[(s.heap.objs.size,bO vs)],.Q _,hq,.own (.lst hv),R.oK (tk:=s.toks) k (ZH (EC _)) ⟨_,e,c',rfl⟩⟩
theorem lX{e:M3}{De:DE}{p pos:Pos}(j:Nat)(G:GOK g)(hg:GB g "list" (.type "list"))(he:au g d fi e De)(hj:autoParam (fi.ng[j]?=Ss ("list":Str)) t_rfl)(hs:autoParam (cT e=WL) t_rfl):
 au g d fi (.Call (.Name "list" p) [e] [] pos) λst Q=>De st λr ab=>xl r.v ab Q:=by
 constructor;intro A W env ca st Q Rz s C N h R;exact xq (K:=λx ab=>xl x ab Q) j G hg he hj (star_cons hs) C N h R λu s1 W1 ab x le v1 k R1=>aL (Hn (.val v1) k R1) λv s2=>cF le
theorem adY{e:M3}{Da:DR}{p pos:Pos}(j:Nat)(G:GOK g)(hg:GB g "list" (.type "list"))(ha:bB g d fi e Da)(hj:autoParam (fi.ng[j]?=Ss ("list":Str)) t_rfl)(hs:autoParam (cT e=WL) t_rfl):
 au g d fi (.Call (.Name "list" p) [e] [] pos) λst Q=>Da st λU x=>xl x st Q:=by
 constructor;intro A W env ca st Q Rz s C N h R;refine Ze (mL G N R hj hg.1 hg.2 (Wg (ZS (aL (ha.aN A W env ca st _ Rz s C N h R) λu s1 hh=>Z5 ?_) (star_cons hs env)) (star_cons hs env)));obtain⟨b,x,tk,rfl,h1,v1⟩:=hh;exact Hn (s:={ s with toks:=tk }) v1 h1 R.Z
noncomputable def G4(x:AV)(ab:St)(Q:aS->St->PS):PS:=x.L λi=>Q (.val (.int i)) ab
theorem adX{e:M3}{De:DE}{p pos:Pos}(j:Nat)(G:GOK g)(hg:GB g "int" (.type "int"))(he:au g d fi e De)(hj:autoParam (fi.ng[j]?=Ss ("int":Str)) t_rfl)(hs:autoParam (cT e=WL) t_rfl):
 au g d fi (.Call (.Name "int" p) [e] [] pos) λst Q=>De st λr ab=>G4 r.v ab Q:=by
 constructor;intro A W env ca st Q Rz s C N h R;refine xq (K:=λx ab=>G4 x ab Q) j G hg he hj (star_cons hs) C N h R λu s1 W1 ab x le v1 k R1=>?_;refine fq k v1 λi t k=>?_;exact call_int_int (cF le (eN k (.int _ _) R1))
noncomputable def xn(f:Int->Int->Int)(xs:List AV)(ab:St)(Q:aS->St->PS):PS:=ud xs λa b=>a.L λi=>b.L λj=>Q (.val (.int (f i j))) ab
theorem Hk{nm:Str}{id:String}{a b:M3}{De}{K:List AV->St->PS}{p pos:Pos}{Q:M5->MY->Prop}(j:Nat)(G:GOK g)(hg:GB g nm (.builtin id))(he:gz g d fi [a,b] De)(hj:fi.ng[j]?=Ss nm)(hs:∀env,sZ [a,b] env=(PO,Er a env)::sZ [b] env)(hp:∀env,(dP pos (sZ [b] env)).any (·.1)=PO)
 (C:bF d A) (N:bq fi env ca) (h:De st K) (R:am g W fi env ca st Rz s) (q:∀us s1 W1 ab xs,W.J W1->aO g W1 xs us->K xs ab->am g W1 fi env ca ab Rz s1->K8 (Mo g) A (call (.builtin id) us) Q aK s1) :
 K8 (Mo g) A (Er (.Call (.Name nm p) [a,b] [] pos) env) Q aK s:=
 Ze (mL G N R hj hg.1 hg.2 (Wa (aL (he.aN A W env ca st _ Rz s pos C N h R) λus s1 hh=>by obtain⟨W1,xs,ab,le,k,r1,R1⟩:=hh;exact q us s1 W1 ab xs le r1 k R1) (hs env) (hp env)))
theorem LN{a b:M3}{De}{p pos:Pos}(j:Nat)(G:GOK g)(hg:GB g "min" (.builtin "min"))(he:gz g d fi [a,b] De)(hj:autoParam (fi.ng[j]?=Ss ("min":Str)) t_rfl)(hs:autoParam (cT a=WL) t_rfl)(hp:autoParam (∀env,(dP pos (sZ [b] env)).any (·.1)=PO) t_exact_star_any_rfl):
 au g d fi (.Call (.Name "min" p) [a,b] [] pos) λst Q=>De st λxs ab=>xn (λa b=>if b<a then b else a) xs ab Q:=by
 constructor;intro A W env ca st Q Rz s C N h R;refine Hk (K:=λxs ab=>xn (λa b=>if b<a then b else a) xs ab Q) j G hg he hj (star_cons hs) hp C N h R λus s1 W1 ab xs le r1 k R1=>?_;obtain⟨i,j',t,u,rfl,k⟩:=AU r1 k;refine min_two_ints C.hh λh' tk hk=>cF le (eN k ?_ (R1.jJ (tk:=tk) hk));by_cases c:j'<i
 ·refine (?_:Vr g W1 (.int (if j'<i then j' else i)) _);rw[MS c,MS c];exact .int _ _
 ·refine (?_:Vr g W1 (.int (if j'<i then j' else i)) _);rw[MZ c,MZ c];exact .int _ _
theorem adZ{a b:M3}{De}{p pos:Pos}(j:Nat)(G:GOK g)(hg:GB g "max" (.builtin "max"))(he:gz g d fi [a,b] De)(hj:autoParam (fi.ng[j]?=Ss ("max":Str)) t_rfl)(hs:autoParam (cT a=WL) t_rfl)(hp:autoParam (∀env,(dP pos (sZ [b] env)).any (·.1)=PO) t_exact_star_any_rfl):
 au g d fi (.Call (.Name "max" p) [a,b] [] pos) λst Q=>De st λxs ab=>xn (λa b=>if b>a then b else a) xs ab Q:=by
 constructor;intro A W env ca st Q Rz s C N h R;refine Hk (K:=λxs ab=>xn (λa b=>if b>a then b else a) xs ab Q) j G hg he hj (star_cons hs) hp C N h R λus s1 W1 ab xs le r1 k R1=>?_;obtain⟨i,j',t,u,rfl,k⟩:=AU r1 k;refine max_two_ints C.hh λh' tk hk=>cF le (eN k ?_ (R1.jJ (tk:=tk) hk));by_cases c:j'>i
 ·refine (?_:Vr g W1 (.int (if j'>i then j' else i)) _);rw[MS c,MS c];exact .int _ _
 ·refine (?_:Vr g W1 (.int (if j'>i then j' else i)) _);rw[MZ c,MZ c];exact .int _ _
end
end Mine.Internal
namespace Mine.Internal
open PySem PySem.W PySem.Calls PyProof.Rows PySem.SeqAt
theorem akT(l b:MW)(MP dQ:Array M5)(n n2:Nat)(dd EY:Option MW)(sl EZ:Array (Option M5))(e:Nat->Bool):
 Meets (Builtin.«tuple.__eq__» ⟨[.ref l,.ref b],[]⟩)
  (λA R s=>s.heap.get? l=Ss { cls:=.type "tuple",dict:=dd,data:=.seq MP n,slots:=sl }/\s.heap.get? b=Ss { cls:=.type "tuple",dict:=EY,data:=.seq dQ n2,slots:=EZ }/\
   (∀j (h1:j<MP.size) (h2:j<dQ.size),(∀i,i<j->e i=WL)->EqAt A.in1 s MP[j] dQ[j] (e j))/\
   R (.ok (.ret (.bool ((ZY (min MP.size dQ.size)).all e&&MP.size==dQ.size)))) s):=
 .of_wp λprog w A R s h=>by
  obtain⟨hp,g,d,tk,os⟩:=s;refine iR h λhl hb he h=>?_;have f2:=AutoSeq1.sub_tuple_tuple;have hZ:(MP.toList.zip dQ.toList).length=min MP.size dQ.size:=by simp
  wp_walk using wpAny_loadPart' hl,wpAny_loadPart' hb,wpAny_forIn_list _ (λrest b s'=>b.1=M4/\s'=⟨hp,g,d,tk,os⟩/\∃i,(∀k,k<i->e k=WL)/\rest=(MP.toList.zip dQ.toList).drop i/\
   R (.ok (.ret (.bool (((ZY (min MP.size dQ.size)).drop i).all e&&MP.size==dQ.size)))) ⟨hp,g,d,tk,os⟩) _
  case turn=>
   rintro⟨y,x⟩ rest b s' ⟨wv,rfl,i,E0,hz,hR⟩;have gv:i<(MP.toList.zip dQ.toList).length:=by
    rcases Yz i (MP.toList.zip dQ.toList).length with h' |h'
    ·exact h'
    ·rw[alk h'] at hz;exact fN hz
   have hm:i<min MP.size dQ.size:=hZ▸gv;have h1:i<MP.size:=Xm hm (Yq _ _);have h2:i<dQ.size:=Xm hm (Z8 _ _);rw[Wi gv] at hz;injection hz with Nq E1
   have hy:y=MP[i]:=by have:=congrArg Prod.fst Nq;simpa using this
   have hx:x=dQ[i]:=by have:=congrArg Prod.snd Nq;simpa using this
   subst hy hx;have hd:(ZY (min MP.size dQ.size)).drop i=i::(ZY (min MP.size dQ.size)).drop (i+1):=by simp[Wi,hm]
   rw[hd,List.all_cons] at hR;refine EJ (he i h1 h2 E0 prog w _ _ ?_);cases hy:e i with
   |true=>
    rw[hy] at hR
    wp_walk
    have afI:∀k,k<i+1->e k=WL:=by
     intro k hk;rcases Yz k i with q|q
     ·exact E0 k q
     ·have:k=i:=by exact F6 hk q
      rw[this];exact hy
    exact⟨rfl,rfl,i+1,afI,E1,by simpa using hR⟩
   |false=>
    rw[hy] at hR
    wp_walk
    exact⟨_,rfl,by simpa using hR⟩
  case fin=>
   rintro⟨b1,b2⟩ s' ⟨wv,rfl,i,E0,hz,hR⟩;simp only at wv;subst wv;have o9:min MP.size dQ.size<=i:=by
    rcases Yz i (MP.toList.zip dQ.toList).length with h' |h'
    ·rw[Wi h'] at hz;exact fO hz
    ·exact hZ▸h'
   rw[alk (by simpa using o9)] at hR
   wp_walk
   exact⟨_,rfl,by simpa [Builtin.Tuple.tupleCompareSizes] using hR⟩
  case h=>exact⟨rfl,rfl,0,λk hk=>MQ hk (Yr _),rfl,by simpa using h⟩
theorem amh{A:K2}{s:MY}{l b:MW}{MP dQ:Array M5}{e:Nat->Bool}(hl:s.heap.IsTuple l MP)(hb:s.heap.IsTuple b dQ)(hu:A.units<Zx)
 (he:∀j (h1:j<MP.size) (h2:j<dQ.size),(∀i,i<j->e i=WL)->EqAt A.in1 s MP[j] dQ[j] (e j)):RcAt A s (.ref l) (.ref b) ((ZY (min MP.size dQ.size)).all e&&MP.size==dQ.size):=λprog w E Q h=>by
 obtain⟨⟨cls,dd,data,sl⟩,ho,hc,n,hd⟩:=id hl;obtain⟨⟨af7,EY,af8,EZ⟩,zN,Nr,n2,Nt⟩:=id hb;simp only at hc hd Nr Nt;subst hc hd Nr Nt;exact richCompare_meets_room (op:=.Eq) ⟨_,ho,rfl⟩ ⟨_,zN,rfl⟩ F.slot_tuple_eq F.entry_tuple_eq (F.args_tuple_eq_2 _ _) (akT l b MP dQ n n2 dd EY sl EZ e)
  ⟨ho,zN,he,(λx=>nomatch x),h⟩ hu
noncomputable def AV.vR(x:AV):Option {a:Int // x=.int a}:=@AV.casesOn (λx=>Option {a:Int // x=.int a}) x M4 (λU=>M4) (λa=>Ss ⟨a,rfl⟩) (λU=>M4) (λU=>M4) (λU=>M4) (λU=>M4) (λU=>M4) (λU=>M4) (λU U=>M4) (λU=>M4)
noncomputable def AV.ae9(x:AV):Option {a:Bool // x=.bool a}:=@AV.casesOn (λx=>Option {a:Bool // x=.bool a}) x M4 (λa=>Ss ⟨a,rfl⟩) (λU=>M4) (λU=>M4) (λU=>M4) (λU=>M4) (λU=>M4) (λU=>M4) (λU=>M4) (λU U=>M4) (λU=>M4)
noncomputable def AV.afd(x:AV):Option {a:Str // x=.str a}:=@AV.casesOn (λx=>Option {a:Str // x=.str a}) x M4 (λU=>M4) (λU=>M4) (λa=>Ss ⟨a,rfl⟩) (λU=>M4) (λU=>M4) (λU=>M4) (λU=>M4) (λU=>M4) (λU U=>M4) (λU=>M4)
noncomputable def AV.afa(x:AV):Option {a:(Array UInt8) // x=.bytes a}:=@AV.casesOn (λx=>Option {a:(Array UInt8) // x=.bytes a}) x M4 (λU=>M4) (λU=>M4) (λU=>M4) (λa=>Ss ⟨a,rfl⟩) (λU=>M4) (λU=>M4) (λU=>M4) (λU=>M4) (λU U=>M4) (λU=>M4)
noncomputable def AV.afc(x:AV):Option {a:(List AV) // x=.lst a}:=@AV.casesOn (λx=>Option {a:(List AV) // x=.lst a}) x M4 (λU=>M4) (λU=>M4) (λU=>M4) (λU=>M4) (λU=>M4) (λa=>Ss ⟨a,rfl⟩) (λU=>M4) (λU=>M4) (λU U=>M4) (λU=>M4)
noncomputable def AV.zu(x:AV):Option {a:(List AV) // x=.tup a}:=@AV.casesOn (λx=>Option {a:(List AV) // x=.tup a}) x M4 (λU=>M4) (λU=>M4) (λU=>M4) (λU=>M4) (λa=>Ss ⟨a,rfl⟩) (λU=>M4) (λU=>M4) (λU=>M4) (λU U=>M4) (λU=>M4)
noncomputable def AV.afb(x:AV):Option {a:(List (Int×AV)) // x=.dict a}:=@AV.casesOn (λx=>Option {a:(List (Int×AV)) // x=.dict a}) x M4 (λU=>M4) (λU=>M4) (λU=>M4) (λU=>M4) (λU=>M4) (λU=>M4) (λa=>Ss ⟨a,rfl⟩) (λU=>M4) (λU U=>M4) (λU=>M4)
theorem G5{x:AV}(h:O.g9 x=WL):x=.none:=by induction x using AV.casesOn<;>(first|exact aX h|cases h);rfl
section
variable (f:AV->AV->Option Bool)
noncomputable def iv:List AV->List AV->Option Bool
 |[],[]=>Ss WL
 |x::xs,y::ys=>(f x y).bind λb=>(iv xs ys).bind λc=>Ss (b&&c)
 |j4,j5=>M4
noncomputable def pL:List AV->List AV->Option Bool
 |[],[]=>Ss WL
 |x::xs,y::ys=>(f x y).bind λb=>bif b then pL xs ys else Ss PO
 |j4,j5=>Ss PO
noncomputable def fw{κ:Type}[DecidableEq κ](es:List (κ×AV))(k:κ):Option AV:=(es.find? λp=>p.1=k).map (·.2)
noncomputable def kg(fs:List (Int×AV)):List (Int×AV)->Option Bool
 |[]=>Ss WL
 |p::es=>match fw fs p.1 with
  |none=>Ss PO
  |some y=>(f p.2 y).bind λb=>(kg fs es).bind λc=>Ss (b&&c)
noncomputable def eY(x y:AV):Option Bool:=@AV.casesOn (λU=>Option Bool) x
 (bif O.g9 y then Ss WL else y.zu.map λU=>PO)
 (λa=>y.ae9.map λb=>a==b.1)
 (λa=>y.vR.map λb=>a==b.1)
 (λa=>y.afd.map λb=>a==b.1)
 (λa=>y.afa.map λb=>a.toList==b.1.toList)
 (λxs=>bif O.g9 y then Ss PO else y.zu.bind λys=>pL f xs ys.1)
 (λxs=>y.afc.bind λys=>bif xs.length==ys.1.length then iv f xs ys.1 else Ss PO)
 (λes=>y.afb.bind λfs=>bif es.length==fs.1.length then kg f fs.1 es else Ss PO)
 (λU=>M4) (λU U=>M4) (λU=>M4)
end
noncomputable def bK(n:Nat):AV->AV->Option Bool:=n.rec (eY λU U=>M4) λU ih=>eY ih
section
variable {g:Gx}{W:Wd}{κ:Type}[DecidableEq κ]
inductive A5(g:Gx)(W:Wd)(kvs:List (κ×M5))(k:κ):Option AV->Prop
 |none (h:ZD kvs k=M4):A5 g W kvs k M4
 |some {x:AV} (v:M5) (h:ZD kvs k=Ss v) (r:Vr g W x v):A5 g W kvs k (Ss x)
set_option tactic.hygienic true in
theorem vD{es:List (κ×AV)}{kvs:List (κ×M5)}(h:gN g W κ es kvs)(k:κ):A5 g W kvs k (fw es k):=by
 induction h with
 |nil=>exact .none rfl
 |cons h _ ih=>
  rename_i p es q vs _;refine ak h λe h=>?_;by_cases hk:p.1=k
  ·have e1:fw (p::es) k=Ss p.2:=by unfold fw;rw[YQ,decide_eq_true hk];rfl
   have e2:ZD (q::vs) k=Ss q.2:=by unfold ZD;rw[YQ,decide_eq_true (e.symm.trans hk)];rfl
   rw[e1];exact .some _ e2 h
  ·have e1:fw (p::es) k=fw es k:=by unfold fw;rw[YQ,decide_eq_false hk]
   have e2:ZD (q::vs) k=ZD vs k:=by unfold ZD;rw[YQ,decide_eq_false λz=>hk (e.trans z)]
   rw[e1];generalize fw es k=z at ih ⊢;induction ih with
   |none h=>exact .none (e2.trans h)
   |some v h r=>exact .some v (e2.trans h) r
omit [DecidableEq κ] in
theorem sK{es:List (κ×AV)}{kvs:List (κ×M5)}(h:gN g W κ es kvs):kvs.length=es.length:=Al.cz h
def nT(g:Gx):Prop:=∃o es ep e n t,g.mh.heap.get? Wr=Ss o/\o.data=.dict es ep/\e∈es/\e.key=.str n t
theorem rH{h:Ex}{a:MW}{kvs:List (Int×M5)}(G:nT g)(b:∀a o,g.mh.heap.get? a=Ss o->h.get? a=Ss o)(hd:h.DictOf (fK pw g.w) a kvs):(a==Wr)=PO:=by
 refine OL G λo es ep e n t g1 g2 g3 g4=>?_
 refine ry hd λo' kW E2 d1 d2 d3 d4 d5 d6=>?_
 rw[<- Wc];intro z;have:a=Wr:=K5.mp z;subst this;rw[b _ _ g1] at d1
 (have y9:=K6 d1;clear d1;subst y9);rw[g2] at d3
 (injection d3 with y8 y9;subst y8;subst y9);refine aj (d4 e g3) λk k1 k2=>?_;rw[g4] at k1;simp[fK,Ww] at k1
theorem Bf{n:Nat}{e:Nat->Bool}:(ZY (n+1)).all e=(e 0&&(ZY n).all λi=>e (i+1)):=by rw[ali,List.all_cons,List.all_map];rfl
set_option tactic.hygienic true in
theorem ami{es:List XR}:∀{a b:List (Int×M5)},Pairs (fK pw g.w) es a->Pairs (fK pw g.w) es b->a=b:=by
 induction es with
 |nil=>intro a b h1 h2;cases h1;cases h2;rfl
 |cons e es ih=>
  intro a b h1 h2;cases h1 with
  |cons k1 v1 r1=>cases h2 with
   |cons k2 v2 r2=>rename_i kv1 _ kv2 _;rw[ih r1 r2,Ye ((fK pw g.w).inj _ _ _ k1 k2) (v1.symm.trans v2)]
theorem aml{prog:ZB}{w:bc}{es:List XR}:∀{a:List (Int×M5)},Pairs (fK pw g.w) es a->Pairs (fK prog w) es a:=by
 induction es with
 |nil=>intro a h;cases h;exact .nil
 |cons e es ih=>
  intro a h;cases h with
  |cons k v r=>exact .cons k v (ih r)
theorem xj{prog:ZB}{w:bc}{h:Ex}{a:MW}{kvs:List (Int×M5)}(x:h.DictOf (fK pw g.w) a kvs):h.DictOf (fK prog w) a kvs:=
 let⟨o,es,ep,q1,q2,q3,q4,q5,q6⟩:=x;⟨o,es,ep,q1,q2,q3,q4,aml q5,q6⟩
theorem akH{kvs:List (κ×M5)}(nd:(kvs.map (·.1)).Nodup){k:κ}{v:M5}(h:(k,v)∈kvs):ZD kvs k=Ss v:=by
 induction kvs with
 |nil=>exact aT h
 |cons p kvs ih=>
  rw[Zv,bS] at nd;unfold ZD;rw[YQ];rcases K7.mp h with e|h
  ·subst e;rw[decide_eq_true rfl];rfl
  ·rw[decide_eq_false λz=>nd.1 (zK.mpr ⟨_,h,z.symm⟩)];exact ih nd.2 h
theorem He{T:String}{vs us:List M5}{n m:Nat}{F:Fz}{a:MW}(e1:F a=Ss { cls:=.type T,data:=.seq vs.toArray n })(e2:F a=Ss { cls:=.type T,data:=.seq us.toArray m }):vs=us:=by
 rw[e1] at e2;injection e2 with e2;injection e2 with _ _ e3 _;injection e3 with e4 _
 have:=congrArg WE e4;simpa using this
variable {f:AV->AV->Option Bool}
abbrev mN(g:Gx)(W:Wd)(f:AV->AV->Option Bool):Prop:=∀(x y:AV) (b:Bool) (v:M5),f x y=Ss b->Vr g W x v->Vr g W y v->b=WL
theorem amW(ih:mN g W f){xs:List AV}{vs:List M5}(r1:aO g W xs vs):∀{ys:List AV}{b:Bool},iv f xs ys=Ss b->aO g W ys vs->b=WL:=by
 induction r1 with
 |nil=>intro ys b h r2;cases r2;(have y9:=K6 h;clear h;subst y9);rfl
 |cons h1 _ kZ=>
  intro ys b h r2;cases r2 with
  |cons h2 r2=>
   refine aj (aV.mp h) λc hc h=>?_;refine aj (aV.mp h) λd hd h=>?_
   (have y9:=K6 h;clear h;subst y9);rw[ih _ _ _ _ hc h1 h2,kZ hd r2];rfl
theorem am6(ih:mN g W f){xs:List AV}{vs:List M5}(r1:aO g W xs vs):∀{ys:List AV}{b:Bool},pL f xs ys=Ss b->aO g W ys vs->b=WL:=by
 induction r1 with
 |nil=>intro ys b h r2;cases r2;(have y9:=K6 h;clear h;subst y9);rfl
 |cons h1 _ kZ=>
  intro ys b h r2;cases r2 with
  |cons h2 r2=>refine aj (aV.mp h) λc hc h=>?_;obtain rfl:=ih _ _ _ _ hc h1 h2;exact kZ h r2
set_option tactic.hygienic true in
theorem amH(ih:mN g W f){es:List (Int×AV)}{us:List (Int×M5)}(r1:jq g W es us):∀{fs:List (Int×AV)}{vs:List (Int×M5)}{b:Bool},kg f fs es=Ss b->jq g W fs vs->(∀k v,(k,v)∈us->ZD vs k=Ss v)->b=WL:=by
 induction r1 with
 |nil=>intro fs vs b h _ _;(have y9:=K6 h;clear h;subst y9);rfl
 |cons h1 _ kZ=>
  rename_i p _ q _ _;intro fs vs b h r2 hk;refine ak h1 λe h1=>?_;have hv:=hk _ _ (.head _);have:=vD r2 p.1;unfold kg at h;generalize fw fs p.1=z at this h;rw[e] at this;induction this with
  |none h3=>rw[hv] at h3;exact lu h3
  |some v h3 r=>
   rw[hv] at h3;(have y9:=K6 h3;clear h3;subst y9)
   refine aj (aV.mp h) λc hc h=>?_;refine aj (aV.mp h) λd hd h=>?_
   (have y9:=K6 h;clear h;subst y9);rw[ih _ _ _ _ hc h1 r,kZ hd r2 λk v h=>hk k v (.tail _ h)];rfl
inductive fv(g:Gx)(W:Wd)(f:AV->AV->Option Bool):AV->AV->Bool->M5->M5->Prop
 |none:fv g W f .none .none WL .none .none
 |bool (a b:Bool):fv g W f (.bool a) (.bool b) (a==b) (.bool a) (.bool b)
 |int (a b:Int) (t t':Tok):fv g W f (.int a) (.int b) (a==b) (.int a t) (.int b t')
 |str (a b:Str) (t t':Tok):fv g W f (.str a) (.str b) (a==b) (.str a t) (.str b t')
 |bytes (a b:Array UInt8) (t t':Tok):fv g W f (.bytes a) (.bytes b) (a.toList==b.toList) (.bytes a t) (.bytes b t')
 |noneTup (ys:List AV) (u:M5) (r:jV W jp (aO g W ys) u):fv g W f .none (.tup ys) PO .none u
 |tupNone (ys:List AV) (u:M5) (r:jV W jp (aO g W ys) u):fv g W f (.tup ys) .none PO u .none
 |tup (xs ys:List AV) (b:Bool) (v u:M5) (e:pL f xs ys=Ss b) (r:jV W jp (aO g W xs) v) (r':jV W jp (aO g W ys) u):fv g W f (.tup xs) (.tup ys) b v u
 |lst (xs ys:List AV) (b:Bool) (v u:M5) (e:(bif xs.length==ys.length then iv f xs ys else Ss PO)=Ss b) (r:jV W bO (aO g W xs) v) (r':jV W bO (aO g W ys) u):fv g W f (.lst xs) (.lst ys) b v u
 |dict (xs ys:List (Int×AV)) (b:Bool) (v u:M5) (e:(bif xs.length==ys.length then kg f ys xs else Ss PO)=Ss b) (r:q9 W (jm g) (jq g W xs) v) (r':q9 W (jm g) (jq g W ys) u):fv g W f (.dict xs) (.dict ys) b v u
theorem ul{α β:Type}{F:α->β}{x:Option α}{b:β}{G:β->Prop}(h:x.map F=Ss b)(k:∀a,G (F a)):G b:=by refine aj (ZU.mp h) λc U y9=>?_;subst y9;exact k c
theorem A8{α β:Type}{F:α->Option β}{x:Option α}{b:β}{G:Prop}(h:x.bind F=Ss b)(k:∀a,F a=Ss b->G):G:=by refine aj (aV.mp h) λc U h=>?_;exact k c h
set_option tactic.hygienic true in
theorem uj{x y:AV}{b:Bool}{v u:M5}(h:eY f x y=Ss b)(h1:Vr g W x v)(h2:Vr g W y u):fv g W f x y b v u:=by
 revert h;cases h1 with
 |none=>
  intro h;have h:(bif O.g9 y then Ss WL else y.zu.map λ_=>PO)=Ss b:=h;cases hn:O.g9 y with
  |true=>rw[hn] at h;obtain rfl:=G5 hn;obtain rfl:=h2.qI;(have y9:=K6 h;clear h;subst y9);exact .none
  |false=>rw[hn] at h;exact ul (G:=λb=>fv g W f .none y b .none u) h λ⟨ys,e⟩=>by subst e;exact .noneTup ys u h2.sT
 |bool a=>intro h;exact ul (G:=λb=>fv g W f (.bool a) y b (.bool a) u) h λ⟨c,e⟩=>by subst e;obtain rfl:=h2.Mv;exact .bool a c
 |int a t=>intro h;exact ul (G:=λb=>fv g W f (.int a) y b (.int a t) u) h λ⟨c,e⟩=>by subst e;refine a7 (h2.kO) λt' y9=>?_;subst y9;exact .int a c t t'
 |str a t=>intro h;exact ul (G:=λb=>fv g W f (.str a) y b (.str a t) u) h λ⟨c,e⟩=>by subst e;refine a7 (h2.Mx) λt' y9=>?_;subst y9;exact .str a c t t'
 |bytes a t=>intro h;exact ul (G:=λb=>fv g W f (.bytes a) y b (.bytes a t) u) h λ⟨c,e⟩=>by subst e;refine a7 (h2.vM) λt' y9=>?_;subst y9;exact .bytes a c t t'
 |tup0 e p l r=>
  intro h;have hb:jV W jp (aO g W _) _:=⟨_,_,_,rfl,e,p,.of l r⟩
  rename_i xs;have h:(bif O.g9 y then Ss PO else y.zu.bind λys=>pL f xs ys.1)=Ss b:=h;cases hn:O.g9 y with
  |true=>rw[hn] at h;obtain rfl:=G5 hn;obtain rfl:=h2.qI;(have y9:=K6 h;clear h;subst y9);exact .tupNone _ _ hb
  |false=>rw[hn] at h;exact A8 h λ⟨ys,e⟩ h=>by subst e;exact .tup _ ys b _ u h hb h2.sT
 |lst0 e p l r=>intro h;exact A8 h λ⟨ys,e'⟩ h=>by subst e';exact .lst _ ys b _ u h ⟨_,_,_,rfl,e,p,.of l r⟩ h2.jM
 |dict0 e p l k r=>intro h;exact A8 h λ⟨ys,e'⟩ h=>by subst e';exact .dict _ ys b _ u h ⟨_,_,_,rfl,e,p,.of l λi x v q q'=>⟨k i x v q q',r i x v q q'⟩⟩ h2.Mw
 |_=>intro h;exact aY h
theorem Hd(ih:mN g W f){x y:AV}{b:Bool}{v u:M5}(h:fv g W f x y b v u):v=u->b=WL:=by
 induction h with
 |none=>exact λU=>rfl
 |bool a b=>intro e;(injection e with y9;subst y9);exact beq_self_eq_true _
 |int a b=>intro e;(injection e with y8 y9;subst y8;subst y9);exact beq_self_eq_true _
 |str a b=>intro e;(injection e with y8 y9;subst y8;subst y9);exact beq_self_eq_true _
 |bytes a b=>intro e;(injection e with y8 y9;subst y8;subst y9);exact beq_self_eq_true _
 |noneTup ys u r=>intro e;obtain⟨a,o,vs,rfl,_⟩:=r;exact Xq e
 |tupNone ys u r=>intro e;obtain⟨a,o,vs,rfl,_⟩:=r;exact Xq e
 |lst xs ys b v u h3 r r'=>
  intro e;obtain⟨a,o,vs,rfl,e1,⟨n,rfl⟩,r1⟩:=r;obtain⟨a',o',us,rfl,e2,⟨m,rfl⟩,r2⟩:=r'
  (injection e with y9;subst y9);obtain rfl:=He e1 e2;rw[<- r1.cz,<- r2.cz,beq_self_eq_true] at h3;exact amW ih r1 h3 r2
 |tup xs ys b v u h3 r r'=>
  intro e;obtain⟨a,o,vs,rfl,e1,⟨n,rfl⟩,r1⟩:=r;obtain⟨a',o',us,rfl,e2,⟨m,rfl⟩,r2⟩:=r'
  (injection e with y9;subst y9);obtain rfl:=He e1 e2;exact am6 ih r1 h3 r2
 |dict xs ys b v u h3 r r'=>
  intro e;obtain⟨a,o,vs,rfl,e1,⟨es,ep,q1,q2,q3,q4,q5⟩,r1⟩:=r;obtain⟨a',o',us,rfl,e2,⟨kW,E2,Nu,zT,Nv,E3,Nw⟩,r2⟩:=r'
  (injection e with y9;subst y9);rw[e1] at e2;(have y9:=K6 e2;clear e2;subst y9)
  rw[q2] at zT;(injection zT with y8 y9;subst y8;subst y9)
  obtain rfl:=ami q4 E3;rw[<- sK r1,<- sK r2,beq_self_eq_true] at h3;exact amH ih r1 h3 r2 λk v hk=>akH q5 hk
theorem Hc(ih:mN g W f):mN g W (eY f):=λU U U U h h1 h2=>Hd ih (uj h h1 h2) rfl
theorem amX(n:Nat):mN g W (bK n):=by
 induction n with
 |zero=>exact Hc λU U U U h=>by exact aY h
 |succ n ih=>exact Hc ih
theorem amE{A:K2}{s:MY}{a c:Array UInt8}{t u:Tok}:EqAt A s (.bytes a t) (.bytes c u) (a.toList==c.toList):=λprog w E Q hq=>by
 unfold eqBool;refine XB ?_;refine wpAny_ite_split (λwu=>?_) (λwu=>?_)
 ·have e:Value.bytes a t=.bytes c u:=zH wu
  (injection e with y8 y9;subst y8;subst y9);rw[beq_self_eq_true] at hq;exact EJ (W0 (zI hq))
 ·exact EJ (eq_bytes (Z9 hq))
theorem A7{A:K2}{s:MY}{l b:MW}{k:Bool}(hs:l=b->k=WL)(h:RcAt A s (.ref l) (.ref b) k):EqAt A s (.ref l) (.ref b) k:=by
 by_cases e:l=b
 ·subst e;rw[hs rfl];exact EqAt.same _
 ·exact EqAt.of_refs e h
structure HW(g:Gx)(W:Wd)(s:MY):Prop where
 fz:∀a o,W.F a=Ss o->s.heap.get? a=Ss o
 sm:nT g
 bI:∀a o,g.mh.heap.get? a=Ss o->s.heap.get? a=Ss o
abbrev mM(g:Gx)(W:Wd)(s:MY)(n:Nat)(f:AV->AV->Option Bool):Prop:=∀(x y:AV) (b:Bool) (v u:M5) (A:K2),f x y=Ss b->Vr g W x v->Vr g W y u->A.units+n<Zx->EqAt A s v u b
inductive alL(A:K2)(s:MY)(vs us:List M5)(c:Bool):Prop
 |mk (e:Nat->Bool) (h:∀j v u,vs[j]?=Ss v->us[j]?=Ss u->EqAt A s v u (e j)) (hc:(ZY vs.length).all e=c)
theorem GR{s:MY}{n:Nat}{A:K2}(ih:mM g W s n f)(hu:A.units+n<Zx){xs:List AV}{vs:List M5}(r1:aO g W xs vs):∀{ys:List AV}{us:List M5}{c:Bool},iv f xs ys=Ss c->aO g W ys us->alL A s vs us c:=by
 induction r1 with
 |nil=>intro ys us c h r2;induction r2 with|nil=>(have y9:=K6 h;clear h;subst y9);exact⟨λU=>WL,(by intro j v u h;exact aY h),rfl⟩|cons _ _=>exact aY h
 |cons h1 _ kZ=>
  intro ys us c h r2;induction r2 with
  |nil=>exact aY h
  |cons h2 r2=>
   refine aj (aV.mp h) λb hb h=>?_;refine aj (aV.mp h) λd hd h=>?_
   (have y9:=K6 h;clear h;subst y9);obtain⟨e,h3,rfl⟩:=kZ hd r2;refine⟨λj=>match j with|0=>b|j+1=>e j,λj v u q1 q2=>?_,Bf⟩;induction j using vI with
   |zero=>(have y9:=K6 q1;clear q1;subst y9);(have y9:=K6 q2;clear q2;subst y9);exact ih _ _ _ _ _ A hb h1 h2 hu
   |succ j=>exact h3 j v u q1 q2
inductive alJ(A:K2)(s:MY)(vs us:List M5)(c:Bool):Prop
 |mk (e:Nat->Bool) (h:∀j v u,vs[j]?=Ss v->us[j]?=Ss u->(∀i,i<j->e i=WL)->EqAt A s v u (e j)) (hc:((ZY (min vs.length us.length)).all e&&vs.length==us.length)=c)
theorem am7{s:MY}{n:Nat}{A:K2}(ih:mM g W s n f)(hu:A.units+n<Zx){xs:List AV}{vs:List M5}(r1:aO g W xs vs):∀{ys:List AV}{us:List M5}{c:Bool},pL f xs ys=Ss c->aO g W ys us->alJ A s vs us c:=by
 induction r1 with
 |nil=>intro ys us c h r2;induction r2 with
  |nil=>(have y9:=K6 h;clear h;subst y9);exact⟨λU=>WL,(by intro j v u h;exact aY h),rfl⟩
  |cons _ _=>(have y9:=K6 h;clear h;subst y9);exact⟨λU=>WL,(by intro j v u h;exact aY h),rfl⟩
 |cons h1 _ kZ=>
  intro ys us c h r2;induction r2 with
  |nil=>(have y9:=K6 h;clear h;subst y9);exact⟨λU=>WL,(by intro j v u _ h;exact aY h),by rw[Yp,Nat.min_zero];rfl⟩
  |cons h2 r2=>
   refine aj (aV.mp h) λb hb h=>?_;have h5:=ih _ _ _ _ _ A hb h1 h2 hu;induction b with
   |true=>
    obtain⟨e,h3,rfl⟩:=kZ h r2;refine⟨λj=>match j with|0=>WL|j+1=>e j,λj v u q1 q2 q3=>?_,?_⟩
    ·induction j using vI with
     |zero=>(have y9:=K6 q1;clear q1;subst y9);(have y9:=K6 q2;clear q2;subst y9);exact h5
     |succ j=>exact h3 j v u q1 q2 λi hi=>q3 (i+1) (X3 hi)
    ·rewrite [qR,qR,amv,Bf,Y0];simp
   |false=>
    (have y9:=K6 h;clear h;subst y9);refine⟨λU=>PO,λj v u q1 q2 q3=>?_,?_⟩
    ·induction j using vI with
     |zero=>(have y9:=K6 q1;clear q1;subst y9);(have y9:=K6 q2;clear q2;subst y9);exact h5
     |succ j=>exact MQ (q3 0 (Xb _)) qH
    ·rw[qR,qR,amv,Bf,XZ,XZ]
set_option tactic.hygienic true in
theorem amI{s:MY}{n:Nat}{A:K2}(ih:mM g W s n f)(hu:A.units+n<Zx){es:List (Int×AV)}{vs:List (Int×M5)}(r1:jq g W es vs):∀{fs:List (Int×AV)}{us:List (Int×M5)}{c:Bool},kg f fs es=Ss c->jq g W fs us->KeqHits A s us vs c:=by
 induction r1 with
 |nil=>intro fs us c h _;(have y9:=K6 h;clear h;subst y9);exact .nil
 |cons h1 _ kZ=>
  rename_i p _ q _ _;intro fs us c h r2;refine ak h1 λe h1=>?_;have:=vD r2 p.1;unfold kg at h;generalize fw fs p.1=z at this h;rw[e] at this;induction this with
  |none h3=>(have y9:=K6 h;clear h;subst y9);exact .miss h3
  |some v h3 r=>
   refine aj (aV.mp h) λb hb h=>?_;refine aj (aV.mp h) λd hd h=>?_
   (have y9:=K6 h;clear h;subst y9);exact .hit h3 (ih _ _ _ _ _ A hb h1 r hu) (kZ hd r2)
theorem Hb{s:MY}{n:Nat}(hw:HW g W s)(ih:mM g W s n f){x y:AV}{b:Bool}{v u:M5}{A:K2}(h:fv g W f x y b v u)(hu:A.units+(n+1)<Zx):RcAt A s v u b:=by
 have iP:A.units<Zx:=ZQ (oW _ _) hu;have E6:A.in1.units+n<Zx:=by refine (?_:A.units+1+n<Zx);rw[YY];exact hu
 induction h with
 |none=>exact λprog w E Q hq=>EqNone.eq_none_none hq
 |int a b=>exact λprog w E Q hq=>PyProof.Rows.eq_int hq
 |bool a b=>exact λprog w E Q hq=>eq_bool hq
 |str a b=>exact λprog w E Q hq=>eq_str hq
 |bytes a b=>exact λprog w E Q hq=>eq_bytes hq
 |noneTup ys u r=>obtain⟨a',o',us,rfl,e2,⟨m,rfl⟩,r2⟩:=r;exact RcAt.none_tuple (fP (hw.fz _ _ e2)) iP
 |tupNone ys u r=>obtain⟨a',o',us,rfl,e2,⟨m,rfl⟩,r2⟩:=r;exact RcAt.tuple_none (fP (hw.fz _ _ e2)) iP
 |lst xs ys b v u h3 r r'=>
  obtain⟨a,o,vs,rfl,e1,⟨n,rfl⟩,r1⟩:=r;obtain⟨a',o',us,rfl,e2,⟨m,rfl⟩,r2⟩:=r';rw[<- r1.cz,<- r2.cz] at h3;cases hl:(vs.length==us.length) with
  |true=>rw[hl] at h3;obtain⟨e,h4,rfl⟩:=GR ih E6 r1 h3 r2;exact RcAt.lists (e:=e) (cU (hw.fz _ _ e1)) (cU (hw.fz _ _ e2)) (zH hl) iP (λj U U=>h4 j _ _ (by simp) (by simp))
  |false=>
   rw[hl] at h3
   (have y9:=K6 h3;clear h3;subst y9);exact RcAt.lists_lengths (cU (hw.fz _ _ e1)) (cU (hw.fz _ _ e2)) (by rw[Zl,Zl];exact congrArg (!·) hl) iP
 |tup xs ys b v u h3 r r'=>obtain⟨a,o,vs,rfl,e1,⟨n,rfl⟩,r1⟩:=r;obtain⟨a',o',us,rfl,e2,⟨m,rfl⟩,r2⟩:=r';obtain⟨e,h4,rfl⟩:=am7 ih E6 r1 h3 r2;exact amh (e:=e) (fP (hw.fz _ _ e1)) (fP (hw.fz _ _ e2)) iP (λj U U=>h4 j _ _ (by simp) (by simp))
 |dict xs ys b v u h3 r r'=>
  obtain⟨a,o,vs,rfl,e1,⟨es,ep,q1,q2,q3,q4,q5⟩,r1⟩:=r;obtain⟨a',o',us,rfl,e2,⟨kW,E2,Nu,zT,Nv,E3,Nw⟩,r2⟩:=r';have d1:s.heap.DictOf (fK pw g.w) a vs:=⟨_,es,ep,hw.fz _ _ e1,q1,q2,q3,q4,q5⟩
  have d2:s.heap.DictOf (fK pw g.w) a' us:=⟨_,kW,E2,hw.fz _ _ e2,Nu,zT,Nv,E3,Nw⟩
  rw[<- sK r1,<- sK r2] at h3;intro prog w E Q hq;cases hl:(vs.length==us.length) with
  |true=>rw[hl] at h3;exact keq_eq (rH hw.sm hw.bI d1) (rH hw.sm hw.bI d2) (xj d1) (xj d2) iP (λU=>amI ih E6 r1 h3 r2) (by rw[hl];exact hq)
  |false=>
   rw[hl] at h3
   (have y9:=K6 h3;clear h3;subst y9);exact keq_eq (r:=PO) (rH hw.sm hw.bI d1) (rH hw.sm hw.bI d2) (xj d1) (xj d2) iP (λz=>by rw[z,beq_self_eq_true] at hl;exact eK hl) (by rw[hl];exact hq)
theorem Ha{s:MY}{n:Nat}(hw:HW g W s)(ih:mM g W s n f){x y:AV}{b:Bool}{v u:M5}{A:K2}(h:eY f x y=Ss b)(h1:Vr g W x v)(h2:Vr g W y u)(hu:A.units+(n+1)<Zx):RcAt A s v u b:=Hb hw ih (uj h h1 h2) hu
theorem amG{s:MY}{n:Nat}(hw:HW g W s)(sm:mN g W f)(ih:mM g W s n f){x y:AV}{b:Bool}{v u:M5}{A:K2}(h:fv g W f x y b v u)(hu:A.units+(n+1)<Zx):EqAt A s v u b:=by
 have iP:A.units<Zx:=ZQ (oW _ _) hu;have rc:=Hb hw ih h hu;have sv:=Hd sm h;revert rc sv;induction h with
 |int a b=>intro _ _;exact λprog w E Q h=>wpAny_eqBool_int h
 |bool a b=>intro _ _;exact EqAt.bool_bool _ _
 |str a b=>intro _ _;exact λprog w E Q h=>wpAny_eqBool_str h
 |bytes a b=>intro _ _;exact amE
 |none=>intro _ _;exact EqAt.same _
 |noneTup ys u r=>intro _ _;obtain⟨a',o',us,rfl,e2,⟨m,rfl⟩,r2⟩:=r;exact EqAt.none_tuple (fP (hw.fz _ _ e2)) iP
 |tupNone ys u r=>intro _ _;obtain⟨a',o',us,rfl,e2,⟨m,rfl⟩,r2⟩:=r;exact EqAt.tuple_none (fP (hw.fz _ _ e2)) iP
 |lst xs ys b v u h3 r r'=>intro rc sv;obtain⟨_,_,_,rfl,_⟩:=r;obtain⟨_,_,_,rfl,_⟩:=r';exact A7 (λz=>sv (congrArg _ z)) rc
 |tup xs ys b v u h3 r r'=>intro rc sv;obtain⟨_,_,_,rfl,_⟩:=r;obtain⟨_,_,_,rfl,_⟩:=r';exact A7 (λz=>sv (congrArg _ z)) rc
 |dict xs ys b v u h3 r r'=>intro rc sv;obtain⟨_,_,_,rfl,_⟩:=r;obtain⟨_,_,_,rfl,_⟩:=r';exact A7 (λz=>sv (congrArg _ z)) rc
theorem GY{s:MY}{n:Nat}(hw:HW g W s)(sm:mN g W f)(ih:mM g W s n f):mM g W s (n+1) (eY f):=λU U U U U U h h1 h2 hu=>amG hw sm ih (uj h h1 h2) hu
theorem GQ{s:MY}(hw:HW g W s)(n:Nat):mM g W s (n+1) (bK n):=by
 induction n with
 |zero=>exact GY hw (λU U U U h=>by exact aY h) (λU U U U U U h=>by exact aY h)
 |succ n ih=>exact GY hw (amX n) ih
theorem amZ(n:Nat){x y:AV}{b:Bool}{v u:M5}(h:bK (n+1) x y=Ss b)(h1:Vr g W x v)(h2:Vr g W y u):fv g W (bK n) x y b v u:=uj h h1 h2
theorem amY{s:MY}(hw:HW g W s)(n:Nat){x y:AV}{b:Bool}{v u:M5}{A:K2}(h:bK n x y=Ss b)(h1:Vr g W x v)(h2:Vr g W y u)(hu:A.units+(n+1)<Zx):RcAt A s v u b:=by
 induction n using vI with
 |zero=>exact Ha (n:=0) hw (λU U U U U U h=>by exact aY h) h h1 h2 hu
 |succ n=>exact Ha hw (GQ hw n) h h1 h2 hu
end
section
variable {g:Gx}{d:Nat}{fi:FI}{A:K2}{W:Wd}{env:Env}{ca:Ca}{st:St}{Rz l:ai}{s:MY}
theorem am.hw(R:am g W fi env ca st Rz s):∀a o,W.F a=Ss o->s.heap.get? a=Ss o:=λU U e=>R.fz e
theorem am.HW(sm:nT g)(R:am g W fi env ca st Rz s):HW g W s:=⟨R.hw,sm,λU U e=>R.bI e⟩
theorem LE(C:wS A):A.units+(140+1)<Zx:=by have:=C.2.2;exact TM this
noncomputable def pM(x y:AV)(P:Bool->PS):PS:=@Option.casesOn _ (λU=>PS) x.vR (jZ (bK 140 x y) P) λa=>@Option.casesOn _ (λU=>PS) y.vR (jZ (bK 140 x y) P) λb=>P (a.1==b.1)
theorem GX{x y:AV}{P:Bool->PS}(h:pM x y P):Ah P (bK 140 x y):=by
 induction x using AV.casesOn with
 |int a=>induction y using AV.casesOn with
  |int b=>exact⟨a==b,rfl,h⟩
  |_=>exact nO h
 |_=>exact nO h
theorem dh(sm:nT g):dz g (Zz .Eq) λx y P=>pM x y λb=>P (.val (.bool b)):=by constructor;intro A W fi env ca st Rz s x y a b P C hx hy h R;obtain⟨k,h,hP⟩:=GX h;exact amY (R.HW sm) 140 h hx hy (LE C) pw g.w _ _ (eR hP (.bool _) R)
noncomputable def aly:AV->Bool
 |.tup j4=>PO
 |.dict j4=>PO
 |_=>WL
theorem gk(sm:nT g):dz g (Zz .NotEq) λx y P=>pM x y λb=>cL (aly x) (P (.val (.bool (!b)))):=by
 constructor;intro A W fi env ca st Rz s x y a b P C hx hy h R;obtain⟨k,h,hP⟩:=GX h;refine ak (fM hP) λhk hP=>?_;have fin:iQ g W fi env ca st Rz P (.bool (!k)) s:=eR hP (.bool _) R;have hw:=R.HW sm;have hu:=LE C;have iP:A.units<Zx:=ZQ (oW _ _) hu;have V:=amZ 139 h hx hy;clear h hx hy hP R;generalize iQ g W fi env ca st Rz P=T at fin ⊢;revert hk fin;induction V with
 |none=>intro _ fin;exact EqNone.ne_none_none fin
 |int a c=>intro _ fin;exact PyProof.Rows.ne_int fin
 |bool a c=>intro _ fin;exact ne_bool fin
 |str a c=>intro _ fin;exact ne_str fin
 |bytes a c=>intro _ fin;exact ne_bytes fin
 |noneTup ys u r=>intro _ fin;obtain⟨a',o',us,rfl,e2,⟨m,rfl⟩,r2⟩:=r;exact RcNeAt.none_tuple (fP (hw.fz _ _ e2)) iP pw g.w _ _ fin
 |lst xs ys c v u h3 r r'=>
  intro _ fin;obtain⟨a,o,vs,rfl,e1,⟨n,rfl⟩,r1⟩:=r;obtain⟨a',o',us,rfl,e2,⟨m,rfl⟩,r2⟩:=r';rw[<- r1.cz,<- r2.cz] at h3;cases hl:(vs.length==us.length) with
  |true=>rw[hl] at h3;obtain⟨e,h4,rfl⟩:=GR (A:=A.in1) (GQ hw 139) (by refine (?_:A.units+1+140<Zx);exact TL hu) r1 h3 r2;exact RcNeAt.lists (A:=A) (e:=e) (cU (hw.fz _ _ e1)) (cU (hw.fz _ _ e2)) (zH hl) iP (λj U U=>h4 j _ _ (by simp) (by simp)) pw g.w _ _ fin
  |false=>
   rw[hl] at h3
   (have y9:=K6 h3;clear h3;subst y9);exact RcNeAt.lists_lengths (A:=A) (cU (hw.fz _ _ e1)) (cU (hw.fz _ _ e2)) (by rw[Zl,Zl];exact congrArg (!·) hl) iP pw g.w _ _ fin
 |_=>intro hk;exact aX hk
noncomputable def gR:AV->M5->Bool
 |.int i,.int j j4=>j==i
 |.str i,.str j j4=>j==i
 |j4,j5=>PO
noncomputable def uk:AV->Bool
 |.int j4=>WL
 |.str j4=>WL
 |_=>PO
noncomputable def nV(x:AV):List AV->Option Bool
 |[]=>Ss PO
 |y::ys=>(eY (λU U=>M4) y x).bind λb=>(nV x ys).bind λc=>Ss (b||c)
theorem am9{x y:AV}{b:Bool}{v u:M5}(hk:uk x=WL)(h:eY (λU U=>M4) y x=Ss b)(h1:Vr g W y v)(h2:Vr g W x u):EqAt A s v u (gR x v)/\gR x v=b:=by
 have V:=uj h h1 h2;clear h h1 h2;revert hk;induction V with
 |int a b=>intro _;exact⟨λprog w E Q h=>wpAny_eqBool_int h,rfl⟩
 |str a b=>intro _;exact⟨λprog w E Q h=>wpAny_eqBool_str h,rfl⟩
 |_=>intro hk;exact aX hk
theorem GZ{x:AV}{u:M5}{ys:List AV}{vs:List M5}(hk:uk x=WL)(h2:Vr g W x u)(r:aO g W ys vs):∀{b:Bool},nV x ys=Ss b->(∀v∈vs,EqAt A s v u (gR x v))/\vs.any (gR x)=b:=by
 induction r with
 |nil=>intro b h;(have y9:=K6 h;clear h;subst y9);exact⟨(by intro v hv;exact aT hv),rfl⟩
 |cons h1 _ ih=>
  intro b h;refine aj (aV.mp h) λc hc h=>?_;refine aj (aV.mp h) λd hd h=>?_
  (have y9:=K6 h;clear h;subst y9);refine ak (am9 (A:=A) (s:=s) hk hc h1 h2) λq1 q2=>?_;refine ak (ih hd) λq3 q4=>?_;refine⟨λv hv=>?_,by rw[YC,q2,q4]⟩;rcases K7.mp hv with rfl|hv
  ·exact q1
  ·exact q3 v hv
theorem GS{vs:List M5}{f:M5->Bool}:vs.toArray.any f=vs.any f:=by simp
noncomputable def G1(neg:Bool)(x y:AV)(P:aS->PS):PS:=y.jI λU ys=>cL (uk x) (jZ (nV x ys) λb=>P (.val (.bool (neg != b))))
inductive alI(g:Gx)(W:Wd)(A:K2)(s:MY)(x:AV)(a b:M5)(P:Bool->PS):Prop
 |mk (l:Bool) (c:MW) (vs:List M5) (n:Nat) (e:b=.ref c) (ho:s.heap.get? c=Ss { cls:=.type (if l then "list" else "tuple"),data:=.seq vs.toArray n }) (h:∀y∈vs.toArray,EqAt A.in1 s y a (gR x y)) (q:P (vs.toArray.any (gR x)))
theorem G3{x y:AV}{a b:M5}{P:Bool->PS}(hx:Vr g W x a)(hy:Vr g W y b)(h:y.jI λU ys=>cL (uk x) (jZ (nV x ys) P))(R:am g W fi env ca st Rz s):alI g W A s x a b P:=by obtain⟨l,xs,c,vs,n,rfl,r,ho,q⟩:=qw (.val hy) R h;refine ak (fM q) λhk q=>?_;obtain⟨d,hd,q⟩:=nO q;refine ak (GZ (A:=A.in1) (s:=s) hk hx r hd) λh1 y9=>?_;subst y9;exact⟨l,c,vs,n,rfl,ho,λy hy=>h1 y (Vo.mpr hy),by rw[GS];exact q⟩
theorem oF:dz g (Zz .In) (G1 PO):=by
 constructor;intro A W fi env ca st Rz s x y a b P C hx hy h R;obtain⟨l,c,vs,n,rfl,ho,h1,q⟩:=G3 (A:=A) hx hy h R;have fin:iQ g W fi env ca st Rz P (.bool (vs.toArray.any (gR x))) s:=eR (by simpa using q) (.bool _) R;induction l with
 |true=>exact in_listAt (gR x) (cU ho) h1 fin
 |false=>exact in_tupleAt (gR x) (fP ho) h1 fin
theorem DM:dz g (Zz .NotIn) (G1 WL):=by
 constructor;intro A W fi env ca st Rz s x y a b P C hx hy h R;obtain⟨l,c,vs,n,rfl,ho,h1,q⟩:=G3 (A:=A) hx hy h R;have fin:iQ g W fi env ca st Rz P (.bool (!vs.toArray.any (gR x))) s:=eR (by simpa using q) (.bool _) R;induction l with
 |true=>exact notIn_listAt (gR x) (cU ho) h1 fin
 |false=>exact notIn_tupleAt (gR x) (fP ho) h1 fin
theorem ad8:dz g (Zz .IsNot) λx y P=>x.zi λU U=>y.zi λU U=>.rq (∀(W:Wd) (v:M5),Vr g W x v->Vr g W y v->ok (P (.val (.bool PO)))) (P (.val (.bool WL))):=by
 constructor;intro A W fi env ca st Rz s x y a b P C hx hy h R;obtain⟨_,_,rfl,h1⟩:=AV.DY h;obtain⟨_,_,rfl,h0,h1⟩:=AV.DY h1;obtain⟨u,d1,o1,m1,rfl,q1,q2,q3,q4⟩:=hx.qJ;obtain⟨v,d2,o2,m2,rfl,p1,p2,p3,p4⟩:=hy.qJ;by_cases e:u=v
 ·subst e;exact wpAny_isNot_ref_self (eR (h0 W _ hx hy).ny (.bool _) R)
 ·exact wpAny_isNot_ref_other e (R.fz q1) (R.fz p1) (by intro z;exact Xq z) (eR h1 (.bool _) R)
noncomputable def DJ(neg:Bool)(a:DR):DT:=λst Q=>a st λU x=>x.fG λxs=>Q (neg != xs.isEmpty) st
theorem LW{neg:Bool}{op:CmpOp}{a:M3}{Da:DR}{p pos:Pos}(ho:∀(A:K2) (s:MY) (l m:MW) (vs:List M5) (E:M5->MY->Prop) (Q:M5->MY->Prop),A.units<Zx->s.heap.IsList l vs.toArray->s.heap.IsList m ([]:List M5).toArray->Q (.bool (neg != vs.isEmpty)) s->K8 (Mo g) A (Zz op (.ref l) (.ref m)) Q E s)
 (ha:bB g d fi a Da) (hm:YE op (.List [] p)=PO):fX g d fi (.Compare a [op] [.List [] p] pos) (DJ neg Da):=by
 constructor;intro A W env ca st Q Rz s C N h R;refine Vj (aL (ha.aN A W env ca st _ Rz s C N h R) λu s1 hh=>wpAny_List (Z5 ⟨zJ _,?_⟩)) hm;obtain⟨b,x,tk,rfl,h1,hv⟩:=hh;obtain⟨xs,rfl,h2⟩:=AV.iJ h1;obtain⟨l,vs,n,rfl,r,hl⟩:=AP (s:={ s with toks:=tk }) hv R.Z;have R2:=R.jJ (tk:=tk) (h':=s.heap.push { cls:=.type "list",data:=.seq ([]:List M5).toArray }) λb o e=>Zf _ e;refine ho A _ _ _ vs _ _ (ZQ (oW _ _) C.a.2.2) (cU (Zf _ hl)) (cU (VV _ rfl)) (Z9 ⟨W,st,.Q _,?_,R2⟩);induction r with|nil=>exact h2|cons _ _=>exact h2
theorem kF{a:M3}{Da:DR}{p pos:Pos}(ha:bB g d fi a Da)(hm:autoParam (YE .NotEq (.List [] p)=PO) t_rfl):fX g d fi (.Compare a [.NotEq] [.List [] p] pos) (DJ WL Da):=
 LW (λA s l m vs E Q hu l1 l2 q=>by
  induction vs using K1 with
  |nil=>exact RcNeAt.lists (A:=A) (e:=λU=>WL) l1 l2 rfl hu (λj h1 h2=>MQ h1 (Yr _)) pw g.w _ _ q
  |cons x xs=>exact RcNeAt.lists_lengths (A:=A) l1 l2 rfl hu pw g.w _ _ q) ha hm
theorem aec{a:M3}{Da:DR}{p pos:Pos}(ha:bB g d fi a Da)(hm:autoParam (YE .Eq (.List [] p)=PO) t_rfl):fX g d fi (.Compare a [.Eq] [.List [] p] pos) (DJ PO Da):=
 LW (λA s l m vs E Q hu l1 l2 q=>by
  induction vs using K1 with
  |nil=>exact RcAt.lists (A:=A) (e:=λU=>WL) l1 l2 rfl hu (λj h1 h2=>MQ h1 (Yr _)) pw g.w _ _ q
  |cons x xs=>exact RcAt.lists_lengths (A:=A) l1 l2 rfl hu pw g.w _ _ q) ha hm
end
end Mine.Internal
namespace Mine.Internal
open PySem PySem.W PySem.Calls PyProof.Rows
noncomputable def Hh(v:M3):Bool:=match v with
 |.Starred ..=>WL
 |_=>PO
noncomputable def nW(env:Env)(E7:Nat):M3->Option Str
 |.Name id pos=>if (env.kindOf id==Ss .local&&pos.line==E7)=WL then Ss id else M4
 |j4=>M4
theorem Hj{es vs:List M3}{k kv:Nat}{tp vp:Pos}{env:Env}:Xg [.Tuple es k tp] (.Tuple vs kv vp) env=
 if (!(es.length==2||es.length==3)||vs.length != es.length||env.blockKind != .function)=WL then pure M4 else if vs.any Hh=WL then pure M4 else
 if ((es.filterMap (nW env ((es.head?.map (·.pos.line)).getD 0))).length != es.length||((es.filterMap (nW env ((es.head?.map (·.pos.line)).getD 0))).eraseDups).length != (es.filterMap (nW env ((es.head?.map (·.pos.line)).getD 0))).length)=WL then pure M4 else
 if vs.all (foldedForSure 8)=WL then pure M4 else if vs.all (constantsAlone 8)=WL then unsupported "assign.tuple-of-constant-expressions:order-of-the-stores" else pure (Ss (es.filterMap (nW env ((es.head?.map (·.pos.line)).getD 0)))):=rfl
theorem jt{fi:FI}{env:Env}{ca:Ca}(N:bq fi env ca){a b:Str}{pa pb tp vp:Pos}{k kv:Nat}{v1 v2:M3}(i j:Nat)(ha:fi.nv[i]?=Ss (a,NK.loc))(hb:fi.nv[j]?=Ss (b,NK.loc))
 (hl:(pb.line==pa.line)=WL) (hn:(b==a)=PO) (hs:[v1,v2].any Hh=PO) (hf:[v1,v2].all (foldedForSure 8)=PO) (hk:[v1,v2].all (constantsAlone 8)=PO) :
 Xg [.Tuple [.Name a pa,.Name b pb] k tp] (.Tuple [v1,v2] kv vp) env=pure (Ss [a,b]):=by
 have h1:=N.aD i a ha;have h2:=N.aD j b hb;have e0:env.blockKind=.function:=by unfold Env.blockKind;rw[N.kind];rfl
 have nm:([YO a pa,YO b pb].filterMap (nW env (([YO a pa,YO b pb].head?.map (·.pos.line)).getD 0)))=[a,b]:=by rw[Vc (show nW env pa.line (.Name a pa)=Ss a from MS (by rw[h1,beq_self_eq_true];exact beq_self_eq_true _)),Vc (show nW env pa.line (.Name b pb)=Ss b from MS (by rw[h2,hl];rfl))];rfl
 have ed:([a,b].eraseDups).length=2:=by simp only[List.eraseDups_cons,YT,hn,Bool.not_false,if_true,List.filter_nil,List.eraseDups_nil,qR,Yp]
 rw[Hj,nm,e0,MZ qH,MZ (by rw[hs];exact qH),MZ (by rw[ed];exact qH),MZ (by rw[hf];exact qH),MZ (by rw[hk];exact qH)]
section
variable {g:Gx}{d:Nat}{fi aZ:FI}{A:K2}{W:Wd}{env:Env}{ca:Ca}{st:St}{Rz l:ai}{s:MY}
theorem sI{nm:Str}{k:NK}{py Nx:Pos}{bx target iter:M3}{eV:List M3}{scope:re}{pos:Pos}{src:DX}{bd:AV->St->(St->PS)->PS}{ts:DT}{el:DE}(i:Nat)(aZ:FI)(K:mJ scope fi aZ)(hs:lv g d fi iter src)(hb:ka g d aZ target bd)(ht:tW g d aZ eV ts)(he:au g d aZ bx el)
 (hsw:∀env ca,bq fi env ca->W8 (.ListComp bx [⟨target,iter,eV,0⟩] scope pos) (Ss (.Name nm py)) Nx.line env=pure WL) (hv:autoParam (fi.nv[i]?=Ss (nm,k)) t_rfl) (hk:autoParam (fi.st k=WL) t_rfl)
 (hf:autoParam (pB iter=WL) t_rfl):eJ g d fi (.Assign [.Name nm py] (.ListComp bx [⟨target,iter,eV,0⟩] scope pos) Nx) (D.Mz i (yY fi aZ src λxs st Q=>ic bd (oE ts el) xs [] st Q)):=by
 constructor;intro A W env ca st Q Rz s C N np h R;refine aj (Gi K N) λcl qV N'=>?_;refine a7 (Gu (target:=target) (iter:=iter) (scope:=scope) (pos:=pos) ht he) λrest E1=>?_;rw[exec_Assign_Name_used _ _ _ _ (hsw env ca N)];refine EJ (XY (EJ ?_));refine (?_:K8 _ A (do let _ <- comprehension (.ListComp bx [⟨target,iter,eV,0⟩] scope pos) scope env _ (newList []) PO (Er iter env) (Ss (YH (.Name nm py) env))) _ _ s);refine EJ (Ws (akF (use:=Ss (YH (.Name nm py) env)) (Q:=λU s'=>mF g W fi env ca Rz Q .next s') rfl (noFold hf env) qV K.kind K.names (aL (hs.aN A W env ca st _ Rz s C N h R) λx s1 h1=>aL h1 λit s2 h2=>?_)) (λU s' hq=>zI (zI hq)) λU U e=>e);obtain⟨W2,xs,az,L,le,q,hI,R2⟩:=h2;refine GD (RR:=λacc C=>compPost (Mo g) A aK (Ss (YH (.Name nm py) env)) (λU s'=>mF g W fi env ca Rz Q .next s') acc C) K (AO hb E1) N' C hI q R2 λac C m' s' hh=>?_;obtain⟨W',qX,jl,bM,cS,⟨bE,rfl,q'⟩,jk,R'⟩:=hh;refine VX (rp (r:=.own (.lst qX)) (l:=[(ac,bO jl)]) N np R' hv (tJ N hv hk) (tK hk) (.own (.lst jk)) λs3 R3=>?_);refine aj (R3.cQ) λo ho hp=>?_;exact⟨m',pD ho hp,λh' hb=>⟨W',.next,_,le.S cS,q',trivial,R3.qK (h':=h') λb o fh e=>hb.extBut b o fh e⟩⟩
noncomputable def St.MI(st:St)(i:Nat)(P:Int->PS):PS:=oS st.aD[i]? .bot (λv=>v.L P) λU=>.bot
theorem akI{i:Nat}{P:Int->PS}(h:st.MI i P):∃m,st.aD[i]?=Ss (.val (.int m))/\P m:=by exact ub h (λU z=>Zg z) (λv e z=>by obtain⟨m,rfl,q⟩:=AV.vG z;exact⟨m,e,q⟩) λU U z=>Zg z
theorem adO{nm:Str}{p pos:Pos}{e:M3}{De:DE}(i:Nat)(he:au g d fi e De)(hv:autoParam (fi.nv[i]?=Ss (nm,NK.loc)) t_rfl):
 eJ g d fi (.AugAssign (.Name nm p) .Add e pos) (λst Q=>st.MI i λm=>De st λr ab=>r.v.L λn=>Q .next ⟨ab.aD.set i (.val (.int (m+n))),ab.aI⟩):=by
 constructor;intro A W env ca st Q Rz s C N np h ⟨rs,m,L,ML,X⟩;refine aj (akI h) λn hs h=>?_;refine hJ (X.jN hs (by intro e;exact an.noConfusion e)) λx l e1 e2=>?_;refine bV (e2.Ed) λy ey U e2=>?_;obtain rfl:=K6 ey;refine a7 (e2.kO) λt0 y9=>?_;subst y9;refine aj (X.cm.b8 (env.locals,bN m) (.head _)) λo ho hp=>?_;have hm:=X.ms i nm hv;rw[e1] at hm;refine wpAny_AugAssign_Name (wpAny_loadName_local N.kind (N.aD _ _ hv) (pD ho hp) (K6 hm).symm ?_);refine eM (K:=λx ab=>x.L λk=>Q .next ⟨ab.aD.set i (.val (.int (n+k))),ab.aI⟩) he C N h X.kN λu s1 W1 ab y le v1 q R1=>?_;refine fq q v1 λk t q=>?_;exact wpAny_iadd_int (rp (l:=[]) N np (R1.Z (tk:=s1.toks+1)) hv (by intro h;cases h) rfl (.val (.int _ _)) λs2 R2=>⟨W1,.next,_,le,q,trivial,R2⟩)
theorem vC{a b c:M3}{o1 o2:CmpOp}{f1 f2:AV->AV->(aS->PS)->PS}{Da Db Dc:DE}{pos:Pos}(h1:dz g (Zz o1) f1)(h2:dz g (Zz o2) f2)(ha:au g d fi a Da)(hb:au g d fi b Db)(hc:au g d fi c Dc)
 (hm:autoParam (lastMarks [o1,o2] [b,c]=PO) t_with_unfolding_all_rfl):au g d fi (.Compare a [o1,o2] [b,c] pos) (λst Q=>Da st λx ab=>Db ab λy az=>f1 x.v y.v λr=>r.v.kG λt=>br t (Dc az λz bE=>f2 y.v z.v λr2=>Q r2 bE) (Q (.val (.bool PO)) az)):=by
 constructor;intro A W env ca st Q Rz s C N h R;refine Compare_chain (aL (tL (K:=λx y az=>f1 x y λr=>r.v.kG λt=>br t (Dc az λz bE=>f2 y z.v λr2=>Q r2 bE) (Q (.val (.bool PO)) az)) ha hb C N h R) λu s1 hu=>chain_link (aL hu λw s2 hh=>?_)) hm;obtain⟨W2,az,x,y,le,v1,v2,k,R2⟩:=hh;refine aL (h1.aN A W2 fi env ca az Rz s2 x y u w _ C.a v1 v2 k R2) λz s3 hh=>?_;obtain⟨W3,r,l,fU,p,rr,R3⟩:=hh;obtain⟨t,rfl,rfl,p⟩:=rr.cK p;refine Z9 ?_;induction t with
 |true=>refine chain_last (eM (K:=λz bE=>f2 y z λr2=>Q r2 bE) hc C N p R3 λt s4 W4 o8 zz gM v4 k4 R4=>?_);exact aL (h2.aN A W4 fi env ca o8 Rz s4 y zz w t _ C.a (v2.aE (fU.S gM)) v4 k4 R4) λU s5 hz=>cF (le.S (fU.S gM)) hz.e
 |false=>exact cF (le.S fU) (eN p (.bool _) R3)
theorem DO{a b c:M3}{o1 o2:CmpOp}{f1 f2:AV->AV->(aS->PS)->PS}{Da Db Dc:DE}{pos:Pos}(h1:dz g (Zz o1) f1)(h2:dz g (Zz o2) f2)(ha:au g d fi a Da)(hb:au g d fi b Db)(hc:au g d fi c Dc)
 (hm:autoParam (lastMarks [o1,o2] [b,c]=PO) t_with_unfolding_all_rfl):fX g d fi (.Compare a [o1,o2] [b,c] pos) (λst Q=>Da st λx ab=>Db ab λy az=>f1 x.v y.v λr=>r.v.kG λt=>br t (Dc az λz bE=>f2 y.v z.v λr2=>r2.v.kG λt2=>Q t2 bE) (Q PO az)):=by
 constructor;intro A W env ca st Q Rz s C N h R;refine isTrue_chain (aL (tL (K:=λx y az=>f1 x y λr=>r.v.kG λt=>br t (Dc az λz bE=>f2 y z.v λr2=>r2.v.kG λt2=>Q t2 bE) (Q PO az)) ha hb C N h R) λu s1 hu=>test_link (aL hu λw s2 hh=>?_)) hm;obtain⟨W2,az,x,y,le,v1,v2,k,R2⟩:=hh;refine aL (h1.aN A W2 fi env ca az Rz s2 x y u w _ C.a v1 v2 k R2) λz s3 hh=>?_;obtain⟨W3,r,l,fU,p,rr,R3⟩:=hh;obtain⟨t,rfl,rfl,p⟩:=rr.cK p;refine Z9 ?_;induction t with
 |true=>refine test_last (eM (K:=λz bE=>f2 y z λr2=>r2.v.kG λt2=>Q t2 bE) hc C N p R3 λt s4 W4 o8 zz gM v4 k4 R4=>?_);refine aL (h2.aN A W4 fi env ca o8 Rz s4 y zz w t _ C.a (v2.aE (fU.S gM)) v4 k4 R4) λq s5 hh=>?_;obtain⟨W5,r5,l5,nF,p5,rr5,R5⟩:=hh;obtain⟨t5,rfl,rfl,p5⟩:=rr5.cK p5;exact Z9 ⟨W5,o8,le.S (fU.S (gM.S nF)),p5,R5⟩
 |false=>exact⟨W3,az,le.S fU,p,R3⟩
end
section
variable {g:Gx}{d:Nat}{fi aZ:FI}{A:K2}{W:Wd}{env:Env}{ca:Ca}{st:St}{Rz l:ai}{s:MY}
noncomputable def Hf(i:Nat)(Dx:DR)(y:AV)(ab:St)(Q:Fl->St->PS):PS:=ab.kQ i λxs=>.rq (xs.length<=1000000) (Dx ab λb x=>bY b (x.L λk=>cL (k==-1) (.ex λzs=>.ex λz=>.rq (xs=zs++[z]) (Q .next ⟨ab.aD.set i (.own (.lst (zs++[y]))),ab.aI⟩))))
theorem adQ{nm:Str}{p sp pos:Pos}{e ix:M3}{De:DE}{Dx:DR}(i:Nat)(he:au g d fi e De)(hx:bB g d fi ix Dx)(hv:autoParam (fi.nv[i]?=Ss (nm,NK.loc)) t_rfl)
 (hs:autoParam (mI e=WL) t_rfl):eJ g d fi (.Assign [.Subscript (.Name nm p) ix sp] e pos) (λst Q=>De st λr ab=>Hf i Dx r.v ab Q):=by
 constructor;intro A W env ca st Q Rz s C N np h R;refine Vm (eM (K:=λy ab=>Hf i Dx y ab Q) he C N h R λv s1 W1 ab y le v1 q R1=>?_) (noSwap hs env);refine bV (ue q) λxs mr hz q=>?_;refine eg (id R1) λrs m L ML X=>?_;obtain⟨a,vs,hl,e1,ho,hp,RL⟩:=X.vO mr hv;refine ro N X hv rfl e1 (hx.C C N q R1 λu x tk v2 q2 R2=>?_);refine fq q2 v2 λk t q3=>?_;obtain⟨hk,zs,z,rfl,q4⟩:=fM q3;obtain rfl:=zH hk;rw[<- hl.cz] at hz;refine eX (hl.Mm) λus w y9 r1 U=>?_;subst y9;obtain⟨o,ho,n,rfl⟩:=ho;have kU:((us++[w]).toArray.size:Int)=us.length+1:=by rw[Zl,Es];rfl
 have hn:((-1:Int)+((us++[w]).toArray.size:Int)).toNat=us.length:=by rw[kU];exact TP
 refine ki_setBack (s:={ s1 with toks:=tk }) ho (by decide) (by rw[kU];exact TN hn) (by decide) ?_;refine ak (rC (λxs=>xs.setIfInBounds ((-1:Int)+((us++[w]).toArray.size:Int)).toNat v) ho) λu1 u2=>?_;have R3:=(RL.Z.ii (tk:=tk) u1 u2).vN (xs:=zs++[y]) (by
  rw[hn];have:(Array.setIfInBounds (us++[w]).toArray us.length v).toList=us++[v]:=by simp
  rw[this];exact DG r1 v1) (Xp (sV.mp mr).1) hp
 rw[Wt] at R3;exact⟨W1,.next,_,le,q4,trivial,R3⟩
inductive amd(g:Gx)(W:Wd)(P:List AV->PS)(s:MY)(vs:List M5)(s':MY):Prop
 |mk (xs:List AV) (tk:Nat) (e:s'={ s with toks:=tk }) (q:P xs) (r:aO g W xs vs)
def ad6(g:Gx)(d:Nat)(fi:FI)(es:List M3)(D:St->(List AV->PS)->PS):Prop:=∀(A:K2) (W:Wd) (env:Env) (ca:Ca) (st:St) (P:List AV->PS) (Rz:ai) (s:MY) (pos:Pos),
 bF d A->bq fi env ca->D st P->am g W fi env ca st Rz s->K8 (Mo g) A (spliced (dP pos (sZ es env))) (amd g W P s) aK s
structure xg(g:Gx)(d:Nat)(fi:FI)(es:List M3)(D:St->(List AV->PS)->PS):Prop where
 aN:ad6 g d fi es D
theorem aeb:xg g d fi [] (λU P=>P []):=⟨λA W env ca st P Rz s pos C N h R=>Z5 ⟨[],s.toks,rfl,h,.nil⟩⟩
theorem LV{a:M3}{es:List M3}{Da:DR}{Db}(ha:bB g d fi a Da)(hb:xg g d fi es Db)(he:autoParam (cT a=WL) t_rfl):xg g d fi (a::es) (λst P=>Da st λb x=>bY b (Db st λxs=>P (x::xs))):=by constructor;intro A W env ca st P Rz s pos C N h R;refine ZS (ha.C C N h R λu x tk hv h1 R1=>?_) (star_cons he env);refine aL (hb.aN A W env ca st _ Rz _ pos C N h1 R1) λvs s2 hh=>?_;obtain⟨xs,eH,rfl,q,r⟩:=hh;exact⟨x::xs,eH,rfl,q,.cons hv r⟩
noncomputable def adS(i:Nat)(a:St->(List AV->PS)->PS):DE:=λst Q=>st.kQ i λxs=>.rq (xs.length<=1000000) (a st λys=>cL (Xs ys.length 1000000) (Q (.val .none) ⟨st.aD.set i (.own (.lst (xs++[.tup ys]))),st.aI⟩))
theorem adV{nm:Str}{p iN pos tp:Pos}{es:List M3}{kt:Nat}{De:St->(List AV->PS)->PS}(i:Nat)(he:xg g d fi es De)(hv:autoParam (fi.nv[i]?=Ss (nm,NK.loc)) t_rfl)(nE:autoParam ((iN.endLine==pos.line)=WL) t_rfl):
 au g d fi (.Call (.Attribute (.Name nm p) "append" iN) [.Tuple es kt tp] [] pos) (adS i De):=by
 constructor;intro A W env ca st Q Rz s C N h R;refine eg (id R) λrs m L ML X=>?_;refine bV (ue h) λxs hs hz h=>?_;obtain⟨a,vs,hl,e1,ho,hp,RL⟩:=X.vO hs hv;refine xe (args:=[.Tuple es kt tp]) N X hv rfl e1 ho akM akL (wV env) rfl nE ?_;rw[show dP pos (sZ [.Tuple es kt tp] env)=[(PO,Er (.Tuple es kt tp) env)] from rfl];refine al2 (wpAny_Tuple (aL (he.aN A W env ca st _ Rz s tp C N h R) λus s1 hh=>?_));obtain⟨ys,tk,rfl,q,r⟩:=hh;refine ak (fM q) λhy q=>?_;refine⟨by rw[r.cz];exact gO (l9 hy),?_⟩;obtain⟨W2,rr,l2,dx,rfl,ww,Ny⟩:=Au (P:=λr=>.leaf (r=.val (.tup ys))) (tk:=tk) (n:=0) rfl r (RL.Z (tk:=tk));cases ww with
 |val ww=>obtain⟨o,ho,n,rfl⟩:=Ny.cQ;refine ak (rC (λxs=>xs.push (.ref s.heap.objs.size)) ho) λu1 u2=>?_;refine⟨vs.toArray,n,by rw[hl.jd];exact gO hz,ho,?_⟩;have R3:=(Ny.ii (tk:=tk) u1 u2).vN (xs:=xs++[.tup ys]) (by rw[amF];exact DG (aO.aE dx hl) ww) (Xp (sV.mp hs).1) hp;rw[Wt] at R3;exact⟨W2,.val .none,_,[],dx,q,.val .none,R3⟩
end
structure ui(g:Gx)(e:Nat):Prop where
 no:∀c,c<4->c≠e->∃K:Frag,K.In g.mh.heap/\kin_not K (g.κ c) (g.κ e)=WL/\plainGet K (g.κ c) "__class__"=WL/\hasDictIn K (g.κ c)=WL/\ZM K (.ref (g.κ c)) "__class__"=Ss (Ss (.builtin "object.__class__"))/\
  specialIn K (.builtin "object.__class__") "__get__"=Ss (Ss (.builtin "getset_descriptor.__get__"))/\takesIn K (.builtin "object.__class__")=Ss WL/\mroIn K (g.κ c) (.type "object")=Ss WL
 yes:∃K:Frag,K.In g.mh.heap/\isIn K (.ref (g.κ e)) (g.κ e)=WL
section
variable {g:Gx}{d:Nat}{fi aZ:FI}{A:K2}{W:Wd}{env:Env}{ca:Ca}{st:St}{Rz l:ai}{s:MY}
noncomputable def Bc(e:Nat)(st:St)(x:AV)(P:Bool->PS):PS:=match x with
 |.inst c j4=>cL (Xu c 4&&!ie c e) (P PO)
 |.ref k=>st.oQ k λmo=>cL (Xu mo.cls 4) (P (ie mo.cls e))
 |_=>.bot
theorem G6{a dd:MW}{o:Obj}{c e:Nat}{P:Bool->PS}{Q:M5->MY->Prop}(G:ui g e)(R:am g W fi env ca st Rz s)(q:∀b tk,P b->Q (.bool b) { s with toks:=tk })(hc:Xu c 4=WL)(h1:s.heap.get? a=Ss (s0 (g.κ c) dd))(h2:s.heap.get? dd=Ss o)(hP:P (ie c e)):K8 (Mo g) A (call (.builtin "isinstance") [.ref a,.ref (g.κ e)]) Q aK s:=by
 cases he:ie c e with
 |true=>
  rw[he] at hP;obtain rfl:=ZI he;refine aj (G.yes) λK X0 k=>?_;have I:InstAt s.heap a (s0 (g.κ c) dd) (g.κ c) (Ss o):=⟨h1,rfl,rfl,h2⟩
  exact isi_call (X0.keeps λb o e=>R.bI e) (λM=>I.type) k (by intro z;exact Xq z) (q WL s.toks hP)
 |false=>rw[he] at hP;refine OI (G.no c (WZ (l9 hc)) (Nat.ne_of_beq_eq_false he)) λK X0 k1 k2 k3 k4 k5 k6 k7=>?_;exact kin_callC (X0.keeps λb o e=>R.bI e) (od:=o) ⟨h1,rfl,rfl,h2⟩ k1 k2 k3 k4 k5 k6 k7 (q PO _ hP)
theorem Hm{e:Nat}{x:AV}{u:M5}{P:Bool->PS}{Q:M5->MY->Prop}(G:ui g e)(R:am g W fi env ca st Rz s)(hx:Vr g W x u)(h:Bc e st x P)(q:∀b tk,P b->Q (.bool b) { s with toks:=tk }):K8 (Mo g) A (call (.builtin "isinstance") [u,.ref (g.κ e)]) Q aK s:=by
 induction x using AV.casesOn with
 |inst c fs=>refine ak (fM h) λhc h=>?_;refine ak (zA.mp hc) λhc he=>?_;obtain⟨a,dd,o,m,rfl,q1,q2,q3,q4⟩:=hx.qJ;exact G6 G R q hc (R.fz q1) (R.fz q2) (by rw[(WX _).mp he];exact h)
 |ref k=>refine aj (uc h) λmo kT h=>?_;refine ak (fM h) λhc h=>?_;obtain⟨a,dd,mm,o,l,rfl,e1,e2,p2,_,q4,_⟩:=AR R hx kT;exact G6 G R q hc e1 e2 h
 |_=>exact h.elim
theorem af3{a:M3}{Da:DR}{nm:Str}{p p2 pos:Pos}(e:Nat)(j j2:Nat)(G:GOK g)(hg:GB g "isinstance" (.builtin "isinstance"))(gc:g.mg nm=Ss (.ref (g.κ e)))(gi:ui g e)(ha:bB g d fi a Da)(hj:autoParam (fi.ng[j]?=Ss ("isinstance":Str)) t_rfl)(tm:autoParam (fi.ng[j2]?=Ss nm) t_rfl)
 (hs:autoParam (cT a=WL) t_rfl) (hp:autoParam (∀env,(dP pos (sZ [.Name nm p2] env)).any (·.1)=PO) t_exact_star_any_rfl) :
 au g d fi (.Call (.Name "isinstance" p) [a,.Name nm p2] [] pos) (λst Q=>Da st λb x=>bY b (Bc e st x λt=>Q (.val (.bool t)) st)):=by
 constructor;intro A W env ca st Q Rz s C N h R;refine Ze (mL G N R hj hg.1 hg.2 (Wa (ZS (ha.C C N h R λu x tk hv h1 R1=>?_) (star_cons hs env)) (star_cons hs env) (hp env)));exact ZS (lC G N R1 tm gc (Z5 (Hm gi R1 hv h1 λt eH ht=>eN ht (.bool _) R.Z))) rfl
theorem am0{ns:List Int}:∀{vs:List M5},aO g W (ns.map .int) vs->∃xs:Array (Int×Tok),vs.toArray=intItems xs/\xs.toList.map (·.1)=ns:=by
 induction ns with
 |nil=>intro vs h;cases h;exact⟨#[],by simp[intItems],rfl⟩
 |cons n ns ih=>intro vs h;refine eX (h.gG) λv us y9 h1 h2=>?_;subst y9;refine a7 (h1.kO) λt y9=>?_;subst y9;refine aj (ih h2) λxs e1 e2=>?_;refine⟨((n,t)::xs.toList).toArray,?_,by simp[e2]⟩;have:_=(intItems xs).toList:=congrArg WE e1;simp[intItems] at this ⊢;exact this
end
theorem G8{l:List Int}{f:Nat->Int}(hf:∀i,i<l.length->f i=l.getD i 0):∀n,n<=l.length->preSum f n=(l.take n).sum
 |0,j4=>by simp[preSum]
 |n+1,h=>by
  have ih:=G8 hf n (TS h);rw[List.take_add_one,WJ,preSum,ih,hf n (F7 h)];have:l[n]?=Ss (l.getD n 0):=by rw[YF,Zs (F7 h)];rfl
  rw[this];simp
section
variable {g:Gx}{d:Nat}{fi aZ:FI}{A:K2}{W:Wd}{env:Env}{ca:Ca}{st:St}{Rz l:ai}{s:MY}
theorem ad5{e:M3}{De:DE}{p pos:Pos}(j:Nat)(G:GOK g)(hg:GB g "sum" (.builtin "sum"))(he:au g d fi e De)(hj:autoParam (fi.ng[j]?=Ss ("sum":Str)) t_rfl)(hs:autoParam (cT e=WL) t_rfl):
 au g d fi (.Call (.Name "sum" p) [e] [] pos) λst Q=>De st λr ab=>(.ex λns:List Int=>.rq (r.v=.lst (ns.map .int)) (Q (.val (.int ns.sum)) ab)):=by
 constructor;intro A W env ca st Q Rz s C N h R;refine akG (K:=λx ab=>.ex λns:List Int=>.rq (x=.lst (ns.map .int)) (Q (.val (.int ns.sum)) ab)) j G hg he hj (star_cons hs) C N h R λu s1 W1 ab x le v1 hk R1=>?_;refine aj hk λns y9 k=>?_;subst y9
 obtain⟨a,vs,n,rfl,r1,ho⟩:=mH v1 R1;refine aj (am0 r1) λxs e1 e2=>?_;rw[e1] at ho;refine sum_intListG C.hh (cU ho) λh' tk t' hk=>?_;have hl:xs.size=ns.length:=by rw[<- e2];simp
 have:preSum (numAt xs) xs.size=ns.sum:=by rw[G8 (l:=ns) (λi hi=>?_) _ (TQ hl),hl,X2];unfold numAt;rw[<- e2];simp[YF]
 rw[this];exact cF le (eN k (.int _ _) (R1.jJ (tk:=tk) hk))
inductive alK(g:Gx)(W:Wd)(es:List (Int×AV))(v:M5)(h:Ex):Prop
 |mk (a:MW) (kvs:List (Int×M5)) (e:v=.ref a) (r:jq g W es kvs) (hd:h.DictOf (fK pw g.w) a kvs)
theorem A9{es:List (Int×AV)}{v:M5}(h:Vr g W (.dict es) v)(R:am g W fi env ca st Rz s):alK g W es v s.heap:=by obtain⟨a,o,kvs,rfl,e,⟨es,ep,p1,p2,p3,p4,p5⟩,r⟩:=h.Mw;exact⟨_,_,rfl,r,_,es,ep,R.fz e,p1,p2,p3,p4,p5⟩
theorem am.b(R:am g W fi env ca st Rz s):∀a o,g.mh.heap.get? a=Ss o->s.heap.get? a=Ss o:=λU U e=>R.bI e
theorem LQ(G:nT g):dz g (Zz .In) λx y P=>x.L λi=>y.sL λes=>P (.val (.bool (fw es i).isSome)):=by
 constructor;intro A W fi env ca st Rz s x y a b P C hx hy h R;refine fq h hx λi t h1=>?_;obtain⟨es,rfl,hP⟩:=AV.zh h1;obtain⟨a,kvs,rfl,r,hd⟩:=A9 hy R;refine wpAny_in_of (knd:=fK pw g.w) (k:=i) (by simp[fK,Ww]) (rH G R.b hd) hd.mapOf ?_;have:(ZD kvs i).isSome=(fw es i).isSome:=by
  have:=vD r i;generalize fw es i=z at this;induction this with
  |none h=>rw[h];rfl
  |some v h _=>rw[h];rfl
 rw[this];exact eR hP (.bool _) R.Z
noncomputable def GW(x y:AV)(P:AV->PS):PS:=x.sL λes=>y.L λi=>jZ (fw es i) P
theorem LO{a b:M3}{Da:DE}{Db:DR}{pos:Pos}(ha:au g d fi a Da)(hb:bB g d fi b Db)(hs:autoParam (tD b=WL) t_rfl):au g d fi (.Subscript a b pos) (λst Q=>Da st λr ab=>Db ab λq y=>bY q (GW r.v y λz=>Q (.val z) ab)):=by
 constructor;intro A W env ca st Q Rz s C N h R;refine Yh (eM (K:=λx ab=>Db ab λq y=>bY q (GW x y λz=>Q (.val z) ab)) ha C N h R λu s1 W1 ab x le v1 h1 R1=>?_);refine hb.C C N h1 R1 λu2 y eH v2 h2 R2=>?_;obtain⟨es,rfl,h3⟩:=AV.zh h2;refine fq h3 v2 λi t h4=>?_;obtain⟨z,hz,hQ⟩:=nO h4;obtain⟨a,kvs,rfl,r,hd⟩:=A9 v1 R2;have hg:=vD r i;rw[hz] at hg;cases hg with
 |some v h4 h5=>refine rD (s:={ s1 with toks:=eH }) hd.typeIs akz.lookup ?_ (plainOf hs _ _);exact wpAny_getItem_of (knd:=fK pw g.w) (k:=i) (by simp[fK,Ww]) hd.mapOf h4 (cF le (eN hQ h5 R2.Z))
theorem adW{e:M3}{De:DE}{p pos:Pos}(j:Nat)(G:GOK g)(sm:nT g)(hg:GB g "dict" (.type "dict"))(he:au g d fi e De)(hj:autoParam (fi.ng[j]?=Ss ("dict":Str)) t_rfl)(hs:autoParam (cT e=WL) t_rfl):
 au g d fi (.Call (.Name "dict" p) [e] [] pos) λst Q=>De st λr ab=>r.v.sL λes=>.rq (es.length<=1000000) (Q (.own (.dict es)) ab):=by
 constructor;intro A W env ca st Q Rz s C N h R;refine xq (K:=λx ab=>x.sL λes=>.rq (es.length<=1000000) (Q (.own (.dict es)) ab)) j G hg he hj (star_cons hs) C N h R λu s1 W1 ab x le v1 hk R1=>?_;obtain⟨es,rfl,hz,k⟩:=AV.zh hk;obtain⟨a,kvs,rfl,r,hd⟩:=A9 v1 R1;refine kt_call_dict (knd:=fK pw g.w) (rH sm R1.b hd) hd (by rw[sK r];exact gO hz) λh' pd hb=>?_;refine ry pd λo kW ep d1 d2 d3 d4 d5 d6=>?_
 exact cF le ⟨W1,.own (.dict es),ab,[(s1.heap.objs.size,jm g kvs)],.Q _,k,.own (.dict r),R1.oK (tk:=s1.toks) (λb o e=>hb.extBut b o (WB (WC e)) (Zf _ e)) (ZH (EC _)) ⟨o,d1,kW,ep,d2,d3,d4,d5,d6⟩⟩
end
noncomputable def pK{κ:Type}[DecidableEq κ](es:List (κ×AV))(k:κ)(y:AV):List (κ×AV):=if es.any (λkv=>kv.1=k) then es.map (λkv=>if kv.1=k then (kv.1,y) else kv) else es++[(k,y)]
section
variable {g:Gx}{d:Nat}{fi aZ:FI}{A:K2}{W:Wd}{env:Env}{ca:Ca}{st:St}{Rz l:ai}{s:MY}{κ:Type}[DecidableEq κ]
theorem aed{k:κ}{es:List (κ×AV)}{kvs:List (κ×M5)}(h:gN g W κ es kvs):es.any (λkv=>kv.1=k)=kvs.any (λkv=>kv.1=k):=by
 induction h with
 |nil=>rfl
 |cons h _ ih=>rw[YC,YC,ih,h.1]
set_option tactic.hygienic true in
theorem aef{k:κ}{y:AV}{v:M5}(hy:Vr g W y v){es:List (κ×AV)}{kvs:List (κ×M5)}(h:gN g W κ es kvs):gN g W κ (es.map (λkv=>if kv.1=k then (kv.1,y) else kv)) (kvs.map (λkv=>if kv.1=k then (kv.1,v) else kv)):=by
 induction h with
 |nil=>exact .nil
 |cons h _ ih=>
  rename_i p _ q _ _;refine .cons ?_ ih;dsimp only;by_cases hk:p.1=k
  ·rw[MS hk,MS (h.1.symm.trans hk)];exact⟨h.1,hy⟩
  ·rw[MZ hk,MZ λz=>hk (h.1.trans z)];exact h
theorem LX{es:List (κ×AV)}{kvs:List (κ×M5)}{k:κ}{y:AV}{v:M5}(h:gN g W κ es kvs)(hy:Vr g W y v):gN g W κ (pK es k y) (stored kvs k v):=by
 unfold pK stored;rw[aed h];by_cases hk:kvs.any (λkv=>kv.1=k)=WL
 ·rw[MS hk,MS hk];exact aef hy h
 ·rw[MZ hk,MZ hk];exact Al.kH h (.cons ⟨rfl,hy⟩ .nil)
noncomputable def St.MH(st:St)(i:Nat)(P:List (Int×AV)->PS):PS:=oS st.aD[i]? .bot (λU=>.bot) λv=>v.sL P
theorem alw{i:Nat}{P:List (Int×AV)->PS}(h:st.MH i P):∃xs,st.aD[i]?=Ss (.own (.dict xs))/\P xs:=by exact ub h (λU z=>Zg z) (λU U z=>Zg z) λv e z=>by obtain⟨xs,rfl,q⟩:=AV.zh z;exact⟨xs,e,q⟩
noncomputable def Hg(i:Nat)(Dx:DR)(y:AV)(ab:St)(Q:Fl->St->PS):PS:=ab.MH i λes=>.rq (es.length<=1000000) (Dx ab λb x=>bY b (x.L λk=>Q .next ⟨ab.aD.set i (.own (.dict (pK es k y))),ab.aI⟩))
set_option tactic.hygienic true in
theorem adP{nm:Str}{p sp pos:Pos}{e ix:M3}{De:DE}{Dx:DR}(i:Nat)(he:au g d fi e De)(hx:bB g d fi ix Dx)(hv:autoParam (fi.nv[i]?=Ss (nm,NK.loc)) t_rfl)
 (hs:autoParam (mI e=WL) t_rfl):eJ g d fi (.Assign [.Subscript (.Name nm p) ix sp] e pos) (λst Q=>De st λr ab=>Hg i Dx r.v ab Q):=by
 constructor;intro A W env ca st Q Rz s C N np h R;refine Vm (eM (K:=λy ab=>Hg i Dx y ab Q) he C N h R λv s1 W1 ab y le v1 q R1=>?_) (noSwap hs env);refine bV (alw q) λes mr hz q=>?_;refine eg (id R1) λrs m L ML X=>?_;obtain⟨a,l,o,e1,led,hp,RL⟩:=X.MG mr hv;refine ro N X hv rfl e1 (hx.C C N q R1 λu x tk v2 q2 R2=>?_);refine fq q2 v2 λk t q3=>?_;cases o with
 |dict hl=>
  rename_i vs;obtain⟨o,ho,kW,ep,d2,d3,d4,d5,d6⟩:=led _ (.head _);refine wpAny_setItem_pairs (s:={ s1 with toks:=tk }) (knd:=fK pw g.w) (k:=k) (kvs:=vs) (by simp[fK,Ww]) ⟨o,kW,ep,ho,d2,d3,d4,d5,d6⟩ (λh' pd wv=>?_) (by rw[sK hl];exact gO hz);refine ry pd λo2 E8 E9 f1 f2 f3 f4 f5 f6=>?_
  have R3:=(RL.Z.oP (tk:=tk+1) (p':=jm g (stored vs k v)) wv ⟨o2,f1,E8,E9,f2,f3,f4,f5,f6⟩).MB (l:=[_]) (.dict (LX hl v1)) (Xp (sV.mp mr).1) hp;rw[Wt] at R3;exact⟨W1,.next,_,le,q3,trivial,R3⟩
theorem ad9:dz g (ZN .Pow) λx y P=>x.L λa=>y.L λb=>cL (decide (0<=b/\b<=20/\a.natAbs<=100)) (P (.val (.int (a ^ b.toNat)))):=by constructor;intro A W fi env ca st Rz s x y a b P C hx hy h R;obtain⟨i,j,t,u,rfl,rfl,h⟩:=O.D9 hx hy h;refine ak (fM h) λhd hP=>?_;refine ce (zL hd) λh1 h2 h3=>?_;exact pow_int_small h1 (TU h1 h2) (TT h3) (eR hP (.int _ _) R.Z)
end
section
variable {g:Gx}{d:Nat}{fi aZ:FI}{A:K2}{W:Wd}{env:Env}{ca:Ca}{st:St}{Rz l:ai}{s:MY}
variable {bx t1 i1 t2 i2:M3}{scope:re}{pos:Pos}
abbrev hN(bx t1 i1 t2 i2:M3)(scope:re)(pos:Pos):M3:=.ListComp bx [⟨t1,i1,[],0⟩,⟨t2,i2,[],0⟩] scope pos
theorem akJ(it acc:M5)(env:Env):compTurn (hN bx t1 i1 t2 i2 scope pos) 1 it acc env=(do
 Zy i2.pos
 match <- pyNext it with
 |none=>pure (.done .next)
 |some v=>
  Ys t2 it v
  YH t2 env v
  (do let _ <- call (.builtin "list.append") [acc,<- Er bx env])
  again (.compLoop (hN bx t1 i1 t2 i2 scope pos) 1 it acc env)):=by rfl
theorem akK(it acc:M5)(env:Env):compTurn (hN bx t1 i1 t2 i2 scope pos) 0 it acc env=(do
 Zy i1.pos
 match <- pyNext it with
 |none=>pure (.done .next)
 |some v=>
  Ys t1 it v
  YH t1 env v
  let x <- Er i2 env
  Zy i2.pos
  let x <- Wb i2 env x;let _ <- runOwn (.compStart (hN bx t1 i1 t2 i2 scope pos) 1 (<- Xv [x] (pyIter x)) acc env) env
  again (.compLoop (hN bx t1 i1 t2 i2 scope pos) 0 it acc env)):=by rfl
theorem akV{prog:ZB}{w:bc}{R:Xw->MY->Prop}{it acc:M5}
 (h0:ZC (ZL prog w) A (.compLoop (hN bx t1 i1 t2 i2 scope pos) 1 it acc env) R s)
 (h:K8 (ZL prog w) A (pyIter it) (λFa s'=>ZC (ZL prog w) A (.compLoop (hN bx t1 i1 t2 i2 scope pos) 1 Fa acc env) R s') (notedBy (ZL prog w) A env λx s'=>R (.error x) s') s) :
 ZC (ZL prog w) A (.compStart (hN bx t1 i1 t2 i2 scope pos) 1 it acc env) R s:=by
 refine codeAny_of_tree ?_;refine (?_:K8 _ _ ((compStart (hN bx t1 i1 t2 i2 scope pos) 1 it acc env).onRaise (λx=>do noteFrame x env;Zy theWindowsPlace)) _ _ s);refine wpAny_notedAt ?_;unfold compStart;refine (?_:K8 _ _ (ask >>= _) _ _ s);refine EJ (wpAny_askSetting (wpAny_ite ?_));split
 ·first
   |exact EJ (zI (zI (And.intro rfl h0)))
   |exact wpAny_pure (And.intro rfl h0)
 ·first
   |exact EJ (W0 (EJ (XY (EJ (Ws h (λFa s' h'=>zI (And.intro rfl h')) λU U x=>x)))))
   |(refine wpAny_bind (wpAny_rule ?_);show wpAny _ _ (standAt i2.pos >>= _) _ _ s;exact wpAny_bind (wpAny_standAt (wpAny_bind (wpAny_mono h (λFa s' h'=>wpAny_pure (And.intro rfl h')) λU U x=>x))))
theorem amg{el:DE}(he:au g d fi bx el):∃rest,t4 (hN bx t1 i1 t2 i2 scope pos) t2 1 i2.pos rest/\tY g d fi (hN bx t1 i1 t2 i2 scope pos) 1 rest (oE D.sQ el):=
 ⟨_,akJ,λA W env ca st ys vs it ac Q Rz s C N np h hv R=>GE he C N h hv R⟩
noncomputable def zc(mv:DX)(b2:AV->St->(St->PS)->PS)(el:DE):DL:=λys st Q=>mv st λNz az=>ic b2 (oE D.sQ el) Nz ys az Q
theorem amf{b2:AV->St->(St->PS)->PS}{mv:DX}{el:DE}(lb:lv g d fi i2 mv)(Fb:ka g d fi t2 b2)(he:au g d fi bx el)(hf:∀(env:Env) x,Wb i2 env x=pure x):
 ∃rest,t4 (hN bx t1 i1 t2 i2 scope pos) t1 0 i1.pos rest/\tY g d fi (hN bx t1 i1 t2 i2 scope pos) 0 rest (zc mv b2 el):=by
 refine⟨_,akK,λA W env ca st ys vs it ac Q Rz s C N np h hv R=>?_⟩;refine aj (amg (t1:=t1) (i1:=i1) (t2:=t2) (i2:=i2) (scope:=scope) (pos:=pos) he) λrest r1 r2=>?_;refine EJ (aL (lb.aN A W env ca st _ _ s C N h R) λx2 s4 h4=>?_);refine EJ (XY (EJ (wpAny_of_eq (hf env x2) (EJ (XB (aL h4 λit2 s5 h5=>?_))))));obtain⟨W5,Nz,ti,L5,nF,q5,NA,R5⟩:=h5;have wq:ZC (Mo g) A (.compLoop (hN bx t1 i1 t2 i2 scope pos) 1 it2 (.ref ac) env) (λrr s'=>rr=.ok .next/\rz g W5 fi env ca Rz ac Q s') s5:=
  GN r1 Fb r2 C N np NA (hv.aE nF) q5 R5 λs' h=>⟨rfl,h⟩
 have afJ:=akV (t1:=t1) (i1:=i1) wq (iu (GJ NA (Rz:=(ac,bO vs)::Rz) R5 wq));refine EJ (wpAny_runOwn (YX afJ λrr s6 hh=>?_));obtain⟨rfl,W6,ys6,vs6,tj,zO,q6,v6,R6⟩:=hh;exact zI ⟨rfl,W6,ys6,vs6,tj,nF.S zO,q6,v6,R6⟩
theorem LJ{NB:DX}{b1 b2:AV->St->(St->PS)->PS}{mv:DX}{el:DE}(aZ:FI)(K:mJ scope fi aZ)(mr:lv g d fi i1 NB)(hb1:ka g d aZ t1 b1)(lb:lv g d aZ i2 mv)(Fb:ka g d aZ t2 b2)(he:au g d aZ bx el)
 (hf1:autoParam (pB i1=WL) t_rfl) (hf:autoParam (pB i2=WL) t_rfl) :
 au g d fi (hN bx t1 i1 t2 i2 scope pos) (yY fi aZ NB λxs st Q=>ic b1 (zc mv b2 el) xs [] st Q):=
 let⟨_,h⟩:=amf (t1:=t1) (i1:=i1) (scope:=scope) (pos:=pos) lb Fb he (noFold hf);Ls aZ K mr (AO hb1 h) (noFold hf1)
end
section
variable {g:Gx}{d:Nat}{fi aZ:FI}{A:K2}{W:Wd}{env:Env}{ca:Ca}{st:St}{Rz l:ai}{s:MY}
theorem LK{pos:Pos}:au g d fi (.Dict [] [] pos) (λst Q=>Q (.own (.dict [])) st):=by constructor;intro A W env ca st Q Rz s C N h R;refine wpAny_Dict_empty ?_;refine ry (Heap.DictOf.new (knd:=fK pw g.w) s.heap) λo es ep d1 d2 d3 d4 d5 d6=>?_;exact⟨W,.own (.dict []),st,[(s.heap.objs.size,jm g [])],.Q _,h,.own (.dict .nil),R.oK (tk:=s.toks) (λb o e=>Zf _ e) (ZH (EC _)) ⟨o,d1,es,ep,d2,d3,d4,d5,d6⟩⟩
omit g in
theorem am8{α β:Type}{f:α->Option β}{e:α}(h:f e=M4){l:List α}:e∈l->(l.filterMap f).length<l.length:=by
 induction l with
 |nil=>intro m;exact aT m
 |cons x l ih=>
  intro m;rcases K7.mp m with rfl|m
  ·rw[akQ h];exact amw (List.length_filterMap_le _ _)
  ·cases hx:f x with
   |none=>rw[akQ hx];exact Nat.lt_succ_of_lt (ih m)
   |some y=>rw[Vc hx];exact X3 (ih m)
theorem Hi{env:Env}{ca:Ca}{es vs:List M3}{k kv:Nat}{tp vp:Pos}(N:bq fi env ca)(h:∃e∈es,∃(i:Nat) (nm:Str) (p:Pos),e=.Name nm p/\fi.nv[i]?=Ss (nm,NK.cell)/\env.kindOf nm=Ss .cell):
 Xg [.Tuple es k tp] (.Tuple vs kv vp) env=pure M4:=by
 obtain⟨e,he,i,nm,p,rfl,h1,h2⟩:=h;rw[Hj];split
 ·rfl
 ·split
  ·rfl
  ·rw[MS];have hl:=am8 (f:=nW env ((es.head?.map (·.pos.line)).getD 0)) (e:=YO nm p) (by refine (?_:(if (env.kindOf nm==Ss .local&&p.line==(es.head?.map (·.pos.line)).getD 0)=WL then Ss nm else M4)=M4);rw[h2];rfl) he;exact XD.mpr (.inl (bne_iff_ne.mpr (WB hl)))
def xf{κ:Type}[DecidableEq κ](knd:YV pw g.w κ)(kvs:List (κ×M5))(o:Obj):Prop:=
 ∃es ep,o.ExactDict/\o.data=.dict es ep/\KeysOf knd es/\Pairs knd es.toList kvs/\(kvs.map (·.1)).Nodup
inductive ame(g:Gx)(W:Wd)(fi:FI)(env:Env)(ca:Ca)(Rz:ai){κ:Type}[DecidableEq κ](knd:YV pw g.w κ)(Q:List (κ×AV)->St->PS)(vs:List (M5×M5))(s':MY):Prop
 |mk (W':Wd) (es:List (κ×AV)) (kvs:List (κ×M5)) (bM:St) (le:W.J W') (q:Q es bM) (r:gN g W' κ es kvs) (c:Carries knd vs kvs) (R:am g W' fi env ca bM Rz s')
structure jr(g:Gx)(d:Nat)(fi:FI){κ:Type}[DecidableEq κ](knd:YV pw g.w κ)(ps:List (M3×M3))(D:St->(List (κ×AV)->St->PS)->PS):Prop where
 aN:∀(A:K2) (W:Wd) (env:Env) (ca:Ca) (st:St) (Q:List (κ×AV)->St->PS) (Rz:ai) (s:MY) (pos:Pos),
  bF d A->bq fi env ca->D st Q->am g W fi env ca st Rz s->K8 (Mo g) A (evalPairs (ps.map λp=>(Er p.1 env,do let x <- Er p.2 env;Zy pos;pure x))) (ame g W fi env ca Rz knd Q) aK s
abbrev A6(g:Gx){κ:Type}[DecidableEq κ](knd:YV pw g.w κ)(on:AV->(κ->PS)->PS):Prop:=∀(W:Wd) (x:AV) (v:M5) (P:κ->PS),on x P->Vr g W x v->∃k,P k/\knd.is k v=WL
theorem am1:A6 g (fK pw g.w) AV.L:=λW x v P h hv=>by refine fq h hv λi t h=>?_;exact⟨i,h,by simp[fK,Ww]⟩
theorem akU:A6 g (ZT pw g.w) AV.sM:=λW x v P h hv=>by refine FF h hv λi t h=>?_;exact⟨i,h,by simp[ZT,Value.isStrOf]⟩
theorem LU{κ:Type}[DecidableEq κ]{knd:YV pw g.w κ}:jr g d fi knd [] (λst Q=>Q [] st):=⟨λA W env ca st Q Rz s pos C N h R=>evalPairs_nil ⟨W,[],[],st,.Q _,h,.nil,trivial,R⟩⟩
theorem LT{κ:Type}[DecidableEq κ]{knd:YV pw g.w κ}{on:AV->(κ->PS)->PS}(hon:A6 g knd on){a b:M3}{ps:List (M3×M3)}{Da Db:DE}{Dp}(ha:au g d fi a Da)(hb:au g d fi b Db)(hp:jr g d fi knd ps Dp):jr g d fi knd ((a,b)::ps) (λst Q=>Da st λx ab=>on x.v λi=>Db ab λy az=>Dp az λes bE=>Q ((i,y.v)::es) bE):=by constructor;intro A W env ca st Q Rz s pos C N h R;refine evalPairs_cons (eM (K:=λx ab=>on x λi=>Db ab λy az=>Dp az λes bE=>Q ((i,y.v)::es) bE) ha C N h R λu s1 W1 ab x EO v1 q1 R1=>?_);refine aj (hon W1 x u _ q1 v1) λi q1 hi=>?_;refine EJ (aL (nP (K:=λy az=>Dp az λes bE=>Q ((i,y)::es) bE) hb C N q1 R1) λw s2 hh=>EJ (XY (zI ?_)));obtain⟨W2,az,y,dx,v2,q2,R2⟩:=hh;refine aL (hp.aN A W2 env ca az _ Rz s2 pos C N q2 R2) λvs s3 hh=>?_;obtain⟨W3,es,kvs,bE,fU,q3,r3,c3,R3⟩:=hh;exact⟨W3,(i,y)::es,(i,w)::kvs,bE,EO.S (dx.S fU),q3,.cons ⟨rfl,v2.aE fU⟩ r3,⟨hi,rfl,c3⟩,R3⟩
theorem LS:jr g d fi (fK pw g.w) [] (λst Q=>Q [] st):=LU
theorem aea:jr g d fi (ZT pw g.w) [] (λst Q=>Q [] st):=LU
theorem nh{a b:M3}{ps:List (M3×M3)}{Da Db:DE}{Dp}(ha:au g d fi a Da)(hb:au g d fi b Db)(hp:jr g d fi (fK pw g.w) ps Dp):jr g d fi (fK pw g.w) ((a,b)::ps) (λst Q=>Da st λx ab=>x.v.L λi=>Db ab λy az=>Dp az λes bE=>Q ((i,y.v)::es) bE):=LT am1 ha hb hp
theorem DN{a b:M3}{ps:List (M3×M3)}{Da Db:DE}{Dp}(ha:au g d fi a Da)(hb:au g d fi b Db)(hp:jr g d fi (ZT pw g.w) ps Dp):jr g d fi (ZT pw g.w) ((a,b)::ps) (λst Q=>Da st λx ab=>x.v.sM λi=>Db ab λy az=>Dp az λes bE=>Q ((i,y.v)::es) bE):=LT akU ha hb hp
noncomputable def rG{κ:Type}[DecidableEq κ](es:List (κ×AV)):List (κ×AV):=es.foldl (λacc kv=>pK acc kv.1 kv.2) []
set_option tactic.hygienic true in
theorem aee{κ:Type}[DecidableEq κ]{es:List (κ×AV)}{kvs:List (κ×M5)}(h:gN g W κ es kvs):∀{as:List (κ×AV)}{bs:List (κ×M5)},gN g W κ as bs->gN g W κ (es.foldl (λacc kv=>pK acc kv.1 kv.2) as) (merged bs kvs):=by
 induction h with
 |nil=>intro as bs h2;exact h2
 |cons h1 _ ih=>rename_i p _ q _ _;intro as bs h2;obtain⟨k',y⟩:=p;obtain⟨k,v⟩:=q;have e:k'=k:=h1.1;subst e;exact ih (LX h2 h1.2)
inductive alF(g:Gx)(W:Wd)(fi:FI)(env:Env)(ca:Ca)(Rz:ai){κ:Type}[DecidableEq κ](knd:YV pw g.w κ)(Q:List (κ×AV)->St->PS)(v:M5)(s':MY):Prop
 |mk (W':Wd) (a:MW) (es:List (κ×AV)) (kvs:List (κ×M5)) (bM:St) (e:v=.ref a) (le:W.J W') (q:Q es bM) (r:gN g W' κ (rG es) kvs) (R:am g W' fi env ca bM ((a,xf knd kvs)::Rz) s')
theorem Hl{κ:Type}[DecidableEq κ]{knd:YV pw g.w κ}{my:List (Option M3)}{mz:List M3}{ps:List (M3×M3)}{pos:Pos}{Dp}{Q:List (κ×AV)->St->PS}(hp:jr g d fi knd ps Dp)(fh:ps≠[])(gJ:Xs ps.length 15=WL)
 (wx:∀env:Env,(evalEachOpt my env).zip ((evalEach mz env).map λv=>do let x <- v;Zy pos;pure x)=(ps.map λp=>(Er p.1 env,do let x <- Er p.2 env;Zy pos;pure x)).map λp=>(Ss p.1,p.2)) (C:bF d A) (N:bq fi env ca) (h:Dp st Q) (R:am g W fi env ca st Rz s) :
 K8 (Mo g) A (Er (.Dict my mz pos) env) (alF g W fi env ca Rz knd Q) aK s:=by
 refine wpAny_Dict_pairs (knd:=knd) (pairs:=ps.map λp=>(Er p.1 env,do let x <- Er p.2 env;Zy pos;pure x)) (wx env) (by simpa using fh) (by rw[K4];exact l9 gJ) ?_;refine ry (Heap.DictOf.new (knd:=knd) s.heap) λo es0 ep d1 d2 d3 d4 d5 d6=>?_;have R1:am g W fi env ca st ((s.heap.objs.size,xf knd [])::Rz) { s with heap:=s.heap.push { cls:=.type "dict",data:=.dict #[] } }:=R.oK (tk:=s.toks) (λb o e=>Zf _ e) (ZH (EC _)) ⟨o,d1,es0,ep,d2,d3,d4,d5,d6⟩;refine aL (hp.aN A W env ca st _ _ _ pos C N h R1) λvs s1 hh=>?_;obtain⟨W1,es,kvs,ab,le,q,r,c,R2⟩:=hh;refine⟨kvs,c,?_,λh' hd hb=>?_⟩
 ·obtain⟨o,e,es1,ep1,f1,f2,f3,f4,f5⟩:=R2.cQ;exact⟨o,es1,ep1,e,f1,f2,f3,f4,f5⟩
 ·refine ry hd λo2 E8 E9 f1 f2 f3 f4 f5 f6=>?_
  exact⟨W1,_,es,merged [] kvs,ab,rfl,le,q,aee r .nil,R2.oP (tk:=s1.toks+vs.length) (p':=xf knd (merged [] kvs)) hb ⟨o2,f1,E8,E9,f2,f3,f4,f5,f6⟩⟩
theorem LM{my:List (Option M3)}{mz:List M3}{ps:List (M3×M3)}{pos:Pos}{Dp}(hp:jr g d fi (fK pw g.w) ps Dp)(afK:autoParam (my=ps.map (λp=>Ss p.1)) t_rfl)(afL:autoParam (mz=ps.map (λp=>p.2)) t_rfl)(fh:autoParam (ps≠[]) t_intro_h__cases_h)(gJ:autoParam (Xs ps.length 15=WL) t_rfl)
 (wx:autoParam (∀env:Env,(evalEachOpt my env).zip ((evalEach mz env).map λv=>do let x <- v;Zy pos;pure x)=(ps.map λp=>(Er p.1 env,do let x <- Er p.2 env;Zy pos;pure x)).map λp=>(Ss p.1,p.2)) t_intro_env__rfl) :
 au g d fi (.Dict my mz pos) (λst Q=>Dp st λes ab=>Q (.own (.dict (rG es))) ab):=by
 constructor;intro A W env ca st Q Rz s C N h R;refine aL (Hl (Q:=λes ab=>Q (.own (.dict (rG es))) ab) hp fh gJ wx C N h R) λv s1 hh=>?_;obtain⟨W1,a,es,kvs,ab,rfl,le,q,r,R1⟩:=hh;exact⟨W1,_,ab,[(a,jm g kvs)],le,q,.own (.dict r),R1⟩
theorem ad1{my:List (Option M3)}{mz:List M3}{ps:List (M3×M3)}{pos:Pos}{Dp}(hp:jr g d fi (ZT pw g.w) ps Dp)(afK:autoParam (my=ps.map (λp=>Ss p.1)) t_rfl)(afL:autoParam (mz=ps.map (λp=>p.2)) t_rfl)(fh:autoParam (ps≠[]) t_intro_h__cases_h)(gJ:autoParam (Xs ps.length 15=WL) t_rfl)
 (wx:autoParam (∀env:Env,(evalEachOpt my env).zip ((evalEach mz env).map λv=>do let x <- v;Zy pos;pure x)=(ps.map λp=>(Er p.1 env,do let x <- Er p.2 env;Zy pos;pure x)).map λp=>(Ss p.1,p.2)) t_intro_env__rfl) :
 au g d fi (.Dict my mz pos) (λst Q=>Dp st λes ab=>Q (.val (.sdict (rG es))) ab):=by
 constructor;intro A W env ca st Q Rz s C N h R;refine aL (Hl (Q:=λes ab=>Q (.val (.sdict (rG es))) ab) hp fh gJ wx C N h R) λv s1 hh=>?_;obtain⟨W1,a,es,kvs,ab,rfl,le,q,r,⟨rs,m,L,ML,X⟩⟩:=hh;refine bV ((X.cm.qD [(a,xf (ZT pw g.w) kvs)]).kK) λo hp H' k=>?_;exact⟨_,.val (.sdict (rG es)),ab,[],le.S (iG k),q,.val (.aeY lU hp (Ds (iG k) r)),(X.on (iG k) rfl X.cv H').kN⟩
theorem ad4{a b:M3}{Da:DE}{Db:DR}{pos:Pos}(ha:au g d fi a Da)(hb:bB g d fi b Db)(hs:autoParam (tD b=WL) t_rfl):au g d fi (.Subscript a b pos) (λst Q=>Da st λr ab=>Db ab λq y=>bY q (r.v.DZ λes=>y.sM λi=>jZ (fw es i) λz=>Q (.val z) ab)):=by
 constructor;intro A W env ca st Q Rz s C N h R;refine Yh (eM (K:=λx ab=>Db ab λq y=>bY q (x.DZ λes=>y.sM λi=>jZ (fw es i) λz=>Q (.val z) ab)) ha C N h R λu s1 W1 ab x le v1 h1 R1=>?_);refine hb.C C N h1 R1 λu2 y eH v2 h2 R2=>?_;obtain⟨es,rfl,h3⟩:=AV.aeM h2;refine FF h3 v2 λi t h4=>?_;obtain⟨z,hz,hQ⟩:=nO h4;obtain⟨a,o,kvs,rfl,e,⟨kW,ep,p1,p2,p3,p4,p5⟩,r⟩:=v1.aeZ;have hd:Heap.DictOf (ZT pw g.w) s1.heap a kvs:=⟨_,kW,ep,R1.fz e,p1,p2,p3,p4,p5⟩
 have hg:=vD r i;rw[hz] at hg;cases hg with
 |some v h4 h5=>refine rD (s:={ s1 with toks:=eH }) hd.typeIs akz.lookup ?_ (plainOf hs _ _);exact wpAny_getItem_of (knd:=ZT pw g.w) (k:=i) (by simp[ZT,Value.isStrOf]) hd.mapOf h4 (cF le (eN hQ h5 R2.Z))
theorem ad3{a u:M3}{Da Du:DE}{p pos:Pos}(ha:au g d fi a Da)(hu:au g d fi u Du):
 au g d fi (.Subscript a (.Slice M4 (Ss u) M4 p) pos) (λst Q=>Da st λr ab=>Du ab λq az=>r.v.fG λxs=>q.v.L λh=>.rq (xs.length<=1000000) (Q (.own (.lst (cx xs M4 (Ss h)))) az)):=by
 constructor;intro A W env ca st Q Rz s C N h R;refine Yh (eM (K:=λx ab=>Du ab λq az=>x.fG λxs=>q.v.L λh=>.rq (xs.length<=1000000) (Q (.own (.lst (cx xs M4 (Ss h)))) az)) ha C N h R λw s1 W1 ab x le v1 h1 R1=>?_);refine Wx ?_;rw[Xe];refine zI ?_;rw[Xf];refine (eM (K:=λy az=>x.fG λxs=>y.L λh=>.rq (xs.length<=1000000) (Q (.own (.lst (cx xs M4 (Ss h)))) az)) hu C N h1 R1 λvu s2 W2 az y dx v2 h2 R2=>?_);refine zI ?_;obtain⟨xs,rfl,h3⟩:=AV.iJ h2;refine fq h3 v2 λi t h4=>?_;refine ak h4 λhz h4=>?_;obtain⟨b,vs,n,rfl,r1,ho⟩:=mH (v1.aE dx) R2;exact AZ R2 ho (by rw[r1.cz];exact hz) .none (.int _ _) .none (by intro z;exact aY z) (by rw[Gs];exact LD r1 _ _) λv s4 hp=>cF (le.S dx) (iQ.e (hp.aE λr hr=>by rw[hr];exact h4))
end
theorem bF.aE{d d':Nat}{A:K2}(C:bF d A)(h:d'<=d):bF d' A:=⟨C.hh,by have:=C.sP;exact TX this h,by have:=C.un;exact TW this h⟩
theorem bQ.aE{g:Gx}{d d':Nat}{a:MW}{Cf:DC}(h:bQ g d a Cf)(hd:d<=d'):bQ g d' a Cf:=⟨λA W R s vs xs mem P C=>h.aN A W R s vs xs mem P (C.aE hd)⟩
theorem bQ.Mq{g:Gx}{d:Nat}{a:MW}{Cf Cf':DC}(h:bQ g d a Cf)(k:∀xs mem P,Cf' xs mem P->Cf xs mem P):bQ g d a Cf':=⟨λA W R s vs xs mem P C hv hc=>h.aN A W R s vs xs mem P C hv (k _ _ _ hc)⟩
set_option backward.match.sparseCases false in
noncomputable def lD:v0->List v0
 |.FunctionDef j4 j5 body ..=>body
 |_=>[]
set_option backward.match.sparseCases false in
noncomputable def amJ:v0->List v0
 |.ClassDef j4 j5 j6 body ..=>body
 |_=>[]
noncomputable def G7:v0:=.Pass ⟨0,0,0,0⟩
def A4(scope:re)(fi aZ:FI):Prop:=(∀nm∈aZ.ng,scope.names.lookup nm=Ss .globalImplicit)/\scope.kind=.function/\(∀x∈scope.names,x.2≠.cell)/\(∀x∈scope.names,x.2=.local->scope.names.lookup x.1=Ss .local)/\
 (∀x∈scope.names,x.2=.free->(x.1,NK.cell)∈fi.nv)/\(∀p∈aZ.nv,(p.1==("__debug__":Str))=PO)/\(∀p∈aZ.ng,(p==("__debug__":Str))=PO)/\((aZ.nv.filter λp=>p.2=.loc).map (·.1)).Nodup/\((fi.nv.filter λp=>p.2=.cell).map (·.1)).Nodup/\aZ.di=PO
noncomputable instance(scope:re)(fi aZ:FI):Decidable (A4 scope fi aZ):=by unfold A4;infer_instance
theorem xm{k:NK}:∀{l:List (Str×NK)},((l.filter λp=>p.2=k).map (·.1)).Nodup->∀{i j:Nat}{nm:Str},l[i]?=Ss (nm,k)->l[j]?=Ss (nm,k)->i=j
 |[],j4,i,j,nm,h,j5=>by simp at h
 |p::l,nd,i,j,nm,h1,h2=>by
  have hm:∀{i:Nat},l[i]?=Ss (nm,k)->nm∈(l.filter λp=>p.2=k).map (·.1):=λh=>zK.mpr ⟨(nm,k),X8.mpr ⟨s8 h,by simp⟩,rfl⟩;by_cases hp:p.2=k
  ·rw[ak2 (by simpa using hp),Zv,bS] at nd;induction i using vI with
   |zero=>
    induction j using vI with
    |zero=>rfl
    |succ j=>simp at h1;subst h1;exact MQ (hm (by simpa using h2)) nd.1
   |succ i=>
    induction j using vI with
    |zero=>simp at h2;subst h2;exact MQ (hm (by simpa using h1)) nd.1
    |succ j=>exact congrArg (·+1) (xm nd.2 (by simpa using h1) (by simpa using h2))
  ·rw[ak3 (by simpa using hp)] at nd;induction i using vI with
   |zero=>simp at h1;subst h1;exact MQ rfl hp
   |succ i=>
    induction j using vI with
    |zero=>simp at h2;subst h2;exact MQ rfl hp
    |succ j=>exact congrArg (·+1) (xm nd (by simpa using h1) (by simpa using h2))
noncomputable def FI.bJ(fi:FI)(cs:List Nat)(vs ng:List Str):FI:=⟨@List.rec (Str×NK) (λU=>Nat->List (Str×NK)) (λU=>[]) (λp U ih n=>(p.1,@NK.casesOn (λU=>NK) p.2 .out (bif cs.contains n then .cell else .hid) .hid .out)::ih (n+1)) fi.nv 0++vs.map λt=>(t,.loc),ng,PO⟩
noncomputable def G0(scope:re)(n:Str)(k k':NK):Bool:=@NK.casesOn (λU=>Bool) k (k'==.out) (@NK.casesOn (λU=>Bool) k' PO (decide (scope.names.lookup n=Ss .free)) WL PO) PO PO
noncomputable def Bb(scope:re)(a:List (Str×NK)):List (Str×NK)->Bool:=List.rec (λb=>b.all λp=>p.2==.loc&&decide (scope.names.lookup p.1=Ss .local)) (λp U ih b=>K1 b PO λq b=>p.1==q.1&&(G0 scope p.1 p.2 q.2&&ih b)) a
theorem am2{scope:re}{a:List (Str×NK)}:∀{b:List (Str×NK)},Bb scope a b=WL->gP scope a b:=by
 induction a with
 |nil=>
  intro b h;have hk:∀p∈b,p.2=.loc/\scope.names.lookup p.1=Ss .local:=λp m=>by refine ak (zA.mp (Z6.mp h p m)) λh1 h2=>?_;exact⟨zH h1,zL h2⟩
  have e:(b.map (·.1)).map (λt=>(t,NK.loc))=b:=by rw[Za];exact (YG (f:=λp:Str×NK=>(p.1,NK.loc)) (g:=id) λp m=>Ye rfl (hk p m).1.symm).trans (List.map_id _)
  rw[<- e];refine .nil λt ht=>?_;refine aj (zK.mp ht) λp m y9=>?_;subst y9;exact (hk p m).2
 |cons p a ih=>
  intro b h;obtain⟨n,k⟩:=p;induction b using K1 with
  |nil=>exact aX h
  |cons q b=>
   obtain⟨m,k'⟩:=q;refine ak (zA.mp (show (n==m&&(G0 scope n k k'&&Bb scope a b))=WL from h)) λh1 h=>?_;refine ak (zA.mp h) λh2 h3=>?_;obtain rfl:=zH h1;induction k with
   |loc=>obtain rfl:=zH (show (k'==NK.out)=WL from h2);exact .loc (ih h3)
   |cell=>induction k' with
    |cell=>exact .cell (zL h2) (ih h3)
    |hid=>exact .hid (ih h3)
    |_=>exact aX h2
   |_=>exact aX h2
theorem gh{scope:re}{fi aZ:FI}(nv:Bb scope fi.nv aZ.nv=WL)(h:A4 scope fi aZ):mJ scope fi aZ:=by
 refine FH h λh1 h2 h3 h4 h5 h6 h7 h8 h9 mA=>?_
 exact⟨am2 nv,h1,h2,h3,h4,λx hx hf=>Vi.mp (h5 x hx hf),h6,h7,λi j nm a b=>xm h8 a b,λi j nm a b=>xm h9 a b,mA⟩
theorem rI{fi:FI}{env:Env}{ca:Ca}{bx:M3}{gens:List XA}{scope:re}{pos py:Pos}{nm:Str}{E7:Nat}(N:bq fi env ca)(i:Nat)(hv:fi.nv[i]?=Ss (nm,NK.loc))(hl:(py.line==pos.line)=WL)
 (hn:(scope.names.any λ(n,k)=>n==nm&&(k==.local||k==.cell))=PO):W8 (.ListComp bx gens scope pos) (Ss (.Name nm py)) E7 env=pure WL:=by
 have h1:=N.aD i nm hv;have e0:env.blockKind=.function:=by unfold Env.blockKind;rw[N.kind];rfl
 unfold W8;have zU:(py.line==(Expr.ListComp bx gens scope pos).pos.line)=WL:=hl;simp only[e0,h1,zU,hn,beq_self_eq_true,Bool.not_false,Bool.and_self,Bool.and_true]
section
variable {g:Gx}{d:Nat}{fi:FI}
theorem aeo{nm:Str}{c:Nat}{iO:MW}{Ci:DC}{p pos:Pos}(j:Nat)(G:GOK g)(gc:xi g nm c iO)(hc:bQ g d iO Ci)(hj:autoParam (fi.ng[j]?=Ss nm) t_rfl):au g (d+1) fi (.Call (.Name nm p) [] [] pos) (LF c yZ Ci):=by constructor;intro A W env ca st Q Rz s C N h R;refine rx (gc.Eh) λK X0 k1 k2 k3 k4=>?_;refine Ze (lC G N R hj gc.val (callWith_K0 (X0.keeps λb o e=>R.bI e) k4 ?_));exact Ho gc hc C .nil h R
end
theorem bA.MM{F:Fz}{N N' R:ai}{h h':Ex}(H:bA F (N++R) h)(ha:(N'.map (·.1)).Sublist (N.map (·.1)))(k:∀b o,(∀p∈N,p.1≠b)->h.get? b=Ss o->h'.get? b=Ss o)(ok:∀p∈N',∃o,h'.get? p.1=Ss o/\p.2 o):bA F (N'++R) h':=by
 have nd:=H.nd;rw[wh,Y3] at nd;have zV:∀p∈N',∃q∈N,q.1=p.1:=λp hp=>zK.mp (ha.subset (zK.mpr ⟨p,hp,rfl⟩));refine⟨λa o e=>k a o (λp hp z=>?_) (H.fz a o e),λq hq=>?_,?_,λq hq=>?_⟩
 ·have:=H.fH p (l8 _ hp);rw[z,e] at this;exact lu this
 ·rcases bT.mp hq with y|y
  ·exact ok q y
  ·refine aj (H.b8 q (s7 _ y)) λo e x=>?_;exact⟨o,k _ _ (λp hp=>nd.2.2 _ (zK.mpr ⟨p,hp,rfl⟩) _ (zK.mpr ⟨q,y,rfl⟩)) e,x⟩
 ·rw[wh,Y3];exact⟨ha.nodup nd.1,nd.2.1,λa x b y=>nd.2.2 a (ha.subset x) b y⟩
 ·rcases bT.mp hq with y|y
  ·refine aj (zV q y) λp hp e=>?_;rw[<- e];exact H.fH p (l8 _ hp)
  ·exact H.fH q (s7 _ y)
theorem bA.afj{F:Fz}{R:ai}{h:Ex}{T:MW}{o:Obj}(H:bA F R h)(hF:F T=M4)(hR:∀q∈R,q.1≠T)(e:h.get? T=Ss o):bA (F.cI T o) R h/\∀b x,F b=Ss x->F.cI T o b=Ss x:=by
 refine⟨⟨λb x q=>?_,H.b8,H.nd,λq hq=>?_⟩,λb x q=>?_⟩
 ·unfold Fz.cI at q;by_cases z:b=T
  ·rw[MS z] at q;(have y9:=K6 q;clear q;subst y9);rw[z];exact e
  ·rw[MZ z] at q;exact H.fz b x q
 ·unfold Fz.cI;rw[MZ (hR q hq)];exact H.fH q hq
 ·unfold Fz.cI;rw[MZ (λz=>by rw[z,hF] at q;exact aY q)];exact q
section
variable {g:Gx}{d:Nat}{fi:FI}{A:K2}{W:Wd}{env:Env}{ca:Ca}{st:St}{Rz N N':ai}{s:MY}
theorem DU{h':Ex}{tk:Nat}(R:am g W fi env ca st (N++Rz) s)(ha:(N'.map (·.1)).Sublist (N.map (·.1)))(k:∀b o,(∀p∈N,p.1≠b)->s.heap.get? b=Ss o->h'.get? b=Ss o)(ok:∀p∈N',∃o,h'.get? p.1=Ss o/\p.2 o):
 am g W fi env ca st (N'++Rz) { s with heap:=h',toks:=tk }:=
 R.on .heap λX H=>((H.kL [X,N,Rz] [0,1,2] [1,0,2]).MM ha k ok).kL [N',X,Rz] [0,1,2] [1,0,2]
theorem L8{h':Ex}{tk:Nat}{T:MW}{o:Obj}(R:am g W fi env ca st (N++Rz) s)(ha:(N'.map (·.1)).Sublist (N.map (·.1)))(k:∀b o,(∀p∈N,p.1≠b)->s.heap.get? b=Ss o->h'.get? b=Ss o)(ok:∀p∈N',∃o,h'.get? p.1=Ss o/\p.2 o)
 (hn:s.heap.get? T=M4) (hT:h'.get? T=Ss o):W.J { W with F:=W.F.cI T o }/\am g { W with F:=W.F.cI T o } fi env ca st (N'++Rz) { s with heap:=h',toks:=tk }:=by
 refine eg R λrs m L ML X=>?_
 have R1:am g W fi env ca st (N'++Rz) { s with heap:=h',toks:=tk }:=DU X.kN ha k ok;have hF:W.F T=M4:=by cases z:W.F T with|none=>rfl|some x=>have:=X.cm.fz T x z;rw[hn] at this;exact aY this
 have hR:∀q∈iq fi env ca rs m L ML (N++Rz),q.1≠T:=λq hq z=>by refine aj (X.cm.b8 q hq) λo e U=>?_;rw[z,hn] at e;exact aY e
 have H1:=((X.cm.qD N).MM ha k ok)
 have hR1:∀q∈N'++iq fi env ca rs m L ML Rz,q.1≠T:=λq hq=>by
  have fj:∀q∈N++iq fi env ca rs m L ML Rz,q.1≠T:=λq hq z=>by refine aj ((X.cm.qD N).b8 q hq) λo e U=>?_;rw[z,hn] at e;exact aY e
  rcases bT.mp hq with y|y
  ·refine aj (zK.mp (ha.subset (zK.mpr ⟨q,y,rfl⟩))) λp hp e=>?_;rw[<- e];exact fj p (l8 _ hp)
  ·exact fj q (s7 _ y)
 refine ak (H1.afj hF hR1 hT) λH2 le=>?_;exact⟨iG le,(X.on (iG le) rfl X.cv.heap (H2.vL N')).kN⟩
def mO(it:MW)(i:Nat)(fj:M5)(o:Obj):Prop:=o={ cls:=.type "enumerate",dict:=M4,data:=.fields #[.none,.bool PO,.ref it,YI i,.none,fj],slots:=#[] }
noncomputable def xu:Nat->List AV->List AV
 |j4,[]=>[]
 |i,x::xs=>.tup [.int i,x]::xu (i+1) xs
inductive akD(g:Gx)(e it:MW)(W:Wd)(xs:List AV)(L:ai):Prop
 |mk (l:MW) (o:Obj) (vs:List M5) (i:Nat) (fj:M5) (ys:List AV) (hl:W.F l=Ss o) (p:bO vs o) (r:aO g W ys (vs.drop i)) (ex:xs=xu i ys) (eL:L=[(e,mO it i fj),(it,dA l i)])
theorem ajC{F:Fz}{a b:MW×(Obj->Prop)}{R:ai}{h:Ex}(H:bA F (a::b::R) h):a.1≠b.1:=λz=>by have nd:=H.nd;rw[Zv,Zv,bS] at nd;exact nd.1 (by rw[z];exact .head _)
theorem aku{es:List M3}{k:Nat}{p:Pos}(e it:MW):w7 g (.Tuple es k p) (.ref e) (akD g e it) where
 aE:=λle ⟨l,o,vs,i,fj,ys,hl,p,r,ex,eL⟩=>⟨l,o,vs,i,fj,ys,le.F _ _ hl,p,r.aE le,ex,eL⟩
 zr:=by
  intro fi env ca A W st Rz s xs L Q0 Q1 hh hI R h0 h1;obtain⟨l,o,vs,i,fj,ys,hl,⟨n,rfl⟩,r,rfl,rfl⟩:=hI;refine eg (id R) λrs m L ML X=>?_;have H:=X.cm.qD [(e,mO it i fj),(it,dA l i)];refine aj (H.b8 (e,mO it i fj) (.head _)) λoe he NC=>?_;refine bV (H.b8 (it,dA l i) (.tail _ (.head _))) λoi hi tn tq=>?_;have fh:e≠it:=ajC H;unfold mO at NC;subst NC;have kX:s.heap.IsListIter it l i:=⟨oi,hi,tn,tq⟩
  induction ys using K1 with
  |nil=>refine wpAny_pyNext_enum_end hh he kX (cU (R.fz hl)) (by rw[Z3];exact Xr (t7 r)) λh' hx=>h0 rfl _ ?_;exact DU (N':=[]) (tk:=s.toks) R (amP _) (λb o hb q=>hx b o (λz=>hb _ (.tail _ (.head _)) z.symm) q) (λp hp=>nomatch hp)
  |cons y ys=>
   obtain⟨v,hv,r1,r2⟩:=t6 r;refine wpAny_pyNext_enum_item he kX (cU (R.fz hl)) (by rw[Z3];exact hv) fh λh' ND NE hT hz hk=>?_;refine bV NE λwy qZ wA wB=>?_
   obtain⟨le,R1⟩:=L8 (N':=[(e,λo=>o={ cls:=.type "enumerate",dict:=M4,data:=.fields #[YI s.heap.objs.size,.bool PO,.ref it,YI ((i:Int)+1),.none,v],slots:=#[] }),(it,dA l (i+1))]) (tk:=s.toks+1) (T:=s.heap.objs.size) R
    (amC _) (λb o hb q=>hk b o (λz=>hb _ (.head _) z.symm) (λz=>hb _ (.tail _ (.head _)) z.symm) q) (λp hp=>by
     rcases K7.mp hp with rfl|hp
     ·exact⟨_,ND,rfl⟩
     ·rcases K7.mp hp with rfl|hp
      ·exact⟨wy,qZ,wA,wB⟩
      ·exact aT hp) (ZH (EC _)) hT
   refine wpAny_letOwnedTupleGo_enum ND λh2 Fc lb=>?_;have R2:=R1.oP (tk:=s.toks+1) (p':=mO it (i+1) v) lb ⟨_,Fc,rfl⟩;refine h1 _ _ rfl _ _ [(e,mO it (i+1) v),(it,dA l (i+1))] _ le (.zq (vs:=[.int i s.toks,v]) lU ⟨0,rfl⟩ (.cons (.int _ _) (.cons (r1.aE le) .nil))) ⟨l,_,vs,i+1,v,ys,le.F _ _ hl,⟨n,rfl⟩,r2.aE le,rfl,rfl⟩ R2
theorem aet{es:List M3}{k:Nat}{tp:Pos}{e:M3}{De:DE}{p pos:Pos}(j:Nat)(G:GOK g)(hg:GB g "enumerate" (.type "enumerate"))(he:au g d fi e De)(hj:autoParam (fi.ng[j]?=Ss ("enumerate":Str)) t_rfl)(hs:autoParam (cT e=WL) t_rfl):
 w8 g d fi (.Tuple es k tp) (.Call (.Name "enumerate" p) [e] [] pos) λst Q=>De st λr ab=>r.v.fG λxs=>Q (xu 0 xs) ab:=by
 constructor;intro A W env ca st Q Rz s C N h R;refine xq (K:=λx ab=>x.fG λxs=>Q (xu 0 xs) ab) j G hg he hj (star_cons hs) C N h R λu s1 W1 ab x le v1 hk R1=>?_;obtain⟨xs,rfl,q⟩:=AV.iJ hk;obtain⟨a,o,vs,rfl,e1,⟨n,rfl⟩,r⟩:=v1.jM;refine call_enumerate_list (cU (R1.fz e1)) λh' NF kX hz hk=>?_;refine bV kX λoi hi tn tq=>?_
 have R2:am g W1 fi env ca ab ((s1.heap.objs.size+1,mO s1.heap.objs.size 0 .none)::(s1.heap.objs.size,dA a 0)::Rz) { s1 with heap:=h' }:=
  R1.on .heap λX H=>((H.qM (N:=[(s1.heap.objs.size+1,mO s1.heap.objs.size 0 .none),(s1.heap.objs.size,dA a 0)]) hk (λp hp=>by
   rcases K7.mp hp with rfl|hp
   ·exact ZH (Wy _)
   ·rcases K7.mp hp with rfl|hp
    ·exact ZH (EC _)
    ·exact aT hp) (by simp) (λp hp=>by
   rcases K7.mp hp with rfl|hp
   ·exact⟨_,NF,rfl⟩
   ·rcases K7.mp hp with rfl|hp
    ·exact⟨oi,hi,tn,tq⟩
    ·exact aT hp)).fI [[(s1.heap.objs.size+1,mO s1.heap.objs.size 0 .none)],[(s1.heap.objs.size,dA a 0)],X,Rz] [[0,1],[2],[3]] [[2],[0],[1],[3]])
 exact wpAny_pyIter_enum NF ⟨W1,_,ab,_,_,le,q,aku _ _,⟨a,_,vs,0,.none,xs,e1,⟨n,rfl⟩,r,rfl,rfl⟩,R2⟩
end
def mQ(TI TO:MW)(o:Obj):Prop:=o={ cls:=.type "zip",dict:=M4,data:=.fields #[.none,.bool PO,.bool PO,.ref TI,.ref TO],slots:=#[] }
def lE(a b:M5)(o:Obj):Prop:=o={ cls:=.type "tuple",data:=.seq #[a,b] }
def nY(o:Obj):Prop:=∃a b,lE a b o
noncomputable def xK:List AV->List AV->List AV
 |x::xs,y::ys=>.tup [x,y]::xK xs ys
 |j4,j5=>[]
inductive ajy(g:Gx)(z TI TO i1 i2:MW)(W:Wd)(xs:List AV)(L:ai):Prop
 |mk (l1 l2:MW) (o1 o2:Obj) (nH nI:List M5) (k1 k2:Nat) (pe pj:List AV) (e1:W.F l1=Ss o1) (p1:bO nH o1) (r1:aO g W pe (nH.drop k1)) (e2:W.F l2=Ss o2) (p2:bO nI o2) (r2:aO g W pj (nI.drop k2))
  (ex:xs=xK pe pj) (eL:L=[(z,mQ TI TO),(TI,lE (.ref i1) (.ref i2)),(TO,nY),(i1,dA l1 k1),(i2,dA l2 k2)])
theorem ajJ{α:Type}{a b c d e:α}(h:[a,b,c,d,e].Nodup):a≠b/\a≠c/\a≠d/\a≠e/\b≠c/\b≠d/\b≠e/\c≠d/\c≠e/\d≠e:=by simp at h;obtain⟨⟨h1,h2,h3,h4⟩,⟨h5,h6,h7⟩,⟨h8,h9⟩,mA⟩:=h;exact⟨h1,h2,h3,h4,h5,h6,h7,h8,h9,mA⟩
section
variable {g:Gx}{d:Nat}{fi:FI}{A:K2}{W:Wd}{env:Env}{ca:Ca}{st:St}{Rz N N':ai}{s:MY}
theorem akt{es:List M3}{k:Nat}{p:Pos}(z TI TO i1 i2:MW):w7 g (.Tuple es k p) (.ref z) (ajy g z TI TO i1 i2) where
 aE:=λle ⟨l1,l2,o1,o2,nH,nI,k1,k2,pe,pj,e1,p1,r1,e2,p2,r2,ex,eL⟩=>⟨l1,l2,o1,o2,nH,nI,k1,k2,pe,pj,le.F _ _ e1,p1,r1.aE le,le.F _ _ e2,p2,r2.aE le,ex,eL⟩
 zr:=by
  intro fi env ca A W st Rz s xs L Q0 Q1 hh hI R h0 h1;obtain⟨l1,l2,o1,o2,nH,nI,k1,k2,pe,pj,e1,⟨n1,rfl⟩,r1,e2,⟨n2,rfl⟩,r2,rfl,rfl⟩:=hI;refine eg (id R) λrs m L ML X=>?_;have H:=X.cm.qD [(z,mQ TI TO),(TI,lE (.ref i1) (.ref i2)),(TO,nY),(i1,dA l1 k1),(i2,dA l2 k2)];have nd:=H.nd;rw[wh,Y3] at nd;refine FH (ajJ nd.1) λd1 d2 d3 d4 d5 d6 d7 d8 d9 d10=>?_;have nl:∀{l:MW}{o:Obj},W.F l=Ss o->l≠z/\l≠TO/\l≠i1/\l≠i2:=λ{l o} e=>
   have no:∀q∈[(z,mQ TI TO),(TI,lE (.ref i1) (.ref i2)),(TO,nY),(i1,dA l1 k1),(i2,dA l2 k2)],l≠q.1:=λq hq x=>by have:=H.fH q (l8 _ hq);rw[<- x,e] at this;exact lu this
   ⟨no _ (.head _),no _ (.tail _ (.tail _ (.head _))),no _ (.tail _ (.tail _ (.tail _ (.head _)))),no _ (.tail _ (.tail _ (.tail _ (.tail _ (.head _)))))⟩
  refine iR (nl e1) λa1 a2 a3 a4=>?_;refine iR (nl e2) λb1 b2 b3 b4=>?_;have D:ZipApart z TI TO i1 i2 l1 l2:=⟨d1.symm,d2.symm,d3.symm,d4.symm,d5,d6,d7,d8,d9,d10,a1,a2,a3,a4,b1,b2,b3,b4⟩
  refine aj (H.b8 (z,mQ TI TO) (.head _)) λoz hz NG=>?_;refine aj (H.b8 (TI,lE (.ref i1) (.ref i2)) (.tail _ (.head _))) λoI Fd NH=>?_;obtain⟨oO,NI,x,y,NJ⟩:=H.b8 (TO,nY) (.tail _ (.tail _ (.head _)));refine bV (H.b8 (i1,dA l1 k1) (.tail _ (.tail _ (.tail _ (.head _))))) λoi hi tn tq=>?_;refine bV (H.b8 (i2,dA l2 k2) (.tail _ (.tail _ (.tail _ (.tail _ (.head _)))))) λoj hj NL tm=>?_;unfold mQ at NG;unfold lE at NH NJ;subst NG;subst NH;subst NJ;have NM:∀(NN:nH.toArray[k1]?=M4∨nI.toArray[k2]?=M4),(∀s',am g W fi env ca st Rz s'->Q0 s')->K8 (Mo g) A (pyNext (.ref z)) (λo s'=>match o with|none=>Q0 s' |some v=>K8 (Mo g) A (Ys (.Tuple es k p) (.ref z) v) (λU o6=>Q1 v o6) aK s') aK s:=λNN h0=>by refine wpAny_pyNext_zip_end hh D hz Fd NI ⟨oi,hi,tn,tq⟩ ⟨oj,hj,NL,tm⟩ (cU (R.fz e1)) (cU (R.fz e2)) NN λh' hx=>h0 _ ?_;exact DU (N':=[]) (tk:=s.toks) R (amP _) (λb o hb q=>hx b o (λz=>hb _ (.head _) z.symm) (λz=>hb _ (.tail _ (.tail _ (.head _))) z.symm) (λz=>hb _ (.tail _ (.tail _ (.tail _ (.head _)))) z.symm) (λz=>hb _ (.tail _ (.tail _ (.tail _ (.tail _ (.head _))))) z.symm) q) (λp hp=>nomatch hp)
  induction pe using K1 with
  |nil=>exact NM (Yt (by rw[Z3];exact Xr (t7 r1))) (h0 rfl)
  |cons y1 pe=>induction pj using K1 with
   |nil=>exact NM (Or.inr (by rw[Z3];exact Xr (t7 r2))) (h0 rfl)
   |cons y2 pj=>
    obtain⟨v1,zP,q1,q2⟩:=t6 r1;obtain⟨v2,qW,u1,u2⟩:=t6 r2;refine wpAny_pyNext_zip_item D hz Fd NI ⟨oi,hi,tn,tq⟩ ⟨oj,hj,NL,tm⟩ (cU (R.fz e1)) (cU (R.fz e2)) (by rw[Z3];exact zP) (by rw[Z3];exact qW) λh' z1 z2 z3 z4 z5 z6 hk=>?_;refine bV z3 λwy qZ wA wB=>?_
    refine bV z4 λFe pn Ff Fg=>?_
    obtain⟨le,R1⟩:=L8 (N':=[(z,λo=>o={ cls:=.type "zip",dict:=M4,data:=.fields #[YI s.heap.objs.size,.bool PO,.bool PO,.ref TI,.ref TO],slots:=#[] }),(TI,lE (.ref i1) (.ref i2)),(TO,nY),(i1,dA l1 (k1+1)),(i2,dA l2 (k2+1))]) (tk:=s.toks) (T:=s.heap.objs.size) R
     (amC _) (λb o hb q=>hk b o (λz=>hb _ (.head _) z.symm) (λz=>hb _ (.tail _ (.tail _ (.head _))) z.symm) (λz=>hb _ (.tail _ (.tail _ (.tail _ (.head _)))) z.symm) (λz=>hb _ (.tail _ (.tail _ (.tail _ (.tail _ (.head _))))) z.symm) q) (λp hp=>by
      rcases K7.mp hp with rfl|hp
      ·exact⟨_,z1,rfl⟩
      ·rcases K7.mp hp with rfl|hp
       ·exact⟨_,hk _ _ D.TIz D.TITO D.TIi1 D.TIi2 Fd,rfl⟩
       ·rcases K7.mp hp with rfl|hp
        ·exact⟨_,z2,_,_,rfl⟩
        ·rcases K7.mp hp with rfl|hp
         ·exact⟨wy,qZ,wA,wB⟩
         ·rcases K7.mp hp with rfl|hp
          ·exact⟨Fe,pn,Ff,Fg⟩
          ·exact aT hp) (ZH (EC _)) z5
    refine wpAny_letOwnedTupleGo_zip z1 λh2 Fc lb=>?_;have R2:=R1.oP (tk:=s.toks) (p':=mQ TI TO) lb ⟨_,Fc,rfl⟩;exact h1 _ _ rfl _ _ [(z,mQ TI TO),(TI,lE (.ref i1) (.ref i2)),(TO,nY),(i1,dA l1 (k1+1)),(i2,dA l2 (k2+1))] _ le (.zq (vs:=[v1,v2]) lU ⟨0,rfl⟩ (.cons (q1.aE le) (.cons (u1.aE le) .nil)))
     ⟨l1,l2,_,_,nH,nI,k1+1,k2+1,pe,pj,le.F _ _ e1,⟨n1,rfl⟩,q2.aE le,le.F _ _ e2,⟨n2,rfl⟩,u2.aE le,rfl,rfl⟩ R2
theorem aeu{es:List M3}{k:Nat}{tp:Pos}{a b:M3}{De}{p pos:Pos}(j:Nat)(G:GOK g)(hg:GB g "zip" (.type "zip"))(he:gz g d fi [a,b] De)(hj:autoParam (fi.ng[j]?=Ss ("zip":Str)) t_rfl)
 (hs:autoParam (cT a=WL) t_rfl) (hp:autoParam (∀env,(dP pos (sZ [b] env)).any (·.1)=PO) t_exact_star_any_rfl) :
 w8 g d fi (.Tuple es k tp) (.Call (.Name "zip" p) [a,b] [] pos) λst Q=>De st λxs ab=>ud xs λx y=>x.fG λxs=>y.fG λys=>Q (xK xs ys) ab:=by
 constructor;intro A W env ca st Q Rz s C N h R;refine Ze (mL G N R hj hg.1 hg.2 (Wg (he.C C N h R λus s1 W1 xs ab le hk rr R1=>?_) (star_cons hs env) (hp env)));refine hJ (Gq hk) λx y y9 hk=>?_;subst y9;obtain⟨xs,rfl,hk⟩:=AV.iJ hk;obtain⟨ys,rfl,q⟩:=AV.iJ hk;refine eX (rr.gG) λu1 us y9 v1 rr1=>?_;subst y9;refine eX (rr1.gG) λu2 us y9 v2 ww=>?_;subst y9;obtain rfl:=ww.sO;obtain⟨a1,o1,nH,rfl,e1,⟨n1,rfl⟩,r1⟩:=v1.jM;obtain⟨a2,o2,nI,rfl,e2,⟨n2,rfl⟩,r2⟩:=v2.jM;refine call_zip_2 (cU (R1.fz e1)) (cU (R1.fz e2)) λh' z1 z2 z3 z4 z5 z6 hk=>?_;refine bV z4 λwy qZ wA wB=>?_
 refine bV z5 λFe pn Ff Fg=>?_
 have R2:am g W1 fi env ca ab ([(s1.heap.objs.size+4,mQ (s1.heap.objs.size+2) (s1.heap.objs.size+3)),(s1.heap.objs.size+2,lE (.ref s1.heap.objs.size) (.ref (s1.heap.objs.size+1))),(s1.heap.objs.size+3,nY),(s1.heap.objs.size,dA a1 0),(s1.heap.objs.size+1,dA a2 0)]++Rz) { s1 with heap:=h' }:=
  R1.on .heap λX H=>((H.qM (N:=[(s1.heap.objs.size+4,mQ (s1.heap.objs.size+2) (s1.heap.objs.size+3)),(s1.heap.objs.size+2,lE (.ref s1.heap.objs.size) (.ref (s1.heap.objs.size+1))),(s1.heap.objs.size+3,nY),(s1.heap.objs.size,dA a1 0),(s1.heap.objs.size+1,dA a2 0)]) hk (λp hp=>by
   refine ZH ?_;simp only[K7,ZR,or_false] at hp;rcases hp with rfl|rfl|rfl|rfl|rfl<;>simp) (by simp) (λp hp=>by
   rcases K7.mp hp with rfl|hp
   ·exact⟨_,z1,rfl⟩
   ·rcases K7.mp hp with rfl|hp
    ·exact⟨_,z2,rfl⟩
    ·rcases K7.mp hp with rfl|hp
     ·exact⟨_,z3,_,_,rfl⟩
     ·rcases K7.mp hp with rfl|hp
      ·exact⟨wy,qZ,wA,wB⟩
      ·rcases K7.mp hp with rfl|hp
       ·exact⟨Fe,pn,Ff,Fg⟩
       ·exact aT hp)).kL [_,X,Rz] [0,1,2] [1,0,2])
 exact wpAny_pyIter_zip z1 ⟨W1,_,ab,_,_,le,q,akt _ _ _ _ _,⟨a1,a2,_,_,nH,nI,0,0,xs,ys,e1,⟨n1,rfl⟩,r1,e2,⟨n2,rfl⟩,r2,rfl,rfl⟩,R2⟩
end
theorem ajw(i n:Nat):Vf M4 (Ss (i:Int)) 1 (n:Int)=((0:Int),((min i n:Nat):Int)):=by
 unfold Vf;have h1:¬ ((1:Int)<0):=by exact T3
 have h2:¬ ((i:Int)<0):=by exact tU
 simp only[h1,h2,if_false];congr 1;exact T2
theorem ajl(m:Nat):Wj (0:Int) (m:Int) 1=m:=by
 unfold Wj;have h1:(1:Int)>0:=by exact T1
 simp only[h1,if_true,Int.ediv_one];split<;>lia -abstractProof
theorem aiz(xs:Array M5)(m:Nat):((ZY m).filterMap λ(k:Nat)=>xs[((0:Int)+(k:Int)*1).toNat]?).toArray=(xs.toList.take m).toArray:=by
 have e:(λ(k:Nat)=>xs[((0:Int)+(k:Int)*1).toNat]?)=λk=>xs[0+k]?:=by
  funext k;have:((0:Int)+(k:Int)*1).toNat=0+k:=by exact T0
  rw[this]
 rw[e];have:=pick_run xs 0 m;rw[List.filterMap_map] at this;exact congrArg List.toArray this
section
variable {prog:ZB}{w:bc}{A:K2}{E:M5->MY->Prop}{s:MY}
theorem ajh{sl:MW}{i n:Nat}{u:Tok}{Q:Int×Int×Nat->MY->Prop}(hs:s.heap.IsSliceOf sl .none (.int i u) .none)(h:Q ((0:Int),1,min i n) s):
 K8 (ZL prog w) A (akl (.ref sl) (pure (n:Int))) Q E s:=by
 refine bV (id hs) λos mB zW mC=>?_;unfold akl Builtin.Slice.sliceFields;refine EJ (EJ (XU mB mC (x:=.none) rfl (EJ (XU mB mC (x:=.int i u) rfl (EJ (XU mB mC (x:=.none) rfl (zI ?_)))))));refine EJ (slicePart_none ?_);refine (?_:K8 _ _ (if ((1:Int)==0)=WL then _ else _) _ _ s);rw[MZ (by decide)];refine EJ (slicePart_none (EJ (slicePart_int (EJ (zI ?_)))));refine (?_:K8 _ _ (match Vf M4 (Ss (i:Int)) 1 (n:Int) with|(lo,hi)=>pure (lo,(1:Int),Wj lo hi 1)) _ _ s);rw[ajw i n];refine (?_:K8 _ _ (pure ((0:Int),(1:Int),Wj (0:Int) ((min i n:Nat):Int) 1)) _ _ s);rw[ajl];exact zI h
theorem ajH{t sl:MW}{MP:Array M5}{i:Nat}{u:Tok}{Q:M5->MY->Prop}(ht:IsTup s.heap t MP)(hs:s.heap.IsSliceOf sl .none (.int i u) .none)
 (h0:MP.size<=i->Q (.ref t) s) (h:Q (.ref s.heap.objs.size) { s with heap:=s.heap.push { cls:=.type "tuple",data:=.seq (MP.toList.take i).toArray } })
 (kU:MP.size<=YL):K8 (ZL prog w) A (Yd (.ref t) (.ref sl)) Q E s:=by
 have wC:sizeOk (.seq (MP.toList.take (min i MP.size)).toArray):=by refine (?_:(MP.toList.take (min i MP.size)).toArray.size<=YL);rw[Zl,Zo,amb];exact TZ kU
 refine bV (id hs) λos mB zW mC=>?_;have zX:s.TypeIs (.ref sl) "slice":=⟨os,mB,zW⟩
 unfold Yd
 try with_reducible refine XB ?_
 first|refine EJ (zI ?_)|skip
 refine EJ (wpAny_sequenceKey ht.typeIs (by decide) ?_);refine EJ (akS (name:=Wz "__getitem__") ht.typeIs XJ
  (wpAny_call_entry XJ ht.typeIs entry_tuple_getitem ?_ (args_tuple_getitem _ _)))
 refine (?_:K8 _ _ (Builtin.Tuple.tupleItemsOf (.ref t) >>= _) _ _ s);refine EJ (tupleItemsOf_ ht ?_);refine EJ (WD zX ?_);rw[MS (by decide)];refine EJ (ajh hs ?_);refine (?_:K8 _ _ (if ((0:Int)==0&&(1:Int)==1&&(min i MP.size)==MP.size)=WL then _ else _) _ _ s);have same:(MP.toList.take (min i MP.size))=MP.toList.take i:=by rw[<- amb,<- VJ,X2]
 by_cases hm:MP.size<=i
 ·rw[MS (by rw[VZ hm];simp)];have he:Vg (.ref t)=Vg (.ref t):=rfl;refine EJ ?_;unfold Vg;refine EJ (WD ht.typeIs (zI ?_));exact EJ (W0 (zI ⟨_,rfl,zI (h0 hm)⟩))
 ·rw[MZ (by
   have:(min i MP.size==MP.size)=PO:=by rw[beq_eq_false_iff_ne];exact TY hm
   rw[this];simp),aiz MP]
  rw[same] at wC;rw[same]
  first
   |exact EJ (m:=Builtin.Tuple.tupleExact _) (wpAny_newObj_type (zI ⟨_,rfl,zI h⟩) wC)
   |exact wpAny_bind (m:=Builtin.Tuple.tupleExact _) (wpAny_newObj_type (wpAny_bind (wpAny_pure (wpAny_pure ⟨_,rfl,wpAny_pure h⟩))) wC)
   |exact wpAny_bind (wpAny_bind (m:=Builtin.Tuple.tupleExact _) (wpAny_newObj_type (wpAny_pure (wpAny_pure ⟨_,rfl,wpAny_pure h⟩)) wC))
   |exact wpAny_bind (wpAny_bind (m:=Builtin.Tuple.tupleExact _) (wpAny_newObj_type (wpAny_pure ⟨_,rfl,wpAny_pure h⟩) wC))
end
section
variable {g:Gx}{d:Nat}{fi:FI}{A:K2}{W:Wd}{env:Env}{ca:Ca}{st:St}{Rz N N':ai}{s:MY}
theorem aep{a u:M3}{Da:DE}{Du:DR}{p pos:Pos}(ha:au g d fi a Da)(hu:bB g d fi u Du):
 au g d fi (.Subscript a (.Slice M4 (Ss u) M4 p) pos) (λst Q=>Da st λr ab=>Du ab λq y=>bY q (r.v.vH λxs=>y.L λi=>.rq (0<=i) (.rq (xs.length<=1000000) (Q (.val (.tup (xs.take i.toNat))) ab)))):=by
 constructor;intro A W env ca st Q Rz s C N h R;refine Yh (eM (K:=λx ab=>Du ab λq y=>bY q (x.vH λxs=>y.L λi=>.rq (0<=i) (.rq (xs.length<=1000000) (Q (.val (.tup (xs.take i.toNat))) ab)))) ha C N h R λw s1 W1 ab x le v1 h1 R1=>?_);refine Wx ?_;rw[Xe];refine zI ?_;rw[Xf];refine hu.C C N h1 R1 λvu y tk v2 h2 R2=>?_;refine zI ?_;obtain⟨xs,rfl,h3⟩:=AV.Ml h2;refine fq h3 v2 λi t h4=>?_;refine ce h4 λhi hz h4=>?_;refine a7 (ZJ hi) λm y9=>?_;subst y9;obtain⟨a,vs,n,rfl,r1,ho⟩:=Aw v1 R2;refine a7 (Gv M4 (Ss u) M4 p (.ref a) (.ref s1.heap.objs.size)) λops hs=>?_;have R3:am g W1 fi env ca ab Rz { s1 with heap:=s1.heap.push { cls:=.type "slice",data:=.fields #[.none,.int m t,.none] },toks:=tk }:=R2.jJ (tk:=tk) λb o e=>Zf _ e;have dY:(s1.heap.push { cls:=.type "slice",data:=.fields #[.none,.int m t,.none] }).get? a=Ss { cls:=.type "tuple",data:=.seq vs.toArray n }:=Zf _ ho;refine GL (s:={ s1 with heap:=s1.heap.push { cls:=.type "slice",data:=.fields #[.none,.int m t,.none] },toks:=tk }) (rB dY rfl) XJ.lookup ?_ hs;refine ajH (i:=m) ⟨_,dY,rfl,n,rfl⟩ (VR ..) (λhm=>?_) ?_ (by rw[r1.jd];exact gO hz)
 ·rw[r1.jd] at hm;rw[X5,Vk hm] at h4;exact cF le (eN h4 v1 R3)
 ·exact cF le (iQ.e (Au (tk:=tk) (n:=0) h4 (Al.D3 r1 m) R3))
end
inductive akC(F:Fz)(R:ai)(h:Ex)(a:MW)(o:Obj):Prop
 |mk (R':ai) (H:bA (F.cI a o) R' h) (le:∀b x,F b=Ss x->F.cI a o b=Ss x) (k:∀(F2:Fz) (M:ai) (h':Ex),(∀b x,F.cI a o b=Ss x->F2 b=Ss x)->bA F2 (M++R') h'->bA F R h')
set_option tactic.hygienic true in
theorem bA.afk{F:Fz}{R:ai}{h:Ex}{a:MW}{o:Obj}(H:bA F R h)(e:h.get? a=Ss o):akC F R h a o:=by
 have le:∀b x,F b=Ss x->F.cI a o b=Ss x:=λb x q=>by
  unfold Fz.cI;split
  ·rename_i z;subst z;rw[<- e];exact (H.fz _ _ q).symm▸rfl
  ·exact q
 refine⟨R.filter λp=>!decide (p.1=a),⟨λb x q=>?_,λq hq=>H.b8 q (X8.mp hq).1,(List.filter_sublist.map _).nodup H.nd,λq hq=>?_⟩,le,λF2 M h' dx H2=>⟨λb x q=>H2.fz _ _ (dx _ _ (le _ _ q)),λq hq=>?_,H.nd,H.fH⟩⟩
 ·unfold Fz.cI at q;split at q
  ·rename_i z;(have y9:=K6 q;clear q;subst y9);rw[z];exact e
  ·exact H.fz b x q
 ·refine ak (X8.mp hq) λh1 h2=>?_;have h2:q.1≠a:=by simpa using h2
  unfold Fz.cI;rw[MZ h2];exact H.fH q h1
 ·by_cases z:q.1=a
  ·refine aj (H.b8 q hq) λo' e' p=>?_;rw[z,e] at e';(have y9:=K6 e';clear e';subst y9)
   exact⟨o,by rw[z];exact H2.fz _ _ (dx _ _ lU),p⟩
  ·exact H2.b8 q (s7 _ (X8.mpr ⟨hq,by simpa using z⟩))
section
variable {g:Gx}{d:Nat}{fi:FI}{A:K2}{W:Wd}{env:Env}{ca:Ca}{st:St}{Rz l:ai}{s:MY}
inductive ak7(g:Gx)(W:Wd)(h:Ex)(xs:List AV)(u:M5):Prop
 |mk (a:MW) (vs:List M5) (n:Nat) (e:u=.ref a) (r:aO g W xs vs) (ho:h.get? a=Ss { cls:=.type "list",data:=.seq vs.toArray n })
theorem Vs.afm{b:Bool}{xs:List AV}{u:M5}(hx:Vs g W s.heap b (.lst xs) u)(R:am g W fi env ca st Rz s):ak7 g W s.heap xs u:=by
 cases hx with
 |val hx=>obtain⟨a,vs,n,rfl,r,ho⟩:=mH hx R;exact⟨_,_,n,rfl,r,ho⟩
 |lst r ho=>exact⟨_,_,_,rfl,r,ho⟩
end
section
variable {prog:ZB}{w:bc}{A:K2}{E:M5->MY->Prop}{s:MY}
theorem aju{i j:Int}{n:Nat}(h0:0<=i)(h1:i<=j)(h2:j<=n):sliceBounds (Ss i) (Ss j) M4 n=(i,j,1):=by
 unfold sliceBounds;have a:¬ i<0:=by exact FK h0
 have b:¬ j<0:=by exact Ua h0 h1
 simp only[Option.getD_none,a,b,if_false];rw[MS (by decide),MS (by decide),show max 0 (min i (n:Int))=i by exact T9 h0 h2 h1,show max 0 (min j (n:Int))=j by exact T8 h2 b]
theorem aji{l sl nl:MW}{MP new:Array M5}{n n':Nat}{i j:Int}{t u:Tok}{Q:Unit->MY->Prop}(hl:s.heap.get? l=Ss { cls:=.type "list",data:=.seq MP n })(hs:s.heap.IsSliceOf sl (.int i t) (.int j u) .none)
 (hn:s.heap.get? nl=Ss { cls:=.type "list",data:=.seq new n' }) (ne:l≠nl) (h0:0<=i) (h1:i<=j) (h2:j<=MP.size) (kU:MP.size+new.size<=YL)
 (h:Q () { s with heap:=s.heap.update l (Vz λxs=>xs.extract 0 i.toNat++new++xs.extract j.toNat xs.size) }):K8 (ZL prog w) A (setItem (.ref l) (.ref sl) (.ref nl)) Q E s:=by
 refine bV (id hs) λos mB zW mC=>?_;have zX:s.TypeIs (.ref sl) "slice":=⟨os,mB,zW⟩
 have hT:s.TypeIs (.ref l) "list":=⟨_,hl,rfl⟩
 have hTn:s.TypeIs (.ref nl) "list":=⟨_,hn,rfl⟩
 unfold setItem
 try with_reducible refine XB ?_
 first|refine EJ (zI ?_)|skip
 refine EJ (wpAny_sequenceKey hT (by decide) ?_);refine EJ (akS (name:=Wz "__setitem__") hT slot_list_setitem
  (wpAny_call_entry slot_list_setitem hT entry_list_setitem ?_ (args_list_setitem _ _ _)))
 refine (?_:K8 _ _ (ake (.ref sl) >>= _) _ _ s);refine EJ ?_;unfold ake;refine EJ (wpAny_specialOf zX slice_no_index ?_);refine zI ?_;refine (?_:K8 _ _ (typeOf (.ref sl) >>= _) _ _ s);refine EJ (WD zX ?_);rw[MZ (by decide)];rw[listSliceParts_eq];refine EJ (EJ (XU mB mC (x:=.none) rfl (EJ (VM .none ?_))));rw[MZ (show ¬ ((rawPart M4==YI 0)=WL) from qH)];refine EJ (XU mB mC (x:=.int i t) rfl (EJ (VM (.int i t) ?_)));refine EJ (XU mB mC (x:=.int j u) rfl (EJ (VM (.int j u) (zI ?_))));have fh:akO (.ref l) (.ref nl)=PO:=by simp[akO,ne]
 rw[fh];refine (?_:K8 _ _ (if PO=WL then _ else _) _ _ _);rw[MZ (by decide)];refine EJ ?_;unfold Builtin.List.listAllItems;refine EJ (WD hTn ?_);rw[MS (by decide)];unfold Builtin.List.listItems;refine EJ (wpAny_seqItems hn rfl (zI ?_));refine EJ (EJ (wpAny_seqItems hl rfl (zI ?_)));refine EJ (wpAny_of_eq (sliceIndices_raw (Ss i) (Ss j) M4 MP.size (by simp)) ?_);rw[aju h0 h1 h2];dsimp only;rw[MS (by decide)];refine EJ (W0 ?_);rw[MZ (by unfold akN;simp;exact T7 kU)];rw[show max i j=j by exact T6 h1];refine EJ (m:=Builtin.List.listUpdate (.ref l) _) (wpAny_updateSeq hl rfl ?_ (T5 kU) ?_)
 ·refine EJ (wpAny_letGo ?_)
  first
   |exact zI ⟨.none,rfl,zI h⟩
   |exact wpAny_bind (wpAny_pure (wpAny_pure ⟨.none,rfl,wpAny_pure h⟩))
 ·simp only[Array.size_append,Array.size_extract];exact T4 kU h2 h1
end
section
variable {g:Gx}{d:Nat}{fi:FI}{A:K2}{W:Wd}{env:Env}{ca:Ca}{st:St}{Rz l:ai}{s:MY}
inductive akA(g:Gx)(W:Wd)(fs:List (Nat×an))(m:Str->Option M5)(f:Nat)(x:an)(l:ai):Prop
 |mk (v:M5) (l' L1 L2:ai) (e:m (aQ f)=Ss v) (r:ee g W x (Ss v) l') (el:l=L1++(l'++L2)) (k:∀W',W.J W'->∀x' tv,ee g W' x' (Ss v) tv->fV g W' (ir fs f x') m (L1++(tv++L2)))
set_option tactic.hygienic true in
theorem fV.gp{fs:List (Nat×an)}{m:Str->Option M5}{l:ai}(h:fV g W fs m l){f:Nat}{x:an}:fs.lookup f=Ss x->akA g W fs m f x l:=by
 induction h with
 |nil=>intro e;exact aY e
 |cons e1 e2 e3 ih=>
  rename_i f' _ _ l' L _ _;intro e;rw[Zp] at e;cases hb:f==f' with
  |true=>rw[hb] at e;(have y9:=K6 e;clear e;subst y9);obtain rfl:=zH hb;exact⟨_,l',[],L,e1,e2,rfl,λW' le x' tv h=>by rw[xb,MS rfl];exact fV.cons (l:=tv) e1 h (e3.aE le)⟩
  |false=>rw[hb] at e;obtain⟨v',l2,L1,L2,q1,q2,rfl,q4⟩:=ih e;refine⟨v',l2,l'++L1,L2,q1,q2,(zx ..).symm,λW' le x' tv h=>?_⟩;rw[xb,MZ λz=>by rw[z] at hb;simp at hb,zx];exact .cons e1 (e2.aE le) (q4 W' le x' tv h)
theorem ee.kQ{xs:List AV}{r:Option M5}(h:ee g W (.own (.lst xs)) r l):∃b vs,r=Ss (.ref b)/\l=[(b,bO vs)]/\aO g W xs vs:=by refine aj (h.Ec) λx y9 h1=>?_;subst y9;refine eX (h1.jM) λb vs y9 e r=>?_;subst y9;exact⟨b,vs,rfl,e,r⟩
inductive ak6(g:Gx)(W:Wd)(fi:FI)(env:Env)(ca:Ca)(st:St)(Rz:ai)(s:MY)(k:Nat)(mo:MO)(f:Nat)(xs:List AV)(a:MW):Prop
 |mk (dd b:MW) (o2:Obj) (m:Str->Option M5) (vs:List M5) (n:Nat) (e1:s.heap.get? a=Ss (s0 (g.κ mo.cls) dd)) (e2:s.heap.get? dd=Ss o2) (p2:cA m o2) (z1:m (aQ f)=Ss (.ref b))
  (eb:s.heap.get? b=Ss { cls:=.type "list",data:=.seq vs.toArray n }) (fb:W.F b=M4) (r:aO g W xs vs)
  (zV:∀(pq:List AV) (jl:List M5) (h':Ex) (tk:Nat),aO g W pq jl->(∀x o,x≠b->s.heap.get? x=Ss o->h'.get? x=Ss o)->(∃o',h'.get? b=Ss o'/\bO jl o')->
   am g W fi env ca ⟨st.aD,st.aI.set k (Ss ⟨mo.cls,ir mo.fs f (.own (.lst pq))⟩)⟩ Rz { s with heap:=h',toks:=tk })
theorem aj1{k:Nat}{mo:MO}{f:Nat}{xs:List AV}{a:MW}(R:am g W fi env ca st Rz s)(ha:W.φ k=Ss a)(kT:st.aI[k]?=Ss (Ss mo))(hx:mo.fs.lookup f=Ss (.own (.lst xs))):ak6 g W fi env ca st Rz s k mo f xs a:=by
 refine eg R λrs m L ML X=>?_
 obtain⟨a',dd,mm,l0,L1,L2,q1,rfl,q3,q4,q5,q6⟩:=X.aI.jL kT;rw[kI,ha] at q1;obtain rfl:=K6 q1;obtain⟨w,l',M1,M2,z1,z2,rfl,z4⟩:=q3.gp hx;refine eX (z2.kQ) λb vs ew y9 r=>?_;subst y9;obtain rfl:=K6 ew;have mem:∀q∈(a,λo=>o=s0 (g.κ mo.cls) dd)::(dd,cA mm)::(M1++([(b,bO vs)]++M2)++L2),∃o,s.heap.get? q.1=Ss o/\q.2 o:=λq hq=>X.cm.b8 q (.tail _ (s7 _ (s7 _ (l8 _ (s7 _ hq)))))
 refine aj (mem _ (.head _)) λo1 e1 y9=>?_;subst y9;refine aj (mem _ (.tail _ (.head _))) λo2 e2 p2=>?_;have hb:(b,bO vs)∈iq fi env ca rs m L (L1++(a,λo=>o=s0 (g.κ mo.cls) dd)::(dd,cA mm)::(M1++([(b,bO vs)]++M2)++L2)) Rz:=by simp
 obtain⟨_,eb,nb,rfl⟩:=X.cm.b8 _ hb;refine⟨dd,b,o2,mm,vs,nb,e1,e2,p2,z1,eb,X.cm.fH _ hb,r,λpq jl h' tk rr u1 u2=>?_⟩;have f1:=z4 W (.Q _) _ _ (.own (.lst rr));have M':=q5 W (.Q _) _ _ _ f1 λnm hn=>q4 nm λp hp=>by obtain⟨q,hq,e⟩:=(AT (f:=f)).1 p hp;rw[<- e];exact hn q hq
 have hM:∀x:ai,M1++(x++M2)++L2=M1++(x++(M2++L2)):=λx=>by rw[zx,zx]
 rw[hM] at M';have XH:=X.cm;rw[hM] at XH;have H:bA W.F ([]++(b,bO vs)::([(env.locals,bN m)]++(bP ca.cu 0 fi.nv rs++(L++(L1++((a,λo=>o=s0 (g.κ mo.cls) dd)::(dd,cA mm)::(M1++(M2++(L2++Rz))))))))) s.heap:=
  bA.fI [[(env.locals,bN m)],bP ca.cu 0 fi.nv rs,L,L1,[(a,λo=>o=s0 (g.κ mo.cls) dd),(dd,cA mm)],M1,[(b,bO vs)],M2,L2,Rz] [[0],[1],[2],[3,4,5,6,7,8],[9]] [[6],[0],[1],[2],[3],[4],[5],[7],[8],[9]] XH
 have H1:=(H.ii u1 u2).fI [[(env.locals,bN m)],bP ca.cu 0 fi.nv rs,L,L1,[(a,λo=>o=s0 (g.κ mo.cls) dd),(dd,cA mm)],M1,[(b,bO jl)],M2,L2,Rz] [[6],[0],[1],[2],[3],[4],[5],[7],[8],[9]] [[0],[1],[2],[3,4,5,6,7,8],[9]];exact⟨rs,m,L,_,X.len,X.ms,X.aD,M',λi hi=>X.di i (by rw[aW] at hi;exact hi),H1,X.bI,X.cv.heap,X.pin⟩
noncomputable def MO.kQ(mo:MO)(f:Nat)(P:List AV->PS):PS:=oS (mo.fs.lookup f) .bot (λU=>.bot) λv=>v.fG P
theorem aer{mo:MO}{f:Nat}{P:List AV->PS}(h:mo.kQ f P):∃xs,mo.fs.lookup f=Ss (.own (.lst xs))/\P xs:=by exact ub h (λU z=>Zg z) (λU U z=>Zg z) λv e z=>by obtain⟨xs,rfl,q⟩:=AV.iJ z;exact⟨xs,e,q⟩
noncomputable def ajk(ab:St)(k:Nat)(mo:MO)(f:Nat)(xs ys:List AV)(i j:Int)(Q:Fl->St->PS):PS:=
 .rq (0<=i) (.rq (i<=j) (.rq (j<=xs.length) (.rq (xs.length<=1000000) (.rq (ys.length<=1000000) (Q .next ⟨ab.aD,ab.aI.set k (Ss ⟨mo.cls,ir mo.fs f (.own (.lst (xs.take i.toNat++ys++xs.drop j.toNat)))⟩)⟩)))))
noncomputable def HN(f:Nat)(a lo hi:DR)(y:AV)(ab:St)(Q:Fl->St->PS):PS:=y.fG λys=>a ab λb x=>bY b (x.lY λk=>ab.oQ k λmo=>cL (rA mo.cls f) (mo.kQ f λxs=>lo ab λb y1=>bY b (y1.L λi=>hi ab λb y2=>bY b (y2.L λj=>ajk ab k mo f xs ys i j Q))))
noncomputable def aek(f:Nat)(a lo hi:DR)(e:DE):DS:=λst Q=>e st λr ab=>HN f a lo hi r.v ab Q
theorem aeh{o e lo hi:M3}{Do Dl Dh:DR}{De:DE}{nm:Str}{ap sp p pos:Pos}(f:Nat)(G:GOK2 g)(ho:bB g d fi o Do)(hl:bB g d fi lo Dl)(hh:bB g d fi hi Dh)(he:au g d fi e De)(hn:autoParam (nm=aQ f) t_rfl)
 (ht:autoParam (tF o=WL) t_rfl)
 (hs:autoParam (mI e=WL) t_rfl) :
 eJ g d fi (.Assign [.Subscript (.Attribute o nm ap) (.Slice (Ss lo) (Ss hi) M4 p) sp] e pos) (aek f Do Dl Dh De):=by
 constructor;intro A W env ca st Q Rz s C N np h R;refine Vm (eM (K:=λy ab=>HN f Do Dl Dh y ab Q) he C N h R λv s1 W1 ab y le v1 q R1=>?_) (noSwap hs env);refine OA q v1 λys q v1=>?_;refine WP (ho.C C N q R1 λu x tk v2 q R2=>?_) (attr_plain ht env);refine OE q v2 λk a ha q=>?_;refine aj (uc q) λmo kT q=>?_;refine ak (fM q) λhc q=>?_;refine ak (w9 hc) λhc hf=>?_;refine aj (aer q) λxs hx q=>?_;obtain⟨dd,b,o2,m,vs,n,e1,e2,p2,z1,eb,fb,r,zV⟩:=aj1 R2 ha kT hx;subst hn;refine AW G R2 hc hf e1 e2 p2 z1 rfl (Wx ?_);rw[Xf];refine hl.C C N q R2.Z λvl y1 tk1 v3 q R4=>?_;refine fq q v3 λi t q=>?_;rw[Xf];refine hh.C C N q R4 λvu y2 eH v4 q R5=>?_;refine fq q v4 λj t' q=>?_;refine rv q λi0 i1 i2 i3 i4 q=>?_;rw[Xe];refine zI ?_;obtain⟨c,us,nc,rfl,rc,ec⟩:=mH v1 R5;have fh:b≠c:=λz=>by obtain⟨c',_,th,ev,ef,_,_⟩:=v1.jM;rw[z,Uv ev,ef] at fb;exact lu fb
 have k1:∀{x o},s1.heap.get? x=Ss o->(s1.heap.push { cls:=.type "slice",data:=.fields #[.int i t,.int j t',.none] }).get? x=Ss o:=λe=>Zf _ e;refine aji (s:={ s1 with heap:=s1.heap.push { cls:=.type "slice",data:=.fields #[.int i t,.int j t',.none] },toks:=eH }) (k1 eb) (VR ..) (k1 ec) fh i0 i1 (by rw[Zl,r.cz];exact i2) (by rw[Zl,Zl,r.cz,rc.cz];unfold YL;exact Ub r.cz rc.cz i3 i4) ?_;refine ak (rC (λxs=>xs.extract 0 i.toNat++us.toArray++xs.extract j.toNat xs.size) (k1 eb)) λu1 u2=>?_;rw[show ((λxs:Array M5=>xs.extract 0 i.toNat++us.toArray++xs.extract j.toNat xs.size) vs.toArray).toList=vs.take i.toNat++us++vs.drop j.toNat by simp[Vk]] at u2;exact⟨W1,.next,_,le,q,trivial,zV _ _ _ eH (Al.kH (Al.kH (Al.D3 r _) rc) (Al.fS r _)) (λx o hb e=>u1 x o hb (k1 e)) u2⟩
end
section
variable {prog:ZB}{w:bc}{A:K2}{s:MY}
theorem aky{R:Xw->MY->Prop}{a:MW}{o:Obj}{fd:Zd}{body:List v0}{da:List M5}{zY:List (Str×M5)}
 (afM:A.depth<VL) (ho:s.heap.get? a=Ss o) (afN:o.data=.func fd) (afO:s.heap.NoLimit) (NO:s.heap.CodeRec fd.code fd.qualname)
 (afP:fd.body=.stmts body) (afQ:XN s fd ⟨da,[]⟩ zY) (afR:fd.closure=[])
 (afS:∀x∈zY,fd.scope.names.lookup x.1=Ss .local∨(fd.scope.names.lookup x.1=Ss .cell/\((cellsFrom (s.heap.objs.size+1) fd.scope.names []).lookup x.1).isSome=WL))
 (h:∀kY,InCallC s (ay fd s.heap.objs.size a).locals (bindL (ay fd s.heap.objs.size a).kindOf zY λU=>M4) (ay fd s.heap.objs.size a).cells
  (bindC (ay fd s.heap.objs.size a).kindOf zY λU=>M4) kY->
  K8 (ZL prog w) (A.deeper (ay fd s.heap.objs.size a)) (execs body (ay fd s.heap.objs.size a)) (λf s'=>R (.ok (.ret (match f with|.ret v=>v|_=>.none))) s')
   (λe s'=>K8 (ZL prog w) (A.deeper (ay fd s.heap.objs.size a)) (leaving (ay fd s.heap.objs.size a) e) (λU o6=>R (.error e) o6) (λe' o6=>R (.error e') o6) s') kY)
 (hco:fd.scope.isCoroutine=PO) (afT:fd.scope.isGenerator=PO) (hk:fd.scope.kind=.function) :
 ZC (ZL prog w) A (.call (.ref a) ⟨da,[]⟩) R s:=by
 refine codeAny_call_function afM ho afN hco afT afP NO (afQ _ _ _ _ ?_);rw[afR];refine wpAny_newFunctionEnv_cells hk afS λenv he s' x=>?_;subst he;exact⟨afO.keeps x.toInCall.keep,codeAny_func (h s' x)⟩
end
section
variable {g:Gx}{d:Nat}{fi:FI}
theorem LY{W:Wd}:∀n:Nat,aO g W (Zn n .none) (Zn n .none)
 |0=>.nil
 |n+1=>.cons .none (LY n)
theorem Hv{fd:Zd}{body:List v0}{ps:List Str}{a:MW}{Db:DS}(k n:Nat)(G:GOK g)(F:rE g a fd body)(K:xh fd fi ps)(hb:∀(s:MY) (da:List M5),(∀a o,g.mh.heap.get? a=Ss o->s.heap.get? a=Ss o)->da.length=k->XN s fd ⟨da,[]⟩ (ps.zip (da++Zn n .none)))(h:jn g d fi body Db):
 bQ g (d+1) a (λxs mem P=>.rq (k=xs.length) (DI fi.nv.length ps.length Db (xs++Zn n .none) mem P)):=by
 constructor;intro A W R s vs xs mem P C hv ⟨hk,hl,hD⟩ M;replace hk:=hk.symm;replace hl:=hl.symm;refine aj (F.gp) λo ho hd=>?_;have fj:∀b x,g.mh.heap.get? b=Ss x->s.heap.get? b=Ss x:=λb x e=>by refine aj (M.ex) λML U m2=>?_;exact m2.fz _ _ (M.bI _ _ e)
 have jk:aO g W (xs++Zn n .none) (vs++Zn n .none):=Al.kH hv (LY n);refine aky (by have:=C.sP;exact RH this) (fj _ _ ho) hd (G.lim.keeps fj) (F.cd.keeps fj) F.body (hb s vs fj (hv.cz.trans hk)) F.Eg ?_ (λkY X=>?_) F.co F.gen F.kind
 ·intro x hx;have hx1:x.1∈ps:=(List.of_mem_zip hx).1;have hx2:x.1∈fi.nv.map (·.1):=K.oU.subset hx1;refine aj (zK.mp hx2) λp hp e=>?_;rcases K.aD p hp with⟨_,q⟩|⟨_,q⟩
  ·rw[e] at q;exact Yt q
  ·rw[e] at q;exact Or.inr ⟨q,GV _ _ (Yt (t9 q))⟩
 ·have R1:=M.afg F K jk hl X;refine iu (aL (h.aN _ W _ _ _ _ R kY (C.afe _) (GT F K) (λU=>rfl) hD R1) λf s2 hh=>?_);obtain⟨W2,fl,az,le,q,m,R2⟩:=hh;induction fl with
  |next=>induction f with|next=>exact⟨_,W2,.none,az.aI,rfl,le,q,.none,LP R2⟩|_=>exact m.elim
  |ret v=>induction f with|ret u=>exact⟨_,W2,v,az.aI,rfl,le,q,m,LP R2⟩|_=>exact m.elim
  |_=>exact q.elim
end
class inductive RF:AV->Prop
 |none:RF .none
 |bool (b:Bool):RF (.bool b)
 |int (i:Int):RF (.int i)
 |str (s:Str):RF (.str s)
 |bytes (b:Array UInt8):RF (.bytes b)
 |tup {xs:List AV}:(∀x∈xs,RF x)->RF (.tup xs)
 |lst {xs:List AV}:(∀x∈xs,RF x)->RF (.lst xs)
 |dict {es:List (Int×AV)}:(∀p∈es,RF p.2)->RF (.dict es)
 |sdict {es:List (Str×AV)}:(∀p∈es,RF p.2)->RF (.sdict es)
 |inst {c:Nat}{fs:List (Nat×AV)}:(∀p∈fs,RF p.2)->RF (.inst c fs)
def ak1(x:AV):Prop:=@AV.casesOn (λU=>Prop) x True (λU=>True) (λU=>True) (λU=>True) (λU=>True) (λxs=>∀x∈xs,RF x) (λxs=>∀x∈xs,RF x) (λes=>∀p∈es,RF p.2) (λes=>∀p∈es,RF p.2) (λU fs=>∀p∈fs,RF p.2) (λU=>False)
theorem RF.dv{x:AV}(h:RF x):ak1 x:=by
 induction h with
 |tup q=>exact q
 |lst q=>exact q
 |dict q=>exact q
 |sdict q=>exact q
 |inst q=>exact q
 |_=>trivial
theorem Vr.vV{g:Gx}{W W':Wd}(le:∀a o,W.F a=Ss o->W'.F a=Ss o){x:AV}{v:M5}(h:Vr g W x v):RF x->Vr g W' x v:=by
 induction h with
 |none=>intro _;exact .none
 |bool b=>intro _;exact .bool b
 |int i t=>intro _;exact .int i t
 |str s t=>intro _;exact .str s t
 |bytes b t=>intro _;exact .bytes b t
 |tup0 e p l r ih=>intro q;exact .tup0 (le _ _ e) p l λi x v a b=>ih i x v a b (q.dv _ (s8 a))
 |lst0 e p l r ih=>intro q;exact .lst0 (le _ _ e) p l λi x v a b=>ih i x v a b (q.dv _ (s8 a))
 |dict0 e p l k r ih=>intro q;exact .dict0 (le _ _ e) p l k λi x v a b=>ih i x v a b (q.dv _ (s8 a))
 |sdict0 e p l k r ih=>intro q;exact .sdict0 (le _ _ e) p l k λi x v a b=>ih i x v a b (q.dv _ (s8 a))
 |inst0 e e' p k r ih=>intro q;exact .inst0 (le _ _ e) (le _ _ e') p k λy hy=>ih y hy (q.dv _ hy)
 |ref e=>intro q;exact q.dv.elim
theorem aO.vV{g:Gx}{W W':Wd}(le:∀a o,W.F a=Ss o->W'.F a=Ss o){xs:List AV}{vs:List M5}(h:aO g W xs vs):(∀x∈xs,RF x)->aO g W' xs vs:=by
 induction h with
 |nil=>intro _;exact .nil
 |cons h _ ih=>intro q;exact .cons (h.vV le (q _ (.head _))) (ih λx hx=>q x (.tail _ hx))
abbrev DV:=List AV->(AV->PS)->PS
noncomputable def ael(Cv:DV):DC:=λxs mem P=>PS.rq ([]=mem) (Cv xs λv=>.leaf (∀ct,P v ct))
structure a8(g:Gx)(d:Nat)(a:MW)(Cv:DV):Prop where
 ok:bQ g d a (ael Cv)
 rf:∀xs (P:AV->PS),Cv xs P->(∀x∈xs,RF x)/\Cv xs λv=>.leaf (List (Option MO)->RF v/\P v)
section
variable {g:Gx}{d:Nat}{fi:FI}{A:K2}{W:Wd}{env:Env}{ca:Ca}{st:St}{Rz l:ai}{s:MY}
theorem a8.aE{d':Nat}{a:MW}{Cv:DV}(h:a8 g d a Cv)(hd:d<=d'):a8 g d' a Cv:=⟨h.ok.aE hd,h.rf⟩
theorem HT{a:MW}{Cv:DV}{vs:List M5}{xs:List AV}{P:AV->PS}{Q:M5->MY->Prop}(hc:a8 g d a Cv)(C:bF d A)(hv:aO g W xs vs)(h:Cv xs P)(R:am g W fi env ca st Rz s)
 (q:∀v W' x s',W.J W'->P x->Vr g W' x v->am g W' fi env ca st Rz s'->Q v s'):K8 (Mo g) A (call (.ref a) vs) Q aK s:=by
 refine eg R λrs m L ML X=>?_
 refine ak (hc.rf _ _ h) λr1 h=>?_;refine XW (YX (hc.ok.aN A ⟨W.F,λU=>M4⟩ (iq fi env ca rs m L ML Rz) s vs xs [] (λv U=>.rq (RF v) (P v)) C (hv.vV (W:=W) (W':=⟨W.F,λU=>M4⟩) (λU U e=>e) r1) ⟨rfl,h⟩ ⟨⟨[],.nil,X.cm⟩,λU U=>rfl,X.bI,X.cv⟩) λr s' hh=>?_);obtain⟨v,W2,x,ct,rfl,le,⟨r2,p⟩,qW,M⟩:=hh;refine aj (M.ex) λoY m1 m2=>?_;have cS:W.J ⟨W2.F,W.φ⟩:=⟨le.F,λU U e=>e⟩
 exact q v ⟨W2.F,W.φ⟩ x s' cS p (qW.vV (W:=W2) (W':=⟨W2.F,W.φ⟩) (λU U e=>e) r2) (X.on cS rfl M.cv m2.fS).kN
noncomputable def DQ(a:St->(List AV->St->PS)->PS)(Cv:DV):DE:=λst Q=>a st λxs ab=>Cv xs λv=>Q (.val v) ab
theorem aen{nm:Str}{a:MW}{Cv:DV}{e:M3}{es:List M3}{De:St->(List AV->St->PS)->PS}{p pos:Pos}(j:Nat)(G:GOK g)(gf:uh g nm a)(hc:a8 g d a Cv)(he:gz g d fi (e::es) De)(hj:autoParam (fi.ng[j]?=Ss nm) t_rfl)
 (hs:autoParam (cT e=WL) t_rfl):au g d fi (.Call (.Name nm p) (e::es) [] pos) (DQ De Cv):=by
 constructor;intro A W env ca st Q Rz s C N h R;obtain⟨e1,o,fd,ho,hd⟩:=gf;refine Ze (lC G N R hj e1 (callWith_def hd (he.C C N h R λvs s1 W1 xs ab le q r1 R1=>?_) (star_cons hs env)));exact⟨R1.bI ho,HT hc C r1 q R1 λv W' x s' cS p hv R'=>cF (le.S cS) ⟨W',.val x,_,[],.Q _,p,.val hv,R'⟩⟩
theorem L7{nm:Str}{a:MW}{Cv:DV}{p pos:Pos}(j:Nat)(G:GOK g)(gf:uh g nm a)(hc:a8 g d a Cv)(hj:autoParam (fi.ng[j]?=Ss nm) t_rfl):au g d fi (.Call (.Name nm p) [] [] pos) (DQ yZ Cv):=by constructor;intro A W env ca st Q Rz s C N h R;obtain⟨e1,o,fd,ho,hd⟩:=gf;refine Ze (lC G N R hj e1 (callWith_function (o:=o) (fd:=fd) (PySem.evalArgs_none ⟨⟨R.bI ho,hd⟩,?_⟩)));exact HT hc C .nil h R λv W' x s' cS p hv R'=>cF cS ⟨W',.val x,_,[],.Q _,p,.val hv,R'⟩
noncomputable def aej(a b:DR)(Cv:DV):DE:=λst Q=>a st λU x=>x.fG λxs=>b st λq y=>bY q (Cv [.lst xs,y] λv=>v.L λi=>Q (.val (.int i)) st)
theorem aem{nm:Str}{a:MW}{Cv:DV}{e1 e2:M3}{Da Db:DR}{p pos:Pos}(j:Nat)(G:GOK g)(gf:uh g nm a)(hc:a8 g d a Cv)(ha:bB g d fi e1 Da)(hb:bB g d fi e2 Db)(hj:autoParam (fi.ng[j]?=Ss nm) t_rfl)
 (hs:autoParam (cT e1=WL) t_rfl) (lb:autoParam (cT e2=WL) t_rfl):au g d fi (.Call (.Name nm p) [e1,e2] [] pos) (aej Da Db Cv):=by
 constructor;intro A W env ca st Q Rz s C N h R;obtain⟨q1,o,fd,ho,hd⟩:=gf;refine Ze (lC G N R hj q1 (callWith_def hd (ZS (ha.vP C N h R λu b x tk h1 v1=>?_) (star_cons hs env)) (star_cons hs env)));obtain⟨xs,rfl,h1⟩:=AV.iJ h1;refine ZS (hb.C C N h1 R.Z λu2 y eH v2 h2 R2=>?_) (star_cons lb env);refine Z5 ⟨R2.bI ho,?_⟩;obtain⟨a,vs,n,rfl,r,hl⟩:=v1.afm R;refine eg R2 λrs m L ML X=>?_
 obtain⟨R',H,le,k⟩:=X.cm.afk (a:=a) hl;have NP:W.J ⟨W.F.cI a _,W.φ⟩:=⟨le,λU U e=>e⟩
 refine ak (hc.rf _ _ h2) λrf h2=>?_;have rr:aO g ⟨W.F.cI a _,W.φ⟩ [.lst xs,y] _:=.cons (.zp lU ⟨n,rfl⟩ (r.aE NP)) (.cons (v2.aE NP) .nil);refine XW (YX (hc.ok.aN A ⟨W.F.cI a _,λU=>M4⟩ R' _ _ _ [] (λv U=>.rq (RF v) (v.L λi=>Q (.val (.int i)) st)) C (rr.vV (W:=⟨W.F.cI a _,W.φ⟩) (W':=⟨W.F.cI a _,λU=>M4⟩) (λU U e=>e) rf) ⟨rfl,h2⟩ ⟨⟨[],.nil,H⟩,λU U=>rfl,λb o e=>le _ _ (X.bI b o e),X.cv⟩) λr s' hh=>?_);obtain⟨v,W2,z,ct,rfl,dx,⟨_,q⟩,hv,M⟩:=hh;obtain⟨i,rfl,q⟩:=AV.vG q;refine aj (M.ex) λoY m1 m2=>?_
 (have y9:=Vr.kO hv;clear hv;rcases y9 with ⟨t,y9⟩;subst y9);exact eN q (.int _ _) (X.on (.Q _) rfl M.cv (k _ _ _ dx.F m2)).kN
theorem LZ{e:M3}{De:DE}{pos:Pos}(he:au g d fi e De):eJ g d fi (.Return (Ss e) pos) (λst Q=>De st λr ab=>Q (.ret r.v) ab):=by constructor;intro A W env ca st Q Rz s C N np h R;refine wpAny_Return_some (eM (K:=λx ab=>Q (.ret x) ab) he C N h R λv s1 W1 ab x le hv q R1=>?_);exact⟨W1,.ret x,ab,le,q,hv,R1⟩
end
class Enc(α:Type) where
 enc:α->AV
 rf:∀a,RF (enc a)
open Enc (enc)
noncomputable instance:Enc Int:=⟨.int,.int⟩
noncomputable instance:Enc Bool:=⟨.bool,.bool⟩
noncomputable instance:Enc Str:=⟨.str,.str⟩
noncomputable instance{α:Type}[Enc α]:Enc (List α):=⟨λl=>.lst (l.map enc),λl=>.lst λx h=>by refine aj (zK.mp h) λa U y9=>?_;subst y9;exact Enc.rf a⟩
noncomputable instance{α β:Type}[Enc α][Enc β]:Enc (α×β):=⟨λp=>.tup [enc p.1,enc p.2],λp=>.tup λx h=>by
 rcases K7.mp h with rfl|h
 ·exact Enc.rf _
 ·rcases K7.mp h with rfl|h
  ·exact Enc.rf _
  ·exact aT h⟩
noncomputable instance:Enc Unit:=⟨λU=>.none,λU=>.none⟩
section
variable {α β γ δ ρ:Type}[Enc α][Enc β][Enc γ][Enc δ][Enc ρ]
noncomputable def V0(z:ρ):DV:=λxs P=>.rq ([]=xs) (P (enc z))
noncomputable def V1(f:α->ρ)(p:α->Prop:=λU=>True):DV:=λxs P=>.ex λa=>.rq ([enc a]=xs) (.rq (p a) (P (enc (f a))))
noncomputable def V2(f:α->β->ρ)(p:α->β->Prop:=λU U=>True):DV:=λxs P=>.ex λa=>.ex λb=>.rq ([enc a,enc b]=xs) (.rq (p a b) (P (enc (f a b))))
noncomputable def V3(f:α->β->γ->ρ)(p:α->β->γ->Prop:=λU U U=>True):DV:=λxs P=>.ex λa=>.ex λb=>.ex λc=>.rq ([enc a,enc b,enc c]=xs) (.rq (p a b c) (P (enc (f a b c))))
noncomputable def V4(f:α->β->γ->δ->ρ)(p:α->β->γ->δ->Prop:=λU U U U=>True):DV:=λxs P=>.ex λa=>.ex λb=>.ex λc=>.ex λd=>.rq ([enc a,enc b,enc c,enc d]=xs) (.rq (p a b c d) (P (enc (f a b c d))))
variable {g:Gx}{d:Nat}{a:MW}
theorem bQ.to{Cf Cf':DC}(h:bQ g d a Cf)(k:∀xs mem P,Cf' xs mem P->∃P':AV->List (Option MO)->PS,Cf xs mem P'/\∀v ct,P' v ct->P v ct):bQ g d a Cf':=
 ⟨λA W R s vs xs mem P C hv hc M=>by refine aj (k _ _ _ hc) λP' h1 h2=>?_;exact YX (h.aN A W R s vs xs mem P' C hv h1 M) λr s' ⟨v,W',x,ct,e,le,q,hv,M⟩=>⟨v,W',x,ct,e,le,h2 _ _ q,hv,M⟩⟩
abbrev iS(Cf:DC)(xs:List AV)(mem:List (Option MO))(z:AV):Prop:=ok (Cf xs mem λv U=>.leaf (z=v))
theorem L6{Cf:DC}{xs:List AV}{mem:List (Option MO)}{z:AV}{P:AV->List (Option MO)->PS}(k:iS Cf xs mem z)(h:∀ct,P z ct):∃P':AV->List (Option MO)->PS,Cf xs mem P'/\∀v ct,P' v ct->P v ct:=
 ⟨_,k.ny,λv m e=>by cases (show z=v from e);exact h m⟩
theorem aei{Cf:DC}{xs:List AV}{mem:List (Option MO)}{P:AV->List (Option MO)->PS}(z:AV)(m:List (Option MO))(h:P z m)(k:ok (Cf xs mem λv' m'=>.leaf (z=v'/\m=m'))):∃P':AV->List (Option MO)->PS,Cf xs mem P'/\∀v ct,P' v ct->P v ct:=
 ⟨_,k.ny,λv m' e=>by refine ak ((show z=v/\m=m' from e)) λy9 y8=>?_;subst y9;subst y8;exact h⟩
theorem bQ.none{Cf:DC}(h:∀xs mem P,¬ Cf xs mem P):bQ g d a Cf:=⟨λA W R s vs xs mem P C hv hc=>MQ hc (h _ _ _)⟩
theorem a8.sU{V:DV}{Cf:DC}(h:bQ g d a Cf)(k:∀xs (P:AV->PS),V xs P->∃z,(∀x∈xs,RF x)/\RF z/\iS Cf xs [] z/\P z/\∀P':AV->PS,P' z->V xs P'):a8 g d a V:=by
 refine⟨h.to λxs mem P hV=>?_,λxs P hV=>?_⟩
 ·refine ak hV λe hV=>?_;refine rx (k _ _ hV) λz U U k q U=>?_;exact e▸L6 k q
 ·refine rx (k _ _ hV) λz r r' U q k=>?_;exact⟨r,k _ λU=>⟨r',q⟩⟩
theorem a8.none{V:DV}(k:∀xs (P:AV->PS),V xs P->False):a8 g d a V:=⟨.none λxs mem P h=>k xs _ h.2,λxs P h=>(k xs P h).elim⟩
theorem dB{x:AV}{xs:List AV}(h:RF x)(k:∀y∈xs,RF y):∀y∈x::xs,RF y:=λy m=>by
 rcases K7.mp m with rfl|m
 ·exact h
 ·exact k y m
theorem ki:∀y∈([]:List AV),RF y:=λU m=>MQ m ZR
theorem a8.MJ{z:ρ}{Cf:DC}(h:bQ g d a Cf)(k:iS Cf [] [] (enc z)):a8 g d a (V0 z):=
 .sU h λxs P hV=>by refine ak hV λe q=>?_;subst e;exact⟨_,ki,Enc.rf z,k,q,λP' q'=>⟨rfl,q'⟩⟩
theorem a8.fT{f:α->ρ}{p:α->Prop}{Cf:DC}(h:bQ g d a Cf)(k:∀a,p a->iS Cf [enc a] [] (enc (f a))):a8 g d a (V1 f p):=
 .sU h λxs P hV=>by refine bV hV λa e hp q=>?_;subst e;exact⟨_,dB (Enc.rf a) ki,Enc.rf _,k a hp,q,λP' q'=>⟨a,rfl,hp,q'⟩⟩
theorem a8.fc{f:α->β->ρ}{p:α->β->Prop}{Cf:DC}(h:bQ g d a Cf)(k:∀a b,p a b->iS Cf [enc a,enc b] [] (enc (f a b))):a8 g d a (V2 f p):=
 .sU h λxs P hV=>by refine eX hV λa b e hp q=>?_;subst e;exact⟨_,dB (Enc.rf a) (dB (Enc.rf b) ki),Enc.rf _,k a b hp,q,λP' q'=>⟨a,b,rfl,hp,q'⟩⟩
theorem a8.zv{f:α->β->γ->ρ}{p:α->β->γ->Prop}{Cf:DC}(h:bQ g d a Cf)(k:∀a b c,p a b c->iS Cf [enc a,enc b,enc c] [] (enc (f a b c))):a8 g d a (V3 f p):=
 .sU h λxs P hV=>by refine OK hV λa b c e hp q=>?_;subst e;exact⟨_,dB (Enc.rf a) (dB (Enc.rf b) (dB (Enc.rf c) ki)),Enc.rf _,k a b c hp,q,λP' q'=>⟨a,b,c,rfl,hp,q'⟩⟩
theorem a8.vS{f:α->β->γ->δ->ρ}{p:α->β->γ->δ->Prop}{Cf:DC}(h:bQ g d a Cf)(k:∀a b c d,p a b c d->iS Cf [enc a,enc b,enc c,enc d] [] (enc (f a b c d))):a8 g d a (V4 f p):=
 .sU h λxs P hV=>by refine FJ hV λa b c d e hp q=>?_;subst e;exact⟨_,dB (Enc.rf a) (dB (Enc.rf b) (dB (Enc.rf c) (dB (Enc.rf d) ki))),Enc.rf _,k a b c d hp,q,λP' q'=>⟨a,b,c,d,rfl,hp,q'⟩⟩
noncomputable def iw{α:Type}(xs:α->List AV)(mem:α->List (Option MO))(p:α->Prop)(v:α->AV)(m:α->List (Option MO)):DC:=λpq ct P=>.ex λa=>.rq (xs a=pq) (.rq (mem a=ct) (.rq (p a) (P (v a) (m a))))
theorem bQ.jf{α:Type}{xs:α->List AV}{mem:α->List (Option MO)}{p:α->Prop}{v:α->AV}{m:α->List (Option MO)}{Cf:DC}(h:bQ g d a Cf)(k:∀a,p a->ok (Cf (xs a) (mem a) λv' m'=>.rq (v a=v') (.leaf (m a=m')))):bQ g d a (iw xs mem p v m):=
 h.to λpq ct P hC=>by
  refine nQ hC λa e e' hp q=>?_
  subst e;subst e';refine⟨_,(k a hp).ny,λv' m' h=>?_⟩;refine ak h λe1 e2=>?_
  have e2:m a=m':=e2;subst e1;subst e2;exact q
theorem tt:WL=WL:=rfl
theorem ff:PO=PO:=rfl
theorem aC{G:Prop}(b:Bool)(h1:b=WL->G)(h2:b=PO->G):G:=by induction b with|true=>exact h1 rfl|false=>exact h2 rfl
inductive LI{α σ:Type}(e:α->AV)(S:σ->St)(p:List α->σ->Prop):List AV->St->Prop
 |mk {l:List α} (s:σ) (h:p l s):LI e S p (l.map e) (S s)
theorem LI.C{α σ:Type}{e:α->AV}{S:σ->St}{p:List α->σ->Prop}{l:List α}{st:St}(s:σ)(h:p l s)(hs:S s=st):LI e S p (l.map e) st:=hs▸.mk s h
set_option tactic.hygienic true in
theorem LI.gq{α σ:Type}{e:α->AV}{S:σ->St}{p:List α->σ->Prop}{M:AV->St->List AV->Prop}(k:∀a l s,p (a::l) s->M (e a) (S s) (l.map e)){x:AV}{r:List AV}{st:St}(h:LI e S p (x::r) st):M x st r:=by
 generalize hx:x::r=xs at h;induction h with
 |mk s h=>
  rename_i l;induction l using K1 with
  |nil=>exact fN hx
  |cons a l=>refine ak (dj hx) λy9 y8=>?_;subst y9;subst y8;exact k a l s h
set_option tactic.hygienic true in
theorem LI.ik{α σ:Type}{e:α->AV}{S:σ->St}{p:List α->σ->Prop}{M:St->Prop}(k:∀s,p [] s->M (S s)){st:St}(h:LI e S p [] st):M st:=by
 generalize hx:[]=xs at h;induction h with
 |mk s h=>
  rename_i l;induction l using K1 with
  |nil=>exact k s h
  |cons a l=>exact fO hx
theorem gS{bd:AV->St->(St->PS)->PS}{b:DS}{Q:Fl->St->PS}{ab:St}{xs:List AV}{G:Prop}{α σ:Type}(e:α->AV)(S:σ->St)(p:List α->σ->Prop)
 (f:pi (pJ bd b Q xs ab) G) (l:List α) (s:σ) (hx:xs=l.map e) (hs:ab=S s) (h0:p l s)
 (step:∀a l s,p (a::l) s->ok (bd (e a) (S s) λaz=>b az (mK Q λbE=>.leaf (LI e S p (l.map e) bE))))
 (fin:∀s,p [] s->ok (Q .next (S s))):G:=by
 unfold pJ at f;exact f (LI e S p) (hx▸hs▸.mk s h0) (λx r st h=>h.gq (M:=λx st r=>ok (bd x st λaz=>b az (mK Q λbE=>.leaf (LI e S p r bE)))) step) λst h=>h.ik (M:=λst=>ok (Q .next st)) fin
inductive LR{σ:Type}(S:σ->St)(p:Int->Nat->σ->Prop):List AV->St->Prop
 |mk {i:Int}{n:Nat} (s:σ) (h:p i n s):LR S p (kb i n) (S s)
theorem LR.C{σ:Type}{S:σ->St}{p:Int->Nat->σ->Prop}{i:Int}{n:Nat}{st:St}(s:σ)(h:p i n s)(hs:S s=st):LR S p (kb i n) st:=hs▸.mk s h
set_option tactic.hygienic true in
theorem LR.gq{σ:Type}{S:σ->St}{p:Int->Nat->σ->Prop}{M:AV->St->List AV->Prop}(k:∀i n s,p i (n+1) s->M (.int i) (S s) (kb (i+1) n)){x:AV}{r:List AV}{st:St}(h:LR S p (x::r) st):M x st r:=by
 generalize hx:x::r=xs at h;induction h with
 |mk s h=>
  rename_i i n;induction n using vI with
  |zero=>exact fN hx
  |succ n=>rw[AN] at hx;refine ak (dj hx) λy9 y8=>?_;subst y9;subst y8;exact k i n s h
set_option tactic.hygienic true in
theorem LR.ik{σ:Type}{S:σ->St}{p:Int->Nat->σ->Prop}{M:St->Prop}(k:∀i s,p i 0 s->M (S s)){st:St}(h:LR S p [] st):M st:=by
 generalize hx:[]=xs at h;induction h with
 |mk s h=>
  rename_i i n;induction n using vI with
  |zero=>exact k i s h
  |succ n=>rw[AN] at hx;exact fO hx
theorem Bo{bd:AV->St->(St->PS)->PS}{b:DS}{Q:Fl->St->PS}{ab:St}{i:Int}{n:Nat}{G:Prop}{σ:Type}(S:σ->St)(p:Int->Nat->σ->Prop)
 (f:pi (pJ bd b Q (kb i n) ab) G) (s:σ) (hs:ab=S s) (h0:p i n s)
 (step:∀i n s,p i (n+1) s->ok (bd (.int i) (S s) λaz=>b az (mK Q λbE=>.leaf (LR S p (kb (i+1) n) bE))))
 (fin:∀i s,p i 0 s->ok (Q .next (S s))):G:=by
 unfold pJ at f;exact f (LR S p) (hs▸.mk s h0) (λx r st h=>h.gq (M:=λx st r=>ok (bd x st λaz=>b az (mK Q λbE=>.leaf (LR S p r bE)))) step) λst h=>h.ik (M:=λst=>ok (Q .next st)) fin
theorem db{a b:DS}{st:St}{Q:Fl->St->PS}{G:Prop}(f:pi (D.kP a b st Q) G)(bM:St)(h1:∀K:Fl->St->PS,ok (K .next bM)->ok (a st K))(h2:ok (b bM Q)):G:=h1 (D.je b Q) h2 G f
theorem rJ{a b:DS}{st:St}{Q:Fl->St->PS}{G:Prop}(f:pi (D.kP a b st Q) G){σ:Type}(S:σ->St)(e:σ->Prop)(h1:∀K:Fl->St->PS,(∀s,e s->ok (K .next (S s)))->ok (a st K))(h2:∀s,e s->ok (b (S s) Q)):G:=h1 (D.je b Q) h2 G f
theorem uB{a b:DS}{st:St}{Q:Fl->St->PS}{G:Prop}(f:pi (D.kP a b st Q) G):pi (a st (D.je b Q)) G:=f
theorem akw{src:DX}{bd:AV->St->(St->PS)->PS}{b:DS}{st:St}{Q:Fl->St->PS}{G:Prop}(f:pi (DA src bd b st Q) G)(xs:List AV)(bM:St)(h1:∀K:List AV->St->PS,ok (K xs bM)->ok (src st K))(h2:ok (pJ bd b Q xs bM)):G:=h1 _ h2 G f
theorem HA{b:DS}{st:St}{Q:Fl->St->PS}{G:Prop}(f:pi (D.je b Q .next st) G):pi (b st Q) G:=f
theorem ajj{b c:DS}{Q:Fl->St->PS}:D.je (D.kP b c) Q=D.je b (D.je c Q):=by funext f st;induction f<;>rfl
theorem akv{a b c:DS}{st:St}{Q:Fl->St->PS}{G:Prop}(f:pi (D.kP a (D.kP b c) st Q) G)(bM:St)(h1:∀K:Fl->St->PS,ok (K .next bM)->ok (D.kP a b st K))(h2:ok (c bM Q)):G:=by unfold D.kP at f;rw[show D.je (λst Q=>b st (D.je c Q)) Q=D.je b (D.je c Q) from ajj] at f;exact h1 (D.je c Q) h2 G f
theorem uu{b:Bool}(h:b=PO):(WL != b)=WL:=by rw[h];rfl
theorem xA{b:Bool}(h:b=WL):(WL != b)=PO:=by rw[h];rfl
theorem fb{b c:Bool}(h:b=c):(PO != b)=c:=by rw[h];induction c<;>rfl
noncomputable def HB(k:St->PS)(Q:Fl->St->PS):Fl->St->PS
 |.next,st=>k st
 |f,st=>Q f st
theorem ajA{Q:Fl->St->PS}:HB (Q .next) Q=Q:=by funext f st;induction f<;>rfl
inductive WI{σ:Type}(S:σ->St)(p:Nat->σ->Prop):Nat->St->Prop
 |mk {n:Nat} (s:σ) (h:p n s):WI S p n (S s)
theorem WI.C{σ:Type}{S:σ->St}{p:Nat->σ->Prop}{n:Nat}{st:St}(s:σ)(h:p n s)(hs:S s=st):WI S p n st:=hs▸.mk s h
theorem aes{σ:Type}{S:σ->St}{p:Nat->σ->Prop}{M:Nat->St->Prop}(k:∀n s,p n s->M n (S s)){n:Nat}{st:St}(h:WI S p n st):M n st:=by induction h with|mk s h=>exact k n s h
theorem lI{t:DT}{b:DS}{Q:Fl->St->PS}{st:St}{G:Prop}{σ τ:Type}(S:σ->St)(p:Nat->σ->Prop)(T:τ->St)(e:τ->Prop)(f:pi (za t b st Q) G)(n:Nat)(s:σ)(hs:st=S s)(h0:p n s)
 (step:∀n s,p n s->∀k:St->PS,(∀u,e u->ok (k (T u)))->ok (t (S s) λc ab=>br c (b ab (mK (HB k Q) λaz=>.ex λm=>.rq (m<n) (.leaf (WI S p m az)))) (k ab)))
 (fin:∀u,e u->ok (Q .next (T u))):G:=by
 unfold za at f;exact f (WI S p) n (hs▸.mk s h0) λn st h=>aes (M:=λn st=>ok (t st λc ab=>br c (b ab (mK Q λaz=>.ex λm=>.rq (m<n) (.leaf (WI S p m az)))) (Q .next ab))) (λn s h=>by have:=step n s h (Q .next) fin;rw[ajA] at this;exact this) h
end
end Mine.Internal
open Mine.Internal.Enc (enc)
namespace Mine.Internal
open PySem PySem.W PySem.Calls PyProof.Rows
noncomputable def bj(i:Nat):v0:=pw.main.body.getD i G7
noncomputable def dG(i j:Nat):v0:=(amJ (bj i)).getD j G7
noncomputable def Bj:List (Str×AV):=
 ("FOLD_CASE",.int 1) ::
 ("LATIN1",.int 32) ::
 ("NON_GREEDY",.int 64) ::
 ("WAS_DOLLAR",.int 8192) ::
 ("OP_NO_MATCH",.int 1) ::
 ("OP_EMPTY",.int 2) ::
 ("OP_LITERAL",.int 3) ::
 ("OP_STRING",.int 4) ::
 ("OP_CONCAT",.int 5) ::
 ("OP_ALTERNATE",.int 6) ::
 ("OP_STAR",.int 7) ::
 ("OP_PLUS",.int 8) ::
 ("OP_QUEST",.int 9) ::
 ("OP_REPEAT",.int 10) ::
 ("OP_CAPTURE",.int 11) ::
 ("OP_ANY_CHAR",.int 12) ::
 ("OP_ANY_BYTE",.int 13) ::
 ("OP_BEGIN_LINE",.int 14) ::
 ("OP_END_LINE",.int 15) ::
 ("OP_WORD",.int 16) ::
 ("OP_NO_WORD",.int 17) ::
 ("OP_BEGIN_TEXT",.int 18) ::
 ("OP_END_TEXT",.int 19) ::
 ("OP_CLASS",.int 20) ::
 ("OP_HAVE_MATCH",.int 21) ::
 ("TREE_LOOPS",.tup [.int 7,.int 8,.int 9]) ::
 ("FACTOR_ROUNDS",.int 5) ::
 ("FACTOR_FLAGS",.int 33) ::
 ("FACTOR_PLACES",.tup [.int 14,.int 15,.int 16,.int 17,.int 18,.int 19]) ::
 ("FACTOR_SIGNS",.tup [.int 20,.int 12,.int 13]) ::
 ("FACTOR_STRINGS",.tup [.int 3,.int 4]) ::
 ("FACTOR_LATIN1_MOST",.int 255) ::
 ("_law_words",.lst [.tup [.lst [.int 97],.bool PO],.tup [.lst [.int 98],.bool PO],.tup [.lst [.int 107],.bool PO],.tup [.lst [.int 97],.bool WL],.tup [.lst [.int 107],.bool WL],.tup [.lst [.int 97,.int 98],.bool PO],.tup [.lst [.int 97,.int 98,.int 107],.bool PO],.tup [.lst [.int 97,.int 107],.bool PO],.tup [.lst [.int 97,.int 107],.bool WL],.tup [.lst [.int 97,.int 98],.bool WL],.tup [.lst [.int 65],.bool PO],.tup [.lst [.int (-1)],.bool PO]]) ::
 ("_law_classes",.lst [.lst [.tup [.int 97,.int 98]],.lst [.tup [.int 98,.int 107]],.lst [.tup [.int 107,.int 107],.tup [.int (-1),.int (-1)]],.lst []]) ::
 []
noncomputable def Bi:List (Str×M5):=
 ("dict",.type "dict") ::
 ("enumerate",.type "enumerate") ::
 ("int",.type "int") ::
 ("isinstance",.builtin "isinstance") ::
 ("list",.type "list") ::
 ("max",.builtin "max") ::
 ("min",.builtin "min") ::
 ("range",.type "range") ::
 ("sum",.builtin "sum") ::
 ("zip",.type "zip") ::
 []
noncomputable def ju:List (Option Str×v0):=
 (Ss "ranges_place",bj 27) ::
 (Ss "ranges_up_to",bj 30) ::
 (M4,dG 31 0) ::
 (M4,dG 31 1) ::
 (M4,dG 31 2) ::
 (M4,dG 31 8) ::
 (M4,dG 34 0) ::
 (M4,dG 34 2) ::
 (Ss "tree_plain",bj 35) ::
 (Ss "tree_literal",bj 36) ::
 (Ss "tree_string",bj 37) ::
 (Ss "tree_class",bj 38) ::
 (Ss "tree_several",bj 39) ::
 (Ss "tree_concat",bj 40) ::
 (Ss "tree_alternate",bj 41) ::
 (Ss "tree_of_one",bj 42) ::
 (Ss "tree_loop",bj 43) ::
 (Ss "tree_star",bj 44) ::
 (Ss "tree_plus",bj 45) ::
 (Ss "tree_quest",bj 46) ::
 (Ss "tree_repeat",bj 47) ::
 (Ss "tree_capture",bj 48) ::
 (Ss "tree_flags_that_matter",bj 49) ::
 (Ss "tree_top_equal",bj 50) ::
 (Ss "tree_equal",bj 51) ::
 (Ss "tree_runes",bj 52) ::
 (Ss "factor_can_join",bj 65) ::
 (Ss "factor_joined",bj 64) ::
 (Ss "leading_string",bj 60) ::
 (Ss "without_leading_string",bj 61) ::
 (Ss "leading_regexp",bj 62) ::
 (Ss "without_leading_regexp",bj 63) ::
 (M4,dG 66 0) ::
 (M4,dG 67 0) ::
 (M4,dG 67 1) ::
 (M4,dG 67 2) ::
 (Ss "factor_same",bj 68) ::
 (Ss "factor_strings",bj 69) ::
 (Ss "factor_is_simple",bj 70) ::
 (Ss "factor_begin_alike",bj 71) ::
 (Ss "factor_regexps",bj 72) ::
 (Ss "factor_flat",bj 73) ::
 (Ss "factor_is_sign",bj 74) ::
 (Ss "factor_is_letter",bj 75) ::
 (Ss "factor_is_both_cases",bj 77) ::
 (Ss "factor_single",bj 78) ::
 (Ss "factor_class",bj 76) ::
 (Ss "factor_signs",bj 79) ::
 (Ss "factor_empties",bj 80) ::
 (M4,dG 67 3) ::
 (Ss "factored",bj 81) ::
 (Ss "_law_rest",bj 83) ::
 (Ss "_law_plain",bj 86) ::
 (Ss "_law_digits",bj 87) ::
 (Ss "_law_part",bj 88) ::
 (Ss "_law_read",bj 89) ::
 (Ss "_law_small",bj 90) ::
 (Ss "_law_is_word",bj 91) ::
 (Ss "_law_stands",bj 92) ::
 (Ss "_law_firsts",bj 93) ::
 (Ss "_law_kept",bj 96) ::
 (Ss "_law_rounds",bj 94) ::
 (Ss "_law_ways",bj 95) ::
 (Ss "_law_many",bj 97) ::
 (Ss "_law_is_sign",bj 98) ::
 (Ss "_law_first_rune",bj 99) ::
 (Ss "_law_head",bj 100) ::
 (Ss "_law_is_tidy",bj 101) ::
 (Ss "law",bj 102) ::
 []
noncomputable def Hy:List (Str×Nat):=
 ("Regexp",6) ::
 ("FactorSplice",32) ::
 ("FactorFrame",33) ::
 ("RangeBuilder",2) ::
 []
noncomputable def Hz:List (Nat×Str×Nat):=
 (3,"add",3) ::
 (3,"add_all",4) ::
 (3,"ranges",5) ::
 (2,"open_splice",34) ::
 (2,"subs",35) ::
 (2,"go_on",49) ::
 []
noncomputable def iT:v0->XQ
 |.FunctionDef j4 args ..=>args
 |_=>default
noncomputable def iz(t:v0):List Str:=(iT t).args.map (·.arg)
noncomputable def hO:v0->re
 |.FunctionDef j4 j5 j6 j7 j8 U scope ..=>scope
 |_=>default
structure ak9(g:Gx)(a:MW)(t:v0):Prop where
 of:∃fd,rE g a fd (lD t)/\fd.scope=hO t/\∀(s:MY) (da:List M5),da.length=(iz t).length->(∀a o,g.mh.heap.get? a=Ss o->s.heap.get? a=Ss o)->XN s fd ⟨da,[]⟩ ((iz t).zip da)
structure ED(g:Gx):Prop extends GOK2 g where
 sm:nT g
 Vx:ui g 1
 cst:∀(k:Nat) {nm:Str}{x:AV},Bj[k]?=Ss (nm,x)->AF g nm x
 blt:∀(k:Nat) {nm:Str}{v:M5},Bi[k]?=Ss (nm,v)->GB g nm v
 ZV:∀(k:Nat) {nm:Str}{t:v0},ju[k]?=Ss (Ss nm,t)->uh g nm (g.fa k)
 fn:∀(k:Nat) {n:Option Str}{t:v0},ju[k]?=Ss (n,t)->ak9 g (g.fa k) t
 cls:∀(c:Nat) {nm:Str}{k:Nat},Hy[c]?=Ss (nm,k)->xi g nm c (g.fa k)
 Zu:∀(m:Nat) {nm:Str}{c k:Nat},Hz[m]?=Ss (c,nm,k)->rF g c nm (g.fa k)
 fold:GP g 0 "is_folded" (g.fa 7)
 dflt:∃fd,rE g (g.fa 2) fd (lD (dG 31 0))/\fd.scope=hO (dG 31 0)/\∀(s:MY) (da:List M5),(∀a o,g.mh.heap.get? a=Ss o->s.heap.get? a=Ss o)->da.length=1->XN s fd ⟨da,[]⟩ ((iz (dG 31 0)).zip (da++Zn 1 .none))
def uo(sc:re)(fi:FI)(ps:List Str):Prop:=ps.isPrefixOf (fi.nv.map (·.1))=WL/\(fi.nv.map (·.1)).Nodup/\(∀p∈fi.nv,p.2=.loc/\sc.names.lookup p.1=Ss .local∨p.2=.cell/\sc.names.lookup p.1=Ss .cell)/\(∀nm∈fi.ng,sc.names.lookup nm=Ss .globalImplicit)/\
 (∀p∈fi.nv,(p.1==("__debug__":Str))=PO)/\∀p∈fi.ng,(p==("__debug__":Str))=PO
noncomputable instance(sc:re)(fi:FI)(ps:List Str):Decidable (uo sc fi ps):=by unfold uo;infer_instance
theorem uo.MK{fd:Zd}{fi:FI}{ps:List Str}{sc:re}(e:fd.scope=sc)(h:uo sc fi ps):xh fd fi ps:=by
 subst e;refine rv h λh1 h2 h3 h4 h5 h6=>?_
 exact⟨List.isPrefixOf_iff_prefix.mp h1,h2,h3,h4,h5,h6⟩
section
variable {g:Gx}{d:Nat}{fi:FI}
theorem sA{nm n2:Str}{k:NK}{p q:Pos}(G:ED g)(f i:Nat)(hn:autoParam (n2=aQ f) t_rfl)(hv:autoParam (fi.nv[i]?=Ss (nm,k)) t_rfl)(hk:autoParam (k.rd=WL) t_rfl):bB g d fi (.Attribute (.Name nm p) n2 q) (DB f (DD i)):=vA f G.toGOK2 (ah i hv hk) hn rfl
theorem eA{nm n2:Str}{k:NK}{p q:Pos}(G:ED g)(f i:Nat)(hn:autoParam (n2=aQ f) t_rfl)(hv:autoParam (fi.nv[i]?=Ss (nm,k)) t_rfl)(hk:autoParam (k.rd=WL) t_rfl):au g d fi (.Attribute (.Name nm p) n2 q) (Lr (DB f (DD i))):=ax (sA G f i hn hv hk)
theorem eG{nm:Str}{pos:Pos}{x:AV}(G:ED g)(j n:Nat)(e:Bj[n]?=Ss (nm,x))(hj:autoParam (fi.ng[j]?=Ss nm) t_rfl):au g d fi (.Name nm pos) (D.Y x):=adD j G.toGOK (G.cst n e) hj
theorem cV{nm:Str}{t:v0}{Cv:DV}{e:M3}{es:List M3}{De:St->(List AV->St->PS)->PS}{p pos:Pos}(G:ED g)(j n:Nat)(gf:ju[n]?=Ss (Ss nm,t))(hc:a8 g d (g.fa n) Cv)(he:gz g d fi (e::es) De)(hj:autoParam (fi.ng[j]?=Ss nm) t_rfl)(hs:autoParam (cT e=WL) t_rfl):au g d fi (.Call (.Name nm p) (e::es) [] pos) (DQ De Cv):=aen j G.toGOK (G.ZV n gf) hc he hj hs
theorem tQ{a b:M3}{Da Db:DE}{pos:Pos}(G:ED g)(ha:au g d fi a Da)(hb:au g d fi b Db)(hm:autoParam (YE .Eq b=PO) t_rfl):fX g d fi (.Compare a [.Eq] [b] pos) (D.vK (D.zj (λx y P=>pM x y λb=>P (.val (.bool b))) Da Db)):=bn (dh G.sm) ha hb hm
theorem ED.K{n:Option Str}{t:v0}{Db:DS}(G:ED g)(k:Nat)(e:ju[k]?=Ss (n,t))(h:jn g d fi (lD t) Db)(c:autoParam (uo (hO t) fi (iz t)) t_decide_kernel):bQ g (d+1) (g.fa k) (DI fi.nv.length (iz t).length Db):=by
 refine bV ((G.fn k e).of) λfd F e1 hb=>?_;have K:=c.MK e1;have:=Hv (fi:=fi) (Db:=Db) (iz t).length 0 G.toGOK F K (λs da fj hl=>by rw[al6,zB];exact hb s da hl fj) h
 refine this.Mq λxs mem P h=>⟨h.1,?_⟩
 rw[al6,zB];exact h
end
set_option genInjectivity false in
structure Nd where
 op:Int
 fl:Int
 low:Int:=0
 iL:Int:=0
 ZK:Int:=0
 name:Option (Array UInt8):=M4
 K3:Int:=0
 D5:List Int:=[]
 Bd:List (Int×Int):=[]
set_option genInjectivity false in
inductive Tr where
 |mk (nd:Nd) (eI:List Tr)
noncomputable def Tr.nd:Tr->Nd|.mk x j4=>x
noncomputable def Tr.H:Tr->List Tr|.mk j4 x=>x
abbrev Tr.op(t:Tr):Int:=t.nd.op
abbrev Tr.fl(t:Tr):Int:=t.nd.fl
abbrev Tr.low(t:Tr):Int:=t.nd.low
abbrev Tr.iL(t:Tr):Int:=t.nd.iL
abbrev Tr.ZK(t:Tr):Int:=t.nd.ZK
abbrev Tr.name(t:Tr):Option (Array UInt8):=t.nd.name
abbrev Tr.K3(t:Tr):Int:=t.nd.K3
abbrev Tr.D5(t:Tr):List Int:=t.nd.D5
abbrev Tr.Bd(t:Tr):List (Int×Int):=t.nd.Bd
noncomputable def xz:Option (Array UInt8)->AV
 |none=>.none
 |some b=>.bytes b
noncomputable def kj(t:Tr)(nJ:List AV):List (Nat×AV):=[(0,.int t.op),(1,.int t.fl),(2,.lst nJ),(3,.int t.low),(4,.int t.iL),(5,.int t.ZK),(6,xz t.name),(7,.int t.K3),(8,enc t.D5),(9,enc t.Bd),(10,.int 0)]
mutual
noncomputable def Tr.O:Tr->List AV
 |.mk j4 eI=>qx eI
noncomputable def qx:List Tr->List AV
 |[]=>[]
 |t::ts=>.inst 0 (kj t (Tr.O t))::qx ts
end
theorem HL{t:Tr}{nJ:List AV}(h:∀x∈nJ,RF x):RF (.inst 0 (kj t nJ)):=by
 refine .inst λp hp=>?_;simp only[kj,K7,ZR,or_false] at hp;rcases hp with rfl|rfl|rfl|rfl|rfl|rfl|rfl|rfl|rfl|rfl|rfl
 case inr.inr.inl=>exact .lst h
 case inr.inr.inr.inr.inr.inr.inl=>refine (?_:RF (xz t.name));induction t.name<;>constructor
 case inr.inr.inr.inr.inr.inr.inr.inr.inl=>exact Enc.rf t.D5
 case inr.inr.inr.inr.inr.inr.inr.inr.inr.inl=>exact Enc.rf t.Bd
 all_goals exact .int _
mutual
theorem Tr.vU:∀t:Tr,∀x∈Tr.O t,RF x
 |.mk j4 eI=>Ma eI
theorem Ma:∀ts:List Tr,∀x∈qx ts,RF x
 |[]=>λx h=>by exact aT h
 |t::ts=>λx h=>by
  rcases K7.mp h with rfl|h
  ·exact HL (Tr.vU t)
  ·exact Ma ts x h
end
noncomputable instance:Enc Tr:=⟨λt=>.inst 0 (kj t t.O),λt=>HL t.vU⟩
theorem ut:∀ts:List Tr,qx ts=ts.map enc
 |[]=>rfl
 |t::ts=>congrArg (_::·) (ut ts)
theorem lH(t:Tr):t.O=t.H.map enc:=by induction t using Tr.casesOn;exact ut _
noncomputable def Tr.cR(op fl:Int):Tr:=.mk { op,fl } []
noncomputable def Tr.Y(r fl:Int):Tr:=.mk { op:=3,fl,K3:=r } []
noncomputable def Tr.cls(rg:List (Int×Int))(fl:Int):Tr:=.mk { op:=20,fl,Bd:=rg } []
noncomputable def Tr.Eo(rs:List Int)(fl:Int):Tr:=.mk { op:=4,fl,D5:=rs } []
noncomputable def Tr.MR(op fl:Int)(ts:List Tr):Tr:=.mk { op,fl } ts
noncomputable def ajG:DC:=iw (α:=Int×Int) (λa=>[.ref 0,enc a.1,enc a.2]) (λU=>[Ss ⟨0,[]⟩]) (λU=>True) (λU=>.none) λa=>[Ss ⟨0,(kj (Tr.cR a.1 a.2) []).map λp=>(p.1,.val p.2)⟩]
noncomputable def aks:FI:=⟨[("self",.loc),("op",.loc),("flags",.loc)],[],WL⟩
theorem nZ{g:Gx}(G:ED g)(d:Nat):bQ g (d+1) (g.fa 6) ajG:=
 (G.K (d:=d) (fi:=aks) 6 rfl (ae (fF 0 G.toGOK2 (ah 0) (E.u 1)) (ae (fF 1 G.toGOK2 (ah 0) (E.u 2)) (ae (fF 2 G.toGOK2 (ah 0) (a9 ag)) (ae (fF 3 G.toGOK2 (ah 0) E.x) (ae (fF 4 G.toGOK2 (ah 0) E.x) (ae (fF 5 G.toGOK2 (ah 0) E.x) (ae (fF 6 G.toGOK2 (ah 0) E.none) (ae (fF 7 G.toGOK2 (ah 0) E.x) (ae (fF 8 G.toGOK2 (ah 0) (a9 ag)) (ae (fF 9 G.toGOK2 (ah 0) (a9 ag)) (ae (fF 10 G.toGOK2 (ah 0) E.x) af)))))))))))).jf λa U G f=>f rfl rfl rfl
noncomputable def akY:FI:=⟨[("op",.loc),("flags",.loc)],["Regexp"],WL⟩
theorem uy{g:Gx}(G:ED g)(d:Nat):a8 g (d+3) (g.fa 8) (V2 Tr.cR):=
 .fc (G.K (d:=d+2) (fi:=akY) 8 rfl (ae (aA (jH 0 G.toGOK (G.cls 0 rfl) (nZ G d) (aa (E.u 0) (aa (E.u 1) ag)))) af)) λop fl U G f=>f rfl (op,fl) rfl rfl trivial rfl rfl
noncomputable def akb:FI:=⟨[("rune",.loc),("flags",.loc),("found",.loc)],["Regexp","OP_LITERAL"],WL⟩
theorem ux{g:Gx}(G:ED g)(d:Nat):a8 g (d+3) (g.fa 9) (V2 Tr.Y):=
 .fc (G.K (d:=d+2) (fi:=akb) 9 rfl (ae (bg 2 (jH 0 G.toGOK (G.cls 0 rfl) (nZ G d) (aa (eG G 1 6 rfl) (aa (E.u 1) ag)))) (ae (fF 7 G.toGOK2 (ah 2) (E.u 0)) (ae (aA (E.u 2)) af)))) λr fl U G f=>f rfl (3,fl) rfl rfl trivial rfl rfl
abbrev sm{α:Type}(l:List α):Prop:=l.length<=1000000
theorem f8:2<2 ^ 62:=by decide
theorem fk{n:Nat}(h:n<=1000000):n<2 ^ 62:=by exact Uc h
theorem cM{α:Type}[Enc α]{l:List α}(h:sm l):(l.map (enc:α->AV)).length<=1000000:=by rw[K4];exact h
theorem aq{α:Type}[Enc α]{l:List α}(h:sm l):(l.map (enc:α->AV)).length<2 ^ 62:=fk (cM h)
noncomputable def Tr.A(rs:List Int)(fl:Int):Tr:=match rs with
 |[]=>.cR 2 fl
 |[r]=>.Y r fl
 |_=>.Eo rs fl
noncomputable def ajM:FI:=⟨[("runes",.loc),("flags",.loc),("found",.loc)],["list","Regexp","OP_STRING","len","tree_literal","OP_EMPTY"],WL⟩
theorem uz{g:Gx}(G:ED g)(d:Nat):a8 g (d+4) (g.fa 10) (V2 Tr.A λrs U=>sm rs):=
 .fc (G.K (d:=d+3) (fi:=ajM) 10 rfl (ae (aJ (tQ G (ax (cG 3 G.toGOK2 (ah 0))) E.x) (ae (aA (jH 1 G.toGOK (G.cls 0 rfl) (nZ G (d+1)) (aa (eG G 5 5 rfl) (aa (E.u 1) ag)))) af) af) (ae (aJ (tQ G (ax (cG 3 G.toGOK2 (ah 0))) E.x) (ae (aA (cV G 4 9 rfl (ux G d) (aa (ax (aB (ah 0) aF)) (aa (E.u 1) ag)))) af) af) (ae (bg 2 (jH 1 G.toGOK (G.cls 0 rfl) (nZ G (d+1)) (aa (eG G 2 7 rfl) (aa (E.u 1) ag)))) (ae (fF 8 G.toGOK2 (ah 2) (lX 0 G.toGOK (G.blt 4 rfl) (E.u 0))) (ae (aA (E.u 2)) af)))))) λrs fl hp=>match rs,hp with
  |[],hp=>λG f=>f rfl (aq hp) WL tt (2,fl) rfl rfl trivial rfl rfl
  |[r],hp=>λG f=>f rfl (aq hp) PO ff (aq hp) WL tt (aq hp) _ rfl r fl rfl trivial rfl
  |r::r2::rs,hp=>λG f=>f rfl (aq hp) PO ff (aq hp) PO ff (4,fl) rfl rfl trivial rfl (cM hp) rfl
noncomputable def akf:FI:=⟨[("ranges",.loc),("flags",.loc),("found",.loc)],["list","Regexp","OP_CLASS"],WL⟩
theorem Bv{g:Gx}(G:ED g)(d:Nat):a8 g (d+3) (g.fa 11) (V2 Tr.cls λrg U=>sm rg):=
 .fc (G.K (d:=d+2) (fi:=akf) 11 rfl (ae (bg 2 (jH 1 G.toGOK (G.cls 0 rfl) (nZ G d) (aa (eG G 2 23 rfl) (aa (E.u 1) ag)))) (ae (fF 9 G.toGOK2 (ah 2) (lX 0 G.toGOK (G.blt 4 rfl) (E.u 0))) (ae (aA (E.u 2)) af)))) λrg fl hp G f=>f rfl (20,fl) rfl rfl trivial rfl (cM hp) rfl
noncomputable def By(op none:Int)(ts:List Tr)(fl:Int):Tr:=match ts with
 |[]=>.cR none fl
 |[t]=>t
 |_=>.MR op fl ts
noncomputable def al0:FI:=⟨[("op",.loc),("none",.loc),("subs",.loc),("flags",.loc),("found",.loc)],["list","Regexp","len"],WL⟩
theorem HI{g:Gx}(G:ED g)(d:Nat):a8 g (d+3) (g.fa 12) (V4 By λU U ts U=>sm ts):=
 .vS (G.K (d:=d+2) (fi:=al0) 12 rfl (ae (aJ (tQ G (ax (cG 2 G.toGOK2 (ah 2))) E.x) (ae (aA (jH 1 G.toGOK (G.cls 0 rfl) (nZ G d) (aa (E.u 1) (aa (E.u 3) ag)))) af) af) (ae (aJ (tQ G (ax (cG 2 G.toGOK2 (ah 2))) E.x) (ae (aA (ax (aB (ah 2) aF))) af) af) (ae (bg 4 (jH 1 G.toGOK (G.cls 0 rfl) (nZ G d) (aa (E.u 0) (aa (E.u 3) ag)))) (ae (fF 2 G.toGOK2 (ah 4) (lX 0 G.toGOK (G.blt 4 rfl) (E.u 2))) (ae (aA (E.u 4)) af)))))) λop no ts fl hp=>match ts,hp with
  |[],hp=>λG f=>f rfl (aq hp) WL tt (no,fl) rfl rfl trivial rfl rfl
  |[t],hp=>λG f=>f rfl (aq hp) PO ff (aq hp) WL tt (aq hp) _ rfl rfl
  |t::t2::ts,hp=>λG f=>f rfl (aq hp) PO ff (aq hp) PO ff (op,fl) rfl rfl trivial rfl (cM hp) (congrArg (λx=>AV.inst 0 (kj (Tr.cR op fl) x)) (ut (t::t2::ts)))
noncomputable def dF(ts:List Tr)(fl:Int):Tr:=By 5 2 ts fl
noncomputable def bZ(ts:List Tr)(fl:Int):Tr:=By 6 1 ts fl
noncomputable def akd:FI:=⟨[("subs",.loc),("flags",.loc)],["tree_several","OP_EMPTY","OP_CONCAT"],WL⟩
theorem xB{g:Gx}(G:ED g)(d:Nat):a8 g (d+4) (g.fa 13) (V2 dF λts U=>sm ts):=
 .fc (G.K (d:=d+3) (fi:=akd) 13 rfl (ae (aA (cV G 0 12 rfl (HI G d) (aa (eG G 2 8 rfl) (aa (eG G 1 5 rfl) (aa (E.u 0) (aa (E.u 1) ag)))))) af)) λts fl hp G f=>f rfl 5 2 ts fl rfl hp rfl
noncomputable def akh:FI:=⟨[("subs",.loc),("flags",.loc)],["tree_several","OP_NO_MATCH","OP_ALTERNATE"],WL⟩
theorem Bu{g:Gx}(G:ED g)(d:Nat):a8 g (d+4) (g.fa 14) (V2 bZ λts U=>sm ts):=
 .fc (G.K (d:=d+3) (fi:=akh) 14 rfl (ae (aA (cV G 0 12 rfl (HI G d) (aa (eG G 2 9 rfl) (aa (eG G 1 4 rfl) (aa (E.u 0) (aa (E.u 1) ag)))))) af)) λts fl hp G f=>f rfl 6 1 ts fl rfl hp rfl
noncomputable def aj9:DC:=iw (α:=Int×Tr×Int) (λa=>[enc a.1,enc a.2.1,enc a.2.2]) (λU=>[]) (λU=>True) (λU=>.ref 0) λa=>[Ss ⟨0,(kj (Tr.cR a.1 a.2.2) [enc a.2.1]).map λp=>(p.1,.val p.2)⟩]
noncomputable def akZ:FI:=⟨[("op",.loc),("sub",.loc),("flags",.loc),("found",.loc)],["Regexp"],WL⟩
theorem xC{g:Gx}(G:ED g)(d:Nat):bQ g (d+3) (g.fa 15) aj9:=
 (G.K (d:=d+2) (fi:=akZ) 15 rfl (ae (bg 3 (jH 0 G.toGOK (G.cls 0 rfl) (nZ G d) (aa (E.u 0) (aa (E.u 2) ag)))) (ae (fF 2 G.toGOK2 (ah 3) (a9 (aa (E.u 1) ag))) (ae (LZ (ax (ah 3))) af)))).jf λa U G f=>f rfl (a.1,a.2.2) rfl rfl trivial rfl rfl rfl
noncomputable def Tr.fg(op fl:Int)(t:Tr):Tr:=.MR op fl [t]
noncomputable def aka:FI:=⟨[("op",.loc),("sub",.loc),("flags",.loc)],["tree_of_one","OP_STAR","NON_GREEDY","TREE_LOOPS"],WL⟩
theorem Bw{g:Gx}(G:ED g)(d:Nat):a8 g (d+4) (g.fa 16) (V3 (λop t fl=>Tr.fg op fl t) λU t U=>t.op=3):=
 .zv (G.K (d:=d+3) (fi:=aka) 16 rfl (ae (aJ (cq (cY (bn DM (eA G 0 1) (eG G 3 25 rfl)) (cY (bn (gk G.sm) (bC O.kM (bC O.zo (eA G 1 1) (E.u 2)) (eG G 2 2 rfl)) E.x) iF))) (ae (aA (sJ 0 G.toGOK (G.ZV 15 rfl) (xC G d) (aa (E.u 0) (aa (E.u 1) (aa (E.u 2) ag))))) af) af) (ae (aJ (cq (cY (tQ G (eA G 0 1) (E.u 0)) (cY (tQ G (eA G 0 1) (eG G 1 10 rfl)) iF))) (ae (aA (E.u 1)) af) af) (ae (aA (sJ 0 G.toGOK (G.ZV 15 rfl) (xC G d) (aa (eG G 1 10 rfl) (aa (ax (aB (sA G 2 1) aF)) (aa (E.u 2) ag))))) af)))) λop t fl hp=>match t,hp with
  |.mk ⟨_,_,_,_,_,_,_,_,_⟩ _,rfl=>λG f=>f rfl PO rfl WL tt WL tt (op,_,fl) rfl rfl trivial rfl
noncomputable def ajN:FI:=⟨[("sub",.loc),("flags",.loc)],["tree_loop","OP_STAR"],WL⟩
theorem HJ{g:Gx}(G:ED g)(d:Nat):a8 g (d+5) (g.fa 17) (V2 (λt fl=>Tr.fg 7 fl t) λt U=>t.op=3):=
 .fc (G.K (d:=d+4) (fi:=ajN) 17 rfl (ae (aA (cV G 0 16 rfl (Bw G d) (aa (eG G 1 10 rfl) (aa (E.u 0) (aa (E.u 1) ag))))) af)) λt fl hp G f=>f rfl 7 t fl rfl hp rfl
noncomputable def akX:FI:=⟨[("sub",.loc),("flags",.loc)],["tree_loop","OP_PLUS"],WL⟩
theorem aj5{g:Gx}(G:ED g)(d:Nat):a8 g (d+5) (g.fa 18) (V2 (λt fl=>Tr.fg 8 fl t) λt U=>t.op=3):=
 .fc (G.K (d:=d+4) (fi:=akX) 18 rfl (ae (aA (cV G 0 16 rfl (Bw G d) (aa (eG G 1 11 rfl) (aa (E.u 0) (aa (E.u 1) ag))))) af)) λt fl hp G f=>f rfl 8 t fl rfl hp rfl
noncomputable def al4:FI:=⟨[("sub",.loc),("flags",.loc)],["tree_loop","OP_QUEST"],WL⟩
theorem aj4{g:Gx}(G:ED g)(d:Nat):a8 g (d+5) (g.fa 19) (V2 (λt fl=>Tr.fg 9 fl t) λt U=>t.op=3):=
 .fc (G.K (d:=d+4) (fi:=al4) 19 rfl (ae (aA (cV G 0 16 rfl (Bw G d) (aa (eG G 1 12 rfl) (aa (E.u 0) (aa (E.u 1) ag))))) af)) λt fl hp G f=>f rfl 9 t fl rfl hp rfl
noncomputable def Tr.zw(t:Tr)(fl low iL:Int):Tr:=.mk { op:=10,fl,low,iL } [t]
noncomputable def Tr.Em(t:Tr)(fl ZK:Int)(name:Option (Array UInt8)):Tr:=.mk { op:=11,fl,ZK,name } [t]
noncomputable instance:Enc (Option (Array UInt8)):=⟨xz,λo=>by induction o<;>constructor⟩
noncomputable def al3:FI:=⟨[("sub",.loc),("flags",.loc),("low",.loc),("high",.loc),("found",.loc)],["tree_of_one","OP_REPEAT"],WL⟩
theorem HG{g:Gx}(G:ED g)(d:Nat):a8 g (d+4) (g.fa 20) (V4 Tr.zw):=
 .vS (G.K (d:=d+3) (fi:=al3) 20 rfl (ae (bg 4 (sJ 0 G.toGOK (G.ZV 15 rfl) (xC G d) (aa (eG G 1 13 rfl) (aa (E.u 0) (aa (E.u 1) ag))))) (ae (fF 3 G.toGOK2 (ah 4) (E.u 2)) (ae (fF 4 G.toGOK2 (ah 4) (E.u 3)) (ae (aA (E.u 4)) af))))) λt fl lo hi U G f=>f rfl (10,t,fl) rfl rfl trivial rfl
noncomputable def akg:FI:=⟨[("sub",.loc),("flags",.loc),("cap",.loc),("name",.loc),("found",.loc)],["tree_of_one","OP_CAPTURE"],WL⟩
theorem HF{g:Gx}(G:ED g)(d:Nat):a8 g (d+4) (g.fa 21) (V4 Tr.Em):=
 .vS (G.K (d:=d+3) (fi:=akg) 21 rfl (ae (bg 4 (sJ 0 G.toGOK (G.ZV 15 rfl) (xC G d) (aa (eG G 1 14 rfl) (aa (E.u 0) (aa (E.u 1) ag))))) (ae (fF 5 G.toGOK2 (ah 4) (E.u 2)) (ae (fF 6 G.toGOK2 (ah 4) (E.u 3)) (ae (aA (E.u 4)) af))))) λt fl c nm U G f=>match nm,f with
  |none,f=>f rfl (11,t,fl) rfl rfl trivial rfl
  |some j4,f=>f rfl (11,t,fl) rfl rfl trivial rfl
noncomputable def gB(op:Int):Int:=if (3==op||(4==op||false))=WL then 1 else if (7==op||(8==op||(9==op||false)))=WL then 64 else if (op==10)=WL then 64 else if (op==19)=WL then 8192 else 0
noncomputable def akc:FI:=⟨[("op",.loc)],["OP_END_TEXT","WAS_DOLLAR","OP_REPEAT","TREE_LOOPS","NON_GREEDY","OP_STRING","OP_LITERAL","FOLD_CASE"],WL⟩
theorem aj6{g:Gx}(G:ED g)(d:Nat):a8 g (d+1) (g.fa 22) (V1 gB):=
 .fT (G.K (d:=d) (fi:=akc) 22 rfl (ae (aJ (bn oF (E.u 0) (bD (aa (eG G 6 6 rfl) (aa (eG G 5 7 rfl) ag)))) (ae (aA (eG G 7 0 rfl)) af) af) (ae (aJ (cq (cY (bn oF (E.u 0) (eG G 3 25 rfl)) (cY (tQ G (E.u 0) (eG G 2 13 rfl)) iF))) (ae (aA (eG G 4 2 rfl)) af) af) (ae (aA (cE (tQ G (E.u 0) (eG G 0 22 rfl)) (eG G 1 3 rfl) E.x)) af)))) λop U G f=>aC (3==op||(4==op||false)) (λc=>f rfl _ rfl WL ((Yi _).trans c) (by unfold gB;rw[c];rfl)) λc=>
  aC (7==op||(8==op||(9==op||false))) (λc2=>f rfl _ rfl PO ((Yi _).trans c) _ rfl WL ((Yi _).trans c2) WL tt (by unfold gB;rw[c,c2];rfl)) λc2=>
  aC (op==10) (λc3=>f rfl _ rfl PO ((Yi _).trans c) _ rfl PO ((Yi _).trans c2) WL c3 WL tt (by unfold gB;rw[c,c2,c3];rfl)) λc3=>
  aC (op==19) (λc4=>f rfl _ rfl PO ((Yi _).trans c) _ rfl PO ((Yi _).trans c2) PO c3 PO ff WL c4 (by unfold gB;rw[c,c2,c3,c4];rfl)) λc4=>f rfl _ rfl PO ((Yi _).trans c) _ rfl PO ((Yi _).trans c2) PO c3 PO ff PO c4 (by unfold gB;rw[c,c2,c3,c4];rfl)
noncomputable def Tr.rn(t:Tr):List Int:=if (t.op==3)=WL then[t.K3] else if (t.op==4)=WL then t.D5 else[]
noncomputable def al1:FI:=⟨[("re",.loc)],["OP_STRING","list","OP_LITERAL"],WL⟩
theorem HH{g:Gx}(G:ED g)(d:Nat):a8 g (d+1) (g.fa 25) (V1 Tr.rn λt=>sm t.rn):=
 .fT (G.K (d:=d) (fi:=al1) 25 rfl (ae (aJ (tQ G (eA G 0 0) (eG G 2 6 rfl)) (ae (aA (a9 (aa (eA G 7 0) ag))) af) af) (ae (aA (cE (tQ G (eA G 0 0) (eG G 0 7 rfl)) (lX 1 G.toGOK (G.blt 4 rfl) (eA G 8 0)) (a9 ag))) af))) λt hp G f=>aC (t.op==3) (λc=>f rfl WL c (by unfold Tr.rn;rw[c];rfl)) λc=>
  aC (t.op==4) (λc2=>f rfl PO c WL c2 (by rw[K4];replace hp:sm t.rn:=hp;unfold Tr.rn at hp;rw[c,c2] at hp;exact hp) (by unfold Tr.rn;rw[c,c2];rfl)) λc2=>f rfl PO c PO c2 (by unfold Tr.rn;rw[c,c2];rfl)
noncomputable def Tr.fold(t:Tr):Bool:=!(vT t.fl 1==0)
noncomputable def ajI:DC:=iw (α:=Tr×List (Option MO)) (λa=>[enc a.1]) (·.2) (λU=>True) (λa=>.bool a.1.fold) (·.2)
noncomputable def akr:FI:=⟨[("self",.loc)],["FOLD_CASE"],WL⟩
theorem Bs{g:Gx}(G:ED g)(d:Nat):bQ g (d+1) (g.fa 7) ajI:=
 (G.K (d:=d) (fi:=akr) 7 rfl (ae (aA (cD (gk G.sm) (bC O.kM (eA G 1 0) (eG G 0 0 rfl)) E.x)) af)).jf λa U G f=>f rfl rfl rfl
noncomputable def a6(op:Int):Bool:=3==op||(4==op||false)
noncomputable def f7(a b:Tr):Bool:=a6 a.op&&(a6 b.op&&(a.fold==b.fold))
noncomputable def akq:FI:=⟨[("one",.loc),("other",.loc)],["FACTOR_STRINGS"],WL⟩
theorem aj8{g:Gx}(G:ED g)(d:Nat):a8 g (d+3) (g.fa 26) (V2 f7):=
 .fc (G.K (d:=d+2) (fi:=akq) 26 rfl (ae (aJ (cq (cY (bn DM (eA G 0 0) (eG G 0 30 rfl)) (cY (bn DM (eA G 0 1) (eG G 0 30 rfl)) iF))) (ae (aA E.cK) af) af) (ae (aA (cD (dh G.sm) (DK G.fold (Bs G d) (ah 0)) (DK G.fold (Bs G d) (ah 1)))) af))) λa b U G f=>aC (a6 a.op) (λh1=>aC (a6 b.op)
  (λh2=>f rfl _ rfl PO (xA h1) _ rfl PO (xA h2) PO ff (a,[]) rfl rfl trivial (b,[]) rfl rfl trivial _ rfl (by unfold f7;rw[h1,h2];rfl))
  λh2=>f rfl _ rfl PO (xA h1) _ rfl WL (uu h2) WL tt (by unfold f7;rw[h1,h2];rfl))
  λh1=>f rfl _ rfl WL (uu h1) WL tt (by unfold f7;rw[h1];rfl)
class inductive Tr.ok:Tr->Prop
 |mk {nd:Nd}{eI:List Tr}:sm eI->sm nd.D5->sm nd.Bd->(∀s∈eI,s.ok)->Tr.ok (.mk nd eI)
theorem Tr.ok.D5{t:Tr}(h:t.ok):sm t.D5:=by induction h;assumption
theorem Tr.ok.Bd{t:Tr}(h:t.ok):sm t.Bd:=by induction h;assumption
theorem Tr.ok.H{t:Tr}(h:t.ok):sm t.H:=by induction h;assumption
theorem Tr.ok.O{t:Tr}(h:t.ok):t.O.length<=1000000:=by rw[lH];exact cM h.H
set_option tactic.hygienic true in
theorem Tr.ok.bJ{t s:Tr}(h:t.ok)(m:s∈t.H):s.ok:=by cases (h);rename_i k;exact k _ m
noncomputable def Tr.G:Tr->Tr
 |.mk nd (s::ss)=>if nd.op==5 then s.G else .mk nd (s::ss)
 |.mk nd []=>.mk nd []
theorem Tr.kR:∀{t:Tr},(t.op==5)=PO->t.G=t
 |.mk nd [],j4=>rfl
 |.mk nd (s::ss),h=>MZ λz=>by rw[show (nd.op==5)=PO from h] at z;exact aX z
theorem Tr.qP{nd:Nd}{s:Tr}{ss:List Tr}(h:(nd.op==5)=WL):(Tr.mk nd (s::ss)).G=s.G:=MS h
theorem Tr.ok.G:∀{t:Tr},t.ok->t.G.ok
 |.mk nd [],h=>h
 |.mk nd (s::ss),h=>by
  cases z:nd.op==5 with
  |true=>rw[qP z];exact (h.bJ (.head _):s.ok).G
  |false=>rw[kR (show ((Tr.mk nd (s::ss)).op==5)=PO from z)];exact h
noncomputable def Tr.jO:Tr->Nat
 |.mk nd (s::ss)=>s.jO+1
 |.mk nd []=>0
noncomputable def Tr.U(t:Tr):List Int×Int:=(t.G.rn,if a6 t.G.op then vT t.G.fl 33 else 0)
structure ak8(f:Tr)(n:Nat)(t:Tr):Prop where
 e:t.jO=n
 o:t.ok
 q:t.G=f
noncomputable def akk:FI:=⟨[("re",.loc)],["OP_STRING","FACTOR_FLAGS","list","OP_LITERAL","OP_CONCAT"],WL⟩
theorem ajF{t u:Tr}(hu:u=t.G)(c:(u.op==3)=WL):(enc t.U:AV)=.tup [enc [u.K3],.int (vT u.fl 33)]:=by subst hu;unfold Tr.U Tr.rn a6;rw[show (3==t.G.op)=(t.G.op==3) from Xx,c];rfl
theorem ajE{t u:Tr}(hu:u=t.G)(c:(u.op==3)=PO)(c2:(u.op==4)=WL):(enc t.U:AV)=.tup [enc u.D5,.int (vT u.fl 33)]:=by subst hu;unfold Tr.U Tr.rn a6;rw[show (3==t.G.op)=(t.G.op==3) from Xx,show (4==t.G.op)=(t.G.op==4) from Xx,c,c2];rfl
theorem ajD{t u:Tr}(hu:u=t.G)(c:(u.op==3)=PO)(c2:(u.op==4)=PO):(enc t.U:AV)=.tup [.lst [],.int 0]:=by subst hu;unfold Tr.U Tr.rn a6;rw[show (3==t.G.op)=(t.G.op==3) from Xx,show (4==t.G.op)=(t.G.op==4) from Xx,c,c2];rfl
theorem HD{g:Gx}(G:ED g)(d:Nat):a8 g (d+1) (g.fa 28) (V1 Tr.U Tr.ok):=
 .fT (G.K (d:=d) (fi:=akk) 28 rfl (ae (lV (cq (bL (tQ G (eA G 0 0) (eG G 4 8 rfl)) (bL (kF (sA G 2 0)) eS))) (ae (bg 0 (ax (aB (sA G 2 0) aF))) af)) (ae (aJ (tQ G (eA G 0 0) (eG G 3 6 rfl)) (ae (aA (bD (aa (a9 (aa (eA G 7 0) ag)) (aa (bC O.kM (eA G 1 0) (eG G 1 27 rfl)) ag)))) af) af) (ae (aJ (tQ G (eA G 0 0) (eG G 0 7 rfl)) (ae (aA (bD (aa (lX 2 G.toGOK (G.blt 4 rfl) (eA G 8 0)) (aa (bC O.kM (eA G 1 0) (eG G 1 27 rfl)) ag)))) af) af) (ae (aA (bD (aa (a9 ag) (aa E.x ag)))) af))))) λt hp G f=>lI (λu:Tr=>⟨[.val (enc u)],[]⟩) (ak8 t.G) (λu:Tr=>⟨[.val (enc u)],[]⟩) (·=t.G) (f rfl) t.jO t rfl ⟨rfl,hp,rfl⟩
  (λn u h k hk=>match u,h with
   |.mk nd [],h=>λG f=>aC (nd.op==5) (λc=>hk _ h.q G (f WL c PO ff PO ff)) λc=>hk _ h.q G (f PO c PO ff)
   |.mk nd (s::ss),h=>λG f=>aC (nd.op==5) (λc=>f WL c WL tt WL tt (fk h.o.O) _ rfl s.jO (h.e▸YB _) (.C s ⟨rfl,h.o.bJ (.head _),(Tr.qP c).symm.trans h.q⟩ rfl))
    λc=>hk _ ((Tr.kR (t:=.mk nd (s::ss)) c).symm.trans h.q) G (f PO c PO ff))
  λu hu G f=>aC (u.op==3) (λc=>f WL c (ajF hu c)) λc=>aC (u.op==4) (λc2=>f PO c WL c2 (cM (hu▸hp.G.D5)) (ajE hu c c2)) λc2=>f PO c PO c2 (ajD hu c c2)
noncomputable instance:Enc (Option Tr):=⟨λo=>match o with|none=>.none|some t=>enc t,λo=>by induction o with|none=>exact .none|some t=>exact Enc.rf t⟩
noncomputable def Tr.M:Tr->Tr
 |.mk nd (s::ss)=>if nd.op==5 then s else .mk nd (s::ss)
 |t=>t
theorem qy{nd:Nd}{s:Tr}{ss:List Tr}(h:(nd.op==5)=WL):(Tr.mk nd (s::ss)).M=s:=MS h
theorem oG:∀{t:Tr},(t.op==5)=PO->t.M=t
 |.mk nd [],j4=>rfl
 |.mk nd (s::ss),h=>MZ λz=>by rw[show (nd.op==5)=PO from h] at z;exact aX z
noncomputable def Tr.V(t:Tr):Option Tr:=if t.M.op==2 then M4 else Ss t.M
noncomputable def ako:FI:=⟨[("re",.loc)],["OP_EMPTY","OP_CONCAT"],WL⟩
theorem Bt{g:Gx}(G:ED g)(d:Nat):a8 g (d+1) (g.fa 30) (V1 Tr.V Tr.ok):=
 .fT (G.K (d:=d) (fi:=ako) 30 rfl (ae (aJ (cq (bL (tQ G (eA G 0 0) (eG G 1 8 rfl)) (bL (kF (sA G 2 0)) eS))) (ae (bg 0 (ax (aB (sA G 2 0) aF))) af) af) (ae (aA (cE (tQ G (eA G 0 0) (eG G 0 5 rfl)) E.none (E.u 0))) af))) λt hp G f=>db (f rfl) ⟨[.val (enc t.M)],[]⟩ (λK k=>match t,hp,k with
  |.mk nd [],hp,k=>λG f=>aC (nd.op==5) (λc=>k G (f WL c PO ff PO ff)) λc=>k G (f PO c PO ff)
  |.mk nd (s::ss),hp,k=>λG f=>aC (nd.op==5) (λc=>k G (by rw[qy c];exact f WL c WL tt WL tt (fk hp.O) _ rfl)) λc=>k G (by rw[oG (t:=.mk nd (s::ss)) c];exact f PO c PO ff))
  λG f=>aC (t.M.op==2) (λc=>f WL c (by unfold Tr.V;rw[c];rfl)) λc=>f PO c (by unfold Tr.V;rw[c];rfl)
noncomputable def Tr.fJ(t:Tr):Tr:=if t.op==2 then t else match t with
 |.mk nd (s::ss)=>if nd.op==5 then dF ss nd.fl else .cR 2 nd.fl
 |t=>.cR 2 t.fl
theorem sm.tl{α:Type}{x:α}{l:List α}(h:sm (x::l)):sm l:=WY h
theorem xD{α:Type}{x:α}{l:List α}:cx (x::l) (Ss 1) M4=l:=by refine (?_:((x::l).drop (min 1 (l.length+1))).take ((l.length+1)-min 1 (l.length+1))=l);rw[Z4 (Ue)];simp
noncomputable def ajL:FI:=⟨[("re",.loc)],["tree_plain","OP_EMPTY","OP_CONCAT","tree_concat"],WL⟩
theorem HQ{nd:Nd}(c:(nd.op==2)=PO):(Tr.mk nd []).fJ=.cR 2 nd.fl:=MZ (sW.mp c)
theorem HR{nd:Nd}{s:Tr}{ss:List Tr}{b:Bool}(c:(nd.op==2)=PO)(c2:(nd.op==5)=b):(Tr.mk nd (s::ss)).fJ=if b then dF ss nd.fl else .cR 2 nd.fl:=(MZ (sW.mp c)).trans (by rw[<- c2])
theorem aj3{g:Gx}(G:ED g)(d:Nat):a8 g (d+5) (g.fa 31) (V1 Tr.fJ Tr.ok):=
 .fT (G.K (d:=d+4) (fi:=ajL) 31 rfl (ae (aJ (tQ G (eA G 0 0) (eG G 1 5 rfl)) (ae (aA (E.u 0)) af) af) (ae (aJ (cq (bL (tQ G (eA G 0 0) (eG G 2 8 rfl)) (bL (kF (sA G 2 0)) eS))) (ae (aA (cV G 3 13 rfl (xB G d) (aa (jG (sA G 2 0) (.some aF) .none) (aa (eA G 1 0) ag)))) af) af) (ae (aA (cV G 0 8 rfl (uy G (d+1)) (aa (eG G 1 5 rfl) (aa (eA G 1 0) ag)))) af)))) λt hp=>match t,hp with
  |.mk nd [],hp=>λG f=>aC (nd.op==2) (λc=>f rfl WL c (congrArg enc (MS c))) λc=>aC (nd.op==5)
   (λc2=>f rfl PO c WL c2 PO ff PO ff 2 nd.fl rfl trivial (congrArg enc (HQ c))) λc2=>f rfl PO c PO c2 PO ff 2 nd.fl rfl trivial (congrArg enc (HQ c))
  |.mk nd (s::ss),hp=>λG f=>aC (nd.op==2) (λc=>f rfl WL c (congrArg enc (MS c))) λc=>aC (nd.op==5)
   (λc2=>f rfl PO c WL c2 WL tt WL tt hp.O ss nd.fl (congrArg (λx=>[AV.lst x,AV.int nd.fl]) ((xD (x:=enc s) (l:=qx ss)).trans (ut ss)).symm) hp.H.tl (congrArg enc (HR c c2)))
   λc2=>f rfl PO c PO c2 PO ff 2 nd.fl rfl trivial (congrArg enc (HR c c2))
noncomputable def cf(t:Tr):List Tr:=if t.op==5 then t.H else[t]
noncomputable def cW(acc:List Tr)(p:Tr):List Tr:=match acc.getLast? with
 |some l=>if f7 l p then acc.dropLast++[Tr.A (l.rn++p.rn) l.fl] else if p.op==2 then acc else acc++[p]
 |none=>if p.op==2 then acc else acc++[p]
noncomputable def bR(first:Tr)(rest:List Tr)(fl:Int):Tr:=dF (((first::rest).flatMap cf).foldl cW []) fl
noncomputable def jw(ts:List Tr):Nat:=(ts.map λt=>1+t.rn.length).sum
theorem lG{t:Tr}{ts:List Tr}:jw (t::ts)=1+t.rn.length+jw ts:=List.sum_cons
theorem xx{a b:List Tr}:jw (a++b)=jw a+jw b:=by unfold jw;rw[wh,WJ]
theorem Br:∀{ts:List Tr},ts.length<=jw ts
 |[]=>EC _
 |t::ts=>by rw[lG,qR];have:=Br (ts:=ts);exact Uq this
theorem rK{rs:List Int}{fl:Int}:(Tr.A rs fl).rn=rs:=by
 match rs with
 |[]=>rfl
 |[r]=>rfl
 |r::r2::rs=>rfl
theorem akx{a b:Tr}(h:f7 a b=WL):a6 a.op=WL/\a6 b.op=WL:=by unfold f7 at h;refine ak (zA.mp h) λh1 h=>?_;exact⟨h1,(zA.mp h).1⟩
theorem ajf{p:Tr}:cW [] p=if p.op==2 then[] else[p]:=rfl
theorem xH{zs:List Tr}{z p:Tr}(c:f7 z p=WL):cW (zs++[z]) p=zs++[Tr.A (z.rn++p.rn) z.fl]:=by unfold cW;rw[XG];dsimp only;rw[MS c,alS]
theorem uC{zs:List Tr}{z p:Tr}(c:f7 z p=PO):cW (zs++[z]) p=if p.op==2 then zs++[z] else zs++[z]++[p]:=by unfold cW;rw[XG];dsimp only;rw[MZ (by rw[c];exact qH)]
theorem xy{zs:List Tr}{z:Tr}:(zs++[z]).map enc=zs.map enc++[enc z]:=wh
theorem ajB{α:Type}{zs:List α}{z:α}:(WL != (zs++[z]).isEmpty)=WL:=by induction zs using K1<;>rfl
theorem pO{α:Type}(l:List α):l=[]∨∃zs z,l=zs++[z]:=by
 rcases List.eq_nil_or_concat l with h|⟨a,b,h⟩
 ·exact .inl h
 ·exact .inr ⟨a,b,by rw[h,List.concat_eq_append]⟩
noncomputable def akp:FI:=⟨[("first",.loc),("rest",.loc),("flags",.loc),("found",.loc),("re",.loc),("part",.loc)],["tree_concat","OP_CONCAT","factor_can_join","tree_string","tree_runes","OP_EMPTY"],WL⟩
noncomputable def jS(first:Tr)(rest:List Tr)(fl:Int)(s:List AV×an×an):St:=⟨[.val (enc first),.val (enc rest),.val (enc fl),.own (.lst s.1),s.2.1,s.2.2],[]⟩
structure JI(F:List Tr)(more acc:List Tr)(ys:List AV):Prop where
 w:jw acc+jw more<=1000000
 e:more.foldl cW acc=F
 y:ys=acc.map enc
inductive JX(F:List Tr)(more:List Tr)(ys:List AV):Prop
 |mk (acc:List Tr) (h:JI F more acc ys)
noncomputable def jF(first:Tr)(rest:List Tr):List Tr:=((first::rest).flatMap cf).foldl cW []
def jP(first:Tr)(rest:List Tr)(ts:List Tr)(s:List AV×an×an):Prop:=JX (jF first rest) (ts.flatMap cf) s.1
def Hx(first:Tr)(rest:List Tr)(ts:List Tr)(ps:List Tr)(s:List AV×an×an):Prop:=JX (jF first rest) (ps++ts.flatMap cf) s.1
theorem ur{xs:List AV}{x:AV}:fY (xs++[x]) (-1)=Ss x:=by
 unfold fY;rw[MZ (F9),MS (by rw[Es];simp;exact Up),Es];have:((-1:Int)+((xs.length+[x].length:Nat):Int)).toNat=xs.length:=by refine (?_:((-1:Int)+((xs.length+1:Nat):Int)).toNat=xs.length);exact Un
 rw[this];simp
theorem pN{xs:List AV}{x:AV}{ys:List AV}(h:ys=xs++[x]):fY ys (-1)=Ss x:=h▸ur
theorem Bm{xs:List AV}{x:AV}{ys:List AV}(h:ys=xs++[x]):(WL != ys.isEmpty)=WL:=by rw[h];exact ajB
theorem JI.ik{F more ys}{acc:List Tr}(h:JI F more acc ys)(e:acc=[]):(WL != ys.isEmpty)=PO:=by rw[h.y,e];rfl
theorem JI.MN{F more ys p}{acc:List Tr}(h:JI F (p::more) acc ys)(hs:cW acc p=(if p.op==2 then acc else acc++[p]))(c:(!(p.op==2))=WL):JX F more (ys++[enc p]):=by
 have c:(p.op==2)=PO:=by simpa using c
 obtain⟨w,e,rfl⟩:=h;refine⟨acc++[p],?_,?_,xy.symm⟩
 ·rw[xx,lG];rw[lG] at w;exact Ul w
 ·rw[<- e,YA,hs,c];rfl
theorem JI.fS{F more ys p}{acc:List Tr}(h:JI F (p::more) acc ys)(hs:cW acc p=(if p.op==2 then acc else acc++[p]))(c:(!(p.op==2))=PO):JX F more ys:=by
 have c:(p.op==2)=WL:=by simpa using c
 obtain⟨w,e,rfl⟩:=h;refine⟨acc,?_,?_,rfl⟩
 ·rw[lG] at w;exact Uk w
 ·rw[<- e,YA,hs,c];rfl
structure JL(acc zs:List Tr)(z p:Tr)(ys:List AV):Prop where
 ea:acc=zs++[z]
 ey:ys=zs.map enc++[enc z]
 hz:ys.length<=1000000
 wz:z.rn.length<=1000000
 wp:p.rn.length<=1000000
 wj:z.rn.length+p.rn.length<=1000000
theorem JI.dN{F more ys p}{acc zs:List Tr}{z:Tr}(h:JI F (p::more) acc ys)(ea:acc=zs++[z]):JL acc zs z p ys:=by
 obtain⟨w,e,rfl⟩:=h;subst ea;have la:=Br (ts:=zs++[z]);have wz:jw (zs++[z])=jw zs+(1+z.rn.length):=by rw[xx,lG];rfl
 rw[lG] at w;exact⟨rfl,xy,by rw[K4];exact Uj w la,Ui w w wz,Uh w w wz,Ug w wz⟩
theorem JL.Ek{F more ys p}{acc zs:List Tr}{z:Tr}(l:JL acc zs z p ys)(h:JI F (p::more) acc ys)(c:f7 z p=WL):JX F more (zs.map enc++[enc (Tr.A (z.rn++p.rn) z.fl)]):=by
 obtain⟨w,e,_⟩:=h;obtain⟨rfl⟩:=l;have wz:jw (zs++[z])=jw zs+(1+z.rn.length):=by rw[xx,lG];rfl
 rw[lG] at w;refine⟨_,?_,?_,xy.symm⟩
 ·rw[xx,lG,rK,Es];exact Uf w wz
 ·rw[<- e,YA,xH c]
theorem HC{g:Gx}(G:ED g)(d:Nat):a8 g (d+5) (g.fa 27) (V3 bR λa b U=>jw ((a::b).flatMap cf)<=1000000/\b.length+1<=1000000):=
 .zv (G.K (d:=d+4) (fi:=akp) 27 rfl (ae (bg 3 (a9 ag)) (ae (gF (cH (bC O.e9 (a9 (aa (E.u 0) ag)) (E.u 1))) (cN 4) (ae (gF (cH (cE (tQ G (eA G 0 4) (eG G 1 8 rfl)) (eA G 2 4) (a9 (aa (E.u 4) ag)))) (cN 5) (ae (aJ (cq (bL (kF (ah 3)) (bL (eT (cV G 2 26 rfl (aj8 G (d+1)) (aa (ax (aB (ah 3) (nf aF))) (aa (E.u 5) ag)))) eS))) (ae (adQ 3 (cV G 3 10 rfl (uz G d) (aa (bC O.e9 (cV G 4 25 rfl (HH G (d+3)) (aa (ax (aB (ah 3) (nf aF))) ag)) (cV G 4 25 rfl (HH G (d+3)) (aa (E.u 5) ag))) (aa (ax (vA 1 G.toGOK2 (aB (ah 3) (nf aF)))) ag))) (nf aF)) af) (ae (aJ (bn (gk G.sm) (eA G 0 5) (eG G 5 5 rfl)) (ae (eF (g5 3 (E.u 5))) af) af) af)) af)) af)) (ae (aA (cV G 0 13 rfl (xB G d) (aa (E.u 3) (aa (E.u 2) ag)))) af)))) λfirst rest fl ⟨hp,hl⟩ G f=>
 gS enc (jS first rest fl) (jP first rest) (f rfl (by rw[K4];refine (?_:1+rest.length<=1000000);exact Um hl)) (first::rest) ([],.none,.none) rfl rfl ⟨[],by simpa [jw] using hp,rfl,rfl⟩
  (λt ts s h G f=>akw (uB f) ((cf t).map enc) (jS first rest fl (s.1,.val (enc t),s.2.2))
   (λK k G f=>aC (t.op==5) (λh=>k G (by rw[show cf t=t.H from MS h,<- lH];exact f WL h)) λh=>k G (by rw[show cf t=[t] from MZ (sW.mp h)];exact f PO h))
   λG f=>gS enc (jS first rest fl) (Hx first rest ts) f (cf t) (s.1,.val (enc t),s.2.2) rfl rfl (by unfold Hx;unfold jP at h;rw[Zw] at h;exact h)
    (λp ps s ⟨acc,h⟩ G f=>(pO acc).elim
     (λea=>aC (!(p.op==2)) (λc=>f PO (h.ik ea) PO ff WL c (by rw[h.y,ea];exact zJ _) (.C (_,s.2.1,.val (enc p)) (h.MN (by rw[ea];rfl) c) rfl)) λc=>f PO (h.ik ea) PO ff PO c (.C (s.1,s.2.1,.val (enc p)) (h.fS (by rw[ea];rfl) c) rfl))
     λ⟨zs,z,ea⟩=>aC (f7 z p)
      (λc=>f WL (Bm (h.dN ea).ey) (fk (h.dN ea).hz) _ (pN (h.dN ea).ey) z p rfl trivial WL c WL tt (fk (h.dN ea).hz) _ (pN (h.dN ea).ey) z rfl (h.dN ea).wz p rfl (h.dN ea).wp (by rw[K4,K4];exact (h.dN ea).wj) (fk (h.dN ea).hz) _ (pN (h.dN ea).ey) (z.rn++p.rn) z.fl
       (congrArg (λx=>[AV.lst x,AV.int z.fl]) wh) (by refine (?_:(z.rn++p.rn).length<=_);rw[Es];exact (h.dN ea).wj) (h.dN ea).hz _ _ (h.dN ea).ey (.C (_,s.2.1,.val (enc p)) ((h.dN ea).Ek h c) rfl))
      λc=>aC (!(p.op==2)) (λc2=>f WL (Bm (h.dN ea).ey) (fk (h.dN ea).hz) _ (pN (h.dN ea).ey) z p rfl trivial PO c PO ff WL c2 (h.dN ea).hz (.C (_,s.2.1,.val (enc p)) (h.MN (by rw[ea];exact uC c) c2) rfl))
       λc2=>f WL (Bm (h.dN ea).ey) (fk (h.dN ea).hz) _ (pN (h.dN ea).ey) z p rfl trivial PO c PO ff PO c2 (.C (s.1,s.2.1,.val (enc p)) (h.fS (by rw[ea];exact uC c) c2) rfl))
    λs h G f=>f (.C s h rfl))
  λs ⟨acc,h⟩ G f=>f acc fl (congrArg (λx=>[AV.lst x,AV.int fl]) h.y.symm) (Le Br h.w) (by rw[show acc=_ from h.e];rfl)
noncomputable def Tr.ck(t:Tr):Nat:=if t.op==2 then 0 else if a6 t.op then t.rn.length else if t.H.isEmpty then 1 else 0
mutual
noncomputable def Tr.W:Tr->Nat
 |.mk nd eI=>2+10*Tr.ck (.mk nd eI)+nd.D5.length+nd.Bd.length+aM eI
noncomputable def aM:List Tr->Nat
 |[]=>0
 |t::ts=>t.W+aM ts
end
theorem Tr.gu(t:Tr):t.W=2+10*t.ck+t.D5.length+t.Bd.length+aM t.H:=by induction t using Tr.casesOn;rfl
theorem lF{a b:List Tr}:aM (a++b)=aM a+aM b:=by
 induction a with
 |nil=>exact (kI _).symm
 |cons t a ih=>refine (?_:t.W+aM (a++b)=t.W+aM a+aM b);exact UC ih
theorem mP:∀{ts:List Tr},2*ts.length<=aM ts
 |[]=>EC _
 |t::ts=>by have:=mP (ts:=ts);refine (?_:_<=t.W+aM ts);rw[t.gu,qR];exact UB this
mutual
theorem g6:∀{t:Tr},t.W<=1000000->t.ok
 |.mk nd eI,h=>by have h:2+10*Tr.ck (.mk nd eI)+nd.D5.length+nd.Bd.length+aM eI<=1000000:=h;have:=mP (ts:=eI);exact .mk (by show _<=_;exact UA this h) (by show _<=_;exact amo h) (by show _<=_;exact amp h) (L9 (amr h))
theorem L9:∀{ts:List Tr},aM ts<=1000000->∀s∈ts,s.ok
 |[],j4=>λs h=>by exact aT h
 |t::ts,h=>List.forall_mem_cons.mpr ⟨g6 (Le (oW _ _) h),L9 (Le (oJ _ _) h)⟩
end
theorem HM(t:Tr):t.rn.length<=10*t.ck:=by
 unfold Tr.ck;cases h:t.op==2 with
 |true=>have:t.op=2:=zH h;unfold Tr.rn;rw[this];exact zJ _
 |false=>
  cases h2:a6 t.op with
  |true=>refine (?_:_<=10*t.rn.length);exact ams
  |false=>
   have:t.rn=[]:=by
    unfold a6 at h2;unfold Tr.rn;have a:(t.op==3)=PO:=by rw[Vp] at h2;rw[Xx];exact h2.1
    have b:(t.op==4)=PO:=by rw[Vp,Vp] at h2;rw[Xx];exact h2.2.1
    rw[a,b];rfl
   rw[this];exact zJ _
theorem Bq:∀{ts:List Tr},jw ts<=aM ts
 |[]=>EC _
 |t::ts=>by have:=Bq (ts:=ts);have:=HM t;rw[lG];refine (?_:_<=t.W+aM ts);rw[t.gu];exact amt this (by assumption)
theorem aj0(t:Tr):aM (cf t)<=t.W:=by
 unfold cf;cases t.op==5 with
 |true=>refine (?_:aM t.H<=_);rw[t.gu];exact amx
 |false=>refine (?_:t.W+0<=_);exact Ga
theorem xv:∀{ts:List Tr},aM (ts.flatMap cf)<=aM ts
 |[]=>EC _
 |t::ts=>by rw[Zw,lF];have:=xv (ts:=ts);have:=aj0 t;refine (?_:_<=t.W+aM ts);exact amy this (by assumption)
theorem xI{rs:List Int}{fl:Int}:(Tr.A rs fl).W<=2+11*rs.length:=by
 match rs with
 |[]=>refine (?_:2+10*0+0+0+0<=2+11*0);decide
 |[r]=>refine (?_:2+10*1+0+0+0<=2+11*1);decide
 |r::r2::rs=>refine (?_:2+10*(r::r2::rs).length+(r::r2::rs).length+0+0<=_);exact Ur
theorem Bk{ts:List Tr}{fl:Int}:(dF ts fl).W<=2+aM ts:=by
 match ts with
 |[]=>refine (?_:2+10*0+0+0+0<=2+0);decide
 |[t]=>refine (?_:t.W<=2+(t.W+0));exact O4
 |t::t2::ts=>refine (?_:2+10*0+0+0+aM (t::t2::ts)<=_);exact FM
theorem Hs{t:Tr}(h:a6 t.op=WL):1+11*t.rn.length<=t.W:=by
 rw[t.gu];unfold a6 at h;have h2:(t.op==2)=PO:=by rw[<- Wc];intro z;rw[zH z] at h;exact aX h
 have ho:t.ck=t.rn.length:=by unfold Tr.ck a6;rw[h2,h];rfl
 rw[ho];unfold Tr.rn;cases h3:t.op==3 with
 |true=>refine (?_:1+11*1<=2+10*1+_+_+_);exact O3
 |false=>
  cases h4:t.op==4 with
  |true=>refine (?_:1+11*t.D5.length<=2+10*t.D5.length+t.D5.length+_+_);exact O0
  |false=>refine (?_:1+11*0<=2+10*0+_+_+_);exact OZ
theorem ajg(acc:List Tr)(p:Tr):aM (cW acc p)<=aM acc+p.W:=by
 have one:aM (if p.op==2 then acc else acc++[p])<=aM acc+p.W:=by
  cases p.op==2 with
  |true=>refine (?_:aM acc<=_);exact OY
  |false=>refine (?_:aM (acc++[p])<=_);rw[lF];refine (?_:_+(p.W+0)<=_);exact OX
 rcases pO acc with rfl|⟨zs,z,rfl⟩
 ·exact one
 ·cases c:f7 z p with
  |false=>rw[uC c];exact one
  |true=>rw[xH c,lF,lF];refine ak (akx c) λh1 h2=>?_;have a:=Hs h1;have b:=Hs h2;have s:=xI (rs:=z.rn++p.rn) (fl:=z.fl);rw[Es] at s;refine (?_:_+((Tr.A (z.rn++p.rn) z.fl).W+0)<=_+(z.W+0)+_);exact OW b a s
theorem Hw:∀(ps acc:List Tr),aM (ps.foldl cW acc)<=aM acc+aM ps
 |[],acc=>EC _
 |p::ps,acc=>by have:=Hw ps (cW acc p);have:=ajg acc p;refine (?_:aM (ps.foldl cW (cW acc p))<=_+(p.W+aM ps));exact OV this (by assumption)
theorem Bp{a:Tr}{ss:List Tr}{fl:Int}:(bR a ss fl).W<=2+a.W+aM ss:=by have h1:=Bk (ts:=((a::ss).flatMap cf).foldl cW []) (fl:=fl);have h2:=Hw ((a::ss).flatMap cf) [];have h3:=xv (ts:=a::ss);have h3:aM ((a::ss).flatMap cf)<=a.W+aM ss:=h3;have h2:aM (((a::ss).flatMap cf).foldl cW [])<=0+aM ((a::ss).flatMap cf):=h2;unfold bR;exact OU h2 h1 h3
noncomputable def eh(t:Tr)(many:Int):Tr:=if t.op==3&&decide (0<many) then .cR 2 t.fl else if t.op==4 then Tr.A (cx t.D5 (Ss many) M4) t.fl else t
noncomputable def Tr.dW(many:Int):Tr->Tr
 |.mk nd (s::ss)=>if nd.op==5 then bR (s.dW many) ss nd.fl else eh (.mk nd (s::ss)) many
 |.mk nd []=>eh (.mk nd []) many
theorem xF{α:Type}(l:List α)(a b:Option Int):(cx l a b).length<=l.length:=by unfold cx;rw[Zo,Xk];exact OT
theorem xG{α:Type}[Enc α]{l:List α}{a b:Option Int}:cx (l.map (enc:α->AV)) a b=(cx l a b).map enc:=by unfold cx;rw[K4,YU,WQ]
theorem Bl(t:Tr)(m:Int):(eh t m).W<=t.W:=by
 unfold eh;cases t.op==3&&decide (0<m) with
 |true=>refine (?_:2+10*0+0+0+0<=_);rw[t.gu];exact OS
 |false=>
  cases h4:t.op==4 with
  |false=>exact EC _
  |true=>
   refine (?_:(Tr.A (cx t.D5 (Ss m) M4) t.fl).W<=_);have s:=xI (rs:=cx t.D5 (Ss m) M4) (fl:=t.fl);have l:=xF t.D5 (Ss m) M4;have o:t.op=4:=zH h4;have:t.ck=t.D5.length:=by unfold Tr.ck Tr.rn;rw[o];rfl
   rw[t.gu,this];exact OR this s l
theorem Bz{m:Int}{nd:Nd}{s:Tr}{ss:List Tr}(h:(nd.op==5)=WL):(Tr.mk nd (s::ss)).dW m=bR (s.dW m) ss nd.fl:=MS h
theorem BA{m:Int}:∀{t:Tr},(t.op==5)=PO->t.dW m=eh t m
 |.mk nd [],j4=>rfl
 |.mk nd (s::ss),h=>MZ λz=>by rw[show (nd.op==5)=PO from h] at z;exact aX z
theorem HS{m:Int}:∀(t:Tr),(t.dW m).W<=t.W
 |.mk nd []=>Bl _ _
 |.mk nd (s::ss)=>by
  cases z:nd.op==5 with
  |false=>rw[BA (show ((Tr.mk nd (s::ss)).op==5)=PO from z)];exact Bl _ _
  |true=>rw[Bz z];have h1:=Bp (a:=s.dW m) (ss:=ss) (fl:=nd.fl);have h2:=HS (m:=m) s;refine (?_:_<=2+10*_+_+_+(s.W+aM ss));exact Gb h1 h2
class inductive nX:Tr->List Tr->Prop
 |nil {u:Tr}:nX u []
 |cons {nd:Nd}{u:Tr}{ss:List Tr}{bs:List Tr}:(nd.op==5)=WL->(Tr.mk nd (u::ss)).W<=1000000->nX (.mk nd (u::ss)) bs->nX u (.mk nd (u::ss)::bs)
noncomputable def Bn(l:Tr)(bs:List Tr):Tr:=bs.foldl (λl c=>bR l c.H.tail c.fl) l
structure xr(t:Tr)(m:Int)(n:Nat)(x:Tr×List Tr):Prop where
 e:x.1.jO=n
 w:x.1.W<=1000000
 c:nX x.1 x.2
 l:x.2.length+x.1.jO<=1000000
 r:Bn (x.1.dW m) x.2=t.dW m
structure Hp(t:Tr)(m:Int)(x:Tr×List Tr):Prop where
 w:x.1.W<=1000000
 c:nX x.1 x.2
 l:x.2.length<=1000000
 r:Bn (eh x.1 m) x.2=t.dW m
theorem xr.cQ{t:Tr}{m:Int}{n:Nat}{x:Tr×List Tr}(h:xr t m n x)(e:x.1.dW m=eh x.1 m):Hp t m x:=⟨h.w,h.c,Le (oW _ _) h.l,e▸h.r⟩
theorem xr.afi{t:Tr}{m:Int}{n:Nat}{nd:Nd}{s:Tr}{ss bs:List Tr}(h:xr t m n (.mk nd (s::ss),bs))(o:(nd.op==5)=WL):xr t m s.jO (s,.mk nd (s::ss)::bs):=
 ⟨rfl,OO (show 2+10*_+_+_+(s.W+aM ss)<=1000000 from h.w),.cons o h.w h.c,by rw[qR];exact wZ (show bs.length+(s.jO+1)<=1000000 from h.l),by have:=h.r;rw[Bz o] at this;exact this⟩
structure Hq(t:Tr)(m:Int)(ds:List Tr)(left v:Tr):Prop where
 c:nX v ds
 lw:left.W<=v.W
 w:v.W<=1000000
 r:Bn left ds=t.dW m
inductive Hr(t:Tr)(m:Int)(ds:List Tr)(s:Tr×an):Prop
 |mk (v:Tr) (h:Hq t m ds s.1 v)
theorem nX.di{v a:Tr}{ds:List Tr}(c:nX v (a::ds)):∃ss,a.H=v::ss/\a.W<=1000000/\nX a ds:=by cases c with|cons o w c=>exact⟨_,rfl,w,c⟩
structure ajz(t:Tr)(m:Int)(a left:Tr)(ds:List Tr):Prop where
 k:cx a.O (Ss 1) M4=a.H.tail.map enc
 o:a.ok
 j:jw ((left::a.H.tail).flatMap cf)<=1000000
 l:a.H.tail.length+1<=1000000
 n:Hr t m ds (bR left a.H.tail a.fl,.val (enc a))
theorem Hq.jQ{t:Tr}{m:Int}{a left v:Tr}{ds:List Tr}(h:Hq t m (a::ds) left v):ajz t m a left ds:=by
 obtain⟨c,lw,w,r⟩:=h;refine bV (c.di) λss ea w2 c2=>?_;have w3:2+10*a.ck+a.D5.length+a.Bd.length+(v.W+aM ss)<=1000000:=by rw[a.gu,ea] at w2;exact w2
 have et:a.H.tail=ss:=by rw[ea];rfl
 refine⟨by rw[lH,ea];exact xD,g6 w2,?_,?_,a,c2,?_,w2,r⟩
 ·rw[et];exact UE w3 lw Bq (show aM ((left::ss).flatMap cf)<=left.W+aM ss from xv)
 ·rw[et];exact UD mP w3 lw
 ·rw[et,a.gu,ea];exact Gb Bp lw
noncomputable def HO(u:Tr)(m:Int)(bs:List Tr)(s:Tr×an):St:=⟨[.val (enc u),.val (enc m),.own (.lst (bs.reverse.map enc)),.val (enc s.1),s.2],[]⟩
noncomputable def xt(m:Int)(x:Tr×List Tr):St:=⟨[.val (enc x.1),.val (enc m),.own (.lst (x.2.reverse.map enc)),.none,.none],[]⟩
theorem ajx{m:Int}{s u:Tr}{bs:List Tr}:xt m (s,u::bs)=⟨[.val (enc s),.val (enc m),.own (.lst (bs.reverse.map enc++[enc u])),.none,.none],[]⟩:=by unfold xt;rw[Yc,xy]
theorem Hu:∀t:Tr,t.jO<=t.W
 |.mk nd []=>zJ _
 |.mk nd (s::ss)=>by have:=Hu s;refine (?_:s.jO+1<=2+_+_+_+(s.W+aM ss));exact OQ this
theorem Ht{t:Tr}{m:Int}(c:(t.op==3&&decide (0<m))=PO)(c2:(t.op==4)=PO):eh t m=t:=by unfold eh;rw[c,c2];rfl
noncomputable def ajK:FI:=⟨[("re",.loc),("many",.loc),("above",.loc),("left",.loc),("concat",.loc)],["factor_joined","OP_LITERAL","tree_plain","OP_EMPTY","OP_STRING","tree_string","list","OP_CONCAT"],WL⟩
theorem aj2{g:Gx}(G:ED g)(d:Nat):a8 g (d+6) (g.fa 29) (V2 (λt m=>Tr.dW m t) λt m=>t.W<=1000000):=
 .fc (G.K (d:=d+5) (fi:=ajK) 29 rfl (ae (bg 2 (a9 ag)) (ae (lV (cq (bL (tQ G (eA G 0 0) (eG G 7 8 rfl)) (bL (kF (sA G 2 0)) eS))) (ae (eF (g5 2 (E.u 0))) (ae (bg 0 (ax (aB (sA G 2 0) aF))) af))) (ae (bg 3 (E.u 0)) (ae (aJ (cq (bL (tQ G (eA G 0 0) (eG G 1 6 rfl)) (bL (bn O.gt (E.u 1) E.x) eS))) (ae (bg 3 (cV G 2 8 rfl (uy G (d+2)) (aa (eG G 3 5 rfl) (aa (eA G 1 0) ag)))) af) (ae (aJ (tQ G (eA G 0 0) (eG G 4 7 rfl)) (ae (bg 3 (cV G 5 10 rfl (uz G (d+1)) (aa (Lw (lX 6 G.toGOK (G.blt 4 rfl) (eA G 8 0)) (.some (ah 1)) .none) (aa (eA G 1 0) ag)))) af) af) af)) (ae (gF (cH (Lv (ah 2) (nf aF) (λU U h=>h))) (cN 4) (ae (bg 3 (cV G 0 27 rfl (HC G d) (aa (E.u 3) (aa (jG (sA G 2 4) (.some aF) .none) (aa (eA G 1 4) ag))))) af)) (ae (aA (E.u 3)) af))))))) λt m hp G f=>lI (xt m) (xr t m) (xt m) (Hp t m) (uB (f rfl)) t.jO (t,[]) rfl ⟨rfl,hp,.nil,by refine (?_:0+_<=_);exact OP hp (Hu t),rfl⟩
  (λn x h k hk=>match x,h with
   |(.mk nd [],bs),h=>λG f=>aC (nd.op==5) (λc=>hk _ (h.cQ rfl) G (f WL c PO ff PO ff)) λc=>hk _ (h.cQ rfl) G (f PO c PO ff)
   |(.mk nd (s::ss),bs),h=>λG f=>aC (nd.op==5)
    (λc=>f WL c WL tt WL tt (by rw[K4,Xh];exact Le (oW _ _) h.l) (fk (g6 h.w).O) _ rfl s.jO (h.e▸YB _) (.C (s,_) (h.afi c) ajx))
    λc=>hk _ (h.cQ (BA (t:=.mk nd (s::ss)) c)) G (f PO c PO ff))
  λx h G f=>akv (HA f) (HO x.1 m x.2 (eh x.1 m,.none))
   (λK k G f=>aC (x.1.op==3)
    (λc=>aC (decide (m>0)) (λc2=>k G (by rw[show eh x.1 m=.cR 2 x.1.fl by unfold eh;rw[c,show decide (0<m)=WL from c2];rfl];exact f WL c WL c2 WL tt 2 x.1.fl rfl trivial))
     λc2=>k G (by rw[Ht (by rw[c,show decide (0<m)=PO from c2];rfl) (by rw[zH c];rfl)];exact f WL c PO c2 PO ff PO (by rw[zH c];rfl)))
    λc=>aC (x.1.op==4) (λc2=>k G (by rw[show eh x.1 m=.A (cx x.1.D5 (Ss m) M4) x.1.fl by unfold eh;rw[c,c2];rfl];exact f PO c PO ff WL c2 (cM (g6 h.w).D5) (cM (g6 h.w).D5) _ x.1.fl (congrArg (λz=>[AV.lst z,AV.int x.1.fl]) xG.symm) (Le (xF _ _ _) (g6 h.w).D5)))
     λc2=>k G (by rw[Ht (by rw[c];rfl) c2];exact f PO c PO ff PO c2))
   λG f=>gS enc (HO x.1 m x.2) (Hr t m) (f (by rw[K4,Xh];exact h.l)) x.2 (eh x.1 m,.none) (by rw[<- amR,alR]) rfl ⟨x.1,h.c,Bl x.1 m,h.w,h.r⟩
    (λa ds s ⟨v,h⟩ G f=>f h.jQ.o.O s.1 a.H.tail a.fl (by rw[show cx _ _ _=_ from h.jQ.k];rfl) ⟨h.jQ.j,h.jQ.l⟩ (.C _ h.jQ.n rfl))
    λs ⟨v,h⟩ G f=>f (congrArg enc h.r.symm)
abbrev Rg:=List (Int×Int)
noncomputable def bG(rg:Rg)(r:Int):Nat:=(rg.takeWhile λp=>decide (p.2<r)).length
theorem HK{r:Int}:∀{rg:Rg}{k:Nat},k<=rg.length->(∀i p,rg[i]?=Ss p->i<k->p.2<r)->(∀i p,rg[i]?=Ss p->k<=i->¬ p.2<r)->bG rg r=k
 |[],k,h,j4,j5=>(Wv.mp h).symm
 |p::rg,0,j4,j5,h2=>by unfold bG;rw[Wl (by simpa using h2 0 p rfl (EC _))];rfl
 |p::rg,k+1,h,h1,h2=>by have:=HK (rg:=rg) (k:=k) (r:=r) (Yk h) (λi q e l=>h1 (i+1) q e (X3 l)) λi q e l=>h2 (i+1) q e (de l);unfold bG at this ⊢;rw[We (by simpa using h1 0 p rfl (Ym _)),qR,this]
def up(rg:Rg):Prop:=rg.Pairwise λa b=>a.2<b.2
theorem HP{rg:Rg}(h:up rg){i j:Nat}{p q:Int×Int}(hi:rg[i]?=Ss p)(hj:rg[j]?=Ss q)(l:i<=j):p.2<=q.2:=by
 rcases Yz i j with l|l'
 ·refine a7 (sV.mp hi) λa y9=>?_;subst y9;refine a7 (sV.mp hj) λb y9=>?_;subst y9;exact ZE (List.pairwise_iff_getElem.mp h i j a b l)
 ·obtain rfl:=Zc l l';rw[hi] at hj;(have y9:=K6 hj;clear hj;subst y9);exact ZW _
theorem bW{xs:List AV}{x:AV}{k:Nat}{i:Int}(e:xs[k]?=Ss x)(hi:i=k):fY xs i=Ss x:=by subst hi;unfold fY;rw[MS (Yn k),X5];exact e
theorem dn{α:Type}[Enc α]{l:List α}{k:Nat}{x:α}(e:l[k]?=Ss x):(l.map (enc:α->AV))[k]?=Ss (enc x):=by rw[ZZ,e];rfl
structure uq(rg:Rg)(r:Int)(n lo hi:Nat)(x y:Int):Prop where
 ex:x=lo
 ey:y=hi
 e:hi-lo=n
 l:lo<=hi
 h:hi<=rg.length
 h1:∀i p,rg[i]?=Ss p->i<lo->p.2<r
 h2:∀i p,rg[i]?=Ss p->hi<=i->¬ p.2<r
inductive ak4(rg:Rg)(r:Int)(n:Nat)(s:Int×Int×an):Prop
 |mk (lo hi:Nat) (h:uq rg r n lo hi s.1 s.2.1)
noncomputable def Bx(rg:Rg)(r:Int)(s:Int×Int×an):St:=⟨[.val (enc rg),.val (enc r),.val (.int s.1),.val (.int s.2.1),s.2.2],[]⟩
structure ak5(rg:Rg)(r:Int)(n lo hi mid:Nat)(p:Int×Int)(x y:Int):Prop where
 it:fY (rg.map enc) (YM (x+y) 2)=Ss (enc p)
 l1:hi-(mid+1)<n
 l2:mid-lo<n
 kl:decide (p.2<r)=WL->uq rg r (hi-(mid+1)) (mid+1) hi (YM (x+y) 2+1) y
 kh:decide (p.2<r)=PO->uq rg r (mid-lo) lo mid x (YM (x+y) 2)
theorem uq.El{rg:Rg}{r:Int}{n lo hi:Nat}{x y:Int}(a:uq rg r n lo hi x y)(hu:up rg)(c:decide (x<y)=WL):∃mid p,ak5 rg r n lo hi mid p x y:=by
 obtain⟨rfl,rfl,e,l,hh,h1,h2⟩:=a;have c:=qO.mp (zL c);have em:YM ((lo:Int)+(hi:Int)) 2=(((lo+hi) / 2:Nat):Int):=by rw[Int.fdiv_eq_ediv_of_nonneg _ (by decide)];exact Pe
 generalize hm:(lo+hi) / 2=mid at em;have m1:lo<=mid:=Pd hm c;have m2:mid<hi:=Pc hm c m1;have ep:rg[mid]?=Ss rg[mid]:=Zs (Xm m2 hh);refine⟨mid,rg[mid],bW (dn ep) em,Pa hm e m2 c hh,O6 hm e m2 c hh m1,λc2=>?_,λc2=>?_⟩
 ·exact⟨by rw[em];rfl,rfl,rfl,O9 m2 hh,hh,λi p e1 l1=>Y6 (HP hu e1 ep (O8 m2 l1 hh)) (zL c2),h2⟩
 ·exact⟨rfl,em,rfl,m1,O5 m2 hh,h1,λi p e1 l1 z=>of_decide_eq_false c2 (Y6 (HP hu ep e1 l1) z)⟩
theorem uq.cQ{rg:Rg}{r:Int}{n lo hi:Nat}{x y:Int}(a:uq rg r n lo hi x y)(c:decide (x<y)=PO):(bG rg r:Int)=x:=by obtain⟨rfl,rfl,e,l,hh,h1,h2⟩:=a;have c:¬ lo<hi:=λz=>of_decide_eq_false c (qO.mpr z);obtain rfl:lo=hi:=Zc l (VY c);rw[HK hh h1 h2]
noncomputable def akj:FI:=⟨[("ranges",.loc),("rune",.loc),("low",.loc),("high",.loc),("middle",.loc)],["len"],WL⟩
theorem HE{g:Gx}(G:ED g)(d:Nat):a8 g (d+1) (g.fa 0) (V2 (λrg r=>(bG rg r:Int)) λrg U=>sm rg/\up rg):=
 .fc (G.K (d:=d) (fi:=akj) 0 rfl (ae (jE (names:=["low","high"]) (.cons (i:=3) rfl rfl (.cons (i:=2) rfl rfl .nil)) (dg E.x (dg (ax (cG 0 G.toGOK2 (ah 0))) iH)) (λU U N=>jt N 2 3 rfl rfl rfl rfl rfl rfl rfl)) (ae (lV (bn O.lt (E.u 2) (E.u 3)) (ae (bg 4 (bC O.Mr (bC O.e9 (E.u 2) (E.u 3)) E.x)) (ae (aJ (bn O.lt (ax (aB (aB (ah 0) (ah 4)) aF)) (E.u 1)) (ae (bg 2 (bC O.e9 (E.u 4) E.x)) af) (ae (bg 3 (E.u 4)) af)) af))) (ae (aA (E.u 2)) af)))) λrg r ⟨hp,hu⟩ G f=>lI (Bx rg r) (ak4 rg r) (Bx rg r) (λs=>(bG rg r:Int)=s.1) (uB (f rfl (aq hp))) rg.length (0,(rg.length:Nat),.none) (congrArg (λn:Nat=>Bx rg r (0,(n:Int),.none)) (K4 (enc:Int×Int->AV)))
  ⟨0,rg.length,rfl,rfl,rfl,zJ _,EC _,λi p e l=>MQ l (Yr _),λi p e l=>by rw[Xr l] at e;exact aY e⟩
  (λn s ⟨lo,hi,a⟩ k hk G f=>aC (decide (s.1<s.2.1)) (λc=>(a.El hu c).elim λmid ⟨p,q⟩=>aC (decide (p.2<r))
   (λc2=>f WL c (by decide) (by decide) (aq hp) _ q.it f8 _ rfl WL c2 _ q.l1 (.C (YM (s.1+s.2.1) 2+1,s.2.1,.val (.int (YM (s.1+s.2.1) 2))) ⟨_,_,q.kl c2⟩ rfl))
   λc2=>f WL c (by decide) (by decide) (aq hp) _ q.it f8 _ rfl PO c2 _ q.l2 (.C (s.1,YM (s.1+s.2.1) 2,.val (.int (YM (s.1+s.2.1) 2))) ⟨_,_,q.kh c2⟩ rfl))
   λc=>hk s (a.cQ c) G (f PO c))
  λs e G f=>f (congrArg AV.int e)
noncomputable def iA(rg:Rg)(r:Int):Rg:=match rg[bG rg r]? with
 |some p=>if p.1<=r then rg.take (bG rg r)++[(p.1,r)] else rg.take (bG rg r)
 |none=>rg.take (bG rg r)
theorem xE{α:Type}{l:List α}{k:Nat}:cx l M4 (Ss (k:Int))=l.take k:=by refine (?_:(l.drop 0).take ((if (k:Int)<0 then l.length-(-(k:Int)).toNat else min (k:Int).toNat l.length)-0)=l.take k);rw[MZ (tU),List.drop_zero,Nat.sub_zero,X5,<- VJ,X2]
theorem iy{α:Type}[Enc α]{zs:List α}{z:α}:(zs++[z]).map (enc:α->AV)=zs.map enc++[enc z]:=wh
theorem uA{rg:Rg}{r:Int}:bG rg r<=rg.length:=by have:=(alh (l:=rg) λp=>decide (p.2<r)).length_le;exact this
noncomputable def aki:FI:=⟨[("ranges",.loc),("rune",.loc),("found",.loc)],["len","ranges_place"],WL⟩
structure ak0(rg:Rg)(r:Int)(p:Int×Int):Prop where
 c:decide ((((rg.take (bG rg r)).map (enc:Int×Int->AV)).length:Int)<((rg.map (enc:Int×Int->AV)).length:Nat))=WL
 it:fY (rg.map enc) (((rg.take (bG rg r)).map (enc:Int×Int->AV)).length:Int)=Ss (enc p)
 y:decide (p.1<=r)=WL->(enc (iA rg r):AV)=.lst ((rg.take (bG rg r)).map enc++[enc (p.1,r)])
 n:decide (p.1<=r)=PO->(enc (iA rg r):AV)=.lst ((rg.take (bG rg r)).map enc)
theorem xJ{rg:Rg}{r:Int}:(rg.take (bG rg r)).length=bG rg r:=by rw[Zo];exact Z4 uA
theorem pP{rg:Rg}{r:Int}{p:Int×Int}(e:rg[bG rg r]?=Ss p):ak0 rg r p:=by
 refine⟨decide_eq_true (qO.mpr (by rw[K4,K4,xJ];exact (sV.mp e).1)),bW (dn e) (by rw[K4,xJ]),λc=>?_,λc=>?_⟩
 ·unfold iA;rw[e];show enc (if p.1<=r then _ else _)=_;rw[MS (zL c)];exact congrArg AV.lst iy
 ·unfold iA;rw[e];show enc (if p.1<=r then _ else _)=_;rw[MZ (of_decide_eq_false c)];rfl
theorem aje{rg:Rg}{r:Int}(e:rg[bG rg r]?=M4):decide ((((rg.take (bG rg r)).map (enc:Int×Int->AV)).length:Int)<((rg.map (enc:Int×Int->AV)).length:Nat))=PO:=
 decide_eq_false λz=>by rw[K4,K4,xJ] at z;exact Zq.mpr (List.getElem?_eq_none_iff.mp e) (qO.mp z)
theorem aj7{g:Gx}(G:ED g)(d:Nat):a8 g (d+2) (g.fa 1) (V2 iA λrg U=>sm rg/\up rg):=
 .fc (G.K (d:=d+1) (fi:=aki) 1 rfl (ae (bg 2 (ad3 (E.u 0) (cV G 1 0 rfl (HE G d) (aa (E.u 0) (aa (E.u 1) ag))))) (ae (aJ (cq (bL (bn O.lt (ax (cG 0 G.toGOK2 (ah 2))) (ax (cG 0 G.toGOK2 (ah 0)))) (bL (bn O.le (ax (aB (aB (ah 0) (cG 0 G.toGOK2 (ah 2))) aF)) (E.u 1)) eS))) (ae (eF (adV 2 (LV (aB (aB (ah 0) (cG 0 G.toGOK2 (ah 2))) aF) (LV (ah 1) aeb)))) af) af) (ae (aA (E.u 2)) af)))) λrg r ⟨hp,hu⟩ G f=>db (f rfl) ⟨[.val (enc rg),.val (enc r),.own (enc (rg.take (bG rg r)))],[]⟩
  (λK k G f=>k G (by rw[show (enc (rg.take (bG rg r)):AV)=.lst (cx (rg.map enc) M4 (Ss ((bG rg r:Nat):Int))) by rw[xG,xE];rfl];exact f rg r rfl ⟨hp,hu⟩ (cM hp))) <|
  have hs:sm (rg.take (bG rg r)):=Le (by rw[xJ];exact uA) hp
  match e:rg[bG rg r]? with
  |none=>λG f=>f (aq hs) (aq hp) PO (aje e) PO ff (by unfold iA;rw[e];rfl)
  |some p=>λG f=>aC (decide (p.1<=r))
   (λc=>f (aq hs) (aq hp) WL (pP e).c (aq hs) (aq hp) _ (pP e).it f8 _ rfl WL c WL tt (cM hs) (aq hs) (aq hp) _ (pP e).it f8 _ rfl ((pP e).y c))
   λc=>f (aq hs) (aq hp) WL (pP e).c (aq hs) (aq hp) _ (pP e).it f8 _ rfl PO c PO ff ((pP e).n c)
theorem ED.afo{g:Gx}{d:Nat}{fi:FI}{Db:DS}(G:ED g)(c:uo (hO (dG 31 0)) fi (iz (dG 31 0)))(h:jn g d fi (lD (dG 31 0)) Db):
 bQ g (d+1) (g.fa 2) (λxs mem P=>.rq (1=xs.length) (DI fi.nv.length (iz (dG 31 0)).length Db (xs++Zn 1 .none) mem P)):=by
 refine bV (G.dflt) λfd F e1 hb=>?_;exact Hv 1 1 G.toGOK F (c.MK e1) hb h
noncomputable def BL(x:AV):List (Option MO):=[Ss ⟨3,[(17,.own x)]⟩]
abbrev bm(rows:Rg):List (Option MO):=BL (enc rows)
noncomputable def aiU:DC:=iw (α:=Unit) (λU=>[.ref 0]) (λU=>[Ss ⟨3,[]⟩]) (λU=>True) (λU=>.none) λU=>bm []
noncomputable def aiJ:FI:=⟨[("self",.loc),("ranges",.loc)],["list"],WL⟩
theorem air{g:Gx}(G:ED g)(d:Nat):bQ g (d+1) (g.fa 2) aiU:=
 (G.afo (d:=d) (fi:=aiJ) (by decide +kernel) (ae (adh 17 G.toGOK2 (ah 0) (cE (bn O.zl (E.u 1) E.none) (a9 ag) (lX 0 G.toGOK (G.blt 4 rfl) (E.u 1)))) af)).jf λa U G f=>f rfl rfl rfl WL tt rfl rfl
noncomputable def ah5:DC:=iw (α:=Rg) (λU=>[.ref 0]) bm sm enc bm
noncomputable def aiG:FI:=⟨[("self",.loc)],["list"],WL⟩
theorem aip{g:Gx}(G:ED g)(d:Nat):bQ g (d+1) (g.fa 5) ah5:=
 (G.K (d:=d) (fi:=aiG) 5 rfl (ae (aA (adY 0 G.toGOK (G.blt 4 rfl) (sA G 17 0))) af)).jf λrows hs G f=>f rfl (cM hs) rfl rfl
theorem BX{α:Type}{l:List α}{a b:Nat}(h1:a<=b)(h2:b<=l.length):cx l (Ss (a:Int)) (Ss (b:Int))=(l.drop a).take (b-a):=by unfold cx kms_lo kms_hi;dsimp only;rw[MZ (tU),MZ (tU),X5,X5,Z4 h2,Z4 (Le h1 h2)]
theorem BN{α:Type}[Enc α]{l:List α}(h:l≠[]):fY (l.map enc) (-1)=Ss (enc (l.getLast h)):=by have hl:0<l.length:=al9.mpr h;unfold fY;rw[MZ (F9),K4,MS (Pm hl),show ((-1:Int)+(l.length:Nat)).toNat=l.length-1 by exact Pl hl,ZZ,List.getLast_eq_getElem,Zs (Pk hl)];rfl
noncomputable def mn(a b:Int):Int:=if b<a then b else a
noncomputable def mx(a b:Int):Int:=if b>a then b else a
noncomputable def cn(rows:Rg)(lo hi:Int):Rg×Bool:=
 if lo>hi then (rows,PO) else
 match (rows.drop (bG rows (lo-1))).takeWhile λp=>decide (p.1<=hi+1) with
 |[]=>(rows.take (bG rows (lo-1))++[(lo,hi)]++rows.drop (bG rows (lo-1)),WL)
 |p::ps=>if ps.isEmpty&&(decide (p.1<=lo)&&decide (hi<=p.2)) then (rows,PO) else (rows.take (bG rows (lo-1))++[(mn lo p.1,mx hi ((p::ps).getLast (by simp)).2)]++rows.drop (bG rows (lo-1)+(p::ps).length),WL)
theorem IS{α:Type}{c:α->Bool}:∀{l:List α}{k:Nat},k<=l.length->(∀i p,l[i]?=Ss p->i<k->c p=WL)->(∀p,l[k]?=Ss p->c p=PO)->(l.takeWhile c).length=k
 |[],k,h,j4,j5=>(Wv.mp h).symm
 |p::l,0,j4,j5,h2=>by rw[Wl (by rw[h2 p rfl];exact qH)];rfl
 |p::l,k+1,h,h1,h2=>by rw[We (h1 0 p rfl (Ym _)),qR,IS (Yk h) (λi q e l=>h1 (i+1) q e (X3 l)) h2]
theorem ahd{α:Type}{c:α->Bool}{l:List α}:l.take (l.takeWhile c).length=l.takeWhile c:=(List.prefix_iff_eq_take.mp (List.takeWhile_prefix c)).symm
noncomputable def ajV:DC:=iw (α:=Rg×Int×Int) (λa=>[.ref 0,enc a.2.1,enc a.2.2]) (λa=>bm a.1) (λa=>sm a.1/\up a.1) (λa=>.bool (cn a.1 a.2.1 a.2.2).2) λa=>bm (cn a.1 a.2.1 a.2.2).1
noncomputable def aiI:FI:=⟨[("self",.loc),("low",.loc),("high",.loc),("first",.loc),("last",.loc),("met",.loc)],["max","min","len","ranges_place"],WL⟩
structure xL(rows:Rg)(hi:Int)(a n k:Nat):Prop where
 e:rows.length-k=n
 l:a<=k
 h:k<=rows.length
 h1:∀i p,rows[i]?=Ss p->a<=i->i<k->p.1<=hi+1
noncomputable def jx(rows:Rg)(hi:Int)(a:Nat):Rg:=(rows.drop a).takeWhile λp=>decide (p.1<=hi+1)
theorem xL.zy{rows:Rg}{hi:Int}{a n k:Nat}(h:xL rows hi a n k)(hx:∀p,rows[k]?=Ss p->decide (p.1<=hi+1)=PO):k=a+(jx rows hi a).length:=by
 have:(jx rows hi a).length=k-a:=by
  refine IS (by rw[Xk];exact Pj h.h (Le h.l h.h) h.l) (λi p e l=>?_) λp e=>?_
  ·rw[XC] at e;exact decide_eq_true (h.h1 _ _ e (oW _ _) (Ph l h.l))
  ·rw[XC,XE h.l] at e;exact hx p e
 rw[this,XE h.l]
theorem xL.dl{rows:Rg}{hi:Int}{a n k:Nat}{p:Int×Int}(h:xL rows hi a n k)(ep:rows[k]?=Ss p)(c:decide (p.1<=hi+1)=WL):rows.length-(k+1)<n/\xL rows hi a (rows.length-(k+1)) (k+1):=by
 have hk:=(sV.mp ep).1;refine⟨Az h.e hk,rfl,AC h.l,hk,λi q e1 l1 l2=>?_⟩;rcases Yz i k with l3|l3
 ·exact h.h1 i q e1 l1 l3
 ·obtain rfl:=Zc (Y4 l2) l3;rw[ep] at e1;(have y9:=K6 e1;clear e1;subst y9);exact zL c
structure ajd(rows:Rg)(lo hi:Int)(a:Nat)(m:Rg):Prop where
 ml:a+m.length<=rows.length
 pk:(enc m:AV)=.lst (cx (rows.map enc) (Ss (a:Int)) (Ss ((a+m.length:Nat):Int)))
 ms:sm m
 r0:m=[]->cn rows lo hi=(rows.take a++[(lo,hi)]++rows.drop (a+m.length),WL)
 r1:∀p ps,m=p::ps->(ps.isEmpty&&(decide (p.1<=lo)&&decide (hi<=p.2)))=WL->cn rows lo hi=(rows,PO)
 r2:∀p ps (e:m=p::ps),(ps.isEmpty&&(decide (p.1<=lo)&&decide (hi<=p.2)))=PO->cn rows lo hi=(rows.take a++[(mn lo p.1,mx hi (m.getLast (by rw[e];simp)).2)]++rows.drop (a+m.length),WL)
theorem ajU{rows:Rg}{lo hi:Int}(hs:sm rows)(c:decide (lo>hi)=PO):ajd rows lo hi (bG rows (lo-1)) (jx rows hi (bG rows (lo-1))):=by
 have NQ:bG rows (lo-1)<=rows.length:=uA;have er:cn rows lo hi=_:=MZ (of_decide_eq_false c);generalize bG rows (lo-1)=a at er NQ ⊢;have wr:a+(jx rows hi a).length<=rows.length:=by have:=(alh (l:=rows.drop a) λp=>decide (p.1<=hi+1)).length_le;rw[Xk] at this;exact Pg NQ this
 refine⟨wr,congrArg AV.lst ?_,Pf wr hs,λe=>?_,λp ps e c=>?_,λp ps e c=>?_⟩
 ·rw[BX (oW _ _) (by rw[K4];exact wr),Vn,<- WQ,<- YU];unfold jx;rw[ahd]
 ·rw[er];unfold jx at e;simp only[jx,e];rfl
 ·rw[er];unfold jx at e;simp only[e];exact MS c
 ·rw[er];unfold jx at e;simp only[jx,e];exact MZ (by rw[c];exact qH)
theorem xR{rows:Rg}{lo hi l2 h2:Int}{a k:Nat}(h:cn rows lo hi=(rows.take a++[(l2,h2)]++rows.drop k,WL)):bm (cn rows lo hi).1=BL (.lst ((rows.map enc).take a++[enc (l2,h2)]++(rows.map enc).drop k)):=by rw[h,<- YU,<- WQ];show BL (.lst (List.map enc (_++_++_)))=_;rw[wh,wh];rfl
noncomputable def HZ(rows:Rg)(lo hi:Int)(a k:Nat):St:=⟨[.val (.ref 0),.val (enc lo),.val (enc hi),.val (.int a),.val (.int k),.none],bm rows⟩
theorem ajr{rows:Rg}{k:Nat}(c:decide ((k:Int)<((rows.map (enc:Int×Int->AV)).length:Nat))=WL):∃p,rows[k]?=Ss p:=by have c:=qO.mp (zL c);rw[K4] at c;exact⟨_,Zs c⟩
theorem ajs{rows:Rg}{k:Nat}{p:Int×Int}{P:Prop}(c:decide ((k:Int)<((rows.map (enc:Int×Int->AV)).length:Nat))=PO)(e:rows[k]?=Ss p):P:=by have c:=of_decide_eq_false c;rw[K4] at c;exact MQ (qO.mpr (sV.mp e).1) c
theorem BR{g:Gx}(G:ED g)(d:Nat):bQ g (d+2) (g.fa 3) ajV:=
 (G.K (d:=d+1) (fi:=aiI) 3 rfl (ae (aJ (bn O.gt (E.u 1) (E.u 2)) (ae (aA E.cK) af) af) (ae (bg 3 (aem 3 G.toGOK (G.ZV 0 rfl) (HE G d) (sA G 17 0) (vB zb (ah 1) aF))) (ae (bg 4 (E.u 3)) (ae (lV (cq (bL (bn O.lt (E.u 4) (ax (cG 2 G.toGOK2 (sA G 17 0)))) (bL (bn O.le (ax (aB (aB (sA G 17 0) (ah 4)) aF)) (bC O.e9 (E.u 2) E.x)) eS))) (ae (adO 4 E.x) af)) (ae (bg 5 (jG (sA G 17 0) (.some (ah 3)) (.some (ah 4)))) (ae (aJ (cq (bL (tQ G (ax (cG 2 G.toGOK2 (ah 5))) E.x) (bL (bn O.le (ax (aB (aB (ah 5) aF) aF)) (E.u 1)) (bL (bn O.le (E.u 2) (ax (aB (aB (ah 5) aF) aF))) eS)))) (ae (aA E.cK) af) af) (ae (aJ (kF (ah 5)) (ae (jE (names:=["low","high"]) (.cons (i:=2) rfl rfl (.cons (i:=1) rfl rfl .nil)) (dg (LN 1 G.toGOK (G.blt 6 rfl) (aa (E.u 1) (aa (ax (aB (aB (ah 5) aF) aF)) ag))) (dg (adZ 0 G.toGOK (G.blt 5 rfl) (aa (E.u 2) (aa (ax (aB (aB (ah 5) (nf aF)) aF)) ag))) iH)) (λU U N=>jt N 1 2 rfl rfl rfl rfl rfl rfl rfl)) af) af) (ae (aeh 17 G.toGOK2 (ah 0) (ah 3) (ah 4) (a9 (aa (bD (aa (E.u 1) (aa (E.u 2) ag))) ag))) (ae (aA E.cK) af)))))))))).jf λ⟨rows,lo,hi⟩ ⟨hs,hu⟩ G f=>aC (decide (lo>hi)) (λc=>f rfl WL c (by rw[show cn rows lo hi=(rows,PO) from MS (zL c)];rfl) (by rw[show cn rows lo hi=(rows,PO) from MS (zL c)])) λc=>
  lI (HZ rows lo hi (bG rows (lo-1))) (xL rows hi (bG rows (lo-1))) (HZ rows lo hi (bG rows (lo-1))) (λk=>k=bG rows (lo-1)+(jx rows hi (bG rows (lo-1))).length)
   (f rfl PO c rows (lo-1) rfl ⟨hs,hu⟩) _ (bG rows (lo-1)) rfl ⟨rfl,EC _,uA,λi p U l1 l2=>MQ l2 (Zq.mpr l1)⟩
   (λn k h K hK G f=>aC (decide ((k:Int)<((rows.map (enc:Int×Int->AV)).length:Nat)))
    (λc=>(ajr c).elim λp ep=>aC (decide (p.1<=hi+1))
     (λc2=>f (aq hs) WL c (aq hs) _ (bW (dn ep) rfl) f8 _ rfl WL c2 WL tt _ (h.dl ep c2).1 (.C (k+1) (h.dl ep c2).2 rfl))
     λc2=>hK k (h.zy λq e=>by rw[ep] at e;(have y9:=K6 e;clear e;subst y9);exact c2) G (f (aq hs) WL c (aq hs) _ (bW (dn ep) rfl) f8 _ rfl PO c2 PO ff))
    λc=>hK k (h.zy λq e=>ajs c e) G (f (aq hs) PO c PO ff))
   λk ek=>by
    subst ek;have F:=ajU hs c;generalize jx rows hi (bG rows (lo-1))=m at F ⊢;generalize bG rows (lo-1)=a at F ⊢;refine λG f=>db (HA f) ⟨[.val (.ref 0),.val (enc lo),.val (enc hi),.val (.int a),.val (.int (a+m.length:Nat)),.own (enc m)],bm rows⟩ (λK k G f=>k G (by rw[F.pk];exact f (cM hs))) ?_;have e1:(0:Int)<=(a:Nat):=Yn _;have e2:((a:Nat):Int)<=((a+m.length:Nat):Int):=ZF.mpr (oW _ _);have e3:((a+m.length:Nat):Int)<=((rows.map (enc:Int×Int->AV)).length:Nat):=by rw[K4];exact ZF.mpr F.ml
    have e5:1<=1000000:=by decide
    match m,F with
    |[],F=>exact λG f=>f (by decide) PO ff PO ff PO ff e1 e2 e3 (cM hs) e5 (by rw[F.r0 rfl];rfl) (xR (F.r0 rfl))
    |p::q::ps,F=>exact λG f=>f (aq F.ms) PO ff PO ff WL tt (aq F.ms) _ rfl f8 _ rfl (aq F.ms) _ (BN (l:=p::q::ps) (by simp)) f8 _ rfl e1 e2 e3 (cM hs) e5 (by rw[F.r2 p (q::ps) rfl rfl];rfl) (xR (F.r2 p (q::ps) rfl rfl))
    |[p],F=>
     exact λG f=>aC (decide (p.1<=lo))
      (λc=>aC (decide (hi<=p.2))
       (λc2=>f (aq F.ms) WL tt (aq F.ms) _ rfl f8 _ rfl WL c (aq F.ms) _ rfl f8 _ rfl WL c2 WL tt (by rw[F.r1 p [] rfl (by rw[c,c2];rfl)];rfl) (by rw[F.r1 p [] rfl (by rw[c,c2];rfl)]))
       λc2=>f (aq F.ms) WL tt (aq F.ms) _ rfl f8 _ rfl WL c (aq F.ms) _ rfl f8 _ rfl PO c2 PO ff WL tt (aq F.ms) _ rfl f8 _ rfl (aq F.ms) _ (BN (l:=[p]) (by simp)) f8 _ rfl e1 e2 e3 (cM hs) e5 (by rw[F.r2 p [] rfl (by rw[c,c2];rfl)];rfl) (xR (F.r2 p [] rfl (by rw[c,c2];rfl))))
      λc=>f (aq F.ms) WL tt (aq F.ms) _ rfl f8 _ rfl PO c PO ff WL tt (aq F.ms) _ rfl f8 _ rfl (aq F.ms) _ (BN (l:=[p]) (by simp)) f8 _ rfl e1 e2 e3 (cM hs) e5 (by rw[F.r2 p [] rfl (by rw[c];rfl)];rfl) (xR (F.r2 p [] rfl (by rw[c];rfl)))
noncomputable def dq(r:Int):Bool:=(decide (65<=r)&&decide (r<=90))||(decide (97<=r)&&decide (r<=122))
noncomputable def aik:FI:=⟨[("rune",.loc)],[],WL⟩
theorem ahE{g:Gx}(G:ED g)(d:Nat):a8 g (d+1) (g.fa 43) (V1 dq):=
 .fT (G.K (d:=d) (fi:=aik) 43 rfl (ae (aA (oD (vC O.le O.le E.x (E.u 0) E.x) (qt (vC O.le O.le E.x (E.u 0) E.x)))) af)) λr U G f=>aC (decide (65<=r))
  (λc=>aC (decide (r<=90)) (λc2=>f rfl WL c WL c2 (by unfold dq;rw[c,c2];rfl)) λc2=>aC (decide (97<=r)) (λc3=>f rfl WL c PO c2 WL c3 (by unfold dq;rw[c,c2,c3];rfl)) λc3=>f rfl WL c PO c2 PO c3 (by unfold dq;rw[c,c2,c3];rfl))
  λc=>aC (decide (97<=r)) (λc3=>f rfl PO c PO ff WL c3 (by unfold dq;rw[c,c3];rfl)) λc3=>f rfl PO c PO ff PO c3 (by unfold dq;rw[c,c3];rfl)
noncomputable def aP(t:Tr):Bool:=t.op==3||(t.op==20||t.op==12)
noncomputable def aij:FI:=⟨[("re",.loc)],["OP_ANY_CHAR","OP_CLASS","OP_LITERAL"],WL⟩
theorem Iz{g:Gx}(G:ED g)(d:Nat):a8 g (d+1) (g.fa 42) (V1 aP):=
 .fT (G.K (d:=d) (fi:=aij) 42 rfl (ae (aA (oD (cD (dh G.sm) (eA G 0 0) (eG G 2 6 rfl)) (oD (cD (dh G.sm) (eA G 0 0) (eG G 1 23 rfl)) (qt (cD (dh G.sm) (eA G 0 0) (eG G 0 15 rfl)))))) af)) λt U G f=>aC (t.op==3) (λc=>f rfl WL c (by unfold aP;rw[c];rfl)) λc=>aC (t.op==20) (λc2=>f rfl PO c WL c2 (by unfold aP;rw[c,c2];rfl)) λc2=>f rfl PO c PO c2 (by unfold aP;rw[c,c2];rfl)
noncomputable def mR:Rg->Bool
 |[a,b]=>(a.1==a.2)&&((b.1==b.2)&&(decide (65<=a.1)&&(decide (a.1<=90)&&(b.1==a.1+32))))
 |_=>PO
theorem bv:(2:Nat)<2 ^ 62:=by decide
noncomputable def ail:FI:=⟨[("ranges",.loc)],["len"],WL⟩
theorem dI{b:Bool}(h:b=WL):(!b)=PO:=by rw[h];rfl
theorem n7{b:Bool}(h:b=PO):(!b)=WL:=by rw[h];rfl
theorem uJ{a b:Int×Int}{x y:Bool}(c:(a.1==a.2)=x)(c2:(b.1==b.2)=y):mR [a,b]=(x&&(y&&(decide (65<=a.1)&&(decide (a.1<=90)&&(b.1==a.1+32))))):=by rw[<- c,<- c2];rfl
theorem ahF{g:Gx}(G:ED g)(d:Nat):a8 g (d+1) (g.fa 44) (V1 mR sm):=
 .fT (G.K (d:=d) (fi:=ail) 44 rfl (ae (aJ (cq (cY (bn (gk G.sm) (ax (cG 0 G.toGOK2 (ah 0))) E.x) (cY (bn (gk G.sm) (ax (aB (aB (ah 0) aF) aF)) (ax (aB (aB (ah 0) aF) aF))) (cY (bn (gk G.sm) (ax (aB (aB (ah 0) aF) aF)) (ax (aB (aB (ah 0) aF) aF))) iF)))) (ae (aA E.cK) af) af) (ae (aA (sF (vC O.le O.le E.x (ax (aB (aB (ah 0) aF) aF)) E.x) (sG (cD (dh G.sm) (ax (aB (aB (ah 0) aF) aF)) (bC O.e9 (ax (aB (aB (ah 0) aF) aF)) E.x))))) af))) λrg hp=>match rg,hp with
  |[],hp=>λG f=>f rfl (aq hp) WL tt WL tt rfl
  |[j4],hp=>λG f=>f rfl (aq hp) WL tt WL tt rfl
  |j4::j5::j6::j7,hp=>λG f=>f rfl (aq hp) WL tt WL tt rfl
  |[a,b],hp=>λG f=>aC (a.1==a.2) (λc=>aC (b.1==b.2)
   (λc2=>aC (decide (65<=a.1)) (λc3=>aC (decide (a.1<=90))
    (λc4=>f rfl (aq hp) PO ff (aq hp) _ rfl bv _ rfl (aq hp) _ rfl bv _ rfl PO (dI c) (aq hp) _ rfl bv _ rfl (aq hp) _ rfl bv _ rfl PO (dI c2) PO ff (aq hp) _ rfl bv _ rfl WL c3 WL c4 (aq hp) _ rfl bv _ rfl (aq hp) _ rfl bv _ rfl (by rw[uJ c c2,c3,c4];rfl))
    λc4=>f rfl (aq hp) PO ff (aq hp) _ rfl bv _ rfl (aq hp) _ rfl bv _ rfl PO (dI c) (aq hp) _ rfl bv _ rfl (aq hp) _ rfl bv _ rfl PO (dI c2) PO ff (aq hp) _ rfl bv _ rfl WL c3 PO c4 (by rw[uJ c c2,c3,c4];rfl))
    λc3=>f rfl (aq hp) PO ff (aq hp) _ rfl bv _ rfl (aq hp) _ rfl bv _ rfl PO (dI c) (aq hp) _ rfl bv _ rfl (aq hp) _ rfl bv _ rfl PO (dI c2) PO ff (aq hp) _ rfl bv _ rfl PO c3 PO ff (by rw[uJ c c2,c3];rfl))
   λc2=>f rfl (aq hp) PO ff (aq hp) _ rfl bv _ rfl (aq hp) _ rfl bv _ rfl PO (dI c) (aq hp) _ rfl bv _ rfl (aq hp) _ rfl bv _ rfl WL (n7 c2) WL tt (by rw[uJ c c2];rfl))
   λc=>f rfl (aq hp) PO ff (aq hp) _ rfl bv _ rfl (aq hp) _ rfl bv _ rfl WL (n7 c) WL tt (by rw[uJ c rfl];rfl)
theorem ahc{rg:Rg}{r:Int}:(iA rg r).length<=rg.length:=by
 unfold iA;have h:=uA (rg:=rg) (r:=r);cases e:rg[bG rg r]? with
 |none=>dsimp only;rw[Zo];exact Pp h
 |some p=>
  have:=(sV.mp e).1;dsimp only;split
  ·rw[Es,Zo];refine (?_:_+1<=_);exact Po this
  ·rw[Zo];exact Pn this
noncomputable def rQ(r:Rg)(fl:Int):Tr:=match r with
 |[a]=>if a.1==a.2 then .Y a.1 fl else .cls [a] (vT fl (Zi 1))
 |[a,b]=>if mR [a,b] then .Y b.1 (dM fl 1) else .cls [a,b] (vT fl (Zi 1))
 |r=>.cls r (vT fl (Zi 1))
noncomputable def rP(rg:Rg)(fl:Int):Tr:=rQ (if !(vT fl 32==0) then iA rg 255 else rg) fl
noncomputable def aif:FI:=⟨[("ranges",.loc),("flags",.loc)],["tree_class","FOLD_CASE","factor_is_both_cases","tree_literal","len","LATIN1","ranges_up_to","FACTOR_LATIN1_MOST"],WL⟩
noncomputable def mS(rg:Rg)(fl:Int):Rg:=if !(vT fl 32==0) then iA rg 255 else rg
theorem ajn{rg:Rg}{fl:Int}(h:sm rg):sm (mS rg fl):=by
 unfold mS;cases !(vT fl 32==0) with
 |true=>exact Le ahc h
 |false=>exact h
theorem IL{r:Rg}{fl:Int}(h:∀a,r=[a]->(a.1==a.2)=PO)(c:mR r=PO):rQ r fl=.cls r (vT fl (Zi 1)):=match r,h,c with
 |[],j4,j5=>rfl
 |[a],h,j4=>MZ (sW.mp (h a rfl))
 |[a,b],j4,c=>MZ (sW.mp c)
 |j4::j5::j6::j7,j8,U=>rfl
theorem ah0{a b:Int×Int}{fl:Int}(c:mR [a,b]=WL):rQ [a,b] fl=.Y b.1 (dM fl 1):=MS c
theorem ahB{g:Gx}(G:ED g)(d:Nat):a8 g (d+4) (g.fa 45) (V2 rP λrg U=>sm rg/\up rg):=
 .fc (G.K (d:=d+3) (fi:=aif) 45 rfl (ae (aJ (bn (gk G.sm) (bC O.kM (E.u 1) (eG G 5 1 rfl)) E.x) (ae (bg 0 (cV G 6 1 rfl (aj7 G (d+1)) (aa (E.u 0) (aa (eG G 7 31 rfl) ag)))) af) af) (ae (aJ (cq (bL (tQ G (ax (cG 4 G.toGOK2 (ah 0))) E.x) (bL (tQ G (ax (aB (aB (ah 0) aF) aF)) (ax (aB (aB (ah 0) aF) aF))) eS))) (ae (aA (cV G 3 9 rfl (ux G d) (aa (ax (aB (aB (ah 0) aF) aF)) (aa (E.u 1) ag)))) af) af) (ae (aJ (eT (cV G 2 44 rfl (ahF G (d+2)) (aa (E.u 0) ag))) (ae (aA (cV G 3 9 rfl (ux G d) (aa (ax (aB (aB (ah 0) aF) aF)) (aa (bC O.sS (E.u 1) (eG G 1 0 rfl)) ag)))) af) af) (ae (aA (cV G 0 11 rfl (Bv G d) (aa (E.u 0) (aa (bC O.kM (E.u 1) (lT O.dv (eG G 1 0 rfl))) ag)))) af))))) λrg fl ⟨hp,hu⟩ G f=>db (f rfl) ⟨[.val (enc (mS rg fl)),.val (enc fl)],[]⟩
  (λK k G f=>aC (!(vT fl 32==0)) (λc=>k G (by rw[show mS rg fl=iA rg 255 by unfold mS;rw[c];rfl];exact f WL c rg 255 rfl ⟨hp,hu⟩)) λc=>k G (by rw[show mS rg fl=rg by unfold mS;rw[c];rfl];exact f PO c)) <| by
   refine (?_:ok (_:PS));have hs:=ajn (fl:=fl) hp;refine (?_:ok (D.kP _ _ _ (Bg λv U=>.leaf ((enc (rQ (mS rg fl) fl):AV)=v))));generalize mS rg fl=r at hs ⊢
   match r,hs with
   |[],hs=>exact λG f=>f (aq hs) PO ff PO ff _ rfl hs PO rfl _ _ rfl hs rfl
   |[a],hs=>
    exact λG f=>aC (a.1==a.2) (λc=>f (aq hs) WL tt (aq hs) _ rfl bv _ rfl (aq hs) _ rfl bv _ rfl WL c WL tt (aq hs) _ rfl bv _ rfl a.1 fl rfl trivial (congrArg enc (show rQ [a] fl=.Y a.1 fl from MS c)))
     λc=>f (aq hs) WL tt (aq hs) _ rfl bv _ rfl (aq hs) _ rfl bv _ rfl PO c PO ff [a] rfl hs PO rfl [a] _ rfl hs (congrArg enc (IL (λb e=>by (injection e with y9;subst y9);exact c) rfl))
   |[a,b],hs=>
    exact λG f=>aC (mR [a,b]) (λc=>f (aq hs) PO ff PO ff [a,b] rfl hs WL c (aq hs) _ rfl bv _ rfl b.1 _ rfl trivial (congrArg enc (ah0 c)))
     λc=>f (aq hs) PO ff PO ff [a,b] rfl hs PO c [a,b] _ rfl hs (congrArg enc (IL (λb e=>by cases (e)) c))
   |a::b::c::r,hs=>exact λG f=>f (aq hs) PO ff PO ff (a::b::c::r) rfl hs PO rfl (a::b::c::r) _ rfl hs rfl
noncomputable def jv(rows:Rg):Rg->Rg
 |[]=>rows
 |p::rs=>jv (cn rows p.1 p.2).1 rs
def pQ(rows:Rg):Rg->Prop
 |[]=>sm rows/\up rows
 |p::rs=>sm rows/\up rows/\pQ (cn rows p.1 p.2).1 rs
noncomputable def xQ(rows:Rg)(b:Bool):Rg->Bool
 |[]=>b
 |p::rs=>xQ (cn rows p.1 p.2).1 (if (cn rows p.1 p.2).2 then WL else b) rs
noncomputable def ajX:DC:=iw (α:=Rg×Rg) (λa=>[.ref 0,enc a.2]) (λa=>bm a.1) (λa=>pQ a.1 a.2) (λa=>.bool (xQ a.1 PO a.2)) λa=>bm (jv a.1 a.2)
structure BB(A:Rg)(B:Bool)(rs:Rg)(s:Rg×Bool×an×an):Prop where
 o:pQ s.1 rs
 a:A=jv s.1 rs
 b:B=xQ s.1 s.2.1 rs
theorem BB.dl{A:Rg}{B c:Bool}{p:Int×Int}{rs:Rg}{s:Rg×Bool×an×an}{x3 x4:an}(h:BB A B (p::rs) s)(hc:(cn s.1 p.1 p.2).2=c):BB A B rs ((cn s.1 p.1 p.2).1,if c then WL else s.2.1,x3,x4):=⟨h.o.2.2,h.a,hc▸h.b⟩
noncomputable def ajW(rs:Rg)(s:Rg×Bool×an×an):St:=⟨[.val (.ref 0),.val (enc rs),.val (.bool s.2.1),s.2.2.1,s.2.2.2],bm s.1⟩
noncomputable def aiH:FI:=⟨[("self",.loc),("ranges",.loc),("is_new",.loc),("low",.loc),("high",.loc)],[],WL⟩
theorem aiq{g:Gx}(G:ED g)(d:Nat):bQ g (d+3) (g.fa 4) ajX:=
 (G.K (d:=d+2) (fi:=aiH) 4 rfl (ae (bg 2 E.cK) (ae (gF (cH (E.u 1)) (qu (.cons (i:=3) rfl rfl (.cons (i:=4) rfl rfl .nil))) (ae (aJ (eT (zd (G.Zu 0 rfl) (BR G d) (ah 0) (aa (E.u 3) (aa (E.u 4) ag)) (λU=>_))) (ae (bg 2 E.cK) af) af) af)) (ae (aA (E.u 2)) af)))).jf λa ho G f=>gS enc (ajW a.2) (BB (jv a.1 a.2) (xQ a.1 PO a.2)) (f rfl) a.2 (a.1,PO,.none,.none) rfl rfl ⟨ho,rfl,rfl⟩
  (λp rs s h G f=>aC (cn s.1 p.1 p.2).2 (λc=>f (s.1,p.1,p.2) rfl rfl ⟨h.o.1,h.o.2.1⟩ WL c (.C (_,WL,.val (enc p.1),.val (enc p.2)) (h.dl c) rfl)) λc=>f (s.1,p.1,p.2) rfl rfl ⟨h.o.1,h.o.2.1⟩ PO c (.C (_,s.2.1,.val (enc p.1),.val (enc p.2)) (h.dl c) rfl))
  λs h G f=>f (congrArg AV.bool h.b) (congrArg bm h.a)
noncomputable def km(rows:Rg)(t:Tr):Rg:=if t.op==20 then jv rows t.Bd else if t.fold&&dq t.K3 then (cn (cn rows t.K3 t.K3).1 (ar t.K3 32) (ar t.K3 32)).1 else (cn rows t.K3 t.K3).1
def uD(rows:Rg):List Tr->Prop
 |[]=>sm rows/\up rows
 |t::ts=>t.op≠12->(t.op=20->pQ rows t.Bd)/\(t.op≠20->(sm rows/\up rows)/\(dq t.K3=WL->sm (cn rows t.K3 t.K3).1/\up (cn rows t.K3 t.K3).1))/\uD (km rows t) ts
noncomputable def f9(fl:Int)(rows:Rg):List Tr->Tr
 |[]=>rP rows (vT fl (Zi 1))
 |t::ts=>if t.op==12 then t else f9 fl (km rows t) ts
structure rL(fl:Int)(f:Tr)(ts:List Tr)(s:Rg×an):Prop where
 o:uD s.1 ts
 e:f=f9 fl s.1 ts
theorem rL.Ee{fl:Int}{f t:Tr}{ts:List Tr}{s:Rg×an}(h:rL fl f (t::ts) s)(c:(t.op==12)=WL):(enc f:AV)=enc t:=by rw[h.e];exact congrArg enc (MS c)
theorem rL.C{fl:Int}{f t:Tr}{ts:List Tr}{s:Rg×an}(h:rL fl f (t::ts) s)(c:(t.op==12)=PO){r:Rg}{x:an}(e:km s.1 t=r):rL fl f ts (r,x):=
 ⟨e▸(h.o λz=>by rw[z] at c;exact eK c).2.2,by rw[h.e,<- e];exact MZ (sW.mp c)⟩
theorem rL.l6{fl:Int}{f t:Tr}{ts:List Tr}{s:Rg×an}(h:rL fl f (t::ts) s)(c:(t.op==12)=PO)(c2:(t.op==20)=WL):pQ s.1 t.Bd:=(h.o λz=>by rw[z] at c;exact eK c).1 (zH c2)
theorem rL.fg{fl:Int}{f t:Tr}{ts:List Tr}{s:Rg×an}(h:rL fl f (t::ts) s)(c:(t.op==12)=PO)(c2:(t.op==20)=PO):(sm s.1/\up s.1)/\(dq t.K3=WL->sm (cn s.1 t.K3 t.K3).1/\up (cn s.1 t.K3 t.K3).1):=
 (h.o λz=>by rw[z] at c;exact eK c).2.1 λz=>by rw[z] at c2;exact eK c2
theorem aho{rows:Rg}{t:Tr}(c:(t.op==20)=WL):km rows t=jv rows t.Bd:=MS c
theorem IQ{rows:Rg}{t:Tr}(c:(t.op==20)=PO)(c2:(t.fold&&dq t.K3)=PO):km rows t=(cn rows t.K3 t.K3).1:=(MZ (sW.mp c)).trans (MZ (sW.mp c2))
theorem ahp{rows:Rg}{t:Tr}(c:(t.op==20)=PO)(c2:(t.fold&&dq t.K3)=WL):km rows t=(cn (cn rows t.K3 t.K3).1 (ar t.K3 32) (ar t.K3 32)).1:=(MZ (sW.mp c)).trans (MS c2)
noncomputable def ajq(ts:List Tr)(fl:Int)(s:Rg×an):St:=⟨[.val (enc ts),.val (enc fl),.val (.ref 0),s.2],bm s.1⟩
noncomputable def aio:FI:=⟨[("subs",.loc),("flags",.loc),("builder",.loc),("re",.loc)],["factor_single","FOLD_CASE","OP_CLASS","factor_is_letter","OP_ANY_CHAR","RangeBuilder"],WL⟩
theorem ahI{g:Gx}(G:ED g)(d:Nat):a8 g (d+5) (g.fa 46) (V2 (λts fl=>f9 fl [] ts) λts U=>uD [] ts):=
 .fc (G.K (d:=d+4) (fi:=aio) 46 rfl (ae (bg 2 (aeo 5 G.toGOK (G.cls 3 rfl) (air G (d+2)))) (ae (gF (cH (E.u 0)) (cN 3) (ae (aJ (tQ G (eA G 0 3) (eG G 4 15 rfl)) (ae (aA (E.u 3)) af) af) (ae (aJ (tQ G (eA G 0 3) (eG G 2 23 rfl)) (ae (eF (zd (G.Zu 1 rfl) (aiq G (d+1)) (ah 2) (aa (eA G 9 3) ag) (λU=>_))) af) (ae (eF (zd (G.Zu 0 rfl) (BR G (d+2)) (ah 2) (aa (eA G 7 3) (aa (eA G 7 3) ag)) (λU=>_))) (ae (aJ (cq (bL (eT (DK G.fold (Bs G (d+2)) (ah 3))) (bL (eT (cV G 3 43 rfl (ahE G (d+3)) (aa (eA G 7 3) ag))) eS))) (ae (eF (zd (G.Zu 0 rfl) (BR G (d+2)) (ah 2) (aa (bC O.zo (eA G 7 3) E.x) (aa (bC O.zo (eA G 7 3) E.x) ag)) (λU=>_))) af) af) af))) af))) (ae (aA (cV G 0 45 rfl (ahB G d) (aa (ad0 (G.Zu 2 rfl) (aip G (d+3)) (ah 2)  (λU=>_)) (aa (bC O.kM (E.u 1) (lT O.dv (eG G 1 0 rfl))) ag)))) af)))) λts fl ho G f=>gS enc (ajq ts fl) (rL fl (f9 fl [] ts)) (f rfl () rfl rfl trivial rfl) ts ([],.none) rfl rfl ⟨ho,rfl⟩
  (λt ts2 s h G f=>aC (t.op==12) (λc=>f WL c (h.Ee c)) λc=>aC (t.op==20)
   (λc2=>f PO c WL c2 (s.1,t.Bd) rfl rfl (h.l6 c c2) (.C (_,.val (enc t)) (h.C c (aho c2)) rfl))
   λc2=>aC t.fold
    (λc3=>aC (dq t.K3)
     (λc4=>f PO c PO c2 (s.1,t.K3,t.K3) rfl rfl (h.fg c c2).1 (t,_) rfl rfl trivial WL c3 t.K3 rfl trivial WL c4 WL tt (_,_,_) rfl rfl ((h.fg c c2).2 c4) (.C (_,.val (enc t)) (h.C c (ahp c2 (by rw[c3,c4];rfl))) rfl))
     λc4=>f PO c PO c2 (s.1,t.K3,t.K3) rfl rfl (h.fg c c2).1 (t,_) rfl rfl trivial WL c3 t.K3 rfl trivial PO c4 PO ff (.C (_,.val (enc t)) (h.C c (IQ c2 (by rw[c4,X6]))) rfl))
    λc3=>f PO c PO c2 (s.1,t.K3,t.K3) rfl rfl (h.fg c c2).1 (t,_) rfl rfl trivial PO c3 PO ff (.C (_,.val (enc t)) (h.C c (IQ c2 (by rw[c3];rfl))) rfl))
  λs h G f=>f s.1 rfl rfl h.o.1 s.1 _ rfl h.o (by rw[h.e];rfl)
noncomputable def hS(t:Tr):List Tr:=if t.op==6 then t.H else[t]
noncomputable def dR(ts:List Tr):List Tr:=ts.flatMap hS
inductive xO(F l:List Tr)(s:List AV×an):Prop
 |mk (acc:List Tr) (y:s.1=acc.map enc) (w:acc.length+(dR l).length<=1000000) (h:F=acc++dR l)
theorem xO.dl{F l:List Tr}{t:Tr}{s:List AV×an}{x:an}(h:xO F (t::l) s):s.1.length+((hS t).map (enc:Tr->AV)).length<=1000000/\xO F l (s.1++(hS t).map enc,x):=by obtain⟨acc,y,w,h⟩:=h;rw[show dR (t::l)=hS t++dR l from Zw] at w h;rw[Es] at w;exact⟨by rw[y,K4,K4];exact FO w,acc++hS t,by rw[y,wh],by rw[Es];exact Pq w,by rw[h,zx]⟩
theorem xO.oN{F:List Tr}{s:List AV×an}(h:xO F [] s):(enc F:AV)=.lst s.1:=by obtain⟨acc,y,_,h⟩:=h;rw[y,h];exact congrArg (λz=>AV.lst (z.map enc)) (zB acc)
noncomputable def Ig(ts:List Tr)(s:List AV×an):St:=⟨[.val (enc ts),.own (.lst s.1),s.2],[]⟩
noncomputable def aim:FI:=⟨[("subs",.loc),("found",.loc),("re",.loc)],["OP_ALTERNATE"],WL⟩
theorem ahG{g:Gx}(G:ED g)(d:Nat):a8 g (d+1) (g.fa 41) (V1 dR λts=>sm (dR ts)):=
 .fT (G.K (d:=d) (fi:=aim) 41 rfl (ae (bg 1 (a9 ag)) (ae (gF (cH (E.u 0)) (cN 2) (ae (eF (Lu 1 (cE (tQ G (eA G 0 2) (eG G 0 9 rfl)) (eA G 2 2) (a9 (aa (E.u 2) ag))))) af)) (ae (aA (E.u 1)) af)))) λts hp G f=>gS enc (Ig ts) (xO (dR ts)) (f rfl) ts ([],.none) rfl rfl ⟨[],rfl,by rw[Yp,kI];exact hp,rfl⟩
  (λt l s h G f=>aC (t.op==6) (λc=>f WL c (by rw[lH,<- show hS t=t.H from MS c];exact h.dl (x:=.none).1) (.C (s.1++t.O,.val (enc t)) (by rw[lH,<- show hS t=t.H from MS c];exact h.dl.2) rfl))
   λc=>f PO c (by have:=h.dl (x:=.none).1;rw[show hS t=[t] from MZ (sW.mp c)] at this;exact this) (.C (s.1++[enc t],.val (enc t)) (by have:=h.dl (x:=.val (enc t)).2;rw[show hS t=[t] from MZ (sW.mp c)] at this;exact this) rfl))
  λs h G f=>f h.oN
noncomputable def mU(acc:List Tr)(t:Tr):List Tr:=match acc.getLast? with
 |none=>acc++[t]
 |some l=>if t.op==2&&l.op==2 then acc else acc++[t]
noncomputable def pT(ts:List Tr):List Tr:=ts.foldl mU []
theorem aiO{α:Type}{zs:List α}{z:α}:(PO != (zs++[z]).isEmpty)=PO:=by induction zs using K1<;>rfl
structure uE(F l acc:List Tr)(ys:List AV):Prop where
 y:ys=acc.map enc
 w:acc.length+l.length<=1000000
 h:F=l.foldl mU acc
inductive BD(F l:List Tr)(s:List AV×an):Prop
 |mk (acc:List Tr) (h:uE F l acc s.1)
theorem uE.len{F l acc:List Tr}{t:Tr}{ys:List AV}(h:uE F (t::l) acc ys):ys.length<=1000000:=by rw[h.y,K4];exact tP (show acc.length+(l.length+1)<=1000000 from h.w)
theorem uE.vW{F l acc:List Tr}{t:Tr}{ys:List AV}{x:an}(h:uE F (t::l) acc ys)(c:∀z,acc.getLast?=Ss z->(t.op==2&&z.op==2)=PO):BD F l (ys++[enc t],x):=by
 have e:mU acc t=acc++[t]:=by
  unfold mU;cases hl:acc.getLast? with
  |none=>rfl
  |some z=>exact MZ (sW.mp (c z hl))
 exact⟨acc++[t],by rw[h.y];exact iy.symm,by rw[Es];exact wZ (show acc.length+(l.length+1)<=1000000 from h.w),by rw[<- e];exact h.h⟩
theorem uE.Ep{F l zs:List Tr}{z t:Tr}{ys:List AV}{x:an}(h:uE F (t::l) (zs++[z]) ys)(c:(t.op==2)=WL)(c2:(z.op==2)=WL):BD F l (ys,x):=by
 have e:mU (zs++[z]) t=zs++[z]:=by unfold mU;rw[XG];exact MS (by rw[c,c2];rfl)
 exact⟨zs++[z],h.y,FN (show (zs++[z]).length+(l.length+1)<=1000000 from h.w),by rw[<- e];exact h.h⟩
theorem uE.dN{F l zs:List Tr}{z:Tr}{ys:List AV}(h:uE F l (zs++[z]) ys):ys=zs.map enc++[enc z]:=h.y.trans iy
theorem H5{ys zs:List AV}{z:AV}(h:ys=zs++[z]):(PO != ys.isEmpty)=PO:=by rw[h];exact aiO
noncomputable def ain:FI:=⟨[("subs",.loc),("found",.loc),("re",.loc)],["OP_EMPTY"],WL⟩
theorem ahH{g:Gx}(G:ED g)(d:Nat):a8 g (d+1) (g.fa 48) (V1 pT sm):=
 .fT (G.K (d:=d) (fi:=ain) 48 rfl (ae (bg 1 (a9 ag)) (ae (gF (cH (E.u 0)) (cN 2) (ae (aJ (cq (cY (bn (gk G.sm) (eA G 0 2) (eG G 0 5 rfl)) (cY (aec (ah 1)) (cY (bn (gk G.sm) (ax (vA 0 G.toGOK2 (aB (ah 1) (nf aF)))) (eG G 0 5 rfl)) iF)))) (ae (eF (g5 1 (E.u 2))) af) af) af)) (ae (aA (E.u 1)) af)))) λts hp G f=>gS enc (Ig ts) (BD (pT ts)) (f rfl) ts ([],.none) rfl rfl ⟨[],rfl,by rw[Yp,kI];exact hp,rfl⟩
  (λt l s ⟨acc,h⟩ G f=>aC (t.op==2)
   (λc=>(pO acc).elim (λe=>by subst e;exact f PO (dI c) WL (by rw[h.y];rfl) WL tt h.len (.C (s.1++[enc t],.val (enc t)) (h.vW λz e=>by exact aY e) rfl))
    λ⟨zs,z,e⟩=>by
     subst e;exact aC (z.op==2) (λc2=>f PO (dI c) PO (H5 h.dN) (fk h.len) _ (pN h.dN) PO (dI c2) PO ff (.C (s.1,.val (enc t)) (h.Ep c c2) rfl))
      λc2=>f PO (dI c) PO (H5 h.dN) (fk h.len) _ (pN h.dN) WL (n7 c2) WL tt h.len (.C (s.1++[enc t],.val (enc t)) (h.vW λw e=>by rw[XG] at e;(have y9:=K6 e;clear e;subst y9);rw[c2,X6]) rfl))
   λc=>f WL (n7 c) WL tt h.len (.C (s.1++[enc t],.val (enc t)) (h.vW λz U=>by rw[c];rfl) rfl))
  λs ⟨acc,h⟩ G f=>f (show (enc (pT ts):AV)=.lst s.1 by rw[h.y,h.h];rfl)
noncomputable def n5(fl:Int)(p:Tr)(g:List Tr):Tr:=if g.isEmpty then p else f9 fl [] (p::g)
noncomputable def iB(fl:Int)(p:Tr)(g:List Tr):List Tr->List Tr
 |[]=>[n5 fl p g]
 |t::ts=>if aP p&&aP t then iB fl p (g++[t]) ts else n5 fl p g::iB fl t [] ts
noncomputable def iV(fl:Int):List Tr->List Tr
 |[]=>[]
 |t::ts=>iB fl t [] ts
noncomputable def H4(p:Tr):List Tr->Bool
 |[]=>PO
 |t::j4=>aP p&&aP t
def xP(ts:List Tr):Prop:=sm ts/\∀l:List Tr,l <:+: ts->(∀t∈l,aP t=WL)->uD [] l
theorem xS{α:Type}{a:List α}{x:α}{b:List α}:(a++x::b)[a.length]?=Ss x:=by simp
noncomputable def aig:FI:=⟨[("subs",.loc),("flags",.loc),("found",.loc),("start",.loc),("at",.loc)],["range","len","factor_class","factor_is_sign"],WL⟩
structure eO(ts pre:List Tr)(p:Tr)(g rest:List Tr)(b:Nat):Prop where
 e:ts=pre++((p::g)++rest)
 b:b=pre.length+(g.length+1)
section
variable {ts pre g rest r:List Tr}{p t:Tr}{b:Nat}
theorem eO.len(G:eO ts pre p g rest b):ts.length=b+rest.length:=by rw[G.e,G.b,Es,Es,qR,Yj pre.length]
theorem eO.md(G:eO ts pre p g rest b):ts[pre.length]?=Ss p:=by rw[G.e];exact xS
theorem eO.nA(G:eO ts pre p g (t::r) b):ts[b]?=Ss t:=by
 have e:ts=(pre++(p::g))++t::r:=by rw[G.e,zx]
 have l:(pre++(p::g)).length=b:=by rw[Es,qR,G.b]
 rw[e,<- l];exact xS
theorem eO.lt(G:eO ts pre p g rest b):decide ((b:Int)<((ts.map (enc:Tr->AV)).length:Nat))=!rest.isEmpty:=by
 rw[K4,G.len];induction rest using K1 with
 |nil=>exact decide_eq_false (Int.lt_irrefl _)
 |cons t r=>exact decide_eq_true (qO.mpr (Nat.lt_add_of_pos_right (Xb _)))
theorem eO.more(G:eO ts pre p g (t::r) b):eO ts pre p (g++[t]) r (b+1):=
 ⟨by rw[G.e,aU,aU,zx];rfl,by rw[G.b,Es];rfl⟩
theorem eO.dl(G:eO ts pre p g (t::r) b):eO ts (pre++(p::g)) t [] r (b+1)/\(pre++(p::g)).length=b:=by
 have l:(pre++(p::g)).length=b:=by rw[Es,qR,G.b]
 exact⟨⟨by rw[G.e,zx];rfl,by rw[l];rfl⟩,l⟩
theorem eO.Eu(G:eO ts pre p g rest b):Mine.Internal.cx (ts.map (enc:Tr->AV)) (Ss (pre.length:Int)) (Ss (b:Int))=(p::g).map enc:=by rw[BX (by rw[G.b];exact oW _ _) (by rw[K4,G.len];exact oW _ _),<- WQ,<- YU];refine congrArg (List.map enc) ?_;rw[G.e,WN,G.b,Vn];exact List.take_left' rfl
theorem eO.vX(G:eO ts pre p g rest b):(p::g) <:+: ts:=⟨pre,rest,by rw[G.e,zx]⟩
theorem eO.fg(G:eO ts pre p g rest b):((b:Int)-(pre.length:Int)==1)=g.isEmpty:=by
 rw[G.b,Int.natCast_add,Int.add_comm,XI];induction g using K1 with
 |nil=>rfl
 |cons t g=>exact beq_eq_false_iff_ne.mpr λz=>by have:(t::g).length+1=1:=Int.ofNat_inj.mp z;cases this
theorem eO.sm(G:eO ts pre p g rest b)(h:Mine.Internal.sm ts){acc:List Tr}(w:acc.length<=pre.length):acc.length<=1000000:=
 Le w (Le (by rw[G.e,Es];exact oW _ _) h)
theorem eO.Et(t:Tr)(ts:List Tr):eO (t::ts) [] t [] ts 1:=⟨rfl,rfl⟩
end
theorem BY{α:Type}[Enc α](t:α)(ts:List α):((((t::ts).map (enc:α->AV)).length:Int)+1-1).toNat=ts.length+1:=by rw[XI,K4];rfl
abbrev IJ(ts:List Tr)(fl:Int)(acc:List Tr)(a:Nat)(x:an):St:=⟨[.val (enc ts),.val (enc fl),.own (enc acc),.val (.int a),x],[]⟩
theorem ah1{g:List Tr}{p t:Tr}(s:g=[]∨∀t∈p::g,aP t=WL)(c1:aP p=WL)(c2:aP t=WL):∀u∈p::(g++[t]),aP u=WL:=by
 intro u hu;rw[<- aU] at hu;rcases bT.mp hu with hu|hu
 ·exact s.elim (λz=>by rw[z] at hu;rw[wm.mp hu];exact c1) λs=>s u hu
 ·rw[wm.mp hu];exact c2
inductive ajZ(ts:List Tr)(fl:Int)(F:List Tr)(i:Int)(n:Nat)(s:List Tr×Nat×an):Prop
 |mk (pre:List Tr) (p:Tr) (g rest:List Tr) (b:Nat) (G:eO ts pre p g rest b) (ei:i=b) (en:n=rest.length) (ea:s.2.1=pre.length) (w:s.1.length<=pre.length) (sg:g=[]∨∀t∈p::g,aP t=WL) (h:F=s.1++iB fl p g rest)
def BI(ts:List Tr)(fl:Int)(F:List Tr)(i:Int):Nat->List Tr×Nat×an->Prop
 |0,s=>F=s.1
 |n+1,s=>ajZ ts fl F i n s
noncomputable def B3(ts:List Tr)(fl:Int)(s:List Tr×Nat×an):St:=IJ ts fl s.1 s.2.1 s.2.2
section
variable {ts pre g rest r acc F:List Tr}{p t:Tr}{b:Nat}{fl:Int}{x:an}
theorem eO.Ek(G:eO ts pre p g (t::r) b)(w:acc.length<=pre.length)(sg:g=[]∨∀t∈p::g,aP t=WL)(h:F=acc++iB fl p g (t::r))(c1:aP p=WL)(c2:aP t=WL):BI ts fl F ((b:Int)+1) (t::r).length (acc,pre.length,x):=
 ⟨pre,p,g++[t],r,b+1,G.more,rfl,rfl,rfl,w,.inr (ah1 sg c1 c2),by rw[h];exact congrArg (acc++·) (MS (by rw[c1,c2];rfl))⟩
theorem eO.MU(G:eO ts pre p g rest b)(w:acc.length<=pre.length)(h:F=acc++iB fl p g rest)(c:H4 p rest=PO):BI ts fl F ((b:Int)+1) rest.length (acc++[n5 fl p g],b,x):=by
 induction rest using K1 with
 |nil=>exact h
 |cons t r=>refine ak (G.dl) λG2 l=>?_;refine⟨pre++(p::g),t,[],r,b+1,G2,rfl,rfl,l.symm,by rw[Es,l,G.b];exact Zh w (oJ _ _),.inl rfl,?_⟩;rw[h,zx];exact congrArg (acc++·) (MZ (sW.mp c))
theorem IK{u:Tr}:B3 ts fl (acc++[u],b,x)=⟨[.val (enc ts),.val (enc fl),.own (.lst (acc.map enc++[enc u])),.val (.int b),x],[]⟩:=by refine (?_:IJ _ _ _ _ _=_);rw[<- iy];rfl
end
theorem IA{g:Gx}(G:ED g)(d:Nat):a8 g (d+6) (g.fa 47) (V2 (λts fl=>iV fl ts) λts U=>xP ts):=
 .fc (G.K (d:=d+5) (fi:=aig) 47 rfl (ae (jE (names:=["found","start"]) (.cons (i:=3) rfl rfl (.cons (i:=2) rfl rfl .nil)) (dg (a9 ag) (dg E.x iH)) (λU U N=>jt N 2 3 rfl rfl rfl rfl rfl rfl rfl)) (ae (gF (DH 0 G.toGOK (G.blt 7 rfl) (aa E.x (aa (bC O.e9 (ax (cG 1 G.toGOK2 (ah 0))) E.x) ag))) (cN 4) (ae (aJ (cq (bL (bn O.lt (E.u 4) (ax (cG 1 G.toGOK2 (ah 0)))) (bL (eT (cV G 3 42 rfl (Iz G (d+4)) (aa (ax (aB (ah 0) (ah 3))) ag))) (bL (eT (cV G 3 42 rfl (Iz G (d+4)) (aa (ax (aB (ah 0) (ah 4))) ag))) eS)))) (ae Dw af) af) (ae (eF (g5 2 (cE (tQ G (bC O.zn (E.u 4) (E.u 3)) E.x) (ax (aB (ah 0) (ah 3))) (cV G 2 46 rfl (ahI G d) (aa (jG (ah 0) (.some (ah 3)) (.some (ah 4))) (aa (E.u 1) ag)))))) (ae (bg 3 (E.u 4)) af)))) (ae (aA (E.u 2)) af)))) λts fl ⟨hp,hc⟩ G f=>by
  refine Bo (B3 ts fl) (BI ts fl (iV fl ts)) (f rfl (aq hp) ⟨by decide,by decide,AB (cM hp),AA (cM hp)⟩) ([],0,.none) rfl ?_ (λi n s h=>?_) λi s h G f=>f (congrArg enc h)
  ·match ts with
   |[]=>rfl
   |t::ts=>rw[BY];exact⟨[],t,[],ts,1,.Et t ts,rfl,rfl,rfl,EC _,.inl rfl,rfl⟩
  ·obtain⟨acc,a,x⟩:=s;obtain⟨pre,p,g,rest,b,G,rfl,rfl,ea,w,sg,h⟩:=h;obtain rfl:a=_:=ea;cases c:H4 p rest with
   |true=>
    induction rest using K1 with
    |nil=>exact aX c
    |cons t r=>refine ak (zA.mp (show (aP p&&aP t)=WL from c)) λc1 c2=>?_;exact λG' f=>f (aq hp) WL G.lt (aq hp) _ (bW (dn G.md) rfl) p rfl trivial WL c1 (aq hp) _ (bW (dn G.nA) rfl) t rfl trivial WL c2 WL tt (.C (acc,pre.length,.val (.int b)) (G.Ek w sg h c1 c2) rfl)
   |false=>
    refine λG' f=>db f (B3 ts fl (acc,pre.length,.val (.int b))) (λK k=>?_) λG' f=>aC g.isEmpty
     (λc1=>f (by rw[K4];exact G.sm hp w) WL (G.fg.trans c1) (aq hp) _ (bW (dn G.md) rfl) (.C (_,b,.val (.int b)) (G.MU w h c) (IK.trans (by rw[show n5 fl p g=p from MS c1];rfl))))
     λc1=>f (by rw[K4];exact G.sm hp w) PO (G.fg.trans c1) (cM hp) (p::g) fl (congrArg (λx=>[AV.lst x,AV.int fl]) G.Eu.symm) (hc _ G.vX (sg.resolve_left λz=>by rw[z] at c1;exact eK c1))
      (.C (_,b,.val (.int b)) (G.MU w h c) (IK.trans (by rw[show n5 fl p g=f9 fl [] (p::g) from MZ (sW.mp c1)];rfl)))
    induction rest using K1 with
    |nil=>exact λG' f=>k G' (f (aq hp) PO G.lt PO ff)
    |cons t r=>
     exact λG' f=>aC (aP p)
      (λc1=>k G' (f (aq hp) WL G.lt (aq hp) _ (bW (dn G.md) rfl) p rfl trivial WL c1 (aq hp) _ (bW (dn G.nA) rfl) t rfl trivial PO (by have c:(aP p&&aP t)=PO:=c;rw[c1] at c;exact c) PO ff))
      λc1=>k G' (f (aq hp) WL G.lt (aq hp) _ (bW (dn G.md) rfl) p rfl trivial PO c1 PO ff)
noncomputable def ai5:FI:=⟨[],[],WL⟩
theorem ahL{g:Gx}(G:ED g)(d:Nat):a8 g (d+1) (g.fa 51) (V0 [(29403:Int),57,66]):=
 .MJ (G.K (d:=d) (fi:=ai5) 51 rfl (ae (aA (a9 (aa E.x (aa E.x (aa E.x ag))))) af)) λG f=>f rfl rfl
noncomputable def pV:List Int:=[12,13,1,14,15,18,19,16,17]
noncomputable def ai7:FI:=⟨[],["OP_NO_WORD","OP_WORD","OP_END_TEXT","OP_BEGIN_TEXT","OP_END_LINE","OP_BEGIN_LINE","OP_NO_MATCH","OP_ANY_BYTE","OP_ANY_CHAR"],WL⟩
theorem ahN{g:Gx}(G:ED g)(d:Nat):a8 g (d+1) (g.fa 52) (V0 pV):=
 .MJ (G.K (d:=d) (fi:=ai7) 52 rfl (ae (aA (a9 (aa (eG G 8 15 rfl) (aa (eG G 7 16 rfl) (aa (eG G 6 4 rfl) (aa (eG G 5 17 rfl) (aa (eG G 4 18 rfl) (aa (eG G 3 21 rfl) (aa (eG G 2 22 rfl) (aa (eG G 1 19 rfl) (aa (eG G 0 20 rfl) ag))))))))))) af)) λG f=>f rfl rfl
noncomputable def mT(n:Int):List Int->List Int
 |[]=>[]
 |b::bs=>n.fmod b::mT (n.fdiv b) bs
inductive xM(F l:List Int)(s:Int×List AV×an):Prop
 |mk (acc:List Int) (y:s.2.1=acc.map enc) (w:acc.length+l.length<=1000000) (o:∀b∈l,b≠0/\b.natAbs<1073741824) (h:F=acc++mT s.1 l)
theorem xM.dl{F l:List Int}{b:Int}{s:Int×List AV×an}{x:an}(h:xM F (b::l) s):s.2.1.length<=1000000/\(b≠0/\b.natAbs<1073741824)/\xM F l (s.1.fdiv b,s.2.1++[enc (s.1.fmod b)],x):=by obtain⟨acc,y,w,o,h⟩:=h;have w:acc.length+(l.length+1)<=1000000:=w;exact⟨by rw[y,K4];exact tP w,o b (.head _),acc++[s.1.fmod b],by rw[y];exact iy.symm,by rw[Es];exact wZ w,λb hb=>o b (.tail _ hb),by rw[h,zx];rfl⟩
theorem xM.oN{F:List Int}{s:Int×List AV×an}(h:xM F [] s):(enc F:AV)=.lst s.2.1:=by obtain⟨acc,y,_,_,h⟩:=h;rw[y,h];exact congrArg (λz=>AV.lst (z.map enc)) (zB acc)
noncomputable def ajm(bs:List Int)(s:Int×List AV×an):St:=⟨[.val (enc s.1),.val (enc bs),.own (.lst s.2.1),s.2.2],[]⟩
noncomputable def aiF:FI:=⟨[("number",.loc),("bases",.loc),("found",.loc),("base",.loc)],[],WL⟩
theorem Iw{g:Gx}(G:ED g)(d:Nat):a8 g (d+1) (g.fa 53) (V2 mT λU bs=>sm bs/\∀b∈bs,b≠0/\b.natAbs<1073741824):=
 .fc (G.K (d:=d) (fi:=aiF) 53 rfl (ae (bg 2 (a9 ag)) (ae (gF (cH (E.u 1)) (cN 3) (ae (eF (g5 2 (bC O.Eb (E.u 0) (E.u 3)))) (ae (bg 0 (bC O.Mr (E.u 0) (E.u 3))) af))) (ae (aA (E.u 2)) af)))) λn bs ⟨hp,ho⟩ G f=>gS enc (ajm bs) (xM (mT n bs)) (f rfl) bs (n,[],.none) rfl rfl ⟨[],rfl,by rw[Yp,kI];exact hp,ho,rfl⟩
  (λb l s h G f=>f (h.dl (x:=.none)).1 (h.dl (x:=.none)).2.1.1 (h.dl (x:=.none)).2.1.1 (h.dl (x:=.none)).2.1.2 (.C (_,_,.val (enc b)) h.dl.2.2 rfl))
  λs h G f=>f h.oN
noncomputable def cp(r:Int):Int:=if (decide (65<=r)&&decide (r<=90))=WL then r+32 else r
noncomputable def ai4:FI:=⟨[("rune",.loc)],[],WL⟩
theorem BW{g:Gx}(G:ED g)(d:Nat):a8 g (d+1) (g.fa 56) (V1 cp):=
 .fT (G.K (d:=d) (fi:=ai4) 56 rfl (ae (aA (cE (DO O.le O.le E.x (E.u 0) E.x) (bC O.e9 (E.u 0) E.x) (E.u 0))) af)) λr U G f=>aC (decide (65<=r)) (λc=>aC (decide (r<=90)) (λc2=>f rfl WL c WL c2 (by unfold cp;rw[c,c2];rfl)) λc2=>f rfl WL c PO c2 (by unfold cp;rw[c,c2];rfl))
  λc=>f rfl PO c PO ff (by unfold cp;rw[c];rfl)
noncomputable def cX(Ps:Rg)(i:Int):Int:=(Ps[i.toNat]?.getD (0,0)).1
noncomputable def pU(Ps:Rg)(i:Int):Bool:=(decide (0<=i)&&decide (i<Ps.length))&&(decide (97<=cp (cX Ps i))&&decide (cp (cX Ps i)<=122))
theorem uQ{Ps:Rg}{i:Int}(c:0<=i)(c2:i<Ps.length):∃p:Int×Int,fY (Ps.map enc) i=Ss (enc p)/\cX Ps i=p.1:=by refine a7 (ZJ c) λk y9=>?_;subst y9;have e:Ps[k]?=Ss Ps[k]:=Zs (qO.mp c2);exact⟨_,bW (dn e) rfl,by unfold cX;rw[show ((k:Int)).toNat=k from rfl,e];rfl⟩
theorem xX{Ps:Rg}{i:Int}{b:Bool}(c:decide (i<((Ps.map (enc:Int×Int->AV)).length:Nat))=b):decide (i<Ps.length)=b:=by rw[K4] at c;exact c
theorem xU{Ps:Rg}{i:Int}{b1 b2:Bool}(c:decide (0<=i)=b1)(c2:decide (i<Ps.length)=b2):pU Ps i=((b1&&b2)&&(decide (97<=cp (cX Ps i))&&decide (cp (cX Ps i)<=122))):=by unfold pU;rw[c,c2]
noncomputable def aiA:FI:=⟨[("page",.loc),("at",.loc)],["_law_small","len"],WL⟩
theorem Iy{g:Gx}(G:ED g)(d:Nat):a8 g (d+2) (g.fa 57) (V2 pU λPs U=>sm Ps):=
 .fc (G.K (d:=d+1) (fi:=aiA) 57 rfl (ae (aA (sF (vC O.le O.lt E.x (E.u 1) (ax (cG 1 G.toGOK2 (ah 0)))) (sG (vC O.le O.le E.x (cV G 0 56 rfl (BW G d) (aa (ax (aB (aB (ah 0) (ah 1)) aF)) ag)) E.x)))) af)) λPs i hp G f=>aC (decide (0<=i))
  (λc=>aC (decide (i<((Ps.map (enc:Int×Int->AV)).length:Nat)))
   (λc2=>(uQ (zL c) (zL (xX c2))).elim λp ⟨it,e⟩=>aC (decide (97<=cp p.1))
    (λc3=>f rfl WL c (aq hp) WL c2 (aq hp) _ it bv _ rfl p.1 rfl trivial WL c3 (by rw[xU c (xX c2),e,c3];rfl))
    λc3=>f rfl WL c (aq hp) WL c2 (aq hp) _ it bv _ rfl p.1 rfl trivial PO c3 (by rw[xU c (xX c2),e,c3];rfl))
   λc2=>f rfl WL c (aq hp) PO c2 (by rw[xU c (xX c2)];rfl))
  λc=>f rfl PO c PO ff (by rw[xU c rfl];rfl)
noncomputable def hU(op:Int)(Ps:Rg)(i:Int):Bool:=
 if (op==18||op==19)=WL then i==(if (op==18)=WL then 0 else (Ps.length:Int)) else
 if (op==14)=WL then i==0||cX Ps (i-1)==10 else
 if (op==15)=WL then i==(Ps.length:Int)||cX Ps i==10 else
 (!(pU Ps (i-1)==pU Ps i))==(op==16)
theorem IP{op i:Int}{Ps:Rg}(c:(op==18||op==19)=WL):hU op Ps i=(i==(if (op==18)=WL then 0 else (Ps.length:Int))):=MS c
theorem IN{op i:Int}{Ps:Rg}(c:(op==18)=PO)(c2:(op==19)=PO)(c3:(op==14)=WL):hU op Ps i=(i==0||cX Ps (i-1)==10):=by unfold hU;rw[c,c2,c3];rfl
theorem IO{op i:Int}{Ps:Rg}(c:(op==18)=PO)(c2:(op==19)=PO)(c3:(op==14)=PO)(c4:(op==15)=WL):hU op Ps i=(i==(Ps.length:Int)||cX Ps i==10):=by unfold hU;rw[c,c2,c3,c4];rfl
theorem ahq{op i:Int}{Ps:Rg}(c:(op==18)=PO)(c2:(op==19)=PO)(c3:(op==14)=PO)(c4:(op==15)=PO):hU op Ps i=((!(pU Ps (i-1)==pU Ps i))==(op==16)):=by unfold hU;rw[c,c2,c3,c4];rfl
theorem n6{Ps:Rg}:((Ps.map (enc:Int×Int->AV)).length:Int)=(Ps.length:Int):=by rw[K4]
noncomputable def ai3:FI:=⟨[("op",.loc),("page",.loc),("at",.loc)],["_law_is_word","OP_WORD","OP_END_LINE","len","OP_BEGIN_LINE","OP_END_TEXT","OP_BEGIN_TEXT"],WL⟩
theorem ahK{g:Gx}(G:ED g)(d:Nat):a8 g (d+3) (g.fa 58) (V3 hU λU Ps i=>sm Ps/\0<=i/\i<=Ps.length):=
 .zv (G.K (d:=d+2) (fi:=ai3) 58 rfl (ae (aJ (cq (cY (tQ G (E.u 0) (eG G 6 21 rfl)) (cY (tQ G (E.u 0) (eG G 5 22 rfl)) iF))) (ae (aA (cD (dh G.sm) (E.u 2) (cE (tQ G (E.u 0) (eG G 6 21 rfl)) E.x (ax (cG 3 G.toGOK2 (ah 1)))))) af) af) (ae (aJ (tQ G (E.u 0) (eG G 4 17 rfl)) (ae (aA (oD (cD (dh G.sm) (E.u 2) E.x) (qt (cD (dh G.sm) (ax (aB (aB (ah 1) (vB zb (ah 2) aF)) aF)) E.x)))) af) af) (ae (aJ (tQ G (E.u 0) (eG G 2 18 rfl)) (ae (aA (oD (cD (dh G.sm) (E.u 2) (ax (cG 3 G.toGOK2 (ah 1)))) (qt (cD (dh G.sm) (ax (aB (aB (ah 1) (ah 2)) aF)) E.x)))) af) af) (ae (aA (cD (dh G.sm) (cD (gk G.sm) (cV G 0 57 rfl (Iy G d) (aa (E.u 1) (aa (bC O.zn (E.u 2) E.x) ag))) (cV G 0 57 rfl (Iy G d) (aa (E.u 1) (aa (E.u 2) ag)))) (cD (dh G.sm) (E.u 0) (eG G 1 19 rfl)))) af))))) λop Ps i ⟨hp,h0,h1⟩ G f=>aC (op==18)
  (λc=>f rfl WL c WL tt WL c (by rw[IP (by rw[c];rfl),c];rfl)) λc=>aC (op==19)
  (λc2=>f rfl PO c WL c2 WL tt PO c (aq hp) (by rw[IP (by rw[c,c2];rfl),c,<- n6];rfl)) λc2=>aC (op==14)
  (λc3=>aC (i==0) (λc4=>f rfl PO c PO c2 PO ff WL c3 WL c4 (by rw[IN c c2 c3,c4];rfl))
   λc4=>(uQ (i:=i-1) (Ps:=Ps) (Pw h0 λz=>by rw[z] at c4;exact eK c4) (Pv rfl h1)).elim λp ⟨it,e⟩=>f rfl PO c PO c2 PO ff WL c3 PO c4 (aq hp) _ it bv _ rfl (by rw[IN c c2 c3,c4,e];rfl))
  λc3=>aC (op==15)
  (λc4=>aC (i==((Ps.map (enc:Int×Int->AV)).length:Int)) (λc5=>f rfl PO c PO c2 PO ff PO c3 WL c4 (aq hp) WL c5 (by rw[IO c c2 c3 c4,<- n6,c5];rfl))
   λc5=>(uQ (Ps:=Ps) h0 (Pu rfl (λz=>by rw[n6,z] at c5;simp at c5) h1)).elim λp ⟨it,e⟩=>f rfl PO c PO c2 PO ff PO c3 WL c4 (aq hp) PO c5 (aq hp) _ it bv _ rfl (by rw[IO c c2 c3 c4,<- n6,c5,e];rfl))
  λc4=>f rfl PO c PO c2 PO ff PO c3 PO c4 Ps (i-1) rfl hp Ps i rfl hp _ rfl _ rfl (congrArg AV.bool (ahq c c2 c3 c4))
section
open PySem.SeqAt
variable {g:Gx}{d:Nat}{fi:FI}
noncomputable def aew(a b:DR):DT:=λst Q=>a st λp x=>bY p (b st λU y=>y.jI λU ys=>cL (uk x) (jZ (nV x ys) λc=>Q (WL != c) st))
theorem aez{a b:M3}{Da Db:DR}{pos:Pos}(ha:bB g d fi a Da)(hb:bB g d fi b Db)(hm:autoParam (YE .NotIn b=PO) t_rfl):fX g d fi (.Compare a [.NotIn] [b] pos) (aew Da Db):=by
 constructor;intro A W env ca st Q Rz s C N h R;refine Vj (aL (ha.aN A W env ca st _ Rz s C N h R) λu s1 hh=>?_) hm;obtain⟨x,tk,rfl,h1,v1,R1⟩:=hh.nz R;refine aL (hb.aN A W env ca st _ Rz _ C N h1 R1) λw s2 wD=>?_;obtain⟨b,y,eH,rfl,h2,v2⟩:=wD;have R2:am g W fi env ca st Rz { s with toks:=eH }:=R.Z;obtain⟨l,xs,c,vs,n,rfl,r,ho,q⟩:=qw (s:={ s with toks:=eH }) v2 R2 h2;refine ak (fM q) λhk q=>?_;obtain⟨e,hd,q⟩:=nO q;refine ak (GZ (A:=A.in1) (s:={ s with toks:=eH }) hk v1 r hd) λh3 y9=>?_;subst y9;have h4:∀y∈vs.toArray,EqAt A.in1 { s with toks:=eH } y u (gR x y):=λy hy=>h3 y (Vo.mpr hy);have fin:K8 (Mo g) A (truthy (.bool (!vs.toArray.any (gR x)))) (rh g W fi env ca Rz Q) aK { s with toks:=eH }:=Z9 ⟨W,st,.Q _,by rw[GS];simpa using q,R2⟩;induction l with
 |true=>exact notIn_listAt (gR x) (cU ho) h4 fin
 |false=>exact notIn_tupleAt (gR x) (fP ho) h4 fin
end
set_option genInjectivity false in
structure Sp where
 b:Int
 e:Int
 nm:Option (Array UInt8)
noncomputable instance:Enc Sp:=⟨λs=>.tup [.int s.b,.int s.e,enc s.nm],λs=>.tup (dB (.int _) (dB (.int _) (dB (Enc.rf s.nm) ki)))⟩
set_option genInjectivity false in
structure Gr where
 l:List (Int×Sp)
noncomputable instance:Enc Gr:=⟨λg=>.dict (g.l.map λp=>(p.1,enc p.2)),λg=>.dict λp h=>by refine aj (zK.mp h) λq U y9=>?_;subst y9;exact Enc.rf q.2⟩
abbrev aH:=Int×Gr
noncomputable def gT(acc:List aH)(w:aH):List aH:=if acc.any (·.1==w.1) then acc else acc++[w]
noncomputable def cy(ws:List aH):List aH:=ws.foldl gT []
theorem Ie{x:Int}:∀{l:List Int},nV (.int x) (l.map enc)=Ss (l.any (·==x))
 |[]=>rfl
 |y::l=>by have ih:=Ie (x:=x) (l:=l);refine (?_:((Ss (y==x)).bind λb=>(nV (.int x) (l.map enc)).bind λc=>Ss (b||c))=_);rw[ih];rfl
structure uF(F l acc:List aH)(ys zs:List AV):Prop where
 y:ys=acc.map enc
 z:zs=(acc.map (·.1)).map enc
 w:acc.length+l.length<=1000000
 h:F=l.foldl gT acc
inductive BF(F l:List aH)(s:List AV×List AV×an):Prop
 |mk (acc:List aH) (h:uF F l acc s.1 s.2.1)
section
variable {F l acc:List aH}{t:aH}{ys zs:List AV}{x:an}
theorem uF.sX(h:uF F (t::l) acc ys zs):ys.length<=1000000/\zs.length<=1000000:=by have w:acc.length+(l.length+1)<=1000000:=h.w;exact⟨by rw[h.y,K4];exact tP w,by rw[h.z,K4,K4];exact tP w⟩
theorem uF.MT(h:uF F l acc ys zs):nV (.int t.1) zs=Ss (acc.any (·.1==t.1)):=by rw[h.z,Ie,List.any_map];rfl
theorem uF.vW(h:uF F (t::l) acc ys zs)(c:acc.any (·.1==t.1)=PO):BF F l (ys++[enc t],zs++[enc t.1],x):=by have e:gT acc t=acc++[t]:=MZ (sW.mp c);exact⟨acc++[t],by rw[h.y];exact iy.symm,by rw[h.z,wh];exact iy.symm,by rw[Es];exact wZ (show acc.length+(l.length+1)<=1000000 from h.w),by rw[<- e];exact h.h⟩
theorem uF.Ep(h:uF F (t::l) acc ys zs)(c:acc.any (·.1==t.1)=WL):BF F l (ys,zs,x):=by have e:gT acc t=acc:=MS c;exact⟨acc,h.y,h.z,FN (show acc.length+(l.length+1)<=1000000 from h.w),by rw[<- e];exact h.h⟩
end
noncomputable def aib(ts:List aH)(s:List AV×List AV×an):St:=⟨[.val (enc ts),.own (.lst s.1),.own (.lst s.2.1),s.2.2],[]⟩
noncomputable def aiD:FI:=⟨[("ways",.loc),("found",.loc),("seen",.loc),("way",.loc)],[],WL⟩
theorem BU{g:Gx}(G:ED g)(d:Nat):a8 g (d+1) (g.fa 59) (V1 cy sm):=
 .fT (G.K (d:=d) (fi:=aiD) 59 rfl (ae (jE (names:=["found","seen"]) (.cons (i:=2) rfl rfl (.cons (i:=1) rfl rfl .nil)) (dg (a9 ag) (dg (a9 ag) iH)) (λU U N=>jt N 1 2 rfl rfl rfl rfl rfl rfl rfl)) (ae (gF (cH (E.u 0)) (cN 3) (ae (aJ (aez (aB (ah 3) aF) (ah 2)) (ae (eF (g5 2 (ax (aB (ah 3) aF)))) (ae (eF (g5 1 (E.u 3))) af)) af) af)) (ae (aA (E.u 1)) af)))) λts hp G f=>gS enc (aib ts) (BF (cy ts)) (f rfl) ts ([],[],.none) rfl rfl ⟨[],rfl,rfl,by rw[Yp,kI];exact hp,rfl⟩
  (λt l s ⟨acc,h⟩ G f=>aC (acc.any (·.1==t.1))
   (λc=>f bv _ rfl _ h.MT PO (xA c) (.C (s.1,s.2.1,.val (enc t)) (h.Ep c) rfl))
   λc=>f bv _ rfl _ h.MT WL (uu c) h.sX.2 bv _ rfl h.sX.1 (.C (s.1++[enc t],s.2.1++[enc t.1],.val (enc t)) (h.vW c) rfl))
  λs ⟨acc,h⟩ G f=>f (show (enc (cy ts):AV)=.lst s.1 by rw[h.y,h.h];rfl)
noncomputable def Gr.qQ(g:Gr)(k:Int)(s:Sp):Gr:=⟨if g.l.any (λkv=>kv.1=k) then g.l.map (λkv=>if kv.1=k then (kv.1,s) else kv) else g.l++[(k,s)]⟩
theorem ID{g:Gr}{k:Int}{s:Sp}:pK (g.l.map λp=>(p.1,enc p.2)) k (enc s)=(g.qQ k s).l.map λp=>(p.1,enc p.2):=by
 unfold pK Gr.qQ;rw[List.any_map];have e:((λkv:Int×AV=>decide (kv.1=k)) ∘ λp:Int×Sp=>(p.1,enc p.2))=λkv=>decide (kv.1=k):=rfl;rw[e];dsimp only;split
 ·rw[Za,Za];refine YG λp U=>?_;dsimp only [Function.comp];split<;>rfl
 ·rw[wh];rfl
noncomputable def BO(g:Gr)(data:Int×Option (Array UInt8))(b e:Int):Gr:=g.qQ data.1 ⟨b,e,data.2⟩
noncomputable def ai9:FI:=⟨[("groups",.loc),("data",.loc),("begin",.loc),("end",.loc),("found",.loc)],["dict"],WL⟩
theorem ahP{g:Gx}(G:ED g)(d:Nat):a8 g (d+1) (g.fa 60) (V4 BO λgr U U U=>sm gr.l):=
 .vS (G.K (d:=d) (fi:=ai9) 60 rfl (ae (bg 4 (adW 0 G.toGOK G.sm (G.blt 0 rfl) (E.u 0))) (ae (adP 4 (bD (aa (E.u 2) (aa (E.u 3) (aa (ax (aB (ah 1) aF)) ag)))) (aB (ah 1) aF)) (ae (aA (E.u 4)) af)))) λgr data b e hp G f=>match data with
  |(k,M4)=>f rfl (by rw[K4];exact hp) bv _ rfl (by rw[K4];exact hp) bv _ rfl (congrArg AV.dict ID.symm)
  |(k,Ss nm)=>f rfl (by rw[K4];exact hp) bv _ rfl (by rw[K4];exact hp) bv _ rfl (congrArg AV.dict ID.symm)
inductive Kd where
 |text (rs:List Int) (f:Bool)
 |place (op:Int)
 |set (rg:Rg)
 |any|octet|none
 |times (lo hi:Int) (af9:Bool)
 |group (ZK:Int) (nm:Option (Array UInt8))
 |row|choice
noncomputable def Kd.A:Kd->Str
 |.text ..=>"text" |.place j4=>"place" |.set j4=>"set" |.any=>"any" |.octet=>"octet" |.none=>"none" |.times ..=>"times" |.group ..=>"group" |.row=>"row" |.choice=>"choice"
noncomputable def Kd.hG:Kd->AV
 |.text rs f=>.tup [enc rs,.bool f]
 |.place op=>.int op
 |.set rg=>enc rg
 |.times lo hi lz=>.tup [.int lo,.int hi,.bool lz]
 |.group c nm=>.tup [.int c,enc nm]
 |_=>.none
theorem Kd.rf(k:Kd):RF k.hG:=by
 induction k with
 |text rs f=>exact .tup (dB (Enc.rf rs) (dB (.bool _) ki))
 |set rg=>exact Enc.rf rg
 |times lo hi lz=>exact .tup (dB (.int _) (dB (.int _) (dB (.bool _) ki)))
 |group c nm=>exact .tup (dB (.int _) (dB (Enc.rf nm) ki))
 |_=>constructor
set_option genInjectivity false in
inductive N where
 |mk (k:Kd) (eI:List N)
noncomputable def N.k:N->Kd|.mk k j4=>k
noncomputable def N.H:N->List N|.mk j4 l=>l
noncomputable def xZ(k:Kd)(nJ:List AV):AV:=.tup [.str k.A,k.hG,.lst nJ]
mutual
noncomputable def N.O:N->List AV
 |.mk j4 l=>oH l
noncomputable def oH:List N->List AV
 |[]=>[]
 |t::ts=>xZ t.k (N.O t)::oH ts
end
theorem IF{k:Kd}{nJ:List AV}(h:∀x∈nJ,RF x):RF (xZ k nJ):=.tup (dB (.str _) (dB k.rf (dB (.lst h) ki)))
mutual
theorem N.vU:∀t:N,∀x∈N.O t,RF x
 |.mk j4 l=>Md l
theorem Md:∀ts:List N,∀x∈oH ts,RF x
 |[]=>λx h=>by exact aT h
 |t::ts=>λx h=>by
  rcases K7.mp h with rfl|h
  ·exact IF (N.vU t)
  ·exact Md ts x h
end
noncomputable instance:Enc N:=⟨λt=>xZ t.k t.O,λt=>IF t.vU⟩
theorem n8:∀ts:List N,oH ts=ts.map enc
 |[]=>rfl
 |t::ts=>congrArg (_::·) (n8 ts)
theorem ya(t:N):t.O=t.H.map enc:=by induction t using N.casesOn;exact n8 _
mutual
noncomputable def N.ht:N->Nat
 |.mk j4 l=>vE l+1
noncomputable def vE:List N->Nat
 |[]=>0
 |t::ts=>max t.ht (vE ts)
end
class inductive N.ok:N->Prop
 |mk {k:Kd}{l:List N}:sm l->(∀rs f,k=.text rs f->sm rs)->(∀s∈l,s.ok)->N.ok (.mk k l)
mutual
noncomputable def N.dD:N->Int
 |.mk (.text rs j4) j5=>rs.length
 |.mk j4 []=>1
 |.mk j4 (t::ts)=>(t.dD::vF ts).sum
noncomputable def vF:List N->List Int
 |[]=>[]
 |t::ts=>t.dD::vF ts
end
theorem ni{k:Kd}:∀{l:List N}{s:N}{h:Nat},(N.mk k l).ht<=h+1->s∈l->s.ht<=h:=by
 have go:∀(l:List N) (s:N) (h:Nat),vE l<=h->s∈l->s.ht<=h:=by
  intro l;induction l with
  |nil=>intro s h _ m;exact aT m
  |cons t ts ih=>
   intro s h hl m;have hl:max t.ht (vE ts)<=h:=hl;rcases K7.mp m with rfl|m
   ·exact Le (VC _ _) hl
   ·exact ih s h (Le (amO _ _) hl) m
 intro l s h hl m;exact go l s h (Yk hl) m
set_option tactic.hygienic true in
theorem N.ok.bJ{k:Kd}{l:List N}{s:N}(h:(N.mk k l).ok)(m:s∈l):s.ok:=by cases h;rename_i q;exact q s m
theorem N.ok.sm{k:Kd}{l:List N}(h:(N.mk k l).ok):sm l:=by cases h;assumption
theorem N.ok.zC{rs:List Int}{f:Bool}{l:List N}(h:(N.mk (.text rs f) l).ok):Mine.Internal.sm rs:=by cases h with|mk a b c=>exact b _ _ rfl
theorem xY:∀ts:List N,vF ts=ts.map N.dD
 |[]=>rfl
 |t::ts=>congrArg (_::·) (xY ts)
inductive aja{α β σ:Type}[Enc β](en:α->AV)(F:α->β)(l:List α)(S:σ->St)(xs ys:List AV)(st:St):Prop
 |mk (as bs:List α) (x:σ) (e:xs=bs.map en) (y:ys=(as.map F).map enc) (a:as++bs=l) (q:st=S x)
theorem B5{α β σ:Type}[Enc β](en:α->AV)(F:α->β){l:List α}{xs:List AV}(S:σ->St){bd:AV->St->(St->PS)->PS}{el:DE}(x0:σ){st:St}{Q:List AV->St->PS}{G:Prop}(f:pi (ic bd (oE D.sQ el) xs [] st Q) G)(hl:l.length<=1000000)(ex:xs=l.map en)(es:st=S x0)
 (h1:∀(b:α) x,b∈l->∀(K:aS->St->PS) (Z:St->PS),(∀y,ok (K (.val (enc (F b))) (S y)))->ok (bd (en b) (S x) λab=>br WL (el ab K) (Z ab))) (hQ:∀x,ok (Q ((l.map F).map enc) (S x))):G:=by
 subst ex;subst es;unfold ic at f;refine f (aja en F l S) ⟨[],l,x0,rfl,rfl,rfl,rfl⟩ (λx r ys st hI=>?_) λys st hI=>?_
 ·obtain⟨as,bs,x,e4,y,a,q⟩:=hI;induction bs using K1 with
  |nil=>exact fN e4
  |cons b bs=>refine ak (dj e4) λy9 y8=>?_;subst y9;subst y8;subst q;subst y;have la:=congrArg W7 a;rw[Es] at la;exact h1 b x (by rw[<- a];simp) _ _ λy G f=>f (by rw[K4,K4];exact Q6 la hl) ⟨as++[b],bs,y,rfl,by rw[wh];exact iy.symm,by rw[zx];exact a,rfl⟩
 ·obtain⟨as,bs,x,e4,y,a,q⟩:=hI;induction bs using K1 with
  |cons _ _=>exact fO e4
  |nil=>subst q;subst y;rw[zB] at a;subst a;exact hQ x
theorem iW{α β:Type}[Enc β](en:α->AV)(F:α->β){l:List α}{xs:List AV}(S:an->St){bd:AV->St->(St->PS)->PS}{el:DE}(x0:an){st:St}{Q:List AV->St->PS}{G:Prop}(f:pi (ic bd (oE D.sQ el) xs [] st Q) G)(hl:l.length<=1000000)(ex:xs=l.map en)(es:st=S x0)
 (h1:∀(b:α) x,b∈l->∀(K:aS->St->PS) (Z:St->PS),(∀y,ok (K (.val (enc (F b))) (S y)))->ok (bd (en b) (S x) λab=>br WL (el ab K) (Z ab))) (hQ:∀x,ok (Q ((l.map F).map enc) (S x))):G:=
 B5 en F S x0 f hl ex es h1 hQ
theorem uS{k:Kd}(h:(k.A==("text":Str))=WL):∃rs f,k=.text rs f:=by induction k<;>first|exact⟨_,_,rfl⟩|exact aX h
theorem aiu{k:Kd}(h:(k.A==("text":Str))=PO):(N.mk k []).dD=1:=by induction k<;>first|rfl|exact eK h
theorem aiv{k:Kd}{l:List N}(h:(k.A==("text":Str))=PO)(n:l≠[]):(N.mk k l).dD=(l.map N.dD).sum:=by
 induction l using K1 with
 |nil=>exact MQ rfl n
 |cons t ts=>induction k<;>first|(rw[Zv,<- xY];rfl)|exact eK h
@[elab_as_elim] theorem Ir{P:Nat->Prop}(n:Nat)(h1:¬ n<25)(h2:n<35)(k0:P 25)(k1:P 26)(k2:P 27)(k3:P 28)(k4:P 29)(k5:P 30)(k6:P 31)(k7:P 32)(k8:P 33)(k9:P 34):P n:=by
 refine a7 (Nat.exists_eq_add_of_le (Zq.mp h1)) λm y9=>?_;subst y9;rcases m with _|_|_|_|_|_|_|_|_|_|m
 ·exact k0
 ·exact k1
 ·exact k2
 ·exact k3
 ·exact k4
 ·exact k5
 ·exact k6
 ·exact k7
 ·exact k8
 ·exact k9
 ·exact MQ h2 (Zq.mpr (Xi (oJ 10 m) 25))
noncomputable def Ib:FI:=⟨[("node",.loc),("kind",.loc),("data",.loc),("subs",.loc)],["sum","len"],WL⟩
noncomputable def ai8:FI:=Ib.bJ [] ["sub"] ["_law_many"]
theorem ahO{g:Gx}(G:ED g)(d:Nat)(h:Nat):a8 g (d+h) (g.fa 63) (V1 N.dD λt=>t.ht<=h/\t.ok):=by
 induction h with
 |zero=>exact .none λxs P hV=>by obtain⟨t,_,⟨ht,_⟩,_⟩:=hV;induction t using N.casesOn;exact MQ ht (Yb _)
 |succ h0 ih=>
  refine .fT (G.K (d:=d+h0) (fi:=Ib) 63 rfl (ae (kE (.cons (i:=1) rfl rfl (.cons (i:=2) rfl rfl (.cons (i:=3) rfl rfl .nil))) (E.u 0)) (ae (aJ (tQ G (E.u 1) E.A) (ae (aA (ax (cG 1 G.toGOK2 (aB (ah 2) aF)))) af) af) (ae (aA (cE (kF (ah 3)) (ad5 0 G.toGOK (G.blt 8 rfl) (lW ai8 (gh (by decide +kernel) (by decide +kernel)) (cH (E.u 3)) (cN 4) iI (cV G 0 63 rfl ih (aa (E.u 4) ag)))) E.x)) af)))) λt ⟨ht,ok⟩=>?_;obtain⟨k,l⟩:=t;cases c:k.A==("text":Str) with
  |true=>refine dm (uS c) λrs fl y9=>?_;subst y9;exact λG f=>f rfl _ rfl WL c bv _ rfl (aq ok.zC) (by rw[K4];rfl)
  |false=>induction l using K1 with
   |nil=>exact λG f=>f rfl _ rfl PO c PO ff (by rw[aiu c];rfl)
   |cons t ts=>exact λG f=>iW enc N.dD (l:=t::ts) (λx=>⟨[.val (enc (N.mk k (t::ts))),.val (.str k.A),.val k.hG,.val (.lst (oH (t::ts))),x],[]⟩) .none (f rfl _ rfl PO c WL tt) ok.sm (n8 _) rfl (λb x m K Z hK G f=>hK _ G (f WL tt b rfl ⟨ni ht m,ok.bJ m⟩)) λx G f=>f ((t::ts).map N.dD) rfl (by rw[aiv c (Zj _ _)];rfl)
theorem bU:(3:Nat)<2 ^ 62:=by decide
noncomputable def N.mf(n:N):Bool:=match n.k with
 |.set j4=>WL
 |.any=>WL
 |.text rs j4=>(rs.length:Int)==1
 |_=>PO
theorem aiQ{rs:List Int}{fl:Bool}{l:List N}:(N.mk (.text rs fl) l).mf=(((rs.map (enc:Int->AV)).length:Int)==1):=by rw[K4];rfl
noncomputable def BM(k:Kd):Bool:=("set":Str)==k.A||(("any":Str)==k.A||false)
theorem ah3{k:Kd}{l:List N}(c:BM k=WL):(N.mk k l).mf=WL:=by induction k<;>first|rfl|exact aX c
theorem ah2{k:Kd}{l:List N}(c:BM k=PO)(c2:(k.A==("text":Str))=PO):(N.mk k l).mf=PO:=by induction k<;>first|rfl|(exact eK c;done)|(exact eK c2;done)
noncomputable def aiB:FI:=⟨[("node",.loc)],["len"],WL⟩
theorem Ix{g:Gx}(G:ED g)(d:Nat):a8 g (d+1) (g.fa 64) (V1 N.mf N.ok):=
 .fT (G.K (d:=d) (fi:=aiB) 64 rfl (ae (aA (oD (cD oF (ax (aB (ah 0) aF)) (bD (aa E.A (aa E.A ag)))) (qt (sF (cD (dh G.sm) (ax (aB (ah 0) aF)) E.A) (sG (cD (dh G.sm) (ax (cG 0 G.toGOK2 (aB (aB (ah 0) aF) aF))) E.x)))))) af)) λt ok=>by
  obtain⟨k,l⟩:=t;cases c:k.A==("text":Str) with
  |true=>refine dm (uS c) λrs fl y9=>?_;subst y9;exact λG f=>f rfl bU _ rfl _ rfl PO ff bU _ rfl _ rfl WL tt bU _ rfl bv _ rfl (aq ok.zC) (congrArg AV.bool aiQ)
  |false=>exact λG f=>aC (BM k) (λc2=>f rfl bU _ rfl _ rfl WL (fb c2) (by rw[ah3 c2];rfl)) λc2=>f rfl bU _ rfl _ rfl PO (fb c2) bU _ rfl _ rfl PO c (by rw[ah2 c2 c];rfl)
noncomputable instance:Enc (Option N):=⟨λo=>match o with|none=>.none|some t=>enc t,λo=>by induction o with|none=>exact .none|some t=>exact Enc.rf t⟩
noncomputable instance:Enc (Option (Int×Bool)):=⟨λo=>match o with|none=>.none|some t=>enc t,λo=>by induction o with|none=>exact .none|some t=>exact Enc.rf t⟩
class inductive N.wf:N->Prop
 |mk {k:Kd}{l:List N}:sm l->(∀rs f,k=.text rs f->sm rs)->(k=.row->l≠[])->(∀s∈l,s.wf)->N.wf (.mk k l)
theorem N.wf.bJ{k:Kd}{l:List N}{s:N}(h:(N.mk k l).wf)(m:s∈l):s.wf:=by cases h with|mk a b c d=>exact d s m
theorem N.wf.sm{k:Kd}{l:List N}(h:(N.mk k l).wf):Mine.Internal.sm l:=by cases h with|mk a b c d=>exact a
theorem N.wf.Ev{l:List N}(h:(N.mk .row l).wf):l≠[]:=by cases h with|mk a b c d=>exact c rfl
noncomputable def N.jg:N->N
 |.mk .row (s::j4)=>s
 |n=>n
noncomputable def N.hd(n:N):Option N:=match n.jg.k with
 |.times lo hi j4=>if (lo==hi)=WL then Ss n.jg else M4
 |.set _|.any|.octet|.place j4=>Ss n.jg
 |_=>M4
noncomputable def Il(n:N):Option N:=match n.k with
 |.times lo hi j4=>if (lo==hi)=WL then Ss n else M4
 |.set _|.any|.octet|.place j4=>Ss n
 |_=>M4
theorem BZ{k:Kd}(c:(k.A==("row":Str))=WL):k=.row:=by induction k<;>first|rfl|exact aX c
theorem N.wf.MV{k:Kd}{l:List N}(h:(N.mk k l).wf)(c:(k.A==("row":Str))=WL):l≠[]:=by obtain rfl:=BZ c;exact h.Ev
theorem N.wf.O{k:Kd}{l:List N}(h:(N.mk k l).wf):(oH l).length<2 ^ 62:=by rw[n8];exact aq h.sm
theorem aiV{k:Kd}{s:N}{l:List N}(c:(k.A==("row":Str))=WL):(N.mk k (s::l)).jg=s:=by obtain rfl:=BZ c;rfl
theorem Ik{k:Kd}{l:List N}(c:(k.A==("row":Str))=PO):(N.mk k l).jg=N.mk k l:=by induction k<;>first|rfl|exact eK c
noncomputable def Io(k:Kd):Bool:=("set":Str)==k.A||(("any":Str)==k.A||(("octet":Str)==k.A||(("place":Str)==k.A||false)))
theorem Im{k:Kd}{l:List N}(c:(k.A==("times":Str))=PO):Il (.mk k l)=if Io k then Ss (.mk k l) else M4:=by induction k<;>first|rfl|exact eK c
theorem IR{k:Kd}(c:(k.A==("times":Str))=WL):∃lo hi lz,k=.times lo hi lz:=by induction k<;>first|exact⟨_,_,_,rfl⟩|exact aX c
noncomputable def aiC:FI:=⟨[("node",.loc)],[],WL⟩
theorem BV{g:Gx}(G:ED g)(d:Nat):a8 g (d+1) (g.fa 66) (V1 N.hd N.wf):=
 .fT (G.K (d:=d) (fi:=aiC) 66 rfl (ae (bg 0 (cE (tQ G (ax (aB (ah 0) aF)) E.A) (ax (aB (aB (ah 0) aF) aF)) (E.u 0))) (ae (aJ (tQ G (ax (aB (ah 0) aF)) E.A) (ae (aA (cE (tQ G (ax (aB (aB (ah 0) aF) aF)) (ax (aB (aB (ah 0) aF) aF))) (E.u 0) E.none)) af) af) (ae (aA (cE (bn oF (ax (aB (ah 0) aF)) (bD (aa E.A (aa E.A (aa E.A (aa E.A ag)))))) (E.u 0) E.none)) af)))) λt ok G f=>db (f rfl) ⟨[.val (enc t.jg)],[]⟩ (λK k=>by
  obtain⟨kd,l⟩:=t;induction l using K1 with
  |nil=>exact λG f=>aC (kd.A==("row":Str)) (λc=>MQ rfl (ok.MV c)) λc=>k G (by rw[Ik c];exact f bU _ rfl _ rfl PO c)
  |cons s ss=>exact λG f=>aC (kd.A==("row":Str)) (λc=>k G (by rw[aiV c];exact f bU _ rfl _ rfl WL c bU _ rfl ok.O _ rfl)) λc=>k G (by rw[Ik c];exact f bU _ rfl _ rfl PO c)) (by
  refine (?_:Mine.Internal.ok (D.kP _ _ _ (Bg λv U=>.leaf ((enc (Il t.jg):AV)=v))));generalize t.jg=n;obtain⟨kd,l⟩:=n;cases c:kd.A==("times":Str) with
  |true=>refine pF (IR c) λlo hi lz y9=>?_;subst y9;exact λG f=>aC (lo==hi) (λc=>f bU _ rfl _ rfl WL tt bU _ rfl bU _ rfl bU _ rfl bU _ rfl WL c (congrArg enc (MS c))) λc=>f bU _ rfl _ rfl WL tt bU _ rfl bU _ rfl bU _ rfl bU _ rfl PO c (congrArg enc (MZ (sW.mp c)))
  |false=>exact λG f=>aC (Io kd) (λc2=>f bU _ rfl _ rfl PO c bU _ rfl _ rfl WL (fb c2) (by rw[Im c,c2];rfl)) λc2=>f bU _ rfl _ rfl PO c bU _ rfl _ rfl PO (fb c2) (by rw[Im c,c2];rfl))
noncomputable def N.me:N->N
 |.mk .row (s::ss)=>s.me
 |n=>n
noncomputable def N.dp:N->Nat
 |.mk j4 (s::ss)=>s.dp+1
 |.mk j4 []=>0
noncomputable def N.fr(n:N):Option (Int×Bool):=match n.me.k with
 |.text (r::j4) f=>Ss (r,f)
 |_=>M4
structure ajb(f:N)(n:Nat)(t:N):Prop where
 e:t.dp=n
 o:t.wf
 q:t.me=f
noncomputable def Ih(n:N):Option (Int×Bool):=match n.k with
 |.text (r::j4) f=>Ss (r,f)
 |_=>M4
theorem aiW{k:Kd}{s:N}{l:List N}(c:(k.A==("row":Str))=WL):(N.mk k (s::l)).me=s.me:=by obtain rfl:=BZ c;rfl
theorem Ii{k:Kd}{l:List N}(c:(k.A==("row":Str))=PO):(N.mk k l).me=N.mk k l:=by induction k<;>induction l using K1<;>first|rfl|exact eK c
theorem aiZ{k:Kd}{l:List N}(c:(k.A==("text":Str))=PO):Ih (N.mk k l)=M4:=by induction k<;>first|rfl|exact eK c
structure ajc(f t:N):Prop where
 o:t.wf
 q:t=f
theorem N.wf.zC{rs:List Int}{f:Bool}{l:List N}(h:(N.mk (.text rs f) l).wf):Mine.Internal.sm rs:=by cases h with|mk a b c d=>exact b _ _ rfl
noncomputable def aiE:FI:=⟨[("node",.loc)],[],WL⟩
theorem BS{g:Gx}(G:ED g)(d:Nat):a8 g (d+1) (g.fa 65) (V1 N.fr N.wf):=
 .fT (G.K (d:=d) (fi:=aiE) 65 rfl (ae (lV (tQ G (ax (aB (ah 0) aF)) E.A) (ae (bg 0 (ax (aB (aB (ah 0) aF) aF))) af)) (ae (aA (cE (cq (bL (tQ G (ax (aB (ah 0) aF)) E.A) (bL (kF (aB (aB (ah 0) aF) aF)) eS))) (bD (aa (ax (aB (aB (aB (ah 0) aF) aF) aF)) (aa (ax (aB (aB (ah 0) aF) aF)) ag))) E.none)) af))) λt ok G f=>lI (λu:N=>⟨[.val (enc u)],[]⟩) (ajb t.me) (λu:N=>⟨[.val (enc u)],[]⟩) (ajc t.me) (f rfl) t.dp t rfl ⟨rfl,ok,rfl⟩
  (λn u h k hk=>by
   obtain⟨kd,l⟩:=u;induction l using K1 with
   |nil=>exact λG f=>aC (kd.A==("row":Str)) (λc=>MQ rfl (h.o.MV c)) λc=>hk _ ⟨h.o,(Ii c).symm.trans h.q⟩ G (f bU _ rfl _ rfl PO c)
   |cons s ss=>exact λG f=>aC (kd.A==("row":Str)) (λc=>f bU _ rfl _ rfl WL c bU _ rfl h.o.O _ rfl s.dp (h.e▸YB _) (.C s ⟨rfl,h.o.bJ (.head _),(aiW c).symm.trans h.q⟩ rfl)) λc=>hk _ ⟨h.o,(Ii c).symm.trans h.q⟩ G (f bU _ rfl _ rfl PO c))
  λu ⟨o,q⟩=>by
   have e:(enc t.fr:AV)=enc (Ih u):=by rw[q];rfl
   obtain⟨kd,l⟩:=u;cases c:kd.A==("text":Str) with
   |true=>
    refine dm (uS c) λrs fl y9=>?_;subst y9;induction rs using K1 with
    |nil=>exact λG f=>f bU _ rfl _ rfl WL tt bU _ rfl bv _ rfl PO ff PO ff e
    |cons r rs=>exact λG f=>f bU _ rfl _ rfl WL tt bU _ rfl bv _ rfl WL tt WL tt bU _ rfl bv _ rfl (aq o.zC) _ rfl bU _ rfl bv _ rfl e
   |false=>exact λG f=>f bU _ rfl _ rfl PO c PO ff (e.trans (by rw[aiZ c];rfl))
noncomputable def lz(fl:Int):Bool:=!(vT fl 64==0)
noncomputable def mW(o:Int)(t:Tr):Kd:=
 if o==7 then .times 0 (-1) (lz t.fl) else if o==8 then .times 1 (-1) (lz t.fl) else if o==9 then .times 0 1 (lz t.fl) else if o==10 then .times t.low t.iL (lz t.fl) else
 if o==12 then .any else if o==13 then .octet else if o==1 then .none else if o==5 then .row else if o==6 then .choice else
 if o==11 then .group t.ZK t.name else if o==20 then .set t.Bd else if o==2 then .text [] PO else
 if o==3 then .text [t.K3] t.fold else if o==4 then .text t.D5 t.fold else .place o
noncomputable def Tr.I(t:Tr):Kd:=mW t.op t
theorem mX{nd:Nd}{l:List Tr}{o:Int}(h:nd.op=o):(Tr.mk nd l).I=mW o (.mk nd l):=congrArg (λo=>mW o (.mk nd l)) h
noncomputable def Kd.sY:Kd->Bool
 |.text .. |.place _|.set j4=>WL
 |_=>PO
mutual
noncomputable def Tr.ht:Tr->Nat
 |.mk j4 l=>nj l+1
noncomputable def nj:List Tr->Nat
 |[]=>0
 |t::ts=>max t.ht (nj ts)
end
mutual
noncomputable def Tr.vZ:Tr->List N
 |.mk j4 l=>nu l
noncomputable def nu:List Tr->List N
 |[]=>[]
 |t::ts=>.mk t.I (if t.I.sY then[] else Tr.vZ t)::nu ts
end
noncomputable def Tr.B(t:Tr):N:=.mk t.I (if t.I.sY then[] else t.vZ)
theorem IE:∀ts:List Tr,nu ts=ts.map Tr.B
 |[]=>rfl
 |t::ts=>congrArg (_::·) (IE ts)
theorem uO(t:Tr):t.vZ=t.H.map Tr.B:=by induction t using Tr.casesOn;exact IE _
class inductive Tr.jh:Tr->Prop
 |mk {nd:Nd}{l:List Tr}:1<=nd.op->nd.op<=20->(∀s∈l,s.jh)->Tr.jh (.mk nd l)
theorem Tr.jh.op{t:Tr}(h:t.jh):1<=t.op/\t.op<=20:=by induction h with|mk a b _=>exact⟨a,b⟩
theorem Tr.jh.bJ{t s:Tr}(h:t.jh)(m:s∈t.H):s.jh:=by induction h with|mk _ _ k=>exact k s m
theorem nq{t s:Tr}{h:Nat}(hl:t.ht<=h+1)(m:s∈t.H):s.ht<=h:=by
 have go:∀(l:List Tr) (s:Tr) (h:Nat),nj l<=h->s∈l->s.ht<=h:=by
  intro l;induction l with
  |nil=>intro s h _ m;exact aT m
  |cons t ts ih=>
   intro s h hl m;have hl:max t.ht (nj ts)<=h:=hl;rcases K7.mp m with rfl|m
   ·exact Le (VC _ _) hl
   ·exact ih s h (Le (amO _ _) hl) m
 induction t using Tr.casesOn;exact go _ s h (Yk hl) m
noncomputable def Ic:FI:=⟨[("re",.loc),("subs",.loc),("bounds",.loc),("kinds",.loc),("low",.loc),("high",.loc),("runes",.loc)],["OP_STRING","OP_LITERAL","FOLD_CASE","list","OP_EMPTY","OP_CLASS","OP_CAPTURE","NON_GREEDY","OP_ALTERNATE","OP_CONCAT","OP_NO_MATCH","OP_ANY_BYTE","OP_ANY_CHAR","OP_REPEAT","OP_QUEST","OP_PLUS","OP_STAR"],WL⟩
noncomputable def ai6:FI:=Ic.bJ [] ["sub"] ["_law_read"]
@[elab_as_elim] theorem ah7{P:Int->Prop}(o:Int)(h1:1<=o)(h2:o<=20)(k1:P 1)(k2:P 2)(k3:P 3)(k4:P 4)(k5:P 5)(k6:P 6)(k7:P 7)(k8:P 8)(k9:P 9)(k10:P 10)(k11:P 11)(k12:P 12)(k13:P 13)(k14:P 14)(k15:P 15)(k16:P 16)(k17:P 17)(k18:P 18)(k19:P 19)(k20:P 20):P o:=by
 refine a7 (ZJ (Ey (by decide) h1)) λn y9=>?_;subst y9;have h2:n<21:=qO.mp (Y6 h2 (by decide));rcases n with _|_|_|_|_|_|_|_|_|_|_|_|_|_|_|_|_|_|_|_|_|n
 ·exact MQ h1 (by decide)
 ·exact k1
 ·exact k2
 ·exact k3
 ·exact k4
 ·exact k5
 ·exact k6
 ·exact k7
 ·exact k8
 ·exact k9
 ·exact k10
 ·exact k11
 ·exact k12
 ·exact k13
 ·exact k14
 ·exact k15
 ·exact k16
 ·exact k17
 ·exact k18
 ·exact k19
 ·exact k20
 ·exact MQ h2 (Zq.mpr (oJ _ _))
theorem ahM{g:Gx}(G:ED g)(d:Nat)(h:Nat):a8 g (d+h) (g.fa 55) (V1 Tr.B λt=>t.ht<=h/\t.ok/\t.jh):=by
 induction h with
 |zero=>exact .none λxs P hV=>by obtain⟨t,_,⟨ht,_⟩,_⟩:=hV;induction t using Tr.casesOn;exact MQ ht (Yb _)
 |succ h0 ih=>
  refine .fT (G.K (d:=d+h0) (fi:=Ic) 55 rfl (ae (sI 1 ai6 (gh (by decide +kernel) (by decide +kernel)) (cH (eA G 2 0)) (cN 7) iI (cV G 0 55 rfl ih (aa (E.u 7) ag)) (λU U N=>rI N 1 rfl rfl rfl)) (ae (bg 2 (LM (nh (eG G 16 10 rfl) (bD (aa E.x (aa (lT O.qF E.x) ag))) (nh (eG G 15 11 rfl) (bD (aa E.x (aa (lT O.qF E.x) ag))) (nh (eG G 14 12 rfl) (bD (aa E.x (aa E.x ag))) (nh (eG G 13 13 rfl) (bD (aa (eA G 3 0) (aa (eA G 4 0) ag))) LS)))))) (ae (bg 3 (LM (nh (eG G 12 15 rfl) E.A (nh (eG G 11 16 rfl) E.A (nh (eG G 10 4 rfl) E.A (nh (eG G 9 8 rfl) E.A (nh (eG G 8 9 rfl) E.A LS))))))) (ae (aJ (bn (LQ G.sm) (eA G 0 0) (E.u 2)) (ae (kE (.cons (i:=4) rfl rfl (.cons (i:=5) rfl rfl .nil)) (LO (E.u 2) (sA G 0 0))) (ae (aA (bD (aa E.A (aa (bD (aa (E.u 4) (aa (E.u 5) (aa (cD (gk G.sm) (bC O.kM (eA G 1 0) (eG G 7 2 rfl)) E.x) ag)))) (aa (E.u 1) ag))))) af)) af) (ae (aJ (bn (LQ G.sm) (eA G 0 0) (E.u 3)) (ae (aA (bD (aa (LO (E.u 3) (sA G 0 0)) (aa E.none (aa (E.u 1) ag))))) af) af) (ae (aJ (tQ G (eA G 0 0) (eG G 6 14 rfl)) (ae (aA (bD (aa E.A (aa (bD (aa (eA G 5 0) (aa (eA G 6 0) ag))) (aa (E.u 1) ag))))) af) af) (ae (aJ (tQ G (eA G 0 0) (eG G 5 23 rfl)) (ae (aA (bD (aa E.A (aa (lX 3 G.toGOK (G.blt 4 rfl) (eA G 9 0)) (aa (a9 ag) ag))))) af) af) (ae (aJ (tQ G (eA G 0 0) (eG G 4 5 rfl)) (ae (aA (bD (aa E.A (aa (bD (aa (a9 ag) (aa E.cK ag))) (aa (a9 ag) ag))))) af) af) (ae (aJ (cq (cY (tQ G (eA G 0 0) (eG G 1 6 rfl)) (cY (tQ G (eA G 0 0) (eG G 0 7 rfl)) iF))) (ae (bg 6 (cE (tQ G (eA G 0 0) (eG G 1 6 rfl)) (a9 (aa (eA G 7 0) ag)) (lX 3 G.toGOK (G.blt 4 rfl) (eA G 8 0)))) (ae (aA (bD (aa E.A (aa (bD (aa (E.u 6) (aa (cD (gk G.sm) (bC O.kM (eA G 1 0) (eG G 2 0 rfl)) E.x) ag))) (aa (a9 ag) ag))))) af)) af) (ae (aA (bD (aa E.A (aa (eA G 0 0) (aa (a9 ag) ag))))) af))))))))))) λt ⟨ht,ok,mD⟩ G f=>db (f rfl) ⟨[.val (enc t),.own (.lst (t.vZ.map enc)),.none,.none,.none,.none,.none],[]⟩ (λK k G f=>?_) ?_
  ·exact iW enc Tr.B (l:=t.H) (λx=>⟨[.val (enc t),.none,.none,.none,.none,.none,.none,x],[]⟩) .none f ok.H (lH t) rfl (λb x m K Z hK G f=>hK _ G (f WL tt b rfl ⟨nq ht m,ok.bJ m,mD.bJ m⟩)) λx G f=>k G (by rw[uO];exact f)
  ·refine ak (mD.op) λo1 o2=>?_;have e:(enc t.B:AV)=xZ t.I ((if t.I.sY then[] else t.vZ).map enc):=by rw[<- n8];rfl
   clear ih ht;obtain⟨⟨op,fl,lo,hi,ca,nm,ru,rs,rg⟩,l⟩:=t;clear mD;revert e ok;refine ah7 op o1 o2 ?_ ?_ ?_ ?_ ?_ ?_ ?_ ?_ ?_ ?_ ?_ ?_ ?_ ?_ ?_ ?_ ?_ ?_ ?_ ?_
   ·exact λok e G f=>f PO ff WL tt _ rfl e
   ·exact λok e G f=>f PO ff PO ff PO ff PO ff WL tt e
   ·exact λok e G f=>f PO ff PO ff PO ff PO ff PO ff WL tt WL tt WL tt e
   ·exact λok e G f=>f PO ff PO ff PO ff PO ff PO ff PO ff WL tt WL tt PO ff (cM ok.D5) e
   ·exact λok e G f=>f PO ff WL tt _ rfl e
   ·exact λok e G f=>f PO ff WL tt _ rfl e
   ·exact λok e G f=>f WL tt _ rfl e
   ·exact λok e G f=>f WL tt _ rfl e
   ·exact λok e G f=>f WL tt _ rfl e
   ·exact λok e G f=>f WL tt _ rfl e
   ·induction nm<;>exact λok e G f=>f PO ff PO ff WL tt e
   ·exact λok e G f=>f PO ff WL tt _ rfl e
   ·exact λok e G f=>f PO ff WL tt _ rfl e
   ·exact λok e G f=>f PO ff PO ff PO ff PO ff PO ff PO ff PO ff PO ff e
   ·exact λok e G f=>f PO ff PO ff PO ff PO ff PO ff PO ff PO ff PO ff e
   ·exact λok e G f=>f PO ff PO ff PO ff PO ff PO ff PO ff PO ff PO ff e
   ·exact λok e G f=>f PO ff PO ff PO ff PO ff PO ff PO ff PO ff PO ff e
   ·exact λok e G f=>f PO ff PO ff PO ff PO ff PO ff PO ff PO ff PO ff e
   ·exact λok e G f=>f PO ff PO ff PO ff PO ff PO ff PO ff PO ff PO ff e
   ·exact λok e G f=>f PO ff PO ff PO ff WL tt (cM ok.Bd) e
noncomputable def eB:List Int->List Int->Nat
 |a::as,b::bs=>if a==b then eB as bs+1 else 0
 |j4,j5=>0
theorem B1{a b:Int}{as bs:List Int}:eB (a::as) (b::bs)=if a==b then eB as bs+1 else 0:=rfl
theorem IG:∀{as bs:List Int},eB as bs<=as.length/\eB as bs<=bs.length
 |[],j4=>⟨zJ _,zJ _⟩
 |j4::j5,[]=>⟨zJ _,zJ _⟩
 |a::as,b::bs=>by
  have ih:=IG (as:=as) (bs:=bs);rw[B1];split
  ·exact⟨de ih.1,de ih.2⟩
  ·exact⟨zJ _,zJ _⟩
theorem II:∀{as bs:List Int}{k:Nat},k<=as.length->k<=bs.length->(∀(i:Nat) (a b:Int),as[i]?=Ss a->bs[i]?=Ss b->i<k->a=b)->(∀(a b:Int),as[k]?=Ss a->bs[k]?=Ss b->a≠b)->eB as bs=k
 |[],j4,k,h,j5,j6,j7=>(Wv.mp h).symm
 |j4::j5,[],k,j6,h,j7,j8=>(Wv.mp h).symm
 |a::as,b::bs,0,j4,j5,j6,h2=>by rw[B1,MZ (by have:=h2 a b rfl rfl;simpa using this)]
 |a::as,b::bs,k+1,h,h',h1,h2=>by rw[B1,MS (by have:=h1 0 a b rfl rfl (Ym _);simpa using this),II (Yk h) (Yk h') (λi x y e f l=>h1 (i+1) x y e f (X3 l)) h2]
structure rO(as bs:List Int)(n k:Nat):Prop where
 e:min as.length bs.length-k=n
 l:k<=min as.length bs.length
 h:∀(i:Nat) (a b:Int),as[i]?=Ss a->bs[i]?=Ss b->i<k->a=b
theorem rO.at{as bs:List Int}{n k:Nat}(h:rO as bs n k)(c:decide ((k:Int)<((min as.length bs.length:Nat):Int))=WL):∃a b,as[k]?=Ss a/\bs[k]?=Ss b:=by have c:=qO.mp (zL c);exact⟨_,_,Zs (Xm c (Yq _ _)),Zs (Xm c (Z8 _ _))⟩
section
variable {as bs:List Int}{n k:Nat}{a b:Int}
theorem rO.dl(h:rO as bs n k)(e1:as[k]?=Ss a)(e2:bs[k]?=Ss b)(c:(a==b)=WL):min as.length bs.length-(k+1)<n/\rO as bs (min as.length bs.length-(k+1)) (k+1):=by
 have c2:k<min as.length bs.length:=Nat.lt_min.mpr ⟨(sV.mp e1).1,(sV.mp e2).1⟩;refine⟨Az h.e c2,rfl,c2,λi x y e f l=>?_⟩;rcases Yz i k with l2|l2
 ·exact h.h i x y e f l2
 ·obtain rfl:=Zc (Y4 l) l2;rw[e1] at e;rw[e2] at f;(have y9:=K6 e;clear e;subst y9);(have y9:=K6 f;clear f;subst y9);exact zH c
theorem rO.cQ(h:rO as bs n k)(c:∀(a b:Int),as[k]?=Ss a->bs[k]?=Ss b->a≠b):k=eB as bs:=(II (Le h.l (Yq _ _)) (Le h.l (Z8 _ _)) h.h c).symm
theorem rO.end(h:rO as bs n k)(c:decide ((k:Int)<((min as.length bs.length:Nat):Int))=PO):k=eB as bs:=h.cQ λa b x y=>MQ (qO.mpr (Nat.lt_min.mpr ⟨(sV.mp x).1,(sV.mp y).1⟩)) (of_decide_eq_false c)
theorem ait:(if (((bs.map (enc:Int->AV)).length:Nat):Int)<(((as.map (enc:Int->AV)).length:Nat):Int) then (((bs.map (enc:Int->AV)).length:Nat):Int) else (((as.map (enc:Int->AV)).length:Nat):Int))=((min as.length bs.length:Nat):Int):=by rw[K4,K4];exact (Ux ((bs.length:Int)<(as.length:Int))).elim (λh=>(MS h).trans (congrArg V9 (VZ (YW (qO.mp h)))).symm) λh=>(MZ h).trans (congrArg V9 (Z4 (ZF.mp (Yw.mp h)))).symm
end
noncomputable def B0(as bs:List Int)(k:Nat):St:=⟨[.val (enc as),.val (enc bs),.val (.int k),.val (.int (min as.length bs.length:Nat))],[]⟩
noncomputable def aih:FI:=⟨[("one",.loc),("other",.loc),("many",.loc),("most",.loc)],["min","len"],WL⟩
theorem ahC{g:Gx}(G:ED g)(d:Nat):a8 g (d+1) (g.fa 36) (V2 (λa b=>(eB a b:Int)) λa b=>sm a/\sm b):=
 .fc (G.K (d:=d) (fi:=aih) 36 rfl (ae (jE (names:=["many","most"]) (.cons (i:=3) rfl rfl (.cons (i:=2) rfl rfl .nil)) (dg E.x (dg (LN 0 G.toGOK (G.blt 6 rfl) (aa (ax (cG 1 G.toGOK2 (ah 0))) (aa (ax (cG 1 G.toGOK2 (ah 1))) ag))) iH)) (λU U N=>jt N 2 3 rfl rfl rfl rfl rfl rfl rfl)) (ae (lV (cq (bL (bn O.lt (E.u 2) (E.u 3)) (bL (tQ G (ax (aB (ah 0) (ah 2))) (ax (aB (ah 1) (ah 2)))) eS))) (ae (bg 2 (bC O.e9 (E.u 2) E.x)) af)) (ae (aA (E.u 2)) af)))) λas bs ⟨ha,hb⟩ G f=>lI (B0 as bs) (rO as bs) (B0 as bs) (·=eB as bs) (uB (f rfl (aq ha) (aq hb))) _ 0 (by unfold B0;rw[<- ait];rfl) ⟨rfl,zJ _,λi a b U U l=>MQ l (Yr _)⟩
  (λn k h K hK G f=>aC (decide ((k:Int)<((min as.length bs.length:Nat):Int)))
   (λc=>(h.at c).elim λa ⟨b,e1,e2⟩=>aC (a==b)
    (λc2=>f WL c (aq ha) _ (bW (dn e1) rfl) (aq hb) _ (bW (dn e2) rfl) WL c2 WL tt _ (h.dl e1 e2 c2).1 (.C (k+1) (h.dl e1 e2 c2).2 rfl))
    λc2=>hK k (h.cQ λx y e f z=>by rw[e1] at e;rw[e2] at f;(have y9:=K6 e;clear e;subst y9);(have y9:=K6 f;clear f;subst y9);rw[z] at c2;simp at c2) G (f WL c (aq ha) _ (bW (dn e1) rfl) (aq hb) _ (bW (dn e2) rfl) PO c2 PO ff))
   λc=>hK k (h.end c) G (f PO c PO ff))
  λk e G f=>f (by rw[e];rfl)
noncomputable def kn(op:Int):Bool:=20==op||(12==op||(13==op||false))
noncomputable def mV(op:Int):Bool:=14==op||(15==op||(16==op||(17==op||(18==op||(19==op||false)))))
noncomputable def Tr.zD:Tr->Tr
 |.mk j4 (s::j5)=>s
 |t=>t
noncomputable def Tr.cZ(t:Tr):Bool:=if (t.op==10)=WL then (t.low==t.iL)&&((t.zD.op==3)||kn t.zD.op) else mV t.op||kn t.op
theorem B4{nd:Nd}{s:Tr}{ss:List Tr}{x y:Bool}(c:(nd.op==10)=WL)(c2:(nd.low==nd.iL)=x)(c3:(s.op==3)=y):(Tr.mk nd (s::ss)).cZ=(x&&(y||kn s.op)):=by rw[<- c2,<- c3];exact MS c
theorem yb{t:Tr}{x:Bool}(c:(t.op==10)=PO)(c2:mV t.op=x):t.cZ=(x||kn t.op):=by rw[<- c2];exact MZ (sW.mp c)
noncomputable def aii:FI:=⟨[("re",.loc)],["FACTOR_SIGNS","FACTOR_PLACES","OP_REPEAT","OP_LITERAL"],WL⟩
theorem ahD{g:Gx}(G:ED g)(d:Nat):a8 g (d+1) (g.fa 38) (V1 Tr.cZ λt=>t.ok/\(t.op=10->t.H≠[])):=
 .fT (G.K (d:=d) (fi:=aii) 38 rfl (ae (aJ (tQ G (eA G 0 0) (eG G 2 13 rfl)) (ae (aA (sF (cD (dh G.sm) (eA G 3 0) (eA G 4 0)) (sG (oD (cD (dh G.sm) (ax (vA 0 G.toGOK2 (aB (sA G 2 0) aF))) (eG G 3 6 rfl)) (qt (cD oF (ax (vA 0 G.toGOK2 (aB (sA G 2 0) aF))) (eG G 0 29 rfl))))))) af) af) (ae (aA (oD (cD oF (eA G 0 0) (eG G 1 28 rfl)) (qt (cD oF (eA G 0 0) (eG G 0 29 rfl))))) af))) λt ⟨ok,hs⟩=>match t,ok,hs with
  |.mk nd [],ok,hs=>λG f=>aC (nd.op==10) (λc=>MQ rfl (hs (zH c))) λc=>aC (mV nd.op)
   (λc2=>f rfl PO c _ rfl WL (fb c2) (by rw[yb (t:=.mk nd []) c c2];rfl)) λc2=>f rfl PO c _ rfl PO (fb c2) _ rfl (by rw[yb (t:=.mk nd []) c c2];exact congrArg AV.bool (fb rfl).symm)
  |.mk nd (s::ss),ok,hs=>λG f=>aC (nd.op==10)
   (λc=>aC (nd.low==nd.iL) (λc2=>aC (s.op==3)
    (λc3=>f rfl WL c WL c2 (fk ok.O) _ rfl WL c3 (by rw[B4 c c2 c3];rfl))
    λc3=>f rfl WL c WL c2 (fk ok.O) _ rfl PO c3 (fk ok.O) _ rfl _ rfl (by rw[B4 c c2 c3];exact congrArg AV.bool (fb rfl).symm))
    λc2=>f rfl WL c PO c2 (by rw[B4 c c2 rfl];rfl))
   λc=>aC (mV nd.op)
   (λc2=>f rfl PO c _ rfl WL (fb c2) (by rw[yb (t:=.mk nd (s::ss)) c c2];rfl)) λc2=>f rfl PO c _ rfl PO (fb c2) _ rfl (by rw[yb (t:=.mk nd (s::ss)) c c2];exact congrArg AV.bool (fb rfl).symm)
section
variable {α β:Type}[Enc α][Enc β][DecidableEq α][DecidableEq β]{f:AV->AV->Option Bool}
theorem H7(hf:∀a b:α,f (enc a) (enc b)=Ss (decide (a=b))):∀{as bs:List α},as.length=bs.length->iv f (as.map enc) (bs.map enc)=Ss (decide (as=bs))
 |[],[],j4=>rfl
 |a::as,b::bs,h=>by have ih:=H7 hf (as:=as) (bs:=bs) (ZG h);refine (?_:(f (enc a) (enc b)).bind (λx=>(iv f (as.map enc) (bs.map enc)).bind λc=>Ss (x&&c))=_);rw[hf,ih];refine (?_:Ss (decide (a=b)&&decide (as=bs))=_);congr 1;by_cases h1:a=b<;>by_cases h2:as=bs<;>simp[h1,h2]
theorem H0(hf:∀a b:α,f (enc a) (enc b)=Ss (decide (a=b)))(as bs:List α):eY f (enc as) (enc bs)=Ss (decide (as=bs)):=by
 refine (?_:(bif (as.map (enc:α->AV)).length==(bs.map (enc:α->AV)).length then iv f (as.map enc) (bs.map enc) else Ss PO)=_);rw[K4,K4];cases h:as.length==bs.length with
 |true=>exact H7 hf (zH h)
 |false=>rw[decide_eq_false];rfl;intro z;rw[z] at h;simp at h
theorem H3(h1:∀a b:α,f (enc a) (enc b)=Ss (decide (a=b)))(h2:∀a b:β,f (enc a) (enc b)=Ss (decide (a=b)))(p q:α×β):eY f (enc p) (enc q)=Ss (decide (p=q)):=by obtain⟨a,b⟩:=p;obtain⟨c,d⟩:=q;refine (?_:(f (enc a) (enc c)).bind (λx=>bif x then ((f (enc b) (enc d)).bind λy=>bif y then Ss WL else Ss PO) else Ss PO)=_);rw[h1,h2];by_cases e1:a=c<;>by_cases e2:b=d<;>simp[e1,e2]
theorem ajT(a b:Int):eY f (enc a) (enc b)=Ss (decide (a=b)):=rfl
end
theorem uI(n:Nat):bK (n+1)=eY (bK n):=rfl
theorem uH(n:Nat)(a b:Int):bK (n+1) (enc a) (enc b)=Ss (decide (a=b)):=by rw[uI];exact ajT a b
theorem ajS(as bs:List Int):bK 140 (enc as) (enc bs)=Ss (decide (as=bs)):=by rw[uI 139];exact H0 (f:=bK 139) (λa b=>uH 138 a b) as bs
theorem ajQ(as bs:Rg):bK 140 (enc as) (enc bs)=Ss (decide (as=bs)):=by rw[uI 139];refine H0 (f:=bK 139) (λa b=>?_) as bs;rw[uI 138];exact H3 (f:=bK 138) (λa b=>uH 137 a b) (λa b=>uH 137 a b) a b
noncomputable def fm(a b:Tr):Bool:=
 if (a.op==b.op)=WL then if (vT (ar a.fl b.fl) (gB a.op)==0)=WL then
  (if (a.op==3)=WL then a.K3==b.K3 else if (a.op==4)=WL then decide (a.D5=b.D5) else if (a.op==20)=WL then decide (a.Bd=b.Bd) else
   if (a.op==10)=WL then (a.low==b.low&&a.iL==b.iL) else (a.H.length:Int)==b.H.length) else PO else PO
section
variable {a b:Tr}
theorem ahh(c:(a.op==b.op)=PO):fm a b=PO:=MZ (sW.mp c)
theorem ahf(c:(a.op==b.op)=WL)(c2:(vT (ar a.fl b.fl) (gB a.op)==0)=PO):fm a b=PO:=(MS c).trans (MZ (sW.mp c2))
theorem rR(c:(a.op==b.op)=WL)(c2:(vT (ar a.fl b.fl) (gB a.op)==0)=WL):fm a b=if (a.op==3)=WL then a.K3==b.K3 else if (a.op==4)=WL then decide (a.D5=b.D5) else if (a.op==20)=WL then decide (a.Bd=b.Bd) else
 if (a.op==10)=WL then (a.low==b.low&&a.iL==b.iL) else (a.H.length:Int)==b.H.length:=(MS c).trans (MS c2)
theorem Iq:(a.O.length:Int)=(a.H.length:Int):=by rw[lH,K4]
end
noncomputable def aic:FI:=⟨[("one",.loc),("other",.loc)],["len","OP_HAVE_MATCH","OP_CAPTURE","OP_REPEAT","OP_CLASS","OP_STRING","OP_LITERAL","tree_flags_that_matter"],WL⟩
theorem ah8{g:Gx}(G:ED g)(d:Nat):a8 g (d+2) (g.fa 23) (V2 fm λa b=>a.ok/\b.ok/\a.op≠11/\a.op≠21):=
 .fc (G.K (d:=d+1) (fi:=aic) 23 rfl (ae (aJ (cq (cY (bn (gk G.sm) (eA G 0 0) (eA G 0 1)) (cY (bn (gk G.sm) (bC O.kM (bC O.zo (eA G 1 0) (eA G 1 1)) (cV G 7 22 rfl (aj6 G d) (aa (eA G 0 0) ag))) E.x) iF))) (ae (aA E.cK) af) af) (ae (aJ (tQ G (eA G 0 0) (eG G 6 6 rfl)) (ae (aA (cD (dh G.sm) (eA G 7 0) (eA G 7 1))) af) af) (ae (aJ (tQ G (eA G 0 0) (eG G 5 7 rfl)) (ae (aA (cD (dh G.sm) (eA G 8 0) (eA G 8 1))) af) af) (ae (aJ (tQ G (eA G 0 0) (eG G 4 23 rfl)) (ae (aA (cD (dh G.sm) (eA G 9 0) (eA G 9 1))) af) af) (ae (aJ (tQ G (eA G 0 0) (eG G 3 13 rfl)) (ae (aA (sF (cD (dh G.sm) (eA G 3 0) (eA G 3 1)) (sG (cD (dh G.sm) (eA G 4 0) (eA G 4 1))))) af) af) (ae (aJ (tQ G (eA G 0 0) (eG G 2 14 rfl)) (ae (aA (sF (cD (dh G.sm) (eA G 5 0) (eA G 5 1)) (sG (cD (dh G.sm) (eA G 6 0) (eA G 6 1))))) af) af) (ae (aJ (tQ G (eA G 0 0) (eG G 1 24 rfl)) (ae (aA (cD (dh G.sm) (eA G 10 0) (eA G 10 1))) af) af) (ae (aA (cD (dh G.sm) (ax (cG 0 G.toGOK2 (sA G 2 0))) (ax (cG 0 G.toGOK2 (sA G 2 1))))) af))))))))) λa b ⟨oa,ob,n1,n2⟩ G f=>aC (a.op==b.op) (λc=>aC (vT (ar a.fl b.fl) (gB a.op)==0)
  (λc2=>aC (a.op==3) (λd1=>f rfl PO (dI c) a.op rfl trivial PO (dI c2) PO ff WL d1 (by rw[rR c c2,d1];rfl)) λd1=>
   aC (a.op==4) (λd2=>f rfl PO (dI c) a.op rfl trivial PO (dI c2) PO ff PO d1 WL d2 _ (ajS a.D5 b.D5) (by rw[rR c c2,d1,d2];rfl)) λd2=>
   aC (a.op==20) (λd3=>f rfl PO (dI c) a.op rfl trivial PO (dI c2) PO ff PO d1 PO d2 WL d3 _ (ajQ a.Bd b.Bd) (by rw[rR c c2,d1,d2,d3];rfl)) λd3=>
   aC (a.op==10) (λd4=>aC (a.low==b.low)
    (λd5=>f rfl PO (dI c) a.op rfl trivial PO (dI c2) PO ff PO d1 PO d2 PO d3 WL d4 WL d5 (by rw[rR c c2,d1,d2,d3,d4,d5];rfl))
    λd5=>f rfl PO (dI c) a.op rfl trivial PO (dI c2) PO ff PO d1 PO d2 PO d3 WL d4 PO d5 (by rw[rR c c2,d1,d2,d3,d4,d5];rfl)) λd4=>
    f rfl PO (dI c) a.op rfl trivial PO (dI c2) PO ff PO d1 PO d2 PO d3 PO d4 PO (beq_eq_false_iff_ne.mpr n1) PO (beq_eq_false_iff_ne.mpr n2) (fk oa.O) (fk ob.O) (by rw[rR c c2,d1,d2,d3,d4,<- Iq,<- Iq];rfl))
  λc2=>f rfl PO (dI c) a.op rfl trivial WL (n7 c2) WL tt (by rw[ahf c c2];rfl))
  λc=>f rfl WL (n7 c) WL tt (by rw[ahh c];rfl)
abbrev BG(g:Gx)(W:Wd){α:Type}(e:α->AV):Prop:=∀a b v,Vr g W (e a) v->Vr g W (e b) v->a=b
section
variable {g:Gx}{W:Wd}
theorem xT:BG g W AV.int:=λa b v h h'=>by refine a7 (h.kO) λt y9=>?_;subst y9;refine a7 (h'.kO) λu e=>?_;cases e;rfl
theorem aiT:BG g W xz:=λa b v h h'=>by
 induction a with
 |none=>induction b with
  |none=>rfl
  |some y=>obtain rfl:=Vr.qI h;refine a7 (Vr.vM h') λt e=>?_;exact Xq e
 |some x=>induction b with
  |none=>obtain rfl:=Vr.qI h';refine a7 (Vr.vM h) λt e=>?_;exact Xq e
  |some y=>refine a7 (Vr.vM h) λt y9=>?_;subst y9;refine a7 (Vr.vM h') λu e=>?_;(injection e with y8 y9;subst y8;subst y9);rfl
theorem aev{α:Type}{e:α->AV}{as:List α}:∀{bs:List α}{vs:List M5},(∀a∈as,∀b v,Vr g W (e a) v->Vr g W (e b) v->a=b)->aO g W (as.map e) vs->aO g W (bs.map e) vs->as=bs:=by
 induction as with
 |nil=>
  intro bs vs _ h h';induction bs using K1 with
  |nil=>rfl
  |cons b bs=>refine hJ (Al.gG h') λU U e U=>?_;rw[Al.sO h] at e;exact fO e
 |cons a as ih=>
  intro bs vs k h h';refine eX (Al.gG h) λv us e1 r1 r2=>?_;induction bs using K1 with
  |nil=>rw[Al.sO h'] at e1;exact fO e1
  |cons b bs=>refine eX (Al.gG h') λv' th e2 r3 r4=>?_;refine ak (dj (e1.symm.trans e2)) λy9 y8=>?_;subst y9;subst y8;rw[k a (.head _) b _ r1 r3,ih (λx m=>k x (.tail _ m)) r2 r4]
theorem BP{α:Type}{e:α->AV}{as bs:List α}{v:M5}(k:∀a∈as,∀b v,Vr g W (e a) v->Vr g W (e b) v->a=b)(h:Vr g W (.lst (as.map e)) v)(h':Vr g W (.lst (bs.map e)) v):as=bs:=by
 obtain⟨a,o,vs,rfl,e1,⟨n,rfl⟩,r⟩:=h.jM;obtain⟨a',o',jl,q,e2,⟨n',rfl⟩,r'⟩:=h'.jM
 (injection q with y9;subst y9);rw[e1] at e2;cases e2;exact aev k r r'
theorem aiS:BG g W (enc:Int×Int->AV):=λa b v h h'=>by
 obtain⟨a1,o,vs,rfl,e1,⟨n,rfl⟩,r⟩:=Vr.sT h;obtain⟨a2,o',jl,q,e2,⟨n',rfl⟩,r'⟩:=Vr.sT h'
 (injection q with y9;subst y9);rw[e1] at e2;cases e2;refine eX (Al.gG r) λx us k1 x1 r=>?_;refine eX (Al.gG r) λy us2 k2 y1 U=>?_;refine eX (Al.gG r') λx' th k3 x2 r'=>?_;refine eX (Al.gG r') λy' aga k4 y2 U=>?_;refine ak (dj (k1.symm.trans k3)) λy9 q=>?_;subst y9;refine ak (dj (k2.symm.trans (q.trans k4))) λy9 U=>?_;subst y9;exact Ye (xT _ _ _ x1 x2) (xT _ _ _ y1 y2)
theorem ip.gp{fs:List (Nat×AV)}{m:Str->Option M5}(h:ip g W fs m){p:Nat×AV}(hp:p∈fs):∃v,m (aQ p.1)=Ss v/\Vr g W p.2 v:=⟨_,(h.l6 p hp).1,(h.l6 p hp).2⟩
theorem aeA{fs cJ:List (Nat×AV)}{m:Str->Option M5}(h:ip g W fs m)(h':ip g W cJ m){k:Nat}{x y:AV}(hx:(k,x)∈fs)(hy:(k,y)∈cJ):∃v,Vr g W x v/\Vr g W y v:=by
 refine aj (h.gp hx) λv e r=>?_;refine aj (h'.gp hy) λu e' r'=>?_;rw[e] at e';(have y9:=K6 e';clear e';subst y9)
 exact⟨v,r,r'⟩
theorem aiR(n:Nat):∀(a b:Tr) (v:M5),a.ht<=n->Vr g W (enc a) v->Vr g W (enc b) v->a=b:=by
 induction n with
 |zero=>intro a _ _ h _ _;induction a using Tr.casesOn;exact MQ h (Yb _)
 |succ n ih=>
  intro a b v hn h h';obtain⟨p,d,o,m,rfl,e1,e2,q,r⟩:=Vr.qJ h;obtain⟨p',d',o',m',ep,NR,Fh,q',r'⟩:=Vr.qJ h'
  (injection ep with y9;subst y9);rw[e1] at NR;obtain rfl:d=d':=by cases NR;rfl
  rw[e2] at Fh;(have y9:=K6 Fh;clear Fh;subst y9)
  refine nR q λes x1 x2 x3 x4 x5=>?_
  refine nR q' λkW y1 y2 y3 y4 y5=>?_
  obtain rfl:m=m':=by rw[x2] at y2;cases y2;exact funext λnm=>(x4 nm).symm.trans (y4 nm)
  have two:∀(k:Nat) (x y:AV),(kj a a.O)[k]?=Ss (k,x)->(kj b b.O)[k]?=Ss (k,y)->∃v,Vr g W x v/\Vr g W y v:=λk x y hx hy=>aeA r r' (s8 hx) (s8 hy);have i:∀(k:Nat) (x y:Int),(kj a a.O)[k]?=Ss (k,.int x)->(kj b b.O)[k]?=Ss (k,.int y)->x=y:=λk x y hx hy=>let⟨v,h,h'⟩:=two k _ _ hx hy;xT _ _ v h h';obtain⟨⟨aop,afl,alo,ahi,aca,anm,aru,ars,arg⟩,al⟩:=a;obtain⟨⟨bop,bfl,blo,bhi,bca,bnm,bru,brs,brg⟩,bl⟩:=b;obtain rfl:=i 0 aop bop rfl rfl;obtain rfl:=i 1 afl bfl rfl rfl;obtain rfl:=i 3 alo blo rfl rfl;obtain rfl:=i 4 ahi bhi rfl rfl;obtain rfl:=i 5 aca bca rfl rfl;obtain rfl:=i 7 aru bru rfl rfl;refine aj (two 6 _ _ rfl rfl) λv h h'=>?_;obtain rfl:anm=bnm:=aiT _ _ v h h';refine aj (two 8 _ _ rfl rfl) λv h h'=>?_;obtain rfl:ars=brs:=BP (λa U b v h h'=>xT a b v h h') h h';refine aj (two 9 _ _ rfl rfl) λv h h'=>?_;obtain rfl:arg=brg:=BP (λa U b v h h'=>aiS a b v h h') h h';refine aj (two 2 _ _ rfl rfl) λv h h'=>?_;have h:Vr g W (.lst (qx al)) v:=h;have h':Vr g W (.lst (qx bl)) v:=h';rw[ut] at h h';exact congrArg (Tr.mk _) (BP (λa ha b v h h'=>ih a b v (nq hn ha) h h') h h')
end
noncomputable def gC(a b:Tr):Bool:=fm a b&&match a.H,b.H with
 |[s],[u]=>fm s u
 |j4,j5=>WL
structure xN(a b:Tr):Prop where
 oa:a.ok
 ob:b.ok
 na:a.op≠11/\a.op≠21
 bJ:a.H=[]∨∃s,a.H=[s]/\s.H=[]/\s.op≠11/\s.op≠21
 di:fm a b=WL->a.H.length=b.H.length
 afn:∀s u,a.H=[s]->b.H=[u]->fm s u=WL->u.H=[]
theorem yd(a:Tr):fm a a=WL:=by
 unfold fm;rw[bitXor_self,bitAnd_comm,bitAnd_zero,MS Yv,MS Yv]
 repeat' split
 all_goals simp
set_option tactic.hygienic true in
theorem ahe(a:Tr):gC a a=WL:=by
 unfold gC;rw[yd,Y0];generalize a.H=l;induction l using K1 with
 |nil=>rfl
 |cons s l=>
  induction l using K1 with
  |nil=>exact yd s
  |cons c l=>rfl
abbrev HV:=an×an×an×an×an×an
inductive BE(r:Bool)(n:Nat)(s:List (Tr×Tr)×HV):Prop
 |go (a b:Tr) (e1:s.1=[(a,b)]) (e:a.H.length+1=n) (k:xN a b) (h:r=gC a b)
 |fin (e1:s.1=[]) (e:n=0) (h:r=WL)
noncomputable def H8(s:List (Tr×Tr)×HV):St:=⟨[s.2.1,s.2.2.1,.own (enc s.1),s.2.2.2.1,s.2.2.2.2.1,s.2.2.2.2.2.1,s.2.2.2.2.2.2],[]⟩
inductive HU(r:Bool)(n:Nat)(a b:Tr)(l:List (Int×Tr))(s:List (Tr×Tr)×an×an):Prop
 |go (t u:Tr) (el:l=[(0,t)]) (ea:a.H=[t]) (eb:b.H=[u]) (e1:s.1=[]) (h:∀x,∃m,m<n/\BE r m ([(t,u)],x))
 |fin (el:l=[]) (h:∀x,∃m,m<n/\BE r m (s.1,x))
noncomputable def H9(a b:Tr)(x0 x1:an)(s:List (Tr×Tr)×an×an):St:=⟨[x0,x1,.own (enc s.1),.val (enc a),.val (enc b),s.2.1,s.2.2],[]⟩
noncomputable def H6(l:List Tr):List (Int×Tr):=match l with
 |[s]=>[(0,s)]
 |_=>[]
theorem aiP{r:Bool}{n:Nat}{a b:Tr}(e:a.H.length+1=n)(k:xN a b)(h:r=gC a b)(c:fm a b=WL)(x5 x6:an):HU r n a b (H6 a.H) ([],x5,x6):=by
 have kl:=k.di c;unfold gC at h;rw[c,Y0] at h;rcases k.bJ with hl|⟨s,hl,h2,h3,h4⟩
 ·rw[hl] at h ⊢;exact .fin rfl λx=>⟨0,by rw[<- e];exact Xb _,.fin rfl rfl h⟩
 ·rw[hl] at kl;refine a7 (List.length_eq_one_iff.mp kl.symm) λu hu=>?_;rw[hl,hu] at h;refine hl▸.go s u rfl hl hu rfl λx=>⟨1,by rw[<- e,hl];exact YB _,.go s u rfl (by rw[h2];rfl) ⟨k.oa.bJ (by rw[hl];exact .head _),k.ob.bJ (by rw[hu];exact .head _),⟨h3,h4⟩,.inl h2,λt=>?_,λs' u' e1=>?_⟩ ?_⟩
  ·rw[h2,k.afn s u hl hu t]
  ·rw[h2] at e1;exact fO e1
  ·unfold gC;rw[h2];exact h.trans (Bool.and_true _).symm
noncomputable def aid:FI:=⟨[("one",.loc),("other",.loc),("pairs",.loc),("near",.loc),("far",.loc),("place",.loc),("sub",.loc)],["enumerate","tree_top_equal"],WL⟩
theorem ah9{g:Gx}(G:ED g)(d:Nat):a8 g (d+3) (g.fa 24) (V2 gC xN):=
 .fc (G.K (d:=d+2) (fi:=aid) 24 rfl (ae (bg 2 (a9 (aa (bD (aa (E.u 0) (aa (E.u 1) ag))) ag))) (ae (lV (kF (ah 2)) (ae (kE (.cons (i:=3) rfl rfl (.cons (i:=4) rfl rfl .nil)) (DF 2)) (ae (aJ (bn ad8 (E.u 3) (E.u 4)) (ae (aJ (sH (eT (cV G 1 23 rfl (ah8 G d) (aa (E.u 3) (aa (E.u 4) ag))))) (ae (aA E.cK) af) af) (ae (Dy (aet 0 G.toGOK (G.blt 1 rfl) (eA G 2 3)) (qu (.cons (i:=5) rfl rfl (.cons (i:=6) rfl rfl .nil))) (ae (eF (g5 2 (bD (aa (E.u 6) (aa (ax (aB (sA G 2 4) (ah 5))) ag))))) af)) af)) af) af))) (ae (aA E.cK) af)))) λa b hk G f=>lI H8 (BE (gC a b)) H8 (λU=>gC a b=WL) (uB (f rfl)) (a.H.length+1) ([(a,b)],.val (enc a),.val (enc b),.none,.none,.none,.none) rfl (.go a b rfl rfl hk rfl)
  (λn s h k hk=>by
   obtain⟨ps,x0,x1,x3,x4,x5,x6⟩:=s;induction h with
   |fin e1 e h=>obtain rfl:ps=[]:=e1;exact λG f=>hk ([],x0,x1,x3,x4,x5,x6) h G (f PO ff)
   |go c d e1 e k2 h=>
    obtain rfl:ps=_:=e1;refine λG f=>(λf=>aC (fm c d) (λt=>?_) λt=>f WL (n7 t) (by rw[h];unfold gC;rw[t];rfl)) (f WL tt (by refine (?_:1<=1000000);decide) [] (enc (c,d)) rfl (λW v h1 h2 G f=>f PO ff 0 (by rw[<- e];exact Xb _) (.C ([],x0,x1,.val (enc c),.val (enc d),x5,x6) (.fin rfl rfl (by obtain rfl:=aiR _ c d v (EC _) h1 h2;rw[h];exact ahe c)) rfl)) WL tt c d rfl ⟨k2.oa,k2.ob,k2.na⟩)
    refine gS enc (H9 c d x0 x1) (HU (gC a b) n c d) (f PO (dI t)) (H6 c.H) ([],x5,x6) ?_ rfl (aiP e k2 h t x5 x6) (λp l s h=>?_) λs h=>?_
    ·rw[lH];rcases k2.bJ with hl|⟨s,hl,_⟩<;>rw[hl]<;>rfl
    ·induction h with
     |fin el=>exact fN el
     |go t u el ea eb e1 h=>(injection el with y8 y9;subst y8;subst y9);exact λG f=>f (by rw[show s.1=[] from e1];exact zJ _) (by rw[lH,eb];refine (?_:1<2 ^ 62);decide) (enc u) (by rw[lH,eb];rfl) (.C ([(t,u)],.val (.int 0),.val (enc t)) (.fin rfl h) (by unfold H9;rw[e1];rfl))
    ·induction h with
     |go t u el=>exact fO el
     |fin el h=>exact (h (x0,x1,.val (enc c),.val (enc d),s.2.1,s.2.2)).elim λm hm G f=>f m hm.1 (.C (s.1,x0,x1,.val (enc c),.val (enc d),s.2.1,s.2.2) hm.2 rfl))
  λs e G f=>f (congrArg AV.bool e)
noncomputable def dH(a b:Tr):Bool:=match a.V,b.V with
 |some x,Ss y=>x.cZ&&gC x y
 |j4,j5=>PO
structure BC(a b:Tr):Prop where
 oa:a.ok
 ob:b.ok
 s:∀x,a.V=Ss x->x.ok/\(x.op=10->x.H≠[])
 f:∀x y,a.V=Ss x->b.V=Ss y->x.cZ=WL->xN x y
noncomputable def ai2:FI:=⟨[("one",.loc),("other",.loc),("first",.loc),("second",.loc)],["tree_equal","factor_is_simple","leading_regexp"],WL⟩
theorem ajP{a b x y:Tr}{c:Bool}(ha:a.V=Ss x)(hb:b.V=Ss y)(hc:x.cZ=c):dH a b=(c&&gC x y):=by unfold dH;rw[ha,hb,<- hc]
theorem ajO{a b:Tr}(h:a.V=M4):dH a b=PO:=by unfold dH;rw[h]
theorem ajt{a b:Tr}(h:b.V=M4):dH a b=PO:=by unfold dH;rw[h];induction a.V<;>rfl
theorem ahJ{g:Gx}(G:ED g)(d:Nat):a8 g (d+4) (g.fa 39) (V2 dH BC):=
 .fc (G.K (d:=d+3) (fi:=ai2) 39 rfl (ae (jE (names:=["first","second"]) (.cons (i:=3) rfl rfl (.cons (i:=2) rfl rfl .nil)) (dg (cV G 2 30 rfl (Bt G (d+2)) (aa (E.u 0) ag)) (dg (cV G 2 30 rfl (Bt G (d+2)) (aa (E.u 1) ag)) iH)) (λU U N=>jt N 2 3 rfl rfl rfl rfl rfl rfl rfl)) (ae (aJ (cq (cY (bn O.zl (E.u 2) E.none) (cY (bn O.zl (E.u 3) E.none) (cY (sH (eT (cV G 1 38 rfl (ahD G (d+2)) (aa (E.u 2) ag)))) iF)))) (ae (aA E.cK) af) af) (ae (aA (cV G 0 24 rfl (ah9 G d) (aa (E.u 2) (aa (E.u 3) ag)))) af)))) λa b k G f=>db (f rfl) ⟨[.val (enc a),.val (enc b),.val (enc a.V),.val (enc b.V)],[]⟩ (λK kk G f=>kk G (f a rfl k.oa b rfl k.ob)) (by
  have ks:=k.s;have kf:=k.f;have n1:=ajO (a:=a) (b:=b);have n2:=ajt (a:=a) (b:=b);have e:=λx y c=>ajP (a:=a) (b:=b) (x:=x) (y:=y) (c:=c);revert ks kf n1 n2 e;generalize a.V=x;generalize b.V=y;intro ks kf n1 n2 e;induction x with
  |none=>exact λG f=>f rfl WL tt WL tt (congrArg AV.bool (n1 rfl))
  |some x=>induction y with
   |none=>exact λG f=>f rfl PO ff rfl WL tt WL tt (congrArg AV.bool (n2 rfl))
   |some y=>exact λG f=>aC x.cZ (λc=>f rfl PO ff rfl PO ff x rfl (ks x rfl) PO (dI c) PO ff x y rfl (kf x y rfl rfl c) (congrArg AV.bool (e x y WL rfl rfl c))) λc=>f rfl PO ff rfl PO ff x rfl (ks x rfl) WL (n7 c) WL tt (congrArg AV.bool (e x y PO rfl rfl c)))
section
variable {g:Gx}{d:Nat}{fi:FI}
noncomputable def Mb(st:St)(f:Nat)(x:AV)(P:Bool->AV->PS):PS:=x.lY λk=>.ex λmo:MO=>.rq (st.aI[k]?=Ss (Ss mo)) (cL (rA mo.cls f) (vz (mo.fs.lookup f) P))
theorem uM{st:St}{k:Nat}{mo:MO}{P:MO->PS}(e:st.aI[k]?=Ss (Ss mo))(h:P mo):st.oQ k P:=by unfold St.oQ;rw[e];exact h
theorem aia{st:St}{f:Nat}{x:AV}{P:Bool->AV->PS}(h:Mb st f x P):Dz st f x P:=by obtain⟨k,rfl,mo,e,h⟩:=AV.qz h;exact uM e h
noncomputable def aex(f:Nat)(a:DR):DR:=λst P=>a st λb x=>bY b (Mb st f x P)
theorem gm{e:M3}{Da:DR}{nm:Str}{pos:Pos}(f:Nat)(G:GOK2 g)(ha:bB g d fi e Da)(hn:autoParam (nm=aQ f) t_rfl)(he:autoParam (tF e=WL) t_rfl):bB g d fi (.Attribute e nm pos) (aex f Da):=by constructor;intro A W env ca st P Rz s C N h R;refine WP (aL (ha.aN A W env ca st _ Rz s C N h R) λv s1 hh=>?_) (attr_plain he env);obtain⟨x,tk,rfl,hp,hv,R1⟩:=hh.nz R;subst hn;exact aL (GF G R1 hv (aia hp)) λU U=>LA
noncomputable def aey(f:Nat)(b:DR)(a:DE):DS:=λst Q=>a st λr ab=>b ab λp x=>bY p (x.lY λk=>.ex λmo:MO=>.rq (ab.aI[k]?=Ss (Ss mo)) (cL (uf mo f) (Q .next ⟨ab.aD,ab.aI.set k (Ss ⟨mo.cls,ir mo.fs f (.val r.v)⟩)⟩)))
theorem g7{o e:M3}{Do:DR}{De:DE}{nm:Str}{ap pos:Pos}(f:Nat)(G:GOK2 g)(ho:bB g d fi o Do)(he:au g d fi e De)(hn:autoParam (nm=aQ f) t_rfl)(hs:autoParam (mI e=WL) t_rfl):eJ g d fi (.Assign [.Attribute o nm ap] e pos) (aey f Do De):=by constructor;intro A W env ca st Q Rz s C N np h R;refine Vu (aL (nP (K:=λy ab=>Do ab λp x=>bY p (x.lY λk=>.ex λmo:MO=>.rq (ab.aI[k]?=Ss (Ss mo)) (cL (uf mo f) (Q .next ⟨ab.aD,ab.aI.set k (Ss ⟨mo.cls,ir mo.fs f (.val y)⟩)⟩)))) he C N h R) λv s1 hh=>?_) (noSwap hs env);obtain⟨W1,ab,y,le,v1,q,R1⟩:=hh;refine aL (ho.aN A W1 env ca ab _ Rz s1 C N q R1) λu s2 wD=>?_;obtain⟨x,tk,rfl,h2,v2,R2⟩:=wD.nz R1;subst hn;obtain⟨k,rfl,mo,e,h2⟩:=AV.qz h2;exact AX (l:=[]) (P:=λaz=>Q .next az) G R2 v2 (.val v1) (uM e h2) λaz s3 q R3=>⟨W1,.next,az,le,q,trivial,R3⟩
noncomputable def Ip(e:Nat)(st:St)(x:AV)(P:Bool->PS):PS:=match x with
 |.inst c j4=>cL (Xu c 4&&!ie c e) (P PO)
 |.ref k=>.ex λmo:MO=>.rq (st.aI[k]?=Ss (Ss mo)) (cL (Xu mo.cls 4) (P (ie mo.cls e)))
 |_=>.bot
theorem aiy{e:Nat}{st:St}{x:AV}{P:Bool->PS}(h:Ip e st x P):Bc e st x P:=by
 induction x using AV.casesOn with
 |inst c fs=>exact h
 |ref k=>refine aj h λmo e h=>?_;exact uM e h
 |_=>exact h.elim
theorem Mc{a:M3}{Da:DR}{nm:Str}{p p2 pos:Pos}(e:Nat)(j j2:Nat)(G:GOK g)(hg:GB g "isinstance" (.builtin "isinstance"))(gc:g.mg nm=Ss (.ref (g.κ e)))(gi:ui g e)(ha:bB g d fi a Da)(hj:autoParam (fi.ng[j]?=Ss ("isinstance":Str)) t_rfl)(tm:autoParam (fi.ng[j2]?=Ss nm) t_rfl)
 (hs:autoParam (cT a=WL) t_rfl) (hp:autoParam (∀env,(dP pos (sZ [.Name nm p2] env)).any (·.1)=PO) t_exact_star_any_rfl) :
 au g d fi (.Call (.Name "isinstance" p) [a,.Name nm p2] [] pos) (λst Q=>Da st λb x=>bY b (Mine.Internal.Ip e st x λt=>Q (.val (.bool t)) st)):=by
 constructor;intro A W env ca st Q Rz s C N h R;refine Ze (mL G N R hj hg.1 hg.2 (Wa (ZS (aL (ha.aN A W env ca st _ Rz s C N h R) λu s1 hh=>?_) (star_cons hs env)) (star_cons hs env) (hp env)));obtain⟨x,tk,rfl,h1,hv,R1⟩:=hh.nz R;exact ZS (lC G N R1 tm gc (Z5 (Hm gi R1 hv (aiy h1) λt eH ht=>eN ht (.bool _) R.Z))) rfl
end
set_option genInjectivity false in
inductive It where
 |tr (t:Tr)
 |sp (k:Nat)
noncomputable def It.av:It->AV
 |.tr t=>enc t
 |.sp k=>.ref k
set_option genInjectivity false in
inductive TO where
 |splice (p:Tr) (eI:List Tr) (made:Option Tr)
 |frame (MP:List It) (sp:Option Nat) (NS at_:Int)
noncomputable def uP:Option Nat->AV
 |none=>.none
 |some k=>.ref k
noncomputable def TO.mo:TO->MO
 |.splice p eI made=>⟨1,[(11,.val (enc p)),(2,.val (enc eI)),(12,.val (enc made))]⟩
 |.frame MP sp NS at_=>⟨2,[(13,.val (.lst (MP.map It.av))),(14,.val (uP sp)),(15,.val (.int NS)),(16,.val (.int at_))]⟩
abbrev bo(ms:List TO):List (Option MO):=ms.map λo=>Ss o.mo
theorem eu{ms:List TO}{k:Nat}{o:TO}(e:ms[k]?=Ss o):(bo ms)[k]?=Ss (Ss o.mo):=by rw[ZZ,e];rfl
theorem uR{ms:List TO}{k:Nat}{o:TO}:(bo ms).set k (Ss o.mo)=bo (ms.set k o):=List.map_set.symm
theorem eC{α:Type}{l:List α}{k:Nat}{x y:α}(e:l[k]?=Ss x):(l.set k y)[k]?=Ss y:=Xp (sV.mp e).1
theorem lJ{α:Type}{l:List α}{k:Nat}{x y:α}:(l.set k x).set k y=l.set k y:=Wt ..
noncomputable def ahr:DC:=iw (α:=Nat×Tr×List Tr×List (Option MO)) (λa=>[.ref a.1,enc a.2.1,enc a.2.2.1]) (·.2.2.2) (λa=>a.2.2.2[a.1]?=Ss (Ss ⟨1,[]⟩)) (λU=>.none) λa=>a.2.2.2.set a.1 (Ss (TO.splice a.2.1 a.2.2.1 M4).mo)
noncomputable def aiK:FI:=⟨[("self",.loc),("prefix",.loc),("subs",.loc)],[],WL⟩
theorem Iv{g:Gx}(G:ED g)(d:Nat):bQ g (d+1) (g.fa 32) ahr:=
 (G.K (d:=d) (fi:=aiK) 32 rfl (ae (g7 11 G.toGOK2 (ah 0) (E.u 1)) (ae (g7 2 G.toGOK2 (ah 0) (E.u 2)) (ae (g7 12 G.toGOK2 (ah 0) E.none) af)))).jf λa em G f=>f rfl _ em _ (eC em) _ (eC (eC em)) rfl (by rw[lJ,lJ];rfl)
noncomputable def aiX:DC:=iw (α:=Nat×List Tr×Option Nat×List (Option MO)) (λa=>[.ref a.1,enc a.2.1,uP a.2.2.1]) (·.2.2.2) (λa=>sm a.2.1/\a.2.2.2[a.1]?=Ss (Ss ⟨2,[]⟩)) (λU=>.none) λa=>a.2.2.2.set a.1 (Ss (TO.frame (a.2.1.map .tr) a.2.2.1 0 0).mo)
noncomputable def aiN:FI:=⟨[("self",.loc),("subs",.loc),("splice",.loc)],["list"],WL⟩
theorem Iu{g:Gx}(G:ED g)(d:Nat):bQ g (d+1) (g.fa 33) aiX:=
 (G.K (d:=d) (fi:=aiN) 33 rfl (ae (g7 13 G.toGOK2 (ah 0) (lX 0 G.toGOK (G.blt 4 rfl) (E.u 1))) (ae (g7 14 G.toGOK2 (ah 0) (ax (ah 2))) (ae (g7 15 G.toGOK2 (ah 0) E.x) (ae (g7 16 G.toGOK2 (ah 0) E.x) af))))).jf λa ⟨hs,em⟩ G f=>f rfl (cM hs) _ em _ (eC em) _ (eC (eC em)) _ (eC (eC (eC em))) rfl (by rw[lJ,lJ,lJ,show TO.mo (.frame (a.2.1.map It.tr) a.2.2.1 0 0)=⟨2,[(13,.val (.lst (a.2.1.map enc))),(14,.val (uP a.2.2.1)),(15,.val (.int 0)),(16,.val (.int 0))]⟩ from congrArg (λz=>(⟨2,[(13,.val (.lst z)),_,_,_]⟩:MO)) Za];rfl)
noncomputable def fA:List It->Option (Nat×Nat)
 |[]=>M4
 |.sp j::j4=>Ss (0,j)
 |.tr j4::is=>(fA is).map λp=>(p.1+1,p.2)
set_option genInjectivity false in
structure rM where
 k:Nat
 ms:List TO
 bu:List It
 sp:Option Nat
 r:Int
 a:Nat
structure BH(x:rM):Prop where
 s:sm x.bu
 e:x.ms[x.k]?=Ss (.frame x.bu x.sp x.r x.a)
 l:x.a<=x.bu.length
 j:∀j,.sp j∈x.bu->∃p s m,x.ms[j]?=Ss (.splice p s m)/\j≠x.k
noncomputable def ah6:Option (Nat×Nat)->AV
 |none=>.none
 |some p=>.ref p.2
noncomputable def IB(x:rM):Option (Nat×Nat)->List TO
 |none=>x.ms.set x.k (.frame x.bu x.sp x.r x.bu.length)
 |some p=>x.ms.set x.k (.frame x.bu x.sp x.r (x.a+p.1+1:Nat))
noncomputable def IC:DC:=λxs mem P=>.ex λx:rM=>.rq ([.ref x.k]=xs) (.rq (bo x.ms=mem) (.rq (BH x) (.ex λn=>.rq (fA (x.bu.drop x.a)=n) (P (ah6 n) (bo (IB x n))))))
structure rN(x:rM)(n a:Nat):Prop where
 e:x.bu.length-a=n
 l:a<=x.bu.length
 l0:x.a<=a
 z:fA (x.bu.drop x.a)=(fA (x.bu.drop a)).map λp=>(a-x.a+p.1,p.2)
noncomputable def uN(x:rM)(s:Nat×an):St:=⟨[.val (.ref x.k),s.2],bo (x.ms.set x.k (.frame x.bu x.sp x.r s.1))⟩
theorem uL{is:List It}(h:sm is):(is.map It.av).length<2 ^ 62:=by rw[K4];exact fk h
theorem Ij{l:List It}{k:Nat}{x:It}(e:l[k]?=Ss x):(l.map It.av)[k]?=Ss x.av:=by rw[ZZ,e];rfl
theorem aiY{k:Nat}{ms:List TO}{o o':TO}(e:ms[k]?=Ss o):(bo (ms.set k o'))[k]?=Ss (Ss o'.mo):=eu (eC e)
section
variable {x:rM}{n a:Nat}
theorem BH.fr(h:BH x)(a:Nat):(bo (x.ms.set x.k (.frame x.bu x.sp x.r a)))[x.k]?=Ss (Ss (TO.frame x.bu x.sp x.r a).mo):=aiY h.e
theorem rN.at(h:rN x n a)(c:decide ((a:Int)<((x.bu.map It.av).length:Nat))=WL):∃i,x.bu[a]?=Ss i/\x.bu.drop a=i::x.bu.drop (a+1):=by have c:=qO.mp (zL c);rw[K4] at c;exact⟨_,Zs c,Wi c⟩
theorem rN.dl{t:Tr}(h:rN x n a)(e:x.bu[a]?=Ss (.tr t))(ed:x.bu.drop a=.tr t::x.bu.drop (a+1)):x.bu.length-(a+1)<n/\rN x (x.bu.length-(a+1)) (a+1):=by have c:=(sV.mp e).1;refine⟨Az h.e c,rfl,c,ZP h.l0,?_⟩;have z:=h.z;rw[ed] at z;rw[z];refine (?_:((fA (x.bu.drop (a+1))).map λp=>(p.1+1,p.2)).map _=_);rw[Option.map_map];congr 1;funext p;exact Ye (by refine (?_:a-x.a+(p.1+1)=a+1-x.a+p.1);exact PB h.l0) rfl
theorem rN.Ew{j:Nat}(h:rN x n a)(ed:x.bu.drop a=.sp j::x.bu.drop (a+1)):fA (x.bu.drop x.a)=Ss (a-x.a,j)/\x.a+(a-x.a)+1=a+1:=by have z:=h.z;rw[ed] at z;exact⟨z,PA h.l0⟩
theorem rN.zy(h:rN x n a)(c:decide ((a:Int)<((x.bu.map It.av).length:Nat))=PO):a=x.bu.length/\fA (x.bu.drop x.a)=M4:=by have c:¬ a<(x.bu.map It.av).length:=λz=>of_decide_eq_false c (qO.mpr z);rw[K4] at c;obtain rfl:a=x.bu.length:=Py h.l c;have z:=h.z;rw[VF] at z;exact⟨rfl,z⟩
theorem B2{b:Nat}:(bo (x.ms.set x.k (.frame x.bu x.sp x.r a))).set x.k (Ss (TO.frame x.bu x.sp x.r b).mo)=bo (x.ms.set x.k (.frame x.bu x.sp x.r b)):=by rw[uR,lJ]
theorem BH.spl(h:BH x){j:Nat}(m:It.sp j∈x.bu):∃p s q,((bo (x.ms.set x.k (.frame x.bu x.sp x.r a))).set x.k (Ss (TO.frame x.bu x.sp x.r (a+1:Nat)).mo))[j]?=Ss (Ss (TO.splice p s q).mo):=by refine OJ (h.j j m) λp s q h1 h2=>?_;exact⟨p,s,q,by rw[B2];exact eu (by rw[Yo (Yu h2)];exact h1)⟩
end
noncomputable def aiM:FI:=⟨[("self",.loc),("item",.loc)],["len","isinstance","FactorSplice"],WL⟩
theorem ais{g:Gx}(G:ED g)(d:Nat):bQ g (d+1) (g.fa 34) IC:=
 (G.K (d:=d) (fi:=aiM) 34 rfl (ae (lV (bn O.lt (ax (gm 16 G.toGOK2 (ah 0))) (ax (cG 0 G.toGOK2 (gm 13 G.toGOK2 (ah 0))))) (ae (bg 1 (ax (aB (gm 13 G.toGOK2 (ah 0)) (gm 16 G.toGOK2 (ah 0))))) (ae (g7 16 G.toGOK2 (ah 0) (bC O.e9 (ax (gm 16 G.toGOK2 (ah 0))) E.x)) (ae (aJ (eT (Mc 1 1 2 G.toGOK (G.blt 3 rfl) (G.cls 1 rfl).val G.Vx (ah 1))) (ae (LZ (ax (ah 1))) af) af) af)))) (ae (aA E.none) af))).to (Cf':=IC) λxs mem P ⟨x,e,e',h,n,en,q⟩=>by
  subst e;subst e';subst en;exact aei _ _ q λG f=>lI (uN x) (rN x · ·.1) (uN x) (λu=>u.1=x.bu.length/\fA (x.bu.drop x.a)=M4) (f rfl) _ (x.a,.none) (by unfold uN;rw[tH h.e];rfl)
   ⟨rfl,h.l,EC _,by rw[Wu];cases fA (x.bu.drop x.a) with|none=>rfl|some p=>exact congrArg Ss (Ye (kI _).symm rfl)⟩
   (λn ⟨a,sl⟩ p k hk=>by
    cases c:decide ((a:Int)<((x.bu.map It.av).length:Nat)) with
    |false=>exact λG f=>hk (a,sl) (p.zy c) G (f _ (h.fr a) _ (h.fr a) (uL h.s) PO c)
    |true=>
     refine aj (p.at c) λi ei ed=>?_;induction i with
     |tr t=>exact λG f=>f _ (h.fr a) _ (h.fr a) (uL h.s) WL c _ (h.fr a) _ (h.fr a) (uL h.s) _ (bW (Ij ei) rfl) _ (h.fr a) _ (h.fr a) PO ff _ (p.dl ei ed).1 (.C (a+1,.val (enc t)) (p.dl ei ed).2 (by unfold uN;rw[<- B2 (a:=a)];rfl))
     |sp j=>refine pF (h.spl (a:=a) (s8 ei)) λpp s q hj=>?_;exact λG f=>f _ (h.fr a) _ (h.fr a) (uL h.s) WL c _ (h.fr a) _ (h.fr a) (uL h.s) _ (bW (Ij ei) rfl) _ (h.fr a) _ (h.fr a) _ hj WL tt ⟨by rw[(p.Ew ed).1];rfl,by rw[(p.Ew ed).1];unfold IB;dsimp only;rw[(p.Ew ed).2];exact B2.symm⟩)
   λu ⟨e1,e2⟩ G f=>f ⟨by rw[e2];rfl,by rw[e2];unfold uN;rw[e1];rfl⟩
noncomputable def DW:TO->Option Tr
 |.splice j4 j5 m=>m
 |_=>M4
noncomputable def gb(ms:List TO):It->Tr
 |.tr t=>t
 |.sp j=>((ms[j]?).bind DW).getD (.cR 1 0)
set_option genInjectivity false in
structure HX where
 k:Nat
 ms:List TO
 bu:List It
 sp:Option Nat
 r:Int
 a:Int
structure HY(x:HX):Prop where
 s:sm x.bu
 e:x.ms[x.k]?=Ss (.frame x.bu x.sp x.r x.a)
 j:∀j,.sp j∈x.bu->∃p s m,x.ms[j]?=Ss (.splice p s (Ss m))
noncomputable def ahk:DC:=iw (λx:HX=>[.ref x.k]) (λx=>bo x.ms) HY (λx=>enc (x.bu.map (gb x.ms))) λx=>bo x.ms
theorem aiw{ms:List TO}{j:Nat}{p:Tr}{s:List Tr}{m:Tr}(e:ms[j]?=Ss (.splice p s (Ss m))):gb ms (.sp j)=m:=by refine (?_:((ms[j]?).bind DW).getD _=m);rw[e];rfl
noncomputable def Ia:FI:=⟨[("self",.loc)],[],WL⟩
noncomputable def aiL:FI:=Ia.bJ [] ["item"] ["isinstance","FactorSplice"]
theorem BQ{g:Gx}(G:ED g)(d:Nat):bQ g (d+1) (g.fa 35) ahk:=
 (G.K (d:=d) (fi:=Ia) 35 rfl (ae (aA (lW aiL (gh (by decide +kernel) (by decide +kernel)) (cH (ax (gm 13 G.toGOK2 (ah 0)))) (cN 1) iI (cE (eT (Mc 1 0 1 G.toGOK (G.blt 3 rfl) (G.cls 1 rfl).val G.Vx (ah 1))) (ax (gm 12 G.toGOK2 (ah 1))) (ax (ah 1))))) af)).jf λx h G f=>iW It.av (gb x.ms) (l:=x.bu) (λz=>⟨[.val (.ref x.k),z],bo x.ms⟩) .none (f rfl _ (eu h.e)) h.s rfl rfl
  (λb z m K Z hK=>match b,m with
   |.tr t,m=>λG f=>hK _ G (f WL tt PO ff)
   |.sp j,m=>by refine pF (h.j j m) λp s q e=>?_;exact λG f=>hK _ G (by rw[aiw e];exact f WL tt _ (eu e) WL tt _ (eu e)))
  λz G f=>f rfl rfl
set_option genInjectivity false in
inductive Pr where
 |one (t:Tr)
 |many (p:Tr) (eI:List Tr)
noncomputable def cO:Nat->List Pr->List It
 |j4,[]=>[]
 |n,.one t::r=>.tr t::cO n r
 |n,.many j4 j5::r=>.sp n::cO (n+1) r
noncomputable def cP:List Pr->List TO
 |[]=>[]
 |.one j4::r=>cP r
 |.many p s::r=>.splice p s M4::cP r
theorem xW{t:Tr}:∀{acc:List Pr}{n:Nat},cO n (acc++[.one t])=cO n acc++[.tr t]
 |[],n=>rfl
 |.one u::r,n=>congrArg (It.tr u::·) (xW (acc:=r))
 |.many j4 j5::r,n=>congrArg (It.sp n::·) (xW (acc:=r))
theorem xV{p:Tr}{s:List Tr}:∀{acc:List Pr}{n:Nat},cO n (acc++[.many p s])=cO n acc++[.sp (n+(cP acc).length)]
 |[],n=>rfl
 |.one u::r,n=>congrArg (It.tr u::·) (xV (acc:=r))
 |.many j4 j5::r,n=>congrArg (It.sp n::·) ((xV (acc:=r)).trans (by rw[YY];rfl))
theorem rS:∀{a b:List Pr},cP (a++b)=cP a++cP b
 |[],b=>rfl
 |.one u::r,b=>rS (a:=r)
 |.many j4 j5::r,b=>congrArg (_::·) (rS (a:=r))
theorem uK:∀{acc:List Pr}{n:Nat},(cO n acc).length=acc.length
 |[],n=>rfl
 |.one u::r,n=>congrArg Xy (uK (acc:=r))
 |.many j4 j5::r,n=>congrArg Xy (uK (acc:=r))
theorem IM{ms:List TO}{p:Tr}{s:List Tr}:(bo ms++[Ss (⟨1,[]⟩:MO)]).set (bo ms).length (Ss (TO.splice p s M4).mo)=bo (ms++[.splice p s M4]):=by rw[alB _ _ (EC _),Wu,bo,bo,wh];rfl
noncomputable def gU(fl f:Int):Int:=dM (vT fl (Zi 33)) f
noncomputable def pS(fl:Int)(c:List Int)(f:Int)(p:Tr)(g:List Tr):Pr:=if g.isEmpty then .one p else .many (Tr.A c (gU fl f)) ((p::g).map λt=>Tr.dW c.length t)
noncomputable def dJ(c:List Int)(f:Int)(l:List Int×Int):Nat:=if (l.2==f)=WL then eB c l.1 else 0
noncomputable def kq(fl:Int)(c:List Int)(f:Int)(p:Tr)(g:List Tr):List Tr->List Pr
 |[]=>[pS fl c f p g]
 |t::ts=>if 0<dJ c f t.U then kq fl (c.take (dJ c f t.U)) f p (g++[t]) ts else pS fl c f p g::kq fl t.U.1 t.U.2 t [] ts
noncomputable def jy(fl:Int):List Tr->List Pr
 |[]=>[]
 |t::ts=>kq fl t.U.1 t.U.2 t [] ts
noncomputable def cB:List Tr->List Int×Int
 |[]=>([],0)
 |t::j4=>t.U
theorem aix{t:Tr}(h:t.W<=1000000):sm t.U.1:=by
 have o:=(g6 h).G;refine (?_:sm t.G.rn);unfold Tr.rn
 repeat' split
 ·exact l9 rfl
 ·exact o.D5
 ·exact zJ _
structure uG(ts:List Tr):Prop where
 sm:sm ts
 ne:ts≠[]
 w:∀t∈ts,t.W<=1000000
noncomputable def ahl:DC:=iw (α:=List Tr×Int×List TO) (λa=>[enc a.1,enc a.2.1]) (λa=>bo a.2.2) (λa=>uG a.1) (λa=>.lst ((cO a.2.2.length (jy a.2.1 a.1)).map It.av)) λa=>bo (a.2.2++cP (jy a.2.1 a.1))
noncomputable def Id:FI:=⟨[("subs",.loc),("flags",.loc),("found",.loc),("start",.loc),("common",.cell),("fold",.loc),("at",.loc),("runes",.loc),("more",.loc),("same",.loc),("prefix",.loc)],["range","len","FactorSplice","tree_string","FACTOR_FLAGS","factor_same","leading_string"],WL⟩
noncomputable def aie:FI:=Id.bJ [4] ["re"] ["without_leading_string","len"]
noncomputable def iU(o:Bool)(v:AV):an:=match o with
 |true=>.own v
 |false=>.val v
set_option genInjectivity false in
structure BJ where
 bH:List Pr
 a:Nat
 o:Bool
 c:List Int
 f:Int
 x6:an
 x7:an
 x8:an
 x9:an
 vY:an
noncomputable def mY(ts:List Tr)(fl:Int)(ms:List TO)(s:BJ):St:=⟨[.val (enc ts),.val (enc fl),.own (.lst ((cO ms.length s.bH).map It.av)),.val (.int s.a),iU s.o (enc s.c),.val (.int s.f),s.x6,s.x7,s.x8,s.x9,s.vY],bo (ms++cP s.bH)⟩
inductive ajY(ts:List Tr)(fl:Int)(F:List Pr)(i:Int)(n:Nat)(s:BJ):Prop
 |mk (pre:List Tr) (p:Tr) (g rest:List Tr) (b:Nat) (G:eO ts pre p g rest b) (ei:i=b) (en:n=rest.length) (ea:s.a=pre.length) (w:s.bH.length<=pre.length) (cs:sm s.c) (h:F=s.bH++kq fl s.c s.f p g rest)
def BK(ts:List Tr)(fl:Int)(F:List Pr)(i:Int):Nat->BJ->Prop
 |0,s=>F=s.bH
 |n+1,s=>ajY ts fl F i n s
section
variable {ts pre g rest r:List Tr}{acc F:List Pr}{p t:Tr}{b:Nat}{fl f:Int}{c:List Int}{x6 x7 x8 x9 x10:an}
theorem uG.U(h:uG ts)(e:t∈ts):Mine.Internal.sm t.U.1:=aix (h.w t e)
theorem uG.dl(h:uG ts)(G:eO ts pre p g rest b):Mine.Internal.sm (cB rest).1:=match rest,G with
 |[],j4=>zJ _
 |j4::j5,G=>h.U (s8 G.nA)
theorem ah4:dJ c f (cB [])=0:=by unfold dJ;cases (cB []).2==f with
 |true=>induction c using K1<;>rfl
 |false=>rfl
theorem eO.afq(G:eO ts pre p g rest b)(w:acc.length<=pre.length)(cs:Mine.Internal.sm c)(h:F=acc++kq fl c f p g rest)(hs:0<dJ c f (cB rest)):BK ts fl F ((b:Int)+1) rest.length ⟨acc,pre.length,WL,c.take (dJ c f (cB rest)),f,x6,x7,x8,x9,x10⟩:=by
 induction rest using K1 with
 |nil=>rw[ah4] at hs;exact lj hs
 |cons t r=>exact⟨pre,p,g++[t],r,b+1,G.more,rfl,rfl,rfl,w,Le (Vq _ _) cs,by rw[h];exact congrArg (acc++·) (MS hs)⟩
theorem eO.afp(G:eO ts pre p g rest b)(ok:uG ts)(w:acc.length<=pre.length)(h:F=acc++kq fl c f p g rest)(hs:dJ c f (cB rest)=0):BK ts fl F ((b:Int)+1) rest.length ⟨acc++[pS fl c f p g],b,PO,(cB rest).1,(cB rest).2,x6,x7,x8,x9,x10⟩:=by
 induction rest using K1 with
 |nil=>exact h
 |cons t r=>refine ak (G.dl) λG2 l=>?_;refine⟨pre++(p::g),t,[],r,b+1,G2,rfl,rfl,l.symm,by rw[Es,l,G.b];exact Zh w (oJ _ _),ok.dl G,?_⟩;rw[h,zx];exact congrArg (acc++·) (MZ (by rw[show dJ c f t.U=0 from hs];exact YD 0))
theorem ahj{s:Nat}:(enc (c.take s):AV)=.lst (cx (c.map enc) M4 (Ss (s:Int))):=by rw[xG,xE];rfl
theorem ajp(h:g.isEmpty=WL):pS fl c f p g=.one p:=MS h
theorem ajo(h:g.isEmpty=PO):pS fl c f p g=.many (Tr.A c (gU fl f)) ((p::g).map λt=>Tr.dW c.length t):=MZ (sW.mp h)
theorem ahm{ms:List TO}{o:Bool}:mY ts fl ms ⟨acc++[.one t],b,o,c,f,x6,x7,x8,x9,x10⟩=⟨[.val (enc ts),.val (enc fl),.own (.lst ((cO ms.length acc).map It.av++[enc t])),.val (.int b),iU o (enc c),.val (.int f),x6,x7,x8,x9,x10],bo (ms++cP acc)⟩:=by unfold mY;rw[xW,wh,rS,show cP [.one t]=[] from rfl,zB];rfl
theorem ahn{ms:List TO}{o:Bool}{u:Tr}{l:List Tr}:mY ts fl ms ⟨acc++[.many u l],b,o,c,f,x6,x7,x8,x9,x10⟩=⟨[.val (enc ts),.val (enc fl),.own (.lst ((cO ms.length acc).map It.av++[.ref (bo (ms++cP acc)).length])),.val (.int b),iU o (enc c),.val (.int f),x6,x7,x8,x9,x10],(bo (ms++cP acc)++[Ss (⟨1,[]⟩:MO)]).set (bo (ms++cP acc)).length (Ss (TO.splice u l M4).mo)⟩:=by unfold mY;rw[IM,xV,wh,rS,zx,bo,bo,K4,Es];rfl
end
theorem ahA{g:Gx}(G:ED g)(d:Nat):bQ g (d+7) (g.fa 37) ahl:=
 (G.K (d:=d+6) (fi:=Id) 37 rfl (ae (jE (names:=["found","start"]) (.cons (i:=3) rfl rfl (.cons (i:=2) rfl rfl .nil)) (dg (a9 ag) (dg E.x iH)) (λU U N=>jt N 2 3 rfl rfl rfl rfl rfl rfl rfl)) (ae (kE (.cons (i:=4) rfl rfl (.cons (i:=5) rfl rfl .nil)) (cE (kF (ah 0)) (cV G 6 28 rfl (HD G (d+5)) (aa (ax (aB (ah 0) aF)) ag)) (bD (aa (a9 ag) (aa E.x ag))))) (ae (gF (DH 0 G.toGOK (G.blt 7 rfl) (aa E.x (aa (bC O.e9 (ax (cG 1 G.toGOK2 (ah 0))) E.x) ag))) (cN 6) (ae (kE (.cons (i:=7) rfl rfl (.cons (i:=8) rfl rfl .nil)) (cE (bn O.lt (E.u 6) (ax (cG 1 G.toGOK2 (ah 0)))) (cV G 6 28 rfl (HD G (d+5)) (aa (ax (aB (ah 0) (ah 6))) ag)) (bD (aa (a9 ag) (aa E.x ag))))) (ae (bg 9 (cE (tQ G (E.u 8) (E.u 5)) (cV G 5 36 rfl (ahC G (d+5)) (aa (E.u 4) (aa (E.u 7) ag))) E.x)) (ae (aJ (bn O.gt (E.u 9) E.x) (ae (bg 4 (jG (ah 4) .none (.some (ah 9))) rfl rfl) (ae Dw af)) af) (ae (aJ (tQ G (bC O.zn (E.u 6) (E.u 3)) E.x) (ae (eF (g5 2 (ax (aB (ah 0) (ah 3))))) af) (ae (bg 10 (cV G 3 10 rfl (uz G (d+2)) (aa (E.u 4) (aa (bC O.sS (bC O.kM (E.u 1) (lT O.dv (eG G 4 27 rfl))) (E.u 5)) ag)))) (ae (eF (g5 2 (jH 2 G.toGOK (G.cls 1 rfl) (Iv G (d+4)) (aa (E.u 10) (aa (lW aie (gh (by decide +kernel) (by decide +kernel)) (cH (jG (ah 0) (.some (ah 3)) (.some (ah 6)))) (cN 11) iI (cV G 0 29 rfl (aj2 G d) (aa (E.u 11) (aa (ax (cG 1 G.toGOK2 (ah 4))) ag)))) ag))))) af))) (ae (Lq (.cons (i:=3) rfl rfl (.cons (i:=4) rfl rfl (.cons (i:=5) rfl rfl .nil))) (dg (E.u 6) (dg (E.u 7) (dg (E.u 8) iH))) (λU U N=>Hi N ⟨_,.tail _ (.head _),4,_,_,rfl,rfl,N.ck rfl 4 _ rfl⟩)) af)))))) (ae (aA (E.u 2)) af))))).jf λ⟨ts,fl,ms⟩ ok=>match ts,ok with
  |[],ok=>MQ rfl ok.ne
  |t0::r0,ok=>λG f=>by
   refine Bo (mY (t0::r0) fl ms) (BK (t0::r0) fl (jy fl (t0::r0))) (f rfl WL tt (aq ok.sm) _ rfl t0 rfl (g6 (ok.w t0 (.head _))) (aq ok.sm) ⟨by decide,by decide,AB (cM ok.sm),AA (cM ok.sm)⟩) ⟨[],0,PO,t0.U.1,t0.U.2,.none,.none,.none,.none,.none⟩ (by unfold mY;rw[show cP []=[] from rfl,zB];rfl)
    (by rw[BY];exact⟨[],t0,[],r0,1,.Et t0 r0,rfl,rfl,rfl,EC _,ok.U (.head _),rfl⟩) (λi n s h=>?_) λi s h G f=>f (by rw[show jy fl (t0::r0)=s.bH from h];rfl) (by rw[show jy fl (t0::r0)=s.bH from h];rfl)
   generalize t0::r0=ts at ok h ⊢;generalize jy fl ts=F at h ⊢;clear f;obtain⟨acc,a,o,c,f0,x6,x7,x8,x9,x10⟩:=s;obtain⟨pre,p,g,rest,b,G,rfl,rfl,ea,w,cs,h⟩:=h;obtain rfl:a=_:=ea;have hn:=ok.dl G;refine λG' f=>db f (mY ts fl ms ⟨acc,pre.length,o,c,f0,.val (.int b),.val (enc (cB rest).1),.val (.int (cB rest).2),x9,x10⟩) (λK k=>?_) ?_
   ·induction rest using K1 with
    |nil=>exact λG' f=>k G' (f (aq ok.sm) PO G.lt)
    |cons t r=>exact λG' f=>k G' (f (aq ok.sm) WL G.lt (aq ok.sm) _ (bW (dn G.nA) rfl) t rfl (g6 (ok.w t (s8 G.nA))))
   refine λG' f=>rJ f (λo=>mY ts fl ms ⟨acc,pre.length,o,c,f0,.val (.int b),.val (enc (cB rest).1),.val (.int (cB rest).2),.val (.int (dJ c f0 (cB rest))),x10⟩) (λU=>True) (λK k=>?_) λo U=>?_
   ·induction o with
    |true=>exact λG' f=>aC ((cB rest).2==f0) (λc1=>k PO trivial G' (by rw[show dJ c f0 (cB rest)=eB c (cB rest).1 from MS c1];exact f WL c1 c _ rfl ⟨cs,hn⟩)) λc1=>k WL trivial G' (by rw[show dJ c f0 (cB rest)=0 from MZ (sW.mp c1)];exact f PO c1)
    |false=>exact λG' f=>aC ((cB rest).2==f0) (λc1=>k PO trivial G' (by rw[show dJ c f0 (cB rest)=eB c (cB rest).1 from MS c1];exact f WL c1 c _ rfl ⟨cs,hn⟩)) λc1=>k PO trivial G' (by rw[show dJ c f0 (cB rest)=0 from MZ (sW.mp c1)];exact f PO c1)
   cases hs:decide (((dJ c f0 (cB rest):Nat):Int)>0) with
   |true=>have q7:0<dJ c f0 (cB rest):=qO.mp (zL hs);induction o<;>exact λG' f=>f WL hs (cM cs) (.C ⟨acc,pre.length,WL,c.take (dJ c f0 (cB rest)),f0,.val (.int b),.val (enc (cB rest).1),.val (.int (cB rest).2),.val (.int (dJ c f0 (cB rest))),x10⟩ (G.afq w cs h q7) (by unfold mY;rw[ahj];rfl))
   |false=>
    have q7:dJ c f0 (cB rest)=0:=Wv.mp (Zq.mp λz=>of_decide_eq_false hs (qO.mpr z));have ly:((cO ms.length acc).map It.av).length<=1000000:=by rw[K4,uK];exact Le w (Le (by rw[G.e,Es];exact oW _ _) ok.sm)
    have nx:=λx10=>G.afp (x6:=.val (.int b)) (x7:=.val (enc (cB rest).1)) (x8:=.val (.int (cB rest).2)) (x9:=.val (.int (dJ c f0 (cB rest)))) (x10:=x10) ok w h q7;cases c1:g.isEmpty with
    |true=>rw[ajp c1] at nx;exact λG' f=>f PO hs WL (G.fg.trans c1) ly (aq ok.sm) _ (bW (dn G.md) rfl) (.C _ (nx x10) ahm)
    |false=>
     rw[ajo c1] at nx;induction o<;>exact λG' f=>iW enc (λt=>Tr.dW c.length t) (l:=p::g) (λz=>⟨[.val (enc ts),.val (enc fl),.none,.val (.int pre.length),.val (enc c),.val (.int f0),.val (.int b),.val (enc (cB rest).1),.val (.int (cB rest).2),.val (.int (dJ c f0 (cB rest))),.val (enc (Tr.A c (gU fl f0))),z],bo (ms++cP acc)⟩) .none
      (f PO hs PO (G.fg.trans c1) c (gU fl f0) rfl cs ly (cM ok.sm)) (Le G.vX.length_le ok.sm) G.Eu rfl
      (λt z m K Z hK G' f=>hK _ G' (by rw[<- K4 (f:=(enc:Int->AV)) (as:=c)];exact f WL tt (aq cs) t _ rfl (ok.w t (G.vX.subset m))))
      λz G' f=>f (_,_,_,_) rfl rfl (Wf ..) rfl (.C _ (nx (.val (enc (Tr.A c (gU fl f0))))) ahn)
noncomputable def pY(p:Tr)(g:List Tr):Pr:=if g.isEmpty then .one p else .many p.M ((p::g).map Tr.fJ)
noncomputable def ky(p:Tr)(g:List Tr):List Tr->List Pr
 |[]=>[pY p g]
 |t::ts=>if dH p t=WL then ky p (g++[t]) ts else pY p g::ky t [] ts
noncomputable def kx:List Tr->List Pr
 |[]=>[]
 |t::ts=>ky t [] ts
noncomputable def Je(p:Tr):List Tr->Bool
 |[]=>PO
 |t::j4=>dH p t
theorem ai0{p t:Tr}(h:dH p t=WL):p.V=Ss p.M:=by
 unfold Tr.V;cases c:p.M.op==2 with
 |false=>rfl
 |true=>unfold dH Tr.V at h;rw[c] at h;exact aX h
structure IW(ts:List Tr):Prop where
 sm:sm ts
 ok:∀a∈ts,a.ok
 al:∀a∈ts,∀b∈ts,BC a b
noncomputable def aaC:DC:=iw (α:=List Tr×List TO) (λa=>[enc a.1]) (λa=>bo a.2) (λa=>IW a.1) (λa=>.lst ((cO a.2.length (kx a.1)).map It.av)) λa=>bo (a.2++cP (kx a.1))
noncomputable def I2:FI:=⟨[("subs",.loc),("found",.loc),("start",.loc),("at",.loc),("rests",.loc)],["range","len","FactorSplice","leading_regexp","factor_begin_alike"],WL⟩
noncomputable def aaf:FI:=I2.bJ [] ["re"] ["without_leading_regexp"]
set_option genInjectivity false in
structure B9 where
 bH:List Pr
 a:Nat
 x3:an
 x4:an
noncomputable def qa(ts:List Tr)(ms:List TO)(s:B9):St:=⟨[.val (enc ts),.own (.lst ((cO ms.length s.bH).map It.av)),.val (.int s.a),s.x3,s.x4],bo (ms++cP s.bH)⟩
inductive ahT(ts:List Tr)(F:List Pr)(i:Int)(n:Nat)(s:B9):Prop
 |mk (pre:List Tr) (p:Tr) (g rest:List Tr) (b:Nat) (G:eO ts pre p g rest b) (ei:i=b) (en:n=rest.length) (ea:s.a=pre.length) (w:s.bH.length<=pre.length) (hx:g=[]∨p.V=Ss p.M) (h:F=s.bH++ky p g rest)
def Cb(ts:List Tr)(F:List Pr)(i:Int):Nat->B9->Prop
 |0,s=>F=s.bH
 |n+1,s=>ahT ts F i n s
section
variable {ts pre g rest r:List Tr}{acc F:List Pr}{p t:Tr}{b:Nat}{x3 x4:an}
theorem eO.afu(G:eO ts pre p g (t::r) b)(w:acc.length<=pre.length)(h:F=acc++ky p g (t::r))(c:dH p t=WL):Cb ts F ((b:Int)+1) (t::r).length ⟨acc,pre.length,x3,x4⟩:=
 ⟨pre,p,g++[t],r,b+1,G.more,rfl,rfl,rfl,w,.inr (ai0 c),by rw[h];exact congrArg (acc++·) (MS c)⟩
theorem eO.aft(G:eO ts pre p g rest b)(w:acc.length<=pre.length)(h:F=acc++ky p g rest)(c:Je p rest=PO):Cb ts F ((b:Int)+1) rest.length ⟨acc++[pY p g],b,x3,x4⟩:=by
 induction rest using K1 with
 |nil=>exact h
 |cons t r=>refine ak (G.dl) λG2 l=>?_;refine⟨pre++(p::g),t,[],r,b+1,G2,rfl,rfl,l.symm,by rw[Es,l,G.b];exact Zh w (oJ _ _),.inl rfl,?_⟩;rw[h,zx];exact congrArg (acc++·) (MZ (sW.mp c))
theorem aaF(h:g.isEmpty=WL):pY p g=.one p:=MS h
theorem aaG(h:g.isEmpty=PO):pY p g=.many p.M ((p::g).map Tr.fJ):=MZ (sW.mp h)
theorem aaE{ms:List TO}:qa ts ms ⟨acc++[.one t],b,x3,x4⟩=⟨[.val (enc ts),.own (.lst ((cO ms.length acc).map It.av++[enc t])),.val (.int b),x3,x4],bo (ms++cP acc)⟩:=by unfold qa;rw[xW,wh,rS,show cP [.one t]=[] from rfl,zB];rfl
theorem aaD{ms:List TO}{u:Tr}{l:List Tr}:qa ts ms ⟨acc++[.many u l],b,x3,x4⟩=⟨[.val (enc ts),.own (.lst ((cO ms.length acc).map It.av++[.ref (bo (ms++cP acc)).length])),.val (.int b),x3,x4],(bo (ms++cP acc)++[Ss (⟨1,[]⟩:MO)]).set (bo (ms++cP acc)).length (Ss (TO.splice u l M4).mo)⟩:=by unfold qa;rw[IM,xV,wh,rS,zx,bo,bo,K4,Es];rfl
theorem aas{k:Nat}{l:List Tr}(h:p.V=Ss p.M):[AV.ref k,enc p.M,enc l]=[.ref k,enc p.V,enc l]:=by rw[h];rfl
end
theorem aaz{g:Gx}(G:ED g)(d:Nat):bQ g (d+6) (g.fa 40) aaC:=
 (G.K (d:=d+5) (fi:=I2) 40 rfl (ae (jE (names:=["found","start"]) (.cons (i:=2) rfl rfl (.cons (i:=1) rfl rfl .nil)) (dg (a9 ag) (dg E.x iH)) (λU U N=>jt N 1 2 rfl rfl rfl rfl rfl rfl rfl)) (ae (gF (DH 0 G.toGOK (G.blt 7 rfl) (aa E.x (aa (bC O.e9 (ax (cG 1 G.toGOK2 (ah 0))) E.x) ag))) (cN 3) (ae (aJ (cq (bL (bn O.lt (E.u 3) (ax (cG 1 G.toGOK2 (ah 0)))) (bL (eT (cV G 4 39 rfl (ahJ G (d+1)) (aa (ax (aB (ah 0) (ah 2))) (aa (ax (aB (ah 0) (ah 3))) ag)))) eS))) (ae Dw af) af) (ae (aJ (tQ G (bC O.zn (E.u 3) (E.u 2)) E.x) (ae (eF (g5 1 (ax (aB (ah 0) (ah 2))))) af) (ae (sI 4 aaf (gh (by decide +kernel) (by decide +kernel)) (cH (jG (ah 0) (.some (ah 2)) (.some (ah 3)))) (cN 5) iI (cV G 0 31 rfl (aj3 G d) (aa (E.u 5) ag)) (λU U N=>rI N 4 rfl rfl rfl)) (ae (eF (g5 1 (jH 2 G.toGOK (G.cls 1 rfl) (Iv G (d+3)) (aa (cV G 3 30 rfl (Bt G (d+4)) (aa (ax (aB (ah 0) (ah 2))) ag)) (aa (E.u 4) ag))))) af))) (ae (bg 2 (E.u 3)) af)))) (ae (aA (E.u 1)) af)))).jf λ⟨ts,ms⟩ ok G f=>by
  refine Bo (qa ts ms) (Cb ts (kx ts)) (f rfl (aq ok.sm) ⟨by decide,by decide,AB (cM ok.sm),AA (cM ok.sm)⟩) ⟨[],0,.none,.none⟩ (by unfold qa;rw[show cP []=[] from rfl,zB];rfl)
   ?_ (λi n s h=>?_) λi s h G f=>f (by rw[show kx ts=s.bH from h];rfl) (by rw[show kx ts=s.bH from h];rfl)
  ·match ts with
   |[]=>exact rfl
   |t0::r0=>rw[BY];exact⟨[],t0,[],r0,1,.Et t0 r0,rfl,rfl,rfl,EC _,.inl rfl,rfl⟩
  generalize kx ts=F at h ⊢;clear f;obtain⟨acc,a,x3,x4⟩:=s;obtain⟨pre,p,g,rest,b,G,rfl,rfl,ea,w,hx,h⟩:=h;obtain rfl:a=_:=ea;have ly:((cO ms.length acc).map It.av).length<=1000000:=by rw[K4,uK];exact Le w (Le (by rw[G.e,Es];exact oW _ _) ok.sm)
  have mp:p∈ts:=s8 G.md;cases c:Je p rest with
  |true=>induction rest using K1 with
   |nil=>exact aX c
   |cons t r=>exact λG' f=>f (aq ok.sm) WL G.lt (aq ok.sm) _ (bW (dn G.md) rfl) (aq ok.sm) _ (bW (dn G.nA) rfl) p t rfl (ok.al p mp t (s8 G.nA)) WL c WL tt (.C ⟨acc,pre.length,.val (.int b),x4⟩ (G.afu w h c) rfl)
  |false=>
   refine λG' f=>db f (qa ts ms ⟨acc,pre.length,.val (.int b),x4⟩) (λK k=>?_) ?_
   ·induction rest using K1 with
    |nil=>exact λG' f=>k G' (f (aq ok.sm) PO G.lt PO ff)
    |cons t r=>exact λG' f=>k G' (f (aq ok.sm) WL G.lt (aq ok.sm) _ (bW (dn G.md) rfl) (aq ok.sm) _ (bW (dn G.nA) rfl) p t rfl (ok.al p mp t (s8 G.nA)) PO c PO ff)
   have nx:=λx4=>G.aft (x3:=.val (.int b)) (x4:=x4) w h c;cases c1:g.isEmpty with
   |true=>rw[aaF c1] at nx;exact λG' f=>f WL (G.fg.trans c1) ly (aq ok.sm) _ (bW (dn G.md) rfl) (.C _ (nx x4) aaE)
   |false=>
    rw[aaG c1] at nx;have hlr:p.V=Ss p.M:=hx.resolve_left λz=>by rw[z] at c1;exact eK c1
    exact λG' f=>iW enc Tr.fJ (l:=p::g) (λz=>⟨[.val (enc ts),.own (.lst ((cO ms.length acc).map It.av)),.val (.int pre.length),.val (.int b),x4,z],bo (ms++cP acc)⟩) .none
     (f PO (G.fg.trans c1) (cM ok.sm)) (Le G.vX.length_le ok.sm) G.Eu rfl
     (λt z m K Z hK G' f=>hK _ G' (f WL tt t rfl (ok.ok t (G.vX.subset m))))
     λz G' f=>f ly (aq ok.sm) _ (bW (dn G.md) rfl) p rfl (ok.ok p mp) (_,_,_,_) (aas hlr) rfl (Wf ..) rfl (.C _ (nx (.val (enc ((p::g).map Tr.fJ)))) aaD)
noncomputable def og(fl:Int)(r:Nat)(ts:List Tr):List Pr:=match r with
 |0=>(iV fl (dR ts)).map .one
 |1=>jy fl ts
 |2=>kx ts
 |3=>(iV fl ts).map .one
 |_=>(pT ts).map .one
def Cc(r:Nat)(ts:List Tr):Prop:=match r with
 |0=>xP (dR ts)
 |1=>uG ts
 |2=>IW ts
 |3=>xP ts
 |_=>sm ts
theorem Jb{n:Nat}:∀{ts:List Tr},cO n (ts.map .one)=ts.map .tr
 |[]=>rfl
 |t::r=>congrArg (It.tr t::·) (Jb (ts:=r))
theorem Jm:∀{ts:List Tr},cP (ts.map .one)=[]
 |[]=>rfl
 |t::r=>Jm (ts:=r)
set_option genInjectivity false in
structure IV where
 k:Nat
 fl:Int
 ms:List TO
 bu:List It
 sp:Option Nat
 r:Nat
 a:Int
structure ahY(x:IV):Prop where
 hs:sm x.bu
 em:x.ms[x.k]?=Ss (.frame x.bu x.sp x.r x.a)
 hr:x.r<5
 hj:∀j,.sp j∈x.bu->∃p s m,x.ms[j]?=Ss (.splice p s (Ss m))
 ok:Cc x.r (x.bu.map (gb x.ms))
noncomputable def yp(ms:List TO)(k:Nat)(sp:Option Nat)(r:Nat)(l:List Pr):List TO:=ms.set k (.frame (cO ms.length l) sp (r+1:Nat) 0)++cP l
noncomputable def goC:DC:=iw (λx:IV=>[.ref x.k,enc x.fl]) (λx=>bo x.ms) ahY (λU=>.none) λx=>bo (yp x.ms x.k x.sp x.r (og x.fl x.r (x.bu.map (gb x.ms))))
section
variable {g:Gx}{d:Nat}{fi:FI}
noncomputable def aeC(c:Nat)(b:DR)(Cf:DC):DE:=λst Q=>b st λp x=>bY p (x.lY λk=>.ex λmo:MO=>.rq (st.aI[k]?=Ss (Ss mo)) (cL (Bh c mo) (Cf [x] st.aI λv mem=>Q (.val v) ⟨st.aD,mem⟩)))
noncomputable def aeB(c:Nat)(b:DR)(a:St->(List AV->St->PS)->PS)(Cf:DC):DE:=λst Q=>b st λp x=>bY p (x.lY λk=>.ex λmo:MO=>.rq (st.aI[k]?=Ss (Ss mo)) (cL (Bh c mo) (a st λxs ab=>Cf (x::xs) ab.aI λv mem=>Q (.val v) ⟨ab.aD,mem⟩)))
theorem aeD{o e:M3}{es:List M3}{c:Nat}{nm:Str}{f:MW}{Cf:DC}{Do:DR}{De:St->(List AV->St->PS)->PS}{ap pos:Pos}(G:rF g c nm f)(hc:bQ g d f Cf)(ho:bB g d fi o Do)(he:gz g d fi (e::es) De)(pl:Env->Sem Bool)
 (hs:autoParam (cT e=WL) t_rfl) (hp:autoParam (∀env,(dP pos (sZ es env)).any (·.1)=PO) t_exact_star_any_rfl)
 (hm:autoParam (∀env,Er (.Call (.Attribute o nm ap) (e::es) [] pos) env=(do
  let ov <- Er o env
  Zy ap.atName
  let (f,first) <- Xv [ov] (Wn ov nm (pl env))
  Wo pos f first (dP pos (sZ (e::es) env)) (YK pos (YN [] env)))) t_intro_env__rfl) (jT:autoParam (∀f∈gA c,aQ f≠nm) t_decide_kernel):au g d fi (.Call (.Attribute o nm ap) (e::es) [] pos) (aeB c Do De Cf):=by
 constructor;intro A W env ca st Q Rz s C N h R;refine WM (aL (ho.aN A W env ca st _ Rz s C N h R) λv s1 hh=>?_) (hm env);obtain⟨x,tk,rfl,h1,hv,R1⟩:=hh.nz R;obtain⟨k,rfl,mo,e,h1⟩:=AV.qz h1;refine xp G jT R1 hv (uM e h1) λh2=>?_;refine tO (G.Zu) λK X0 k1 k2 k3 k4 k5=>?_;refine callWith_K X0 k5 (aL (he.aN A W env ca st _ Rz _ pos C N h2 R1) λvs s2 wD=>?_) (star_cons hs env) (hp env);obtain⟨W1,xs,ab,le,q,r1,R2⟩:=wD;exact⟨X0.keeps λb o e=>R2.bI e,um hc C (.cons (hv.aE le) r1) q R2 λv W' x ct s' cS p hv R'=>cF (le.S cS) ⟨W',.val x,_,[],.Q _,p,.val hv,R'⟩⟩
theorem ze{o:M3}{c:Nat}{nm:Str}{f:MW}{Cf:DC}{Do:DR}{ap pos:Pos}(G:rF g c nm f)(hc:bQ g d f Cf)(ho:bB g d fi o Do)(pl:Env->Sem Bool)
 (hm:autoParam (∀env,Er (.Call (.Attribute o nm ap) [] [] pos) env=(do
  let ov <- Er o env
  Zy ap.atName
  let (f,first) <- Xv [ov] (Wn ov nm (pl env))
  Wo pos f first (dP pos (sZ [] env)) (YK pos (YN [] env)))) t_intro_env__rfl) (jT:autoParam (∀f∈gA c,aQ f≠nm) t_decide_kernel):au g d fi (.Call (.Attribute o nm ap) [] [] pos) (aeC c Do Cf):=by
 constructor;intro A W env ca st Q Rz s C N h R;refine WM (aL (ho.aN A W env ca st _ Rz s C N h R) λv s1 hh=>?_) (hm env);obtain⟨x,tk,rfl,h1,hv,R1⟩:=hh.nz R;obtain⟨k,rfl,mo,e,h1⟩:=AV.qz h1;refine xp G jT R1 hv (uM e h1) λh2=>?_;refine tO (G.Zu) λK X0 k1 k2 k3 k4 k5=>?_;refine callWith_K0 (X0.keeps λb o e=>R1.bI e) k5 ?_;exact um hc C (.cons hv .nil) h2 R1 λv W' x ct s' cS p hv R'=>cF cS ⟨W',.val x,_,[],.Q _,p,.val hv,R'⟩
end
section
variable {ms:List TO}{k r:Nat}{sp:Option Nat}{F0 F:TO}{l:List Pr}{ts:List Tr}{A B:Option MO}
theorem goS:((bo ms).set k A).set k (Ss F.mo)=bo (ms.set k F):=by rw[lJ,uR]
theorem I6(em:ms[k]?=Ss F0):(bo (ms.set k F++cP l))[k]?=Ss (Ss F.mo):=
 eu (by rw[Yl (by rw[aW];exact (sV.mp em).1)];exact eC em)
theorem I5(em:ms[k]?=Ss F0):bo (yp ms k sp r l)=(bo (ms.set k F++cP l)).set k (Ss ⟨2,[(13,.val (.lst ((cO (ms.set k F).length l).map It.av))),(14,.val (uP sp)),(15,.val (.int (r+1:Nat))),(16,.val (.int 0))]⟩):=by rw[aW,show MO.mk 2 _=TO.mo (.frame (cO ms.length l) sp (r+1:Nat) 0) from rfl,uR,List.set_append_left _ _ (by rw[aW];exact (sV.mp em).1),lJ];rfl
theorem Ck:bo (yp ms k sp r (ts.map .one))=(((bo ms).set k A).set k B).set k (Ss ⟨2,[(13,.val (enc ts)),(14,.val (uP sp)),(15,.val (.int (r+1:Nat))),(16,.val (.int 0))]⟩):=by unfold yp;rw[lJ,lJ,Jb,Jm,zB,<- uR,show TO.mo (.frame (ts.map .tr) sp (r+1:Nat) 0)=_ from congrArg (λz=>(⟨2,[(13,.val (.lst z)),_,_,_]⟩:MO)) Za];rfl
end
@[elab_as_elim] theorem lt5{C:Nat->Prop}{r:Nat}(h:r<5)(h0:C 0)(h1:C 1)(h2:C 2)(h3:C 3)(h4:C 4):C r:=by
 rcases r with _|_|_|_|_|r
 ·exact h0
 ·exact h1
 ·exact h2
 ·exact h3
 ·exact h4
 ·exact MQ h (Zq.mpr (oJ 5 r))
noncomputable def ahv:FI:=⟨[("self",.loc),("flags",.loc),("subs",.loc)],["factor_signs","factor_flat","factor_strings","factor_regexps","factor_empties"],WL⟩
theorem aaw{g:Gx}(G:ED g)(d:Nat):bQ g (d+8) (g.fa 49) goC:=
 (G.K (d:=d+7) (fi:=ahv) 49 rfl (ae (bg 2 (ze (G.Zu 4 rfl) (BQ G (d+6)) (ah 0)  (λU=>_))) (ae (g7 15 G.toGOK2 (ah 0) (bC O.e9 (ax (gm 15 G.toGOK2 (ah 0))) E.x)) (ae (g7 16 G.toGOK2 (ah 0) E.x) (ae (aJ (tQ G (ax (gm 15 G.toGOK2 (ah 0))) E.x) (ae (g7 13 G.toGOK2 (ah 0) (cV G 0 47 rfl (IA G (d+1)) (aa (cV G 1 41 rfl (ahG G (d+6)) (aa (E.u 2) ag)) (aa (E.u 1) ag)))) af) (ae (aJ (tQ G (ax (gm 15 G.toGOK2 (ah 0))) E.x) (ae (g7 13 G.toGOK2 (ah 0) (sJ 2 G.toGOK (G.ZV 37 rfl) (ahA G d) (aa (E.u 2) (aa (E.u 1) ag)))) af) (ae (aJ (tQ G (ax (gm 15 G.toGOK2 (ah 0))) E.x) (ae (g7 13 G.toGOK2 (ah 0) (sJ 3 G.toGOK (G.ZV 40 rfl) (aaz G (d+1)) (aa (E.u 2) ag))) af) (ae (aJ (tQ G (ax (gm 15 G.toGOK2 (ah 0))) E.x) (ae (g7 13 G.toGOK2 (ah 0) (cV G 0 47 rfl (IA G (d+1)) (aa (E.u 2) (aa (E.u 1) ag)))) af) (ae (g7 13 G.toGOK2 (ah 0) (cV G 4 48 rfl (ahH G (d+6)) (aa (E.u 2) ag))) af)) af)) af)) af)) af))))).jf λx_ h_=>by
  obtain⟨k,fl,ms,MP,sp,r,a⟩:=x_;obtain⟨hs,em,hr,hj,ok⟩:=h_;have e0:(bo ms)[k]?=Ss (Ss (TO.frame MP sp r a).mo):=eu em;have hx:HY ⟨k,ms,MP,sp,r,a⟩:=⟨hs,em,hj⟩
  have e1:∀r:Int,(((bo ms).set k (Ss (TO.frame MP sp r a).mo)).set k (Ss (TO.frame MP sp r 0).mo))[k]?=Ss (Ss (TO.frame MP sp r 0).mo):=λr=>eC (eC e0);have e2:∀r:Int,bo (ms.set k (.frame MP sp r 0))=((bo ms).set k (Ss (TO.frame MP sp r a).mo)).set k (Ss (TO.frame MP sp r 0).mo):=λr=>goS.symm;revert hr ok e0 hx;dsimp only;refine λhr=>lt5 hr ?_ ?_ ?_ ?_ ?_
  ·exact λok e0 hx G f=>f rfl _ e0 _ rfl rfl hx _ e0 _ e0 _ (eC e0) _ (e1 1) WL tt (MP.map (gb ms)) rfl ok.1 (dR (MP.map (gb ms))) fl rfl ok _ (e1 1) rfl Ck
  ·exact λok e0 hx G f=>f rfl _ e0 _ rfl rfl hx _ e0 _ e0 _ (eC e0) _ (e1 2) PO ff _ (e1 2) WL tt (MP.map (gb ms),fl,ms.set k (.frame MP sp 2 0)) rfl (e2 2) ok _ (I6 em) rfl (I5 em)
  ·exact λok e0 hx G f=>f rfl _ e0 _ rfl rfl hx _ e0 _ e0 _ (eC e0) _ (e1 3) PO ff _ (e1 3) PO ff _ (e1 3) WL tt (MP.map (gb ms),ms.set k (.frame MP sp 3 0)) rfl (e2 3) ok _ (I6 em) rfl (I5 em)
  ·exact λok e0 hx G f=>f rfl _ e0 _ rfl rfl hx _ e0 _ e0 _ (eC e0) _ (e1 4) PO ff _ (e1 4) PO ff _ (e1 4) PO ff _ (e1 4) WL tt (MP.map (gb ms)) fl rfl ok _ (e1 4) rfl Ck
  ·exact λok e0 hx G f=>f rfl _ e0 _ rfl rfl hx _ e0 _ e0 _ (eC e0) _ (e1 5) PO ff _ (e1 5) PO ff _ (e1 5) PO ff _ (e1 5) PO ff (MP.map (gb ms)) rfl ok _ (e1 5) rfl Ck
abbrev Gh:=List (Tr×Nat)
noncomputable def eU:List Pr->Gh->List Tr
 |.one t::r,gl=>t::eU r gl
 |.many j4 j5::r,g::gl=>g.1::eU r gl
 |j4,j5=>[]
noncomputable def eD(gl:Gh):Nat:=(gl.map (·.2)).sum
structure uU(fl:Int)(p:Tr)(res:List Tr):Prop where
 sm:sm res
 jw:jw ([p,bZ res fl].flatMap cf)<=1000000
mutual
inductive fB(fl:Int):Nat->List Tr->List Tr->Nat->Prop
 |done {ts:List Tr}:fB fl 5 ts ts 0
 |step {r:Nat}{ts res:List Tr}{gl:Gh}{M:Nat}:r<5->Cc r ts->Mine.Internal.sm (og fl r ts)->m4 fl (og fl r ts) gl->fB fl (r+1) (eU (og fl r ts) gl) res M->fB fl r ts res (eD gl+M+1)
inductive m4(fl:Int):List Pr->Gh->Prop
 |nil:m4 fl [] []
 |one {t:Tr}{bz:List Pr}{gl:Gh}:m4 fl bz gl->m4 fl (.one t::bz) gl
 |many {p:Tr}{s res:List Tr}{N:Nat}{bz:List Pr}{gl:Gh}:Mine.Internal.sm s->fB fl 0 s res N->uU fl p res->m4 fl bz gl->m4 fl (.many p s::bz) ((bR p [bZ res fl] fl,N+2)::gl)
end
noncomputable def iC(gs:Gh):It->Tr×Nat
 |.tr t=>(t,0)
 |.sp j=>(gs[j]?).getD (.cR 1 0,0)
abbrev oc(gs:Gh)(is:List It):List Tr:=is.map λi=>(iC gs i).1
abbrev gX(gs:Gh)(is:List It):Nat:=(is.map λi=>(iC gs i).2).sum
def uV(ms:List TO)(gs:Gh)(j:Nat):Prop:=∃p s,ms[j]?=Ss (.splice p s (Ss (iC gs (.sp j)).1))
inductive yf(fl:Int)(ms:List TO)(gs:Gh)(j:Nat):Prop
 |mk (p:Tr) (s res:List Tr) (N:Nat) (m:Option Tr) (e:ms[j]?=Ss (.splice p s m)) (hs:sm s) (r:fB fl 0 s res N) (k:uU fl p res) (g:gs[j]?=Ss (bR p [bZ res fl] fl,N+2))
structure rT(fl:Int)(ms:List TO)(gs:Gh)(k:Nat)(MP:List It)(sp:Option Nat)(r a d:Nat)(res:List Tr)(M:Nat):Prop where
 e:ms[k]?=Ss (.frame MP sp r a)
 ha:a<=MP.length
 hm:Mine.Internal.sm MP
 val:∀j,It.sp j∈MP->j<gs.length
 iK:∀(i j:Nat),i<d->MP[i]?=Ss (It.sp j)->uV ms gs j
 oV:∀(i j:Nat),a<=i->MP[i]?=Ss (It.sp j)->yf fl ms gs j
 rr:fB fl r (oc gs MP) res M
class inductive pX(fl:Int)(ms:List TO)(gs:Gh)(EM:List Tr):Option Nat->List Tr->Nat->Nat->List Nat->Prop
 |bot {k:Nat}:pX fl ms gs EM M4 EM 0 k []
 |fr {k k0:Nat}{MP:List It}{sp:Option Nat}{r i j:Nat}{p:Tr}{s res wE:List Tr}{m:Option Tr}{M n:Nat}{ks:List Nat}:k<k0->rT fl ms gs k MP sp r (i+1) i wE M->MP[i]?=Ss (It.sp j)->ms[j]?=Ss (.splice p s m)->uU fl p res->
  (iC gs (.sp j)).1=bR p [bZ res fl] fl->pX fl ms gs EM sp wE n k ks->pX fl ms gs EM (Ss j) res (n+M+gX gs (MP.drop (i+1))+1) k0 (k::ks)
structure n9(ms:List TO)(gs:Gh)(nK:List TO)(jU:Gh)(k0:Nat):Prop where
 sp:∀(j:Nat) p s m,ms[j]?=Ss (.splice p s m)->∃m',nK[j]?=Ss (.splice p s m')/\(m=Ss (iC gs (.sp j)).1->m'=m)
 fr:∀(k:Nat) MP sp r a,k<k0->ms[k]?=Ss (.frame MP sp r a)->nK[k]?=Ss (.frame MP sp r a)
 gs:∀(j:Nat) x,gs[j]?=Ss x->jU[j]?=Ss x
section
variable {fl:Int}{ms nK:List TO}{gs jU:Gh}{k0:Nat}(E:n9 ms gs nK jU k0)
include E
theorem n9.ev{i:It}(h:∀j,i=.sp j->j<gs.length):iC jU i=iC gs i:=by
 induction i with
 |tr t=>rfl
 |sp j=>have e:=Zs (h j rfl);refine (?_:(jU[j]?).getD _=(gs[j]?).getD _);rw[e,E.gs j _ e]
theorem n9.Ez{is:List It}(h:∀j,It.sp j∈is->j<gs.length):oc jU is=oc gs is/\gX jU is=gX gs is:=
 ⟨YG λi hi=>by rw[E.ev λj e=>h j (e▸hi)],congrArg List.sum (YG λi hi=>by rw[E.ev λj e=>h j (e▸hi)])⟩
theorem n9.lt{j:Nat}(h:j<gs.length):j<jU.length:=(sV.mp (E.gs j _ (Zs h))).1
theorem n9.iK{j:Nat}(l:j<gs.length)(h:uV ms gs j):uV nK jU j:=by
 refine dm h λp s e=>?_
 refine aj (E.sp _ _ _ _ e) λm' e' k=>?_;rw[k rfl,<- E.ev λj' e=>by (injection e with y9;subst y9);exact l] at e';exact⟨p,s,e'⟩
theorem n9.oV{j:Nat}(h:yf fl ms gs j):yf fl nK jU j:=by obtain⟨p,s,res,N,m,e,hs,r,k,g⟩:=h;refine aj (E.sp _ _ _ _ e) λm' e' U=>?_;exact⟨p,s,res,N,m',e',hs,r,k,E.gs _ _ g⟩
theorem n9.zE{k:Nat}{MP:List It}{sp:Option Nat}{r a d a':Nat}{res:List Tr}{M:Nat}(f:rT fl ms gs k MP sp r a d res M)(h:nK[k]?=Ss (.frame MP sp r a'))(l:a<=a')(l':a'<=MP.length):rT fl nK jU k MP sp r a' d res M:=
 ⟨h,l',f.hm,λj m=>E.lt (f.val j m),λi j l e=>E.iK (f.val j (s8 e)) (f.iK i j l e),λi j l2 e=>E.oV (f.oV i j (Le l l2) e),(E.Ez f.val).1▸f.rr⟩
set_option tactic.hygienic true in
theorem n9.zF{EM:List Tr}{sp:Option Nat}{res:List Tr}{n k:Nat}{ks:List Nat}(w:pX fl ms gs EM sp res n k ks)(l:k<=k0):pX fl nK jU EM sp res n k ks:=by
 induction w with
 |bot=>exact .bot
 |fr lk f ei ej jo g w ih=>rename_i k1 k2 MP sp r i j p s res wE m M n ks;have l1:k1<k0:=Xm lk l;refine aj (E.sp _ _ _ _ ej) λm' Fi U=>?_;have v:j<gs.length:=f.val j (s8 ei);rw[<- (E.Ez (is:=MP.drop (i+1)) λj m=>f.val j (Vt m)).2];exact .fr lk (E.zE f (E.fr _ _ _ _ _ l1 f.e) (EC _) f.ha) ei Fi jo (by rw[E.ev λj' e=>by (injection e with y9;subst y9);exact v];exact g) (ih (YW l1))
end
inductive iY(fl:Int)(EM:List Tr)(n0 n:Nat)(ms:List TO)(k:Nat)(ks:List Nat)(MP:List It)(sp:Option Nat)(r a:Nat):Prop
 |mk (gs:Gh) (res:List Tr) (M nb:Nat) (l:gs.length=ms.length) (f:rT fl ms gs k MP sp r a a res M) (b:pX fl ms gs EM sp res nb k ks) (e:nb+M+gX gs (MP.drop a)+1=n) (lk:ks.length+n<=n0)
theorem Jf{gs:Gh}:∀{is:List It},fA is=M4->gX gs is=0/\∀j,It.sp j∉is
 |[],j4=>⟨rfl,λU h=>nomatch h⟩
 |.sp j::is,h=>by exact lu h
 |.tr t::is,h=>by
  have h:(fA is).map _=M4:=h;refine ak (Jf (gs:=gs) (alg.mp h)) λa b=>?_;exact ⟨(kI _).trans a,λj m=>by
   rcases K7.mp m with m|m;· cases m
   ·exact b j m⟩
theorem Jg{gs:Gh}{j:Nat}:∀{is:List It}{i:Nat},fA is=Ss (i,j)->is[i]?=Ss (.sp j)/\(∀(i' j':Nat),i'<i->is[i']?≠Ss (.sp j'))/\gX gs is=(iC gs (.sp j)).2+gX gs (is.drop (i+1))
 |[],i,h=>by exact aY h
 |.sp j'::is,i,h=>by cases h;exact⟨rfl,λU U l=>MQ l (Yr _),rfl⟩
 |.tr t::is,i,h=>by
  have h:(fA is).map _=Ss (i,j):=h;obtain⟨⟨i0,j0⟩,e,e2⟩:=ZU.mp h
  (injection e2 with y8 y9;subst y8;subst y9);refine ce (Jg (gs:=gs) e) λa b c=>?_;refine⟨a,λi' j' l=>?_,(kI _).trans c⟩;induction i' using vI with
  |zero=>intro z;cases z
  |succ i'=>exact b i' j' (Nat.lt_of_succ_lt_succ l)
theorem yl{gs:Gh}{s:List Tr}:oc gs (s.map .tr)=s/\gX gs (s.map .tr)=0:=by
 constructor
 ·rw[oc,Za];exact List.map_id _
 ·induction s with
  |nil=>rfl
  |cons t s ih=>exact (kI _).trans ih
theorem yu{s:List Tr}{j:Nat}:It.sp j∉s.map It.tr:=λh=>by refine aj (zK.mp h) λt U e=>?_;cases e
theorem n9.EA{ms:List TO}{gs:Gh}{k:Nat}{o o':TO}{x:List TO}{y:Gh}(e:ms[k]?=Ss o)(h:∀p s m,o≠.splice p s m):n9 ms gs (ms.set k o'++x) (gs++y) k:=by
 have hk:=(sV.mp e).1;have at_:∀(j:Nat) (u:TO),j≠k->ms[j]?=Ss u->(ms.set k o'++x)[j]?=Ss u:=λj u n hj=>by rw[Yl (by rw[aW];exact (sV.mp hj).1),Yo (Yu n)];exact hj
 refine⟨λj p s m hj=>⟨m,at_ j _ (λz=>?_) hj,λU=>rfl⟩,λj is sp r a l hj=>at_ j _ (WB l) hj,λj z hj=>?_⟩
 ·subst z;rw[e] at hj;exact h p s m (K6 hj)
 ·rw[Yl (sV.mp hj).1];exact hj
section
variable {fl:Int}{EM:List Tr}{n0 n:Nat}{ms:List TO}{k:Nat}{ks:List Nat}{MP:List It}{sp:Option Nat}{r a:Nat}
inductive ahU(fl:Int)(EM:List Tr)(n0 n:Nat)(ms:List TO)(k:Nat)(ks:List Nat)(MP:List It)(sp:Option Nat)(r a i j:Nat):Prop
 |mk (p:Tr) (s:List Tr) (m:Option Tr) (n':Nat) (e:ms[j]?=Ss (.splice p s m)) (hs:sm s) (l:n'<n) (h:iY fl EM n0 n' (ms.set k (.frame MP sp r (a+i+1:Nat))++[.frame (s.map .tr) (Ss j) (0:Nat) (0:Nat)]) ms.length (k::ks) (s.map .tr) (Ss j) 0 0)
theorem iY.jK(H:iY fl EM n0 n ms k ks MP sp r a){i j:Nat}(h:fA (MP.drop a)=Ss (i,j)):ahU fl EM n0 n ms k ks MP sp r a i j:=by
 obtain⟨gs,res,M,nb,l,f,b,e,lk⟩:=H;refine ce (Jg (gs:=gs) h) λh1 h2 h3=>?_;rw[XC] at h1;have hi:a+i<MP.length:=(sV.mp h1).1;obtain⟨p,s,NT,N,m,ej,hs,rr,jo,g⟩:=f.oV _ j (oW a i) h1;have E:n9 ms gs (ms.set k (.frame MP sp r (a+i+1:Nat))++[.frame (s.map .tr) (Ss j) (0:Nat) (0:Nat)]) (gs++[(.cR 1 0,0)]) k:=.EA f.e λU U U z=>by cases z
 have hk:=(sV.mp f.e).1;have f1:=E.zE f (a':=a+i+1) (by rw[Yl (by rw[aW];exact hk)];exact eC f.e) (PP) hi;have f2:rT fl _ _ k MP sp r (a+i+1) (a+i) res M:=⟨f1.e,f1.ha,f1.hm,f1.val,λi' j' l' e'=>by
  rcases Yz i' a with q|q
  ·exact f1.iK i' j' q e'
  ·refine MQ ?_ (h2 (i' - a) j' (FR l' q));rw[XC,XE q];exact e',f1.oV,f1.rr⟩
 refine aj (E.sp _ _ _ _ ej) λm' Fi U=>?_;have gj:iC gs (.sp j)=(bR p [bZ NT fl] fl,N+2):=by refine (?_:(gs[j]?).getD _=_);rw[g];rfl
 have vj:∀j',It.sp j=.sp j'->j'<gs.length:=λj' z=>by (injection z with y9;subst y9);exact f.val j (s8 h1)
 have h3:gX gs (MP.drop a)=N+2+gX gs (MP.drop (a+i+1)):=by rw[gj,List.drop_drop] at h3;exact h3
 have t3:=(E.Ez (is:=MP.drop (a+i+1)) λj m=>f.val j (Vt m)).2;refine⟨p,s,m,nb+M+gX gs (MP.drop (a+i+1))+1+N+1,ej,hs,?_,_,NT,N,_,?_,⟨?_,zJ _,?_,λj' z=>MQ z yu,λi' j' z=>MQ z (Yr _),λi' j' U z=>MQ (s8 z) yu,?_⟩,.fr hk f2 h1 Fi jo ?_ (E.zF b (EC _)),?_,?_⟩
 ·rw[<- e,h3];exact PN
 ·rw[Es,Es,aW,l];rfl
 ·rw[<- aW (as:=ms) (i:=k) (a:=.frame MP sp r (a+i+1:Nat)),Wf]
 ·refine (?_:(s.map It.tr).length<=_);rw[K4];exact hs
 ·rw[yl.1];exact rr
 ·rw[E.ev vj,gj]
 ·rw[t3];refine (?_:_+gX _ (s.map .tr)+1=_);rw[yl.2]
 ·rw[qR];rw[h3] at e;exact PM e lk t3
theorem Jc{ms:List TO}{gs:Gh}{is:List It}(h:∀j,It.sp j∈is->uV ms gs j):is.map (gb ms)=oc gs is:=YG λi hi=>by
 induction i with
 |tr t=>rfl
 |sp j=>refine dm (h j hi) λp s e=>?_;refine (?_:((ms[j]?).bind DW).getD _=_);rw[e];rfl
inductive ahW(fl:Int)(ms:List TO)(gs:Gh)(bz:List Pr)(gl:Gh):Prop
 |mk (ev:oc (gs++gl) (cO ms.length bz)=eU bz gl) (tu:gX (gs++gl) (cO ms.length bz)=eD gl) (sp:∀j,It.sp j∈cO ms.length bz->j<(gs++gl).length/\yf fl (ms++cP bz) (gs++gl) j) (l:gl.length=(cP bz).length)
set_option tactic.hygienic true in
theorem m4.vL{fl:Int}:∀{bz:List Pr}{gl:Gh}{ms:List TO}{gs:Gh},m4 fl bz gl->gs.length=ms.length->ahW fl ms gs bz gl
 |[],_,_,_,h,_=>by cases h;exact⟨rfl,rfl,λ_ m=>(aT m),rfl⟩
 |.one t::bz,_,ms,gs,h,l=>by
  cases h with
  |one h=>
   obtain⟨a,b,c,d⟩:=h.vL (ms:=ms) (gs:=gs) l;exact ⟨congrArg (t::·) a,(kI _).trans b,λj m=>by
    rcases K7.mp m with m|m;· cases m
    ·exact c j m,d⟩
 |.many p s::bz,_,ms,gs,h,l=>by
  cases h with
  |many hs r k h=>
   rename_i res N gl;obtain⟨a,b,c,d⟩:=h.vL (ms:=ms++[.splice p s M4]) (gs:=gs++[(bR p [bZ res fl] fl,N+2)]) (by rw[Es,Es,l];rfl);rw[zx,Es] at a b c;rw[zx] at c;have g:(gs++(bR p [bZ res fl] fl,N+2)::gl)[ms.length]?=Ss (bR p [bZ res fl] fl,N+2):=by rw[<- l];exact xS
   have e:iC (gs++(bR p [bZ res fl] fl,N+2)::gl) (.sp ms.length)=(bR p [bZ res fl] fl,N+2):=by show ((_++_::_)[_]?).getD _=_;rw[g];rfl
   refine⟨?_,?_,λj m=>?_,congrArg Xy d⟩
   ·refine (?_:(iC _ (.sp ms.length)).1::oc _ (cO (ms.length+1) bz)=_::_);rw[e];exact congrArg (_::·) a
   ·refine (?_:(iC _ (.sp ms.length)).2+gX _ (cO (ms.length+1) bz)=(N+2)+eD gl);rw[e];exact congrArg (_+·) b
   ·rcases K7.mp m with m|m
    ·(injection m with y9;subst y9);exact⟨(sV.mp g).1,p,s,res,N,M4,xS,hs,r,k,g⟩
    ·exact c j m
inductive ahR(fl:Int)(EM:List Tr)(n0 n:Nat)(ms:List TO)(k:Nat)(ks:List Nat)(MP:List It)(sp:Option Nat)(r:Nat):Prop
 |mk (n':Nat) (hm:Mine.Internal.sm MP) (hj:∀j,It.sp j∈MP->∃p s m,ms[j]?=Ss (.splice p s (Ss m))) (ok:Cc r (MP.map (gb ms))) (l:n'<n)
  (h:iY fl EM n0 n' (ms.set k (.frame (cO ms.length (og fl r (MP.map (gb ms)))) sp (r+1:Nat) (0:Nat))++cP (og fl r (MP.map (gb ms)))) k ks (cO ms.length (og fl r (MP.map (gb ms)))) sp (r+1) 0)
theorem iY.l6(H:iY fl EM n0 n ms k ks MP sp r a)(h:fA (MP.drop a)=M4):∃gs res M nb,gs.length=ms.length/\rT fl ms gs k MP sp r a a res M/\pX fl ms gs EM sp res nb k ks/\nb+M+1=n/\ks.length+n<=n0/\∀j,It.sp j∈MP->uV ms gs j:=by
 obtain⟨gs,res,M,nb,l,f,b,e,lk⟩:=H;refine ak (Jf (gs:=gs) h) λh1 h2=>?_;rw[h1] at e;refine⟨gs,res,M,nb,l,f,b,e,lk,λj m=>?_⟩;refine a7 (Vi.mp m) λi hi=>?_;rcases Yz i a with q|q
 ·exact f.iK i j q hi
 ·exact MQ (s8 (i:=i-a) (by rw[XC,XE q];exact hi)) (h2 j)
set_option tactic.hygienic true in
theorem iY.afw(H:iY fl EM n0 n ms k ks MP sp r a)(h:fA (MP.drop a)=M4)(hr:r<5):ahR fl EM n0 n ms k ks MP sp r:=by
 refine Ay (H.l6 h) λgs res M nb l f b e lk hd=>?_;have em:=Jc hd;cases f.rr with
 |done=>exact MQ hr (YD _)
 |step h5 ok hs hi rr=>
  rename_i gl M;rw[<- em] at ok hs hi rr;refine⟨nb+M+eD gl+1,f.hm,λj m=>by refine dm (hd j m) λp s e=>?_;exact⟨p,s,_,e⟩,ok,by exact PL e,?_⟩;generalize agb:og fl r (MP.map (gb ms))=bz at hs hi rr;have E:n9 ms gs (ms.set k (.frame (cO ms.length bz) sp (r+1:Nat) (0:Nat))++cP bz) (gs++gl) k:=.EA f.e λ_ _ _ z=>by cases z
  have hk:=(sV.mp f.e).1;obtain⟨l1,l2,l3,l4⟩:=hi.vL (ms:=ms.set k (.frame (cO ms.length bz) sp (r+1:Nat) (0:Nat))) (gs:=gs) (by rw[aW];exact l);rw[aW] at l1 l2 l3;refine⟨gs++gl,res,M,nb,?_,⟨?_,zJ _,?_,λj m=>(l3 j m).1,λi j z=>MQ z (Yr _),λi j _ z=>(l3 j (s8 z)).2,?_⟩,E.zF b (EC _),?_,by exact PK e lk l2⟩
  ·rw[Es,Es,aW,l,l4]
  ·rw[Yl (by rw[aW];exact hk)];exact eC f.e
  ·refine (?_:(cO _ bz).length<=_);rw[uK];exact hs
  ·rw[l1];exact rr
  ·rw[List.drop_zero,l2]
theorem n9.afr{ms:List TO}{gs:Gh}{k:Nat}{o o':TO}(e:ms[k]?=Ss o)(h:∀p s m,o≠.splice p s m):n9 ms gs (ms.set k o') gs k:=by
 have:=n9.EA (gs:=gs) (o':=o') (x:=[]) (y:=[]) e h
 rwa [zB,zB] at this
theorem n9.afs{ms:List TO}{gs:Gh}{j k0:Nat}{p:Tr}{s:List Tr}{m:Option Tr}(e:ms[j]?=Ss (.splice p s m)):n9 ms gs (ms.set j (.splice p s (Ss (iC gs (.sp j)).1))) gs k0:=by
 refine⟨λj' p' s' m' h=>?_,λk is sp r a U h=>?_,λU U h=>h⟩
 ·by_cases z:j'=j
  ·subst z;rw[e] at h;cases h;exact⟨_,eC e,λq=>q.symm⟩
  ·exact⟨m',by rw[Yo (Yu z)];exact h,λU=>rfl⟩
 ·by_cases z:k=j
  ·subst z;rw[e] at h;cases h
  ·rw[Yo (Yu z)];exact h
theorem iY.afx(H:iY fl EM n0 n ms k ks MP sp r a)(h:fA (MP.drop a)=M4):iY fl EM n0 n (ms.set k (.frame MP sp r MP.length)) k ks MP sp r MP.length:=by
 refine Ay (H.l6 h) λgs res M nb l f b e lk hd=>?_;have E:n9 ms gs (ms.set k (.frame MP sp r MP.length)) gs k:=.afr f.e λU U U z=>by cases z
 have f1:=E.zE f (eC f.e) f.ha (EC _);exact⟨gs,res,M,nb,by rw[aW];exact l,⟨f1.e,f1.ha,f1.hm,f1.val,λi j U z=>E.iK (f.val j (s8 z)) (hd j (s8 z)),f1.oV,f1.rr⟩,E.zF b (EC _),by rw[VF];exact e,lk⟩
inductive B8(fl:Int)(EM:List Tr)(n0 n:Nat)(ms:List TO)(ks:List Nat)(res:List Tr):Option Nat->Prop
 |fin (e:res=EM) (e2:ks=[]):B8 fl EM n0 n ms ks res M4
 |go (j:Nat) (p:Tr) (s:List Tr) (m:Option Tr) (k':Nat) (tw:List Nat) (tx:List It) (wF:Option Nat) (r' a' n':Nat) (ek:ks=k'::tw) (ej:ms[j]?=Ss (.splice p s m)) (jo:uU fl p res) (l:n'<n)
  (h:iY fl EM n0 n' (ms.set j (.splice p s (Ss (bR p [bZ res fl] fl)))) k' tw tx wF r' a'):B8 fl EM n0 n ms ks res (Ss j)
set_option tactic.hygienic true in
theorem iY.pop(H:iY fl EM n0 n ms k ks MP sp r a)(h:fA (MP.drop a)=M4)(hr:¬ r<5):B8 fl EM n0 n ms ks (MP.map (gb ms)) sp/\(∀j,It.sp j∈MP->∃p s m,ms[j]?=Ss (.splice p s (Ss m))):=by
 refine Ay (H.l6 h) λgs res M nb l f b e lk hd=>?_;refine⟨?_,λj m=>by refine dm (hd j m) λp s e=>?_;exact⟨p,s,_,e⟩⟩;rw[Jc hd];cases f.rr with
 |step h5 _ _ _ _=>exact MQ h5 hr
 |done=>
  cases b with
  |bot=>exact .fin rfl rfl
  |fr lk' f' ei ej jo g w=>
   rename_i k' tx wF r' i j p s wE m M' n' tw;have E:n9 ms gs (ms.set j (.splice p s (Ss (iC gs (.sp j)).1))) gs ms.length:=.afs ej;have f1:=E.zE f' (E.fr _ _ _ _ _ (sV.mp f'.e).1 f'.e) (EC _) f'.ha;refine .go j p s m k' tw tx wF r' (i+1) (n'+M'+gX gs (tx.drop (i+1))+1) rfl ej jo (PJ e) ?_;rw[<- g];refine⟨gs,wE,M',n',by rw[aW];exact l,⟨f1.e,f1.ha,f1.hm,f1.val,λi' j' l' z=>?_,f1.oV,f1.rr⟩,E.zF w (YW (sV.mp f'.e).1),rfl,by rw[qR] at lk;exact PI lk e⟩;rcases Yz i' i with q|q
   ·exact f1.iK i' j' q z
   ·obtain rfl:i'=i:=by exact F6 l' q
    rw[ei] at z;cases z;exact⟨p,s,eC ej⟩
end
theorem iY.afv{fl:Int}{EM:List Tr}{n:Nat}{ms:List TO}{k:Nat}{ks:List Nat}{MP:List It}{sp:Option Nat}{r a:Nat}(H:iY fl EM 900001 n ms k ks MP sp r a):
 ms[k]?=Ss (.frame MP sp r a)/\sm MP/\(∀j,It.sp j∈MP->∃p s m,ms[j]?=Ss (.splice p s m)/\j≠k)/\a<=MP.length/\ks.length<=900001:=by
 obtain⟨gs,res,M,nb,l,f,b,e,lk⟩:=H;refine⟨f.e,f.hm,λj m=>?_,f.ha,Le (oW _ _) lk⟩;have nk:∀p s m,ms[j]?=Ss (.splice p s m)->j≠k:=λp s m e z=>by rw[z,f.e] at e;cases e
 refine a7 (Vi.mp m) λi hi=>?_;rcases Yz i a with q|q
 ·refine dm (f.iK i j q hi) λp s e=>?_;exact⟨p,s,_,e,nk _ _ _ e⟩
 ·obtain⟨p,s,_,_,m,e,_⟩:=f.oV i j q hi;exact⟨p,s,m,e,nk _ _ _ e⟩
set_option genInjectivity false in
structure ahb where
 ms:List TO
 k:Nat
 ks:List Nat
 bu:List It
 sp:Option Nat
 r:Nat
 a:Nat
 x0:an
 x3:an
 x4:an
 x5:an
noncomputable def ym(fl:Int)(s:ahb):St:=⟨[s.x0,.val (.int fl),.own (.lst (s.ks.reverse.map .ref++[.ref s.k])),s.x3,s.x4,s.x5],bo s.ms⟩
set_option genInjectivity false in
structure IT where
 ts:List Tr
 fl:Int
 EB:List Tr
 N:Nat
structure IU(x:IT):Prop where
 s:sm x.ts
 n:x.N<=900000
 r:fB x.fl 0 x.ts x.EB x.N
noncomputable def B6{α:Type}(xs:α->List AV)(p:α->Prop)(v:α->AV):DV:=λpq P=>.ex λa=>.rq (xs a=pq) (.rq (p a) (P (v a)))
theorem a8.MX{g:Gx}{d:Nat}{a:MW}{α:Type}{xs:α->List AV}{p:α->Prop}{v:α->AV}{Cf:DC}(h:bQ g d a Cf)(hx:∀a,∀x∈xs a,RF x)(hv:∀a,RF (v a))(k:∀x,p x->iS Cf (xs x) [] (v x)):a8 g d a (B6 xs p v):=
 .sU h λys P hV=>by refine bV hV λx e hp q=>?_;subst e;exact⟨_,hx x,hv x,k x hp,q,λP' q'=>⟨x,rfl,hp,q'⟩⟩
noncomputable def ahw:DV:=B6 (λx:IT=>[enc x.ts,enc x.fl]) IU λx=>enc x.EB
theorem aak{ms:List TO}{s:List Tr}{sp:Option Nat}:(bo ms++[Ss (⟨2,[]⟩:MO)]).set (bo ms).length (Ss (TO.frame (s.map .tr) sp (0:Nat) (0:Nat)).mo)=bo (ms++[.frame (s.map .tr) sp (0:Nat) (0:Nat)]):=by rw[alB _ _ (EC _),Wu,bo,bo,wh];rfl
theorem aeF{ts EM:List Tr}{fl:Int}{N:Nat}(h:IU ⟨ts,fl,EM,N⟩):iY fl EM 900001 (N+1) [.frame (ts.map .tr) M4 0 0] 0 [] (ts.map .tr) M4 0 0:=
 ⟨[(.cR 1 0,0)],EM,N,0,rfl,⟨rfl,zJ _,by refine (?_:(ts.map It.tr).length<=_);rw[K4];exact h.s,λj z=>MQ z yu,λi j z=>MQ z (Yr _),λi j U z=>MQ (s8 z) yu,by rw[yl.1];exact h.r⟩,.bot,by refine (?_:0+N+gX _ (ts.map .tr)+1=_);rw[yl.2];exact PG,by refine (?_:0+(N+1)<=_);exact PF h.n⟩
noncomputable def aag:FI:=⟨[("subs",.loc),("flags",.loc),("frames",.loc),("frame",.loc),("splice",.loc),("rest",.loc)],["FactorFrame","FACTOR_ROUNDS","factor_joined","tree_alternate"],WL⟩
theorem aaA{g:Gx}(G:ED g)(d:Nat):a8 g (d+9) (g.fa 50) ahw:=
 .MX (G.K (d:=d+8) (fi:=aag) 50 rfl (ae (bg 2 (a9 (aa (jH 0 G.toGOK (G.cls 2 rfl) (Iu G (d+6)) (aa (E.u 0) (aa E.none ag))) ag))) (ae (lV (eT E.cK) (ae (bg 3 (ax (aB (ah 2) (nf aF)))) (ae (bg 4 (ze (G.Zu 3 rfl) (ais G (d+7)) (ah 3)  (λU=>_))) (ae (aJ (bn O.Ea (ax (ah 4)) E.none) (ae (eF (g5 2 (jH 0 G.toGOK (G.cls 2 rfl) (Iu G (d+6)) (aa (ax (gm 2 G.toGOK2 (ah 4))) (aa (ax (ah 4)) ag))))) af) (ae (aJ (bn O.lt (ax (gm 15 G.toGOK2 (ah 3))) (eG G 1 26 rfl)) (ae (eF (aeD (G.Zu 5 rfl) (aaw G d) (ah 3) (aa (E.u 1) ag) (λU=>_))) af) (ae (eF (DF 2)) (ae (aJ (bn O.zl (ax (gm 14 G.toGOK2 (ah 3))) E.none) (ae (aA (ze (G.Zu 4 rfl) (BQ G (d+7)) (ah 3)  (λU=>_))) af) af) (ae (bg 5 (cV G 3 14 rfl (Bu G (d+4)) (aa (ze (G.Zu 4 rfl) (BQ G (d+7)) (ah 3)  (λU=>_)) (aa (E.u 1) ag)))) (ae (g7 12 G.toGOK2 (gm 14 G.toGOK2 (ah 3)) (cV G 2 27 rfl (HC G (d+3)) (aa (ax (gm 11 G.toGOK2 (gm 14 G.toGOK2 (ah 3)))) (aa (a9 (aa (E.u 5) ag)) (aa (E.u 1) ag))))) af))))) af)) af)))) af))) (λx=>by simpa using⟨Enc.rf x.ts,Enc.rf x.fl⟩) (λx=>Enc.rf x.EB) λ⟨ts,fl,EM,N⟩ h G f=>lI (ym fl) (λn s=>iY fl EM 900001 n s.ms s.k s.ks s.bu s.sp s.r s.a) (ym fl) (λU=>False) (f rfl (0,ts,M4,[Ss ⟨2,[]⟩]) rfl rfl ⟨h.s,rfl⟩ rfl) (N+1) ⟨_,0,[],ts.map .tr,M4,0,0,_,_,_,_⟩ rfl (aeF h)
  (λn ⟨ms,k,ks,MP,sp,r,a,x0,x3,x4,x5⟩ H kk j4=>by
   replace H:iY fl EM 900001 n ms k ks MP sp r a:=H;refine tM (H.afv) λef hm hj ha lk=>?_;have ll:(ks.reverse.map AV.ref++[AV.ref k]).length<=1000000:=by rw[Es,K4,Xh];exact PE lk
   cases hn:fA (MP.drop a) with
   |none=>
    have H:=H.afx hn;have NU:fA (MP.drop MP.length)=M4:=by rw[VF];rfl
    have em:(ms.set k (.frame MP sp r MP.length))[k]?=Ss (.frame MP sp r MP.length):=eC ef;cases c:decide ((r:Int)<5) with
    |true=>obtain⟨n',hm',pn,ok,l,H⟩:=H.afw NU (by have:=zL c;exact FQ this);exact λG f=>f WL tt (fk ll) _ ur _ (eu ef) ⟨k,ms,MP,sp,r,a⟩ rfl rfl ⟨hm,ef,ha,hj⟩ M4 hn rfl PO ff _ (eu em) WL c _ (eu em) ⟨k,fl,ms.set k (.frame MP sp r MP.length),MP,sp,r,MP.length⟩ rfl rfl ⟨hm',em,by have:=zL c;exact FQ this,pn,ok⟩ _ l (.C ⟨_,k,ks,_,sp,r+1,0,x0,.val (.ref k),.val .none,x5⟩ H rfl)
    |false=>
     refine ak (H.pop NU (by have:=of_decide_eq_false c;exact PD this)) λhp pn=>?_;cases hp with
     |fin e e2=>exact λG f=>f WL tt (fk ll) _ ur _ (eu ef) ⟨k,ms,MP,M4,r,a⟩ rfl rfl ⟨hm,ef,ha,hj⟩ M4 hn rfl PO ff _ (eu em) PO c ll _ _ rfl _ (eu em) rfl WL tt _ (eu em) ⟨k,ms.set k (.frame MP M4 r MP.length),MP,M4,r,MP.length⟩ rfl rfl ⟨hm,em,pn⟩ (congrArg enc e.symm)
     |go j p s m k' tw tx wF r' a' n' ek ej jo l H2=>subst ek;exact λG f=>f WL tt (fk ll) _ ur _ (eu ef) ⟨k,ms,MP,Ss j,r,a⟩ rfl rfl ⟨hm,ef,ha,hj⟩ M4 hn rfl PO ff _ (eu em) PO c ll _ _ rfl _ (eu em) rfl PO ff _ (eu em) ⟨k,ms.set k (.frame MP (Ss j) r MP.length),MP,Ss j,r,MP.length⟩ rfl rfl ⟨hm,em,pn⟩ _ fl rfl jo.sm _ (eu em) _ (eu ej) p [bZ _ fl] fl rfl ⟨jo.jw,show 2<=1000000 by decide⟩ _ (eu em) _ (eu ej) _ l (.C ⟨_,k',tw,tx,wF,r',a',x0,.val (.ref k),.val .none,_⟩ H2 (by unfold ym;rw[<- uR,Yc,wh];rfl))
   |some ij=>
    obtain⟨i,j⟩:=ij;obtain⟨p,s,m,n',ej,q7,l,H⟩:=H.jK hn;have ej1:(ms.set k (.frame MP sp r (a+i+1:Nat)))[j]?=Ss (.splice p s m):=by rw[Yo λz=>by rw[<- z,ef] at ej;cases ej];exact ej
    rw[show ms.length=(bo (ms.set k (.frame MP sp r (a+i+1:Nat)))).length by rw[K4,aW]] at H;exact λG f=>f WL tt (fk ll) _ ur _ (eu ef) ⟨k,ms,MP,sp,r,a⟩ rfl rfl ⟨hm,ef,ha,hj⟩ (Ss (i,j)) hn rfl WL tt ll _ (eu ej1) (_,s,Ss j,_) rfl rfl ⟨q7,Wf ..⟩ rfl _ l (.C ⟨_,_,k::ks,_,Ss j,0,0,x0,.val (.ref k),.val (.ref j),x5⟩ H (by unfold ym;dsimp only;rw[<- aak,Yc,wh];rfl)))
  λU h=>h.elim
noncomputable def m5:List (List Int×Bool):=[([97],PO),([98],PO),([107],PO),([97],WL),([107],WL),([97,98],PO),([97,98,107],PO),([97,107],PO),([97,107],WL),([97,98],WL),([65],PO),([-1],PO)]
noncomputable def uW:List Rg:=[[(97,98)],[(98,107)],[(107,107),(-1,-1)],[]]
noncomputable def rX(hi r:Int):Int:=if r<0 then hi else r
noncomputable def yq(hi:Int)(r:Int×Int):Int×Int:=if decide (r=(-1,-1))=WL then (hi,hi) else r
noncomputable def gD(hi fl:Int)(w:Nat):Tr:=
 if w<12 then Tr.A ((m5.getD w ([],PO)).1.map (rX hi)) (if (m5.getD w ([],PO)).2=WL then dM fl 1 else fl)
 else if w<16 then .cls ((uW.getD (w-12) []).map (yq hi)) fl
 else if w<25 then .cR (pV.getD (w-16) 0) fl
 else match w with
  |25=>.zw (.Y 97 fl) fl 2 2
  |26=>.zw (.cls [(97,98)] fl) fl 2 2
  |27=>.zw (.cR 12 fl) (dM fl 64) 2 2
  |28=>.fg 7 fl (.Y 97 fl)
  |29=>.fg 8 (dM fl 64) (.Y 98 fl)
  |30=>.fg 9 fl (.Y 97 fl)
  |31=>.Em (.Y 97 fl) fl 1 M4
  |32=>.Em (bZ [.Y 98 fl,.cR 2 fl] fl) fl 2 (Ss #[110])
  |33=>bZ [.A [97,98] fl,.Y 98 fl] fl
  |_=>dF [.Y 97 fl,.fg 7 fl (.Y 98 fl)] fl
theorem IZ(r q:Int×Int):bK 140 (enc r) (enc q)=Ss (decide (r=q)):=by rw[uI 139];exact H3 (f:=bK 139) (λa b=>uH 138 a b) (λa b=>uH 138 a b) r q
noncomputable def Cg:FI:=⟨[("what",.loc),("high",.cell),("flags",.loc),("runes",.loc),("is_folded",.loc),("sign",.loc),("other",.loc)],["tree_concat","tree_star","tree_alternate","tree_string","tree_capture","tree_plain","OP_EMPTY","tree_quest","tree_plus","NON_GREEDY","tree_repeat","OP_ANY_CHAR","tree_class","tree_literal","_law_plain","_law_classes","FOLD_CASE","_law_words"],WL⟩
noncomputable def ahs:FI:=Cg.bJ [1] ["rune"] []
noncomputable def aht:FI:=Cg.bJ [1] ["row"] []
theorem aax{g:Gx}(G:ED g)(d:Nat):a8 g (d+6) (g.fa 54) (V3 (λ(w hi fl:Int)=>gD hi fl w.toNat) λw U U=>0<=w/\w<35):=
 .zv (G.K (d:=d+5) (fi:=Cg) 54 rfl (ae (aJ (bn O.lt (E.u 0) E.x) (ae (kE (.cons (i:=3) rfl rfl (.cons (i:=4) rfl rfl .nil)) (ax (aB (LC 17 G.toGOK (G.cst 32 rfl)) (ah 0)))) (ae (sI 3 ahs (gh (by decide +kernel) (by decide +kernel)) (cH (E.u 3)) (cN 7) iI (cE (bn O.lt (E.u 7) E.x) (E.u 1) (E.u 7)) (λU U N=>rI N 3 rfl rfl rfl)) (ae (aA (cV G 3 10 rfl (uz G (d+1)) (aa (E.u 3) (aa (cE (eT (E.u 4)) (bC O.sS (E.u 2) (eG G 16 0 rfl)) (E.u 2)) ag)))) af))) af) (ae (aJ (bn O.lt (E.u 0) E.x) (ae (aA (cV G 12 11 rfl (Bv G (d+2)) (aa (lW aht (gh (by decide +kernel) (by decide +kernel)) (cH (ax (aB (LC 15 G.toGOK (G.cst 33 rfl)) (vB zb (ah 0) aF)))) (cN 7) iI (cE (tQ G (E.u 7) (bD (aa (lT O.qF E.x) (aa (lT O.qF E.x) ag)))) (bD (aa (E.u 1) (aa (E.u 1) ag))) (E.u 7))) (aa (E.u 2) ag)))) af) af) (ae (aJ (bn O.lt (E.u 0) E.x) (ae (aA (cV G 5 8 rfl (uy G (d+2)) (aa (Lx (L7 14 G.toGOK (G.ZV 52 rfl) (ahN G (d+4))) (vB zb (ah 0) aF)) (aa (E.u 2) ag)))) af) af) (ae (jE (names:=["sign","other"]) (.cons (i:=6) rfl rfl (.cons (i:=5) rfl rfl .nil)) (dg (cV G 13 9 rfl (ux G (d+2)) (aa E.x (aa (E.u 2) ag))) (dg (cV G 13 9 rfl (ux G (d+2)) (aa E.x (aa (E.u 2) ag))) iH)) (λU U N=>jt N 5 6 rfl rfl rfl rfl rfl rfl rfl)) (ae (aJ (bn O.lt (E.u 0) E.x) (ae (aA (cV G 10 20 rfl (HG G (d+1)) (aa (cE (tQ G (E.u 0) E.x) (E.u 5) (cV G 12 11 rfl (Bv G (d+2)) (aa (a9 (aa (bD (aa E.x (aa E.x ag))) ag)) (aa (E.u 2) ag)))) (aa (E.u 2) (aa E.x (aa E.x ag)))))) af) af) (ae (aJ (tQ G (E.u 0) E.x) (ae (aA (cV G 10 20 rfl (HG G (d+1)) (aa (cV G 5 8 rfl (uy G (d+2)) (aa (eG G 11 15 rfl) (aa (E.u 2) ag))) (aa (bC O.sS (E.u 2) (eG G 9 2 rfl)) (aa E.x (aa E.x ag)))))) af) af) (ae (aJ (bn O.lt (E.u 0) E.x) (ae (aA (cE (tQ G (E.u 0) E.x) (cV G 1 17 rfl (HJ G d) (aa (E.u 5) (aa (E.u 2) ag))) (cV G 8 18 rfl (aj5 G d) (aa (E.u 6) (aa (bC O.sS (E.u 2) (eG G 9 2 rfl)) ag))))) af) af) (ae (aJ (bn O.lt (E.u 0) E.x) (ae (aA (cE (tQ G (E.u 0) E.x) (cV G 7 19 rfl (aj4 G d) (aa (E.u 5) (aa (E.u 2) ag))) (cV G 4 21 rfl (HF G (d+1)) (aa (E.u 5) (aa (E.u 2) (aa E.x (aa E.none ag))))))) af) af) (ae (aJ (tQ G (E.u 0) E.x) (ae (aA (cV G 4 21 rfl (HF G (d+1)) (aa (cV G 2 14 rfl (Bu G (d+1)) (aa (a9 (aa (E.u 6) (aa (cV G 5 8 rfl (uy G (d+2)) (aa (eG G 6 5 rfl) (aa (E.u 2) ag))) ag))) (aa (E.u 2) ag))) (aa (E.u 2) (aa E.x (aa E.aeR ag)))))) af) af) (ae (aJ (tQ G (E.u 0) E.x) (ae (aA (cV G 2 14 rfl (Bu G (d+1)) (aa (a9 (aa (cV G 3 10 rfl (uz G (d+1)) (aa (a9 (aa E.x (aa E.x ag))) (aa (E.u 2) ag))) (aa (E.u 6) ag))) (aa (E.u 2) ag)))) af) af) (ae (aA (cV G 0 13 rfl (xB G (d+1)) (aa (a9 (aa (E.u 5) (aa (cV G 1 17 rfl (HJ G d) (aa (E.u 6) (aa (E.u 2) ag))) ag))) (aa (E.u 2) ag)))) af)))))))))))) λw hi fl ⟨Fj,hw⟩=>by
  refine a7 (ZJ Fj) λn y9=>?_;subst y9;have hn:n<35:=by exact P6 hw Fj
  clear hw Fj;refine (?_:iS _ [enc (n:Int),enc hi,enc fl] [] (enc (gD hi fl n)));cases ty:decide ((n:Int)<12) with
  |true=>
   have c:n<12:=by have:=zL ty;exact P5 this hn
   unfold gD;rw[MS c];have ew:m5[n]?=Ss (m5.getD n ([],PO)):=by rw[YF,Zs c];rfl
   have es:∀q∈m5,q.1.length<=3:=by decide
   have es:=es _ (s8 ew);generalize m5.getD n ([],PO)=q at ew es ⊢;obtain⟨rs,f0⟩:=q;have NV:sm (rs.map (rX hi)):=by show _<=_;rw[K4];exact Le es (by decide)
   exact λG f=>by
    refine iW enc (rX hi) (l:=rs) (λx=>⟨[.val (.int n),.val (.int hi),.val (.int fl),.val (enc rs),.val (.bool f0),.none,.none,x],[]⟩) .none (f rfl WL ty (show 12<2 ^ 62 by decide) _ (bW (dn ew) rfl)) (Le es (by decide)) ?_ ?_ ?_ ?_
    ·exact rfl
    ·exact rfl
    ·exact λb x m K Z hK=>aC (decide (b<0)) (λcc G f=>hK _ G (by rw[show rX hi b=hi from MS (zL cc)];exact f WL tt WL cc)) λcc G f=>hK _ G (by rw[show rX hi b=b from MZ (of_decide_eq_false cc)];exact f WL tt PO cc)
    ·intro x;induction f0 with
     |true=>exact λG f=>f WL tt _ (dM fl 1) rfl NV rfl
     |false=>exact λG f=>f PO ff _ fl rfl NV rfl
  |false=>
  have nL:¬ n<12:=by have:=of_decide_eq_false ty;exact P4 hn this
  cases wG:decide ((n:Int)<16) with
  |true=>
   have c:n<16:=by have:=zL wG;exact P0 this hn nL
   unfold gD;rw[MZ nL,MS c];obtain⟨m,rfl⟩:∃m,n=m+12:=⟨n-12,by exact PZ c hn nL⟩
   rw[amj];have c:m<4:=by exact PY c hn
   have ew:uW[m]?=Ss (uW.getD m []):=by rw[YF,Zs c];rfl
   have es:∀q∈uW,q.length<=3:=by decide
   have es:=es _ (s8 ew);generalize uW.getD m []=rg at ew es ⊢;have ei:(((m+12:Nat):Int)-12)=(m:Int):=by exact PX
   exact λG f=>iW enc (yq hi) (l:=rg) (λx=>⟨[.val (.int (m+12:Nat)),.val (.int hi),.val (.int fl),.none,.none,.none,.none,x],[]⟩) .none (f rfl PO ty WL wG (show 4<2 ^ 62 by decide) _ (bW (dn ew) ei)) (Le es (by decide)) rfl rfl
    (λb x m K Z hK=>aC (decide (b=(-1,-1))) (λcc G f=>hK _ G (by rw[show yq hi b=(hi,hi) from MS cc];exact f WL tt _ (IZ b (-1,-1)) WL cc)) λcc G f=>hK _ G (by rw[show yq hi b=b from MZ (by rw[cc];exact qH)];exact f WL tt _ (IZ b (-1,-1)) PO cc))
    λx G f=>f _ fl rfl (by show _<=_;rw[K4];exact Le es (by decide)) rfl
  |false=>
  have wH:¬ n<16:=by have:=of_decide_eq_false wG;exact PW hn this nL
  cases zZ:decide ((n:Int)<25) with
  |true=>
   have c:n<25:=by have:=zL zZ;exact PV this hn nL wH
   unfold gD;rw[MZ nL,MZ wH,MS c];obtain⟨m,rfl⟩:∃m,n=m+16:=⟨n-16,by exact PU c hn nL wH⟩
   rw[amj];have c:m<9:=by exact PT c hn
   have ew:pV[m]?=Ss (pV.getD m 0):=by rw[YF,Zs c];rfl
   have ei:(((m+16:Nat):Int)-16)=(m:Int):=by exact PR
   exact λG f=>f rfl PO ty PO wG WL zZ rfl (show 9<2 ^ 62 by decide) _ (bW (dn ew) ei) _ fl rfl trivial rfl
  |false=>
  have afU:¬ n<25:=by have:=of_decide_eq_false zZ;exact PQ hn this nL wH
  clear nL wH ty wG zZ;refine Ir n afU hn ?_ ?_ ?_ ?_ ?_ ?_ ?_ ?_ ?_ ?_
  ·exact λG f=>f rfl PO ff PO ff PO ff 97 fl rfl trivial 98 fl rfl trivial WL tt WL tt (.Y 97 fl) fl 2 2 rfl trivial rfl
  ·exact λG f=>f rfl PO ff PO ff PO ff 97 fl rfl trivial 98 fl rfl trivial WL tt PO ff [(97,98)] fl rfl (l9 rfl) (.cls [(97,98)] fl) fl 2 2 rfl trivial rfl
  ·exact λG f=>f rfl PO ff PO ff PO ff 97 fl rfl trivial 98 fl rfl trivial PO ff WL tt 12 fl rfl trivial (.cR 12 fl) (dM fl 64) 2 2 rfl trivial rfl
  ·exact λG f=>f rfl PO ff PO ff PO ff 97 fl rfl trivial 98 fl rfl trivial PO ff PO ff WL tt WL tt (.Y 97 fl) fl rfl rfl rfl
  ·exact λG f=>f rfl PO ff PO ff PO ff 97 fl rfl trivial 98 fl rfl trivial PO ff PO ff WL tt PO ff (.Y 98 fl) (dM fl 64) rfl rfl rfl
  ·exact λG f=>f rfl PO ff PO ff PO ff 97 fl rfl trivial 98 fl rfl trivial PO ff PO ff PO ff WL tt WL tt (.Y 97 fl) fl rfl rfl rfl
  ·exact λG f=>f rfl PO ff PO ff PO ff 97 fl rfl trivial 98 fl rfl trivial PO ff PO ff PO ff WL tt PO ff (.Y 97 fl) fl 1 M4 rfl trivial rfl
  ·exact λG f=>f rfl PO ff PO ff PO ff 97 fl rfl trivial 98 fl rfl trivial PO ff PO ff PO ff PO ff WL tt 2 fl rfl trivial [.Y 98 fl,.cR 2 fl] fl rfl (l9 rfl) (bZ [.Y 98 fl,.cR 2 fl] fl) fl 2 (Ss #[110]) rfl trivial rfl
  ·exact λG f=>f rfl PO ff PO ff PO ff 97 fl rfl trivial 98 fl rfl trivial PO ff PO ff PO ff PO ff PO ff WL tt [97,98] fl rfl (l9 rfl) [.A [97,98] fl,.Y 98 fl] fl rfl (l9 rfl) rfl
  ·exact λG f=>f rfl PO ff PO ff PO ff 97 fl rfl trivial 98 fl rfl trivial PO ff PO ff PO ff PO ff PO ff PO ff (.Y 98 fl) fl rfl rfl [.Y 97 fl,.fg 7 fl (.Y 98 fl)] fl rfl (l9 rfl) rfl
abbrev bh:=Int->Gr->List aH
noncomputable def eP(f:bh)(lo hi:Int)(lz:Bool):Nat->Int->Gr->Int->List aH
 |0,j4,j5,j6=>[]
 |n+1,pv,g,done=>(if (decide (done≥lo)&&lz)=WL then[(pv,g)] else[])++((if (done==hi)=WL then[] else (f pv g).flatMap λw=>eP f lo hi lz n w.1 w.2 (done+1))++(if (decide (done≥lo)&&!lz)=WL then[(pv,g)] else[]))
noncomputable def dt(Ps:Rg)(f:Bool):List Int->Int->Option Int
 |[],a=>Ss a
 |r::rs,a=>if (a==Ps.length)=WL then M4 else if (!(r==cX Ps a)&&!(f&&cp r==cp (cX Ps a)))=WL then M4 else dt Ps f rs (a+(Ps[a.toNat]?.getD (0,0)).2)
noncomputable def bX(rg:Rg)(r:Int):Bool:=rg.any λp=>decide (p.1<=r)&&decide (r<=p.2)
noncomputable def gW(Ps:Rg)(rg:Rg)(one:Bool)(a:Int)(g:Gr):List aH:=if (a==Ps.length||!bX rg (cX Ps a))=WL then[] else[(a+(if one then 1 else (Ps[a.toNat]?.getD (0,0)).2),g)]
noncomputable def hW:List bh->List aH->List aH
 |[],ws=>ws
 |f::fs,ws=>hW fs (cy (ws.flatMap λw=>f w.1 w.2))
noncomputable def qd(Ps:Rg)(k:Kd)(fs:List bh)(a:Int)(g:Gr):List aH:=match k with
 |.text rs f=>(dt Ps f rs a).toList.map λe=>(e,g)
 |.place op=>if hU op Ps a=WL then[(a,g)] else[]
 |.set rg=>gW Ps rg PO a g
 |.any=>gW Ps [(0,1114111)] PO a g
 |.octet=>gW Ps [(-1,1114111)] WL a g
 |.none=>[]
 |.times lo hi lz=>cy (eP (fs.headD λU U=>[]) lo hi lz ((Ps.length-a).toNat+1) a g 0)
 |.choice=>cy (fs.flatMap λf=>f a g)
 |.row=>hW fs [(a,g)]
 |.group c nm=>(hW fs [(a,g)]).map λw=>(w.1,BO w.2 (c,nm) a w.1)
mutual
noncomputable def N.R(Ps:Rg):N->bh
 |.mk k l=>qd Ps k (gn Ps l)
noncomputable def gn(Ps:Rg):List N->List bh
 |[]=>[]
 |t::ts=>N.R Ps t::gn Ps ts
end
theorem uZ{Ps:Rg}:∀{l:List N},gn Ps l=l.map (N.R Ps)
 |[]=>rfl
 |t::ts=>congrArg (_::·) uZ
noncomputable def i8(n:N)(Ps:Rg)(a:Int)(g:Gr):List aH:=n.R Ps a g
structure ku(Ps:Rg):Prop where
 len:Ps.length<=50
 wid:∀(i:Nat) p,Ps[i]?=Ss p->1<=p.2/\(i:Int)+p.2<=Ps.length
structure fQ(g:Gr):Prop where
 nd:(g.l.map (·.1)).Nodup
 k:∀p∈g.l,p.1=1∨p.1=2
abbrev dS(Ps:Rg)(a:Int):Prop:=0<=a/\a<=Ps.length
def Jp(Ps:Rg)(w:aH):Prop:=dS Ps w.1/\fQ w.2
def iX(Ps:Rg)(f:bh):Prop:=∀a g,dS Ps a->fQ g->f a g=[]∨∃e,f a g=[(e,g)]/\a<e/\e<=Ps.length
set_option genInjectivity false in
structure Td where
 h:Int
 g:Gr
 n:Int
 o:Bool
noncomputable instance:Enc Td:=⟨λt=>.tup [.int t.h,enc t.g,.int t.n,.bool t.o],λt=>.tup (dB (.int _) (dB (Enc.rf t.g) (dB (.int _) (dB (.bool _) ki))))⟩
noncomputable def gd(Ps:Rg)(a:Int):Nat:=(Ps.length-a).toNat+1
noncomputable def Td.val(Ps:Rg)(f:bh)(lo hi:Int)(lz:Bool)(t:Td):List aH:=if t.o=WL then[(t.h,t.g)] else eP f lo hi lz (gd Ps t.h) t.h t.g t.n
noncomputable def Td.E(Ps:Rg)(t:Td):Nat:=if t.o=WL then 1 else 2*gd Ps t.h
noncomputable def eQ(Ps:Rg)(ts:List Td):Nat:=(ts.map (Td.E Ps)).sum
structure lK(Ps:Rg)(f:bh)(lo hi:Int)(lz:Bool)(res:List aH)(n:Nat)(ts:List Td)(acc:List aH):Prop where
 e:eQ Ps ts=n
 c:acc.length+n<=2002
 h:acc++ts.reverse.flatMap (Td.val Ps f lo hi lz)=res
 k:∀t∈ts,dS Ps t.h/\fQ t.g
noncomputable def lL(f:bh)(lo hi:Int)(lz:Bool)(t:Td):List Td:=
 (if (decide (t.n≥lo)&&lz)=WL then[⟨t.h,t.g,t.n,WL⟩] else[])++(if (t.n==hi)=WL then[] else (f t.h t.g).map λw=>⟨w.1,w.2,t.n+1,PO⟩)++(if (decide (t.n≥lo)&&!lz)=WL then[⟨t.h,t.g,t.n,WL⟩] else[])
theorem aeH{Ps:Rg}{f:bh}{lo hi:Int}{lz:Bool}{t:Td}(h:t.o=PO):t.val Ps f lo hi lz=eP f lo hi lz (gd Ps t.h) t.h t.g t.n:=MZ (by rw[h];exact qH)
theorem aeG{Ps:Rg}{t:Td}(h:t.o=PO):t.E Ps=2*gd Ps t.h:=MZ (by rw[h];exact qH)
theorem Cj{Ps:Rg}{a e:Int}(h1:a<e)(h2:e<=Ps.length):gd Ps e+1<=gd Ps a:=by unfold gd;exact Qf h1 h2
theorem aaN{Ps:Rg}{f:bh}(L:iX Ps f){lo hi:Int}{lz:Bool}(n:Nat):∀(m:Nat) (a:Int) (g:Gr) (d:Int),dS Ps a->fQ g->gd Ps a<=n->gd Ps a<=m->eP f lo hi lz n a g d=eP f lo hi lz m a g d:=by
 induction n with
 |zero=>intro m a g d _ _ h;exact MQ h (Yb _)
 |succ n ih=>
  intro m a g d ha hg h k;induction m using vI with
  |zero=>exact MQ k (Yb _)
  |succ m=>
   show _++(_++_)=_++(_++_)
   congr 2;congr 1;rcases L a g ha hg with q|⟨e,q,h1,h2⟩
   ·rw[q];rfl
   ·have h3:=Cj h1 h2;rw[q];exact congrArg (·++[]) (ih m e g (d+1) ⟨Ey ha.1 (ZE h1),h2⟩ hg (Yk (Le h3 h)) (Yk (Le h3 k)))
theorem aaM{Ps:Rg}{f:bh}(L:iX Ps f){lo hi:Int}{lz:Bool}(n:Nat)(a:Int)(g:Gr)(d:Int)(ha:dS Ps a)(hg:fQ g)(h:gd Ps a<=n):eP f lo hi lz n a g d=eP f lo hi lz (gd Ps a) a g d:=
 aaN L n _ a g d ha hg h (EC _)
theorem aaL{Ps:Rg}{f:bh}{lo hi:Int}{lz:Bool}{t:Td}(L:iX Ps f)(ho:t.o=PO)(ha:dS Ps t.h)(hg:fQ t.g):(lL f lo hi lz t).flatMap (Td.val Ps f lo hi lz)=t.val Ps f lo hi lz:=by
 have one:∀b:Bool,(if b=WL then[(⟨t.h,t.g,t.n,WL⟩:Td)] else[]).flatMap (Td.val Ps f lo hi lz)=if b=WL then[(t.h,t.g)] else[]:=λb=>by induction b<;>rfl
 unfold lL;rw[ZA,ZA,one,one,zx,aeH ho];show _=_++(_++_)
 congr 2;cases t.n==hi with
 |true=>rfl
 |false=>
  refine (?_:((f t.h t.g).map _).flatMap _=(f t.h t.g).flatMap _);rcases L _ _ ha hg with q|⟨e,q,h1,h2⟩
  ·rw[q];rfl
  ·rw[q];refine (?_:eP f lo hi lz (gd Ps e) e t.g (t.n+1)++[]=eP f lo hi lz _ e t.g (t.n+1)++[]);rw[aaM L (Ps.length-t.h).toNat e t.g _ ⟨by have:=ha.1;exact AD ha h1,h2⟩ hg (Yk (Cj h1 h2))]
theorem rZ{Ps:Rg}{a b:List Td}:eQ Ps (a++b)=eQ Ps a+eQ Ps b:=by unfold eQ;rw[wh,WJ]
theorem Jl{Ps:Rg}:∀{a:List Td},eQ Ps a.reverse=eQ Ps a
 |[]=>rfl
 |t::a=>by rw[Yc,rZ,Jl (a:=a),V5];exact congrArg (·+_) (Nat.add_zero _)
theorem aaJ{Ps:Rg}{f:bh}{lo hi:Int}{lz:Bool}{t:Td}(L:iX Ps f)(ho:t.o=PO)(ha:dS Ps t.h)(hg:fQ t.g):eQ Ps (lL f lo hi lz t)+1<=t.E Ps:=by
 have one:∀b:Bool,eQ Ps (if b=WL then[(⟨t.h,t.g,t.n,WL⟩:Td)] else[])=if b=WL then 1 else 0:=λb=>by induction b<;>rfl
 have mid:eQ Ps (if (t.n==hi)=WL then[] else (f t.h t.g).map λw=>⟨w.1,w.2,t.n+1,PO⟩)+2<=t.E Ps:=by
  rw[aeG ho];cases t.n==hi with
  |true=>refine (?_:0+2<=2*(_+1));exact FU
  |false=>
   refine (?_:eQ Ps ((f t.h t.g).map _)+2<=_);rcases L _ _ ha hg with q|⟨e,q,h1,h2⟩
   ·rw[q];refine (?_:0+2<=2*(_+1));exact FU
   ·have:=Cj h1 h2;rw[q];refine (?_:2*gd Ps e+0+2<=_);exact Qe this
 unfold lL;rw[rZ,rZ,one,one];have ji:∀(b c:Bool) (m:Nat),m+2<=t.E Ps->(if (b&&c)=WL then 1 else 0)+m+(if (b&&!c)=WL then 1 else 0)+1<=t.E Ps:=λb c m h=>by
  induction b<;>induction c
  ·refine (?_:0+m+0+1<=_);exact FT h
  ·refine (?_:0+m+0+1<=_);exact FT h
  ·refine (?_:0+m+1+1<=_);exact Qc h
  ·refine (?_:1+m+0+1<=_);exact Qb h
 exact ji _ _ _ mid
theorem aaK{Ps:Rg}{f:bh}{lo hi:Int}{lz:Bool}{t:Td}(L:iX Ps f)(ha:dS Ps t.h)(hg:fQ t.g):∀u∈lL f lo hi lz t,dS Ps u.h/\fQ u.g:=by
 have one:∀(b:Bool) u,u∈(if b=WL then[(⟨t.h,t.g,t.n,WL⟩:Td)] else[])->dS Ps u.h/\fQ u.g:=λb u hu=>by
  induction b with
  |true =>
   rcases K7.mp hu with rfl|hu
   ·exact⟨ha,hg⟩
   ·exact aT hu
  |false=>exact aT hu
 intro u hu;unfold lL at hu;rcases bT.mp hu with hu|hu
 ·rcases bT.mp hu with hu|hu
  ·exact one _ u hu
  ·split at hu
   ·exact aT hu
   ·refine aj (zK.mp hu) λw hw y9=>?_;subst y9;rcases L _ _ ha hg with q|⟨e,q,h1,h2⟩
    ·rw[q] at hw;exact aT hw
    ·rw[q] at hw;rcases K7.mp hw with rfl|hw
     ·exact⟨⟨by have:=ha.1;refine (?_:0<=e);exact AD ha h1,h2⟩,hg⟩
     ·exact aT hw
 ·exact one _ u hu
theorem lK.jQ{Ps:Rg}{f:bh}{lo hi:Int}{lz:Bool}{res:List aH}{n:Nat}{ts:List Td}{t:Td}{acc:List aH}(L:iX Ps f)(H:lK Ps f lo hi lz res n (ts++[t]) acc)(ho:t.o=PO):∃m,m<n/\lK Ps f lo hi lz res m (ts++(lL f lo hi lz t).reverse) acc:=by
 obtain⟨e,c,h,k⟩:=H;refine ak (k t (s7 _ (.head _))) λha hg=>?_;have rc:=aaJ (lo:=lo) (hi:=hi) (lz:=lz) L ho ha hg;have e1:eQ Ps (ts++[t])=eQ Ps ts+t.E Ps:=rZ;have e2:eQ Ps (ts++(lL f lo hi lz t).reverse)=eQ Ps ts+eQ Ps (lL f lo hi lz t):=by rw[rZ,Jl]
 refine⟨_,?_,rfl,?_,?_,λu hu=>?_⟩
 ·rw[e2];exact Qa rc e e2 e1
 ·rw[e2];exact P9 rc c e e2 e1
 ·rw[<- h,VU,VU,alR,ZA,ZA,aaL L ho ha hg];refine (?_:_=acc++((t.val Ps f lo hi lz++[])++_));rw[zB]
 ·rcases bT.mp hu with hu|hu
  ·exact k u (l8 _ hu)
  ·exact aaK L ha hg u (List.mem_reverse.mp hu)
theorem lK.cQ{Ps:Rg}{f:bh}{lo hi:Int}{lz:Bool}{res:List aH}{n:Nat}{ts:List Td}{t:Td}{acc:List aH}(H:lK Ps f lo hi lz res n (ts++[t]) acc)(ho:t.o=WL):∃m,m<n/\lK Ps f lo hi lz res m ts (acc++[(t.h,t.g)]):=by
 obtain⟨e,c,h,k⟩:=H;have e1:eQ Ps (ts++[t])=eQ Ps ts+1:=by unfold eQ;rw[wh,WJ];refine (?_:_+(t.E Ps+0)=_);rw[Td.E,MS ho]
 refine⟨eQ Ps ts,by exact P8 e e1,rfl,by rw[Es];refine (?_:acc.length+1+_<=_);exact P7 c e e1,?_,λu hu=>k u (l8 _ hu)⟩;rw[<- h,VU,ZA,zx];congr 1;refine (?_:_=(t.val Ps f lo hi lz++[])++_);rw[Td.val,MS ho,zB]
abbrev Jq(pre:N->Rg->Int->Gr->Prop):DV:=V4 (λn Ps a gr=>i8 n Ps a gr) pre
structure IY(pre:N->Rg->Int->Gr->Prop)(s:N)(Ps:Rg)(a:Int)(gr:Gr):Prop where
 p:ku Ps
 a:dS Ps a
 g:fQ gr
 l:iX Ps (s.R Ps)
 w:∀a' NW,dS Ps a'->fQ NW->pre s Ps a' NW
set_option genInjectivity false in
structure IX where
 lo:Int
 hi:Int
 lz:Bool
 s:N
 s9:Rg
 a:Int
 gr:Gr
noncomputable def aaH(pre:N->Rg->Int->Gr->Prop):DV:=B6 (λx:IX=>[(Kd.times x.lo x.hi x.lz).hG,enc x.s,enc x.s9,.int x.a,enc x.gr]) (λx=>IY pre x.s x.s9 x.a x.gr) λx=>enc (cy (eP (x.s.R x.s9) x.lo x.hi x.lz (gd x.s9 x.a) x.a x.gr 0))
set_option genInjectivity false in
structure ahS where
 ts:List Td
 bH:List aH
 vY:an
 wc:an
 wd:an
 we:an
 wg:an
noncomputable def jz(x:IX)(u:ahS):St:=⟨[.val (Kd.times x.lo x.hi x.lz).hG,.val (enc x.s),.val (enc x.s9),.val (.int x.a),.val (enc x.gr),.val (.int x.lo),.val (.int x.hi),.val (.bool x.lz),.own (.lst (u.bH.map enc)),.own (.lst (u.ts.map enc)),u.vY,u.wc,u.wd,u.we,u.wg],[]⟩
theorem Mf(Ps:Rg)(t:Td):1<=t.E Ps:=(Ux (t.o=WL)).elim (λh=>aG (MS h).symm) λh=>Le (Nat.succ_le_of_lt (Nat.mul_pos (Ym 1) (Xb _))) (aG (MZ h).symm)
theorem lK.sX{Ps:Rg}{f:bh}{lo hi:Int}{lz:Bool}{res:List aH}{n:Nat}{ts:List Td}{acc:List aH}(H:lK Ps f lo hi lz res n ts acc):acc.length+ts.length<=2002:=by
 have:∀l:List Td,l.length<=eQ Ps l:=λl=>by
  induction l with
  |nil=>exact EC _
  |cons t l ih=>have:=Mf Ps t;refine (?_:l.length+1<=t.E Ps+eQ Ps l);exact Qq this ih
 have:=this ts;have:=H.e;have:=H.c;exact Qp this (by assumption) (by assumption)
noncomputable def I1:FI:=⟨[("data",.loc),("sub",.loc),("page",.loc),("at",.loc),("groups",.loc),("low",.loc),("high",.loc),("is_lazy",.loc),("found",.loc),("todo",.loc),("here",.loc),("held",.loc),("done",.cell),("is_out",.loc),("rows",.loc)],["_law_firsts","_law_ways"],WL⟩
noncomputable def aaa:FI:=I1.bJ [12] ["end","more"] []
theorem aay{g:Gx}(G:ED g)(d:Nat)(hd:5<=d){pre:N->Rg->Int->Gr->Prop}(hw:a8 g d (g.fa 62) (Jq pre)):a8 g (d+1) (g.fa 61) (aaH pre):=
 .MX (G.K (d:=d) (fi:=I1) 61 rfl (ae (kE (.cons (i:=5) rfl rfl (.cons (i:=6) rfl rfl (.cons (i:=7) rfl rfl .nil))) (E.u 0)) (ae (jE (names:=["found","todo"]) (.cons (i:=9) rfl rfl (.cons (i:=8) rfl rfl .nil)) (dg (a9 ag) (dg (a9 (aa (bD (aa (E.u 3) (aa (E.u 4) (aa E.x (aa E.cK ag))))) ag)) iH)) (λU U N=>jt N 8 9 rfl rfl rfl rfl rfl rfl rfl)) (ae (lV (kF (ah 9)) (ae (kE (.cons (i:=10) rfl rfl (.cons (i:=11) rfl rfl (.cons (i:=12) rfl rfl (.cons (i:=13) rfl rfl .nil)))) (DF 9)) (ae (aJ (eT (E.u 13)) (ae (eF (g5 8 (bD (aa (E.u 10) (aa (E.u 11) ag))))) af) (ae (bg 14 (cE (cq (bL (bn O.ge (E.u 12) (E.u 5)) (bL (eT (E.u 7)) eS))) (a9 (aa (bD (aa (E.u 10) (aa (E.u 11) (aa (E.u 12) (aa E.cK ag))))) ag)) (a9 ag))) (ae (aJ (bn (gk G.sm) (E.u 12) (E.u 6)) (ae (bg 14 (bC O.e9 (E.u 14) (lW aaa (gh (by decide +kernel) (by decide +kernel)) (cH (cV G 1 62 rfl hw (aa (E.u 1) (aa (E.u 2) (aa (E.u 10) (aa (E.u 11) ag)))))) (qu (.cons (i:=15) rfl rfl (.cons (i:=16) rfl rfl .nil))) iI (bD (aa (E.u 15) (aa (E.u 16) (aa (bC O.e9 (E.u 12) E.x) (aa E.cK ag)))))))) af) af) (ae (aJ (cq (bL (bn O.ge (E.u 12) (E.u 5)) (bL (sH (eT (E.u 7))) eS))) (ae (eF (g5 14 (bD (aa (E.u 10) (aa (E.u 11) (aa (E.u 12) (aa E.cK ag))))))) af) af) (ae (eF (Lu 9 (Lv (ah 14) (nf aF) (λU U h=>h)))) af))))) af))) (ae (aA (cV G 0 59 rfl ((BU G 0).aE (Qo hd)) (aa (E.u 8) ag))) af))))) (λx=>by simpa using⟨Kd.rf _,Enc.rf x.s,Enc.rf x.s9,.int _,Enc.rf x.gr⟩) (λx=>Enc.rf (cy _)) λx_ ok=>by
  obtain⟨lo,hi,lz,s,Ps,a,gr⟩:=x_;replace ok:IY pre s Ps a gr:=ok;refine (?_:iS _ [(Kd.times lo hi lz).hG,enc s,enc Ps,.int a,enc gr] [] (enc (cy (eP (s.R Ps) lo hi lz (gd Ps a) a gr 0))));generalize Fk:eP (s.R Ps) lo hi lz (gd Ps a) a gr 0=res;have L:=ok.l;have st0:lK Ps (s.R Ps) lo hi lz res (2*gd Ps a) [⟨a,gr,0,PO⟩] []:=
   ⟨rfl,by have:=ok.p.len;have:=ok.a;refine (?_:0+2*_<=_);unfold gd;exact Qn this (by assumption),by rw[<- Fk];exact zB _,λt ht=>by
    rcases K7.mp ht with rfl|ht
    ·exact⟨ok.a,ok.g⟩
    ·exact aT ht⟩
  refine λG f=>lI (jz ⟨lo,hi,lz,s,Ps,a,gr⟩) (λn u=>lK Ps (s.R Ps) lo hi lz res n u.ts u.bH) (jz ⟨lo,hi,lz,s,Ps,a,gr⟩) (λu=>lK Ps (s.R Ps) lo hi lz res 0 u.ts u.bH) (f rfl) _ ⟨[⟨a,gr,0,PO⟩],[],.none,.none,.none,.none,.none⟩ rfl st0 (λn ⟨ts,acc,x10,ig,dO,kJ,dw⟩ H k hk=>?_) λ⟨ts,acc,x10,ig,dO,kJ,dw⟩ H=>?_
  ·replace H:lK Ps (s.R Ps) lo hi lz res n ts acc:=H;rcases pO ts with rfl|⟨ts,t,rfl⟩
   ·have e:=H.e;subst e;exact λG f=>hk ⟨[],acc,x10,ig,dO,kJ,dw⟩ H G (f PO rfl)
   ·have hl:=H.sX;rw[Es] at hl;have hl:acc.length+(ts.length+1)<=2002:=hl;refine ak (H.k t (s7 _ (.head _))) λha hg=>?_;have fh:((ts++[t]).map (enc:Td->AV)).isEmpty=PO:=by rw[wh];induction ts using K1<;>rfl
    have gv:((ts++[t]).map (enc:Td->AV)).length<=1000000:=by rw[K4,Es];refine (?_:ts.length+1<=_);exact Qm hl
    cases ho:t.o with
    |true=>refine aj (H.cQ ho) λm hm H=>?_;exact λG f=>f WL (uu fh) gv (ts.map enc) (enc t) iy WL ho (by rw[K4];exact Ql hl) m hm (.C ⟨ts,acc++[(t.h,t.g)],.val (.int t.h),.val (enc t.g),.val (.int t.n),.val (.bool t.o),dw⟩ H (by unfold jz;rw[iy];rfl))
    |false=>
     refine aj (H.jQ L ho) λm hm H=>?_;have gw:=H.sX;unfold lL at H gw;generalize o9:decide (t.n≥lo)=ge at H gw;refine λG f=>db (f WL (uu fh) gv (ts.map enc) (enc t) iy PO ho) (jz ⟨lo,hi,lz,s,Ps,a,gr⟩ ⟨ts,acc,.val (.int t.h),.val (enc t.g),.val (.int t.n),.val (.bool t.o),.own (enc (if (ge&&lz)=WL then[(⟨t.h,t.g,t.n,WL⟩:Td)] else[]))⟩) (λK k=>?_) ?_
     ·induction ge with
      |false=>exact λG f=>k G (f PO o9 PO ff)
      |true=>induction lz with
       |true=>exact λG f=>k G (f WL o9 WL tt WL tt)
       |false=>exact λG f=>k G (f WL o9 PO ff PO ff)
     generalize (if (ge&&lz)=WL then[(⟨t.h,t.g,t.n,WL⟩:Td)] else[])=p1 at H gw ⊢;simp only[Es,Xh] at gw;refine λG f=>db f (jz ⟨lo,hi,lz,s,Ps,a,gr⟩ ⟨ts,acc,.val (.int t.h),.val (enc t.g),.val (.int t.n),.val (.bool t.o),.own (enc (p1++if (t.n==hi)=WL then[] else (s.R Ps t.h t.g).map λw=>(⟨w.1,w.2,t.n+1,PO⟩:Td)))⟩) (λK k=>?_) ?_
     ·cases c:t.n==hi with
      |true=>rw[c,show (p1++if WL=WL then[] else _)=p1 from zB p1] at k;exact λG f=>k G (f PO (by rw[c];rfl))
      |false=>
       rw[c] at k gw;have gw:acc.length+(ts.length+(p1.length+((s.R Ps t.h t.g).map λw=>(⟨w.1,w.2,t.n+1,PO⟩:Td)).length+_))<=2002:=gw;refine λG f=>B5 enc (λw:aH=>(⟨w.1,w.2,t.n+1,PO⟩:Td)) (l:=s.R Ps t.h t.g) (λz:an×an=>⟨(jz ⟨lo,hi,lz,s,Ps,a,gr⟩ ⟨ts,acc,.val (.int t.h),.val (enc t.g),.val (.int t.n),.val (.bool t.o),.val (enc p1)⟩).aD++[z.1,z.2],[]⟩) (.none,.none) (f WL (by rw[c];rfl) s Ps t.h t.g rfl (ok.w _ _ ha hg)) ?_ rfl rfl (λb x m K Z hK G f=>hK (.val (.int b.1),.val (enc b.2)) G (f WL tt)) λx G f=>k G ?_
       ·rw[K4] at gw;exact Le (oJ _ _) (FV gw hl)
       ·have:=f (by rw[K4,K4];exact FV gw hl);unfold jz;rw[show (p1++if PO=WL then[] else (s.R Ps t.h t.g).map λw=>(⟨w.1,w.2,t.n+1,PO⟩:Td))=p1++(s.R Ps t.h t.g).map λw=>(⟨w.1,w.2,t.n+1,PO⟩:Td) from rfl,show enc (p1++(s.R Ps t.h t.g).map λw=>(⟨w.1,w.2,t.n+1,PO⟩:Td))=.lst (p1.map enc++((s.R Ps t.h t.g).map λw=>(⟨w.1,w.2,t.n+1,PO⟩:Td)).map enc) from congrArg AV.lst wh];exact this
     simp only[<- Es] at gw;generalize (p1++if (t.n==hi)=WL then[] else (s.R Ps t.h t.g).map λw=>(⟨w.1,w.2,t.n+1,PO⟩:Td))=p2 at H gw ⊢;refine λG f=>db f (jz ⟨lo,hi,lz,s,Ps,a,gr⟩ ⟨ts,acc,.val (.int t.h),.val (enc t.g),.val (.int t.n),.val (.bool t.o),.own (enc (p2++if (ge&&!lz)=WL then[(⟨t.h,t.g,t.n,WL⟩:Td)] else[]))⟩) (λK k=>?_) ?_
     ·have zS:(p2.map (enc:Td->AV)).length<=1000000:=by simp only[Es] at gw;rw[K4];exact Qj gw hl
      have two:∀b,b=PO->Mine.Internal.ok (K .next (jz ⟨lo,hi,lz,s,Ps,a,gr⟩ ⟨ts,acc,.val (.int t.h),.val (enc t.g),.val (.int t.n),.val (.bool t.o),.own (enc (p2++if b=WL then[(⟨t.h,t.g,t.n,WL⟩:Td)] else[]))⟩))->Mine.Internal.ok (K .next (jz ⟨lo,hi,lz,s,Ps,a,gr⟩ ⟨ts,acc,.val (.int t.h),.val (enc t.g),.val (.int t.n),.val (.bool t.o),.own (enc p2)⟩)):=λb c k=>by subst c;rw[show (p2++if PO=WL then[(⟨t.h,t.g,t.n,WL⟩:Td)] else[])=p2 from zB p2] at k;exact k
      induction ge with
      |false=>exact λG f=>two _ rfl k G (f PO o9 PO ff)
      |true=>induction lz with
       |true=>exact λG f=>two _ rfl k G (f WL o9 PO ff PO ff)
       |false=>exact λG f=>k G (by have:=f WL o9 WL tt WL tt zS;unfold jz;rw[show enc (p2++if (WL&&!PO)=WL then[(⟨t.h,t.g,t.n,WL⟩:Td)] else[])=.lst (p2.map enc++[enc (⟨t.h,t.g,t.n,WL⟩:Td)]) from congrArg AV.lst wh];exact this)
     generalize (p2++if (ge&&!lz)=WL then[(⟨t.h,t.g,t.n,WL⟩:Td)] else[])=p3 at H gw ⊢;simp only[Es] at gw;exact λG f=>f (by rw[K4];exact Qi hl gw) (by rw[Xh,K4,K4];exact Qh gw) m hm (.C ⟨ts++p3.reverse,acc,.val (.int t.h),.val (enc t.g),.val (.int t.n),.val (.bool t.o),.own (enc p3)⟩ H (by unfold jz;rw[wh,amR];rfl))
  ·replace H:lK Ps (s.R Ps) lo hi lz res 0 ts acc:=H;obtain rfl:ts=[]:=by
    rcases pO ts with e|⟨ts,t,rfl⟩
    ·exact e
    ·have e:=H.e;have:=Mf Ps t;rw[rZ] at e;have e:eQ Ps ts+(t.E Ps+0)=0:=e;exact MQ this (amN (amw (aG (al5.mp e).2)))
   have hl:=H.sX;have e:=H.h;rw[List.reverse_nil] at e;have e:acc++[]=res:=e;rw[zB] at e;exact λG f=>f acc rfl (by refine (?_:acc.length<=_);exact Qg hl) (congrArg (λl=>enc (cy l)) e.symm)
class inductive N.kS(Ps:Rg):N->Prop
 |mk {k:Kd}{l:List N}:l.length<=10000->(∀rs f,k=.text rs f->sm rs)->(∀rg,k=.set rg->sm rg)->(∀lo hi lz,k=.times lo hi lz->∃s,l=[s]/\iX Ps (s.R Ps))->(∀c nm,k=.group c nm->c=1∨c=2)->(∀s∈l,s.kS Ps)->N.kS Ps (.mk k l)
theorem fQ.qQ{g:Gr}{k:Int}{s:Sp}(h:fQ g)(hk:k=1∨k=2):fQ (g.qQ k s):=by
 unfold Gr.qQ;cases c:g.l.any λkv=>decide (kv.1=k) with
 |true=>
  rw[MS rfl];have e:(g.l.map λkv=>if kv.1=k then (kv.1,s) else kv).map (·.1)=g.l.map (·.1):=by rw[Za];refine YG λp U=>?_;refine (?_:(if p.1=k then (p.1,s) else p).1=p.1);split<;>rfl
  refine⟨by refine (?_:((g.l.map λkv=>if kv.1=k then (kv.1,s) else kv).map (·.1)).Nodup);rw[e];exact h.nd,λp hp=>?_⟩;refine aj (zK.mp hp) λq hq y9=>?_;subst y9;have:=h.k q hq;split<;>exact this
 |false=>
  rw[MZ qH];refine⟨?_,λp hp=>?_⟩
  ·refine (?_:((g.l++[(k,s)]).map (·.1)).Nodup);rw[wh,Y3];refine⟨h.nd,bS.mpr ⟨ZR,WO⟩,λa ha b hb z=>?_⟩;rcases K7.mp hb with rfl|hb
   ·refine aj (zK.mp ha) λp hp y9=>?_;subst y9;have:=amB.mp c p hp;exact this (decide_eq_true z)
   ·exact aT hb
  ·rcases bT.mp hp with hp|hp
   ·exact h.k p hp
   ·rcases K7.mp hp with rfl|hp
    ·exact hk
    ·exact aT hp
theorem fQ.len{g:Gr}(h:fQ g):g.l.length<=2:=by
 have go:∀l:List Int,l.Nodup->(∀x∈l,x=1∨x=2)->l.length<=2:=λl hn hk=>by
  match l,hn,hk with
  |[],j4,j5=>exact zJ _
  |[j4],j5,j6=>exact Wy _
  |[j4,j5],j6,j7=>exact EC _
  |a::b::c::r,hn,hk=>rw[bS,bS] at hn;have h1:=hk a (.head _);have h2:=hk b (.tail _ (.head _));have h3:=hk c (.tail _ (.tail _ (.head _)));have n1:a≠b:=λz=>hn.1 (z▸.head _);have n2:a≠c:=λz=>hn.1 (z▸.tail _ (.head _));have n3:b≠c:=λz=>hn.2.1 (z▸.head _);exact QD h3 h1 h2 n3 n1 n2
 have:=go (g.l.map (·.1)) h.nd λx hx=>by refine aj (zK.mp hx) λp hp y9=>?_;subst y9;exact h.k p hp
 rwa [K4] at this
theorem Jj:∀(n:Nat) (l:List Int),l.Nodup->(∀x∈l,0<=x/\x<n)->l.length<=n
 |0,[],j4,j5=>EC _
 |0,x::l,j4,h=>MQ (h x (.head _)) (QC)
 |n+1,l,hn,h=>by
  have ih:=Jj n (l.erase (n:Int)) (hn.erase (n:Int)) λx hx=>by
   have h1:=h x (List.mem_of_mem_erase hx);have h2:x≠n:=λz=>by rw[z] at hx;exact (List.Nodup.not_mem_erase hn) hx
   exact QB h1 h2
  have:=List.length_erase_le (a:=(n:Int)) (l:=l);by_cases hm:(n:Int)∈l
  ·rw[List.length_erase_of_mem hm] at ih;exact QA ih
  ·rw[List.erase_of_not_mem hm] at ih;exact AC ih
theorem I3{ws:List aH}:∀w∈cy ws,w∈ws:=by
 have go:∀(ws acc:List aH),∀w∈ws.foldl gT acc,w∈acc∨w∈ws:=λws=>by
  induction ws with
  |nil=>intro acc w h;exact .inl h
  |cons x ws ih=>
   intro acc w h;rcases ih _ w h with h|h
   ·unfold gT at h;split at h
    ·exact .inl h
    ·rcases bT.mp h with h|h
     ·exact .inl h
     ·rcases K7.mp h with rfl|h
      ·exact .inr (.head _)
      ·exact aT h
   ·exact .inr (.tail _ h)
 intro w h;rcases go ws [] w h with h|h
 ·exact aT h
 ·exact h
theorem aah(ws:List aH):((cy ws).map (·.1)).Nodup:=by
 have go:∀(ws acc:List aH),(acc.map (·.1)).Nodup->((ws.foldl gT acc).map (·.1)).Nodup:=λws=>by
  induction ws with
  |nil=>intro acc h;exact h
  |cons x ws ih=>
   intro acc h;refine ih _ ?_;unfold gT;cases c:acc.any (·.1==x.1) with
   |true=>exact h
   |false=>
    refine (?_:((acc++[x]).map (·.1)).Nodup);rw[wh,Y3];refine⟨h,bS.mpr ⟨ZR,WO⟩,λa ha b hb z=>?_⟩;rcases K7.mp hb with rfl|hb
    ·refine aj (zK.mp ha) λp hp y9=>?_;subst y9;have:=amB.mp c p hp;exact this (by rw[z];exact Yv)
    ·exact aT hb
 exact go ws [] WO
abbrev iZ(Ps:Rg)(ws:List aH):Prop:=∀w∈ws,Jp Ps w
theorem yn{Ps:Rg}{ws:List aH}(h:iZ Ps ws):iZ Ps (cy ws)/\(cy ws).length<=Ps.length+1:=by
 refine⟨λw hw=>h w (I3 w hw),?_⟩;have:=Jj (Ps.length+1) _ (aah ws) λx hx=>by refine aj (zK.mp hx) λw hw y9=>?_;subst y9;have:=(h w (I3 w hw)).1;exact⟨this.1,by have:=this.2;exact Qz (by assumption)⟩
 rwa [K4] at this
abbrev rV(Ps:Rg)(f:bh):Prop:=∀a g,dS Ps a->fQ g->iZ Ps (f a g)/\(f a g).length<=Ps.length+1
theorem yx{Ps:Rg}(hp:ku Ps){a:Int}(ha:dS Ps a)(hn:a≠Ps.length):dS Ps (a+(Ps[a.toNat]?.getD (0,0)).2)/\a<a+(Ps[a.toNat]?.getD (0,0)).2:=by
 refine a7 (ZJ ha.1) λk y9=>?_;subst y9;have hk:k<Ps.length:=by have:=ha.2;exact Qy hn ha
 have e:Ps[k]?=Ss Ps[k]:=Zs hk;have:=hp.wid k _ e;rw[show ((k:Int)).toNat=k from rfl,e];refine (?_:dS Ps ((k:Int)+Ps[k].2)/\_<(k:Int)+Ps[k].2);exact⟨⟨by exact Qx ha this hk,by exact Qw this hk⟩,by exact Qu this hk⟩
theorem aat{Ps:Rg}{f:Bool}{r:Int}{rs:List Int}{a:Int}:dt Ps f (r::rs) a=if (a==Ps.length)=WL then M4 else if (!(r==cX Ps a)&&!(f&&cp r==cp (cX Ps a)))=WL then M4 else dt Ps f rs (a+(Ps[a.toNat]?.getD (0,0)).2):=rfl
theorem Jd{Ps:Rg}(hp:ku Ps){f:Bool}:∀{rs:List Int}{a e:Int},dS Ps a->dt Ps f rs a=Ss e->dS Ps e
 |[],a,e,ha,h=>by (have y9:=K6 h;clear h;subst y9);exact ha
 |r::rs,a,e,ha,h=>by
  rw[aat] at h;cases c:a==(Ps.length:Int) with
  |true=>rw[c] at h;exact aY h
  |false=>
   rw[c,MZ qH] at h;split at h
   ·exact aY h
   ·exact Jd hp (yx hp ha λz=>by rw[z] at c;simp at c).1 h
theorem Jk{Ps:Rg}{f:bh}(L:iX Ps f){lo hi:Int}{lz:Bool}:∀(n:Nat) (a:Int) (g:Gr) (d:Int),dS Ps a->fQ g->iZ Ps (eP f lo hi lz n a g d)
 |0,j4,j5,j6,j7,j8=>λw h=>by exact aT h
 |n+1,a,g,d,ha,hg=>by
  have one:∀(b:Bool) w,w∈(if b=WL then[(a,g)] else[])->Jp Ps w:=λb w hw=>by
   induction b with
   |true =>
    rcases K7.mp hw with rfl|hw
    ·exact⟨ha,hg⟩
    ·exact aT hw
   |false=>exact aT hw
  intro w hw;rcases bT.mp hw with hw|hw
  ·exact one _ w hw
  ·rcases bT.mp hw with hw|hw
   ·split at hw
    ·exact aT hw
    ·rcases L a g ha hg with q|⟨e,q,h1,h2⟩
     ·rw[q] at hw;exact aT hw
     ·rw[q] at hw;have hw:w∈eP f lo hi lz n e g (d+1)++[]:=hw;rw[zB] at hw;exact Jk L n e g _ ⟨by have:=ha.1;exact AD ha h1,h2⟩ hg w hw
   ·exact one _ w hw
theorem Ch{Ps:Rg}{α:Type}{l:List α}{f:α->List aH}(h:∀x∈l,iZ Ps (f x)):iZ Ps (l.flatMap f):=λw hw=>by refine aj (amQ.mp hw) λx hx hw=>?_;exact h x hx w hw
theorem I4{Ps:Rg}{α:Type}{l:List α}{f:α->List aH}(h:∀x∈l,(f x).length<=Ps.length+1):(l.flatMap f).length<=l.length*(Ps.length+1):=by
 induction l with
 |nil=>exact zJ _
 |cons x l ih=>rw[Zw,Es,qR,V7];have:=h x (.head _);have:=ih λy hy=>h y (.tail _ hy);exact Qt this (by assumption)
theorem yv{Ps:Rg}:∀{fs:List bh}{ws:List aH},(∀f∈fs,rV Ps f)->iZ Ps ws->ws.length<=Ps.length+1->iZ Ps (hW fs ws)/\(hW fs ws).length<=Ps.length+1
 |[],ws,j4,h,h'=>⟨h,h'⟩
 |f::fs,ws,hf,h,h'=>by refine ak (yn (Ch (l:=ws) (f:=λw=>f w.1 w.2) λw hw=>(hf f (.head _) w.1 w.2 (h w hw).1 (h w hw).2).1)) λa b=>?_;exact yv (fs:=fs) (λg hg=>hf g (List.mem_cons_of_mem _ hg)) a b
set_option tactic.hygienic true in
theorem Co{Ps:Rg}(hp:ku Ps){rg:Rg}{one:Bool}:rV Ps (gW Ps rg one):=λa g ha hg=>by
 unfold gW;split
 ·exact⟨λw h=>(aT h),zJ _⟩
 ·rename_i c;have hn:a≠Ps.length:=λz=>c (by rw[z];simp);refine⟨λw h=>?_,de (zJ _)⟩;rcases K7.mp h with rfl|h
  ·refine⟨?_,hg⟩;induction one with
   |true=>exact⟨by have:=ha.1;refine (?_:0<=a+1);exact Qs ha,by have:=ha.2;refine (?_:a+1<=_);exact Qr ha hn⟩
   |false=>exact (yx hp ha hn).1
  ·exact aT h
theorem rY{Ps:Rg}{a:Int}{g:Gr}(ha:dS Ps a)(hg:fQ g):iZ Ps [(a,g)]:=λw h=>by
 rcases K7.mp h with rfl|h
 ·exact⟨ha,hg⟩
 ·exact aT h
theorem aaO{Ps:Rg}(hp:ku Ps){k:Kd}{fs:List bh}(hf:∀f∈fs,rV Ps f)(ht:∀lo hi lz,k=.times lo hi lz->∃f,fs=[f]/\iX Ps f)(hc:∀c nm,k=.group c nm->c=1∨c=2):rV Ps (qd Ps k fs):=λa g ha hg=>by
 induction k with
 |text rs f=>
  refine (?_:iZ Ps ((dt Ps f rs a).toList.map λe=>(e,g))/\((dt Ps f rs a).toList.map λe=>(e,g)).length<=_);cases h:dt Ps f rs a with
  |none=>exact⟨λw h=>(aT h),zJ _⟩
  |some e=>exact⟨rY (Jd hp ha h) hg,de (zJ _)⟩
 |place op=>
  refine (?_:iZ Ps (if hU op Ps a=WL then[(a,g)] else[])/\(if hU op Ps a=WL then[(a,g)] else[]).length<=_);split
  ·exact⟨rY ha hg,de (zJ _)⟩
  ·exact⟨λw h=>(aT h),zJ _⟩
 |set rg=>exact Co hp a g ha hg
 |any=>exact Co hp a g ha hg
 |octet=>exact Co hp a g ha hg
 |none=>exact⟨λw h=>(aT h),zJ _⟩
 |times lo hi lz=>refine aj (ht lo hi lz rfl) λf y9 L=>?_;subst y9;exact yn (Jk L _ a g 0 ha hg)
 |choice=>exact yn (Ch λf hf'=>(hf f hf' a g ha hg).1)
 |row=>exact yv hf (rY ha hg) (de (zJ _))
 |group c nm=>refine ak (yv (Ps:=Ps) hf (rY ha hg) (de (zJ _))) λh1 h2=>?_;refine⟨λw hw=>?_,by refine (?_:(List.map _ _).length<=_);rw[K4];exact h2⟩;refine aj (zK.mp hw) λv hv y9=>?_;subst y9;exact⟨(h1 v hv).1,(h1 v hv).2.qQ (hc c nm rfl)⟩
set_option tactic.hygienic true in
theorem u6{Ps:Rg}(hp:ku Ps){n:N}(h:n.kS Ps):rV Ps (n.R Ps):=by
 induction h with
 |mk h1 h2 h3 h4 h5 h6 ih=>
  rename_i k l;refine (?_:rV Ps (qd Ps k (gn Ps l)));rw[uZ];refine aaO hp (λf hf=>?_) (λlo hi lz e=>?_) h5
  ·refine aj (zK.mp hf) λs hs y9=>?_;subst y9;exact ih s hs
  ·refine aj (h4 lo hi lz e) λs y9 L=>?_;subst y9;exact⟨_,rfl,L⟩
noncomputable def Ja(s:Str):Bool:=(("set":Str)==s)||((("any":Str)==s)||((("octet":Str)==s)||((("none":Str)==s)||false)))
noncomputable def aaI:List (Str×AV):=[("any",enc [((0:Int),(1114111:Int))]),("octet",enc [((-1:Int),(1114111:Int))]),("none",.lst [])]
theorem Cp{k:Kd}(h:(k.A==("set":Str))=WL):∃rg,k=.set rg:=by induction k<;>first|exact⟨_,rfl⟩|exact aX h
inductive ahV(Ps:Rg)(fs:List bh)(k:Kd):Prop
 |mk (rg:Rg) (e:qd Ps k fs=gW Ps rg (k.A==("octet":Str))) (h1:(k.A==("text":Str))=PO) (h2:(k.A==("place":Str))=PO) (h3:Ja k.A=WL) (hs:sm rg) (h4:(k.A==("set":Str))=WL/\k.hG=enc rg∨(k.A==("set":Str))=PO/\fw aaI k.A=Ss (enc rg))
inductive aha{α β σ:Type}[Enc α][Enc β](t:α->Bool)(F:α->β)(l:List α)(S:σ->St)(xs ys:List AV)(st:St):Prop
 |mk (as bs:List α) (x:σ) (e:xs=bs.map enc) (y:ys=((as.filter t).map F).map enc) (a:as++bs=l) (q:st=S x)
theorem Jo{α β σ:Type}[Enc α][Enc β](t:α->Bool)(F:α->β){l:List α}{xs:List AV}(S:σ->St){bd:AV->St->(St->PS)->PS}{ts:DT}{el:DE}(x0:σ){st:St}{Q:List AV->St->PS}{G:Prop}(f:pi (ic bd (oE ts el) xs [] st Q) G)(hl:l.length<=1000000)(ex:xs=l.map enc)(es:st=S x0)
 (h1:∀(b:α) x,b∈l->∀(K:aS->St->PS) (Z:St->PS),(t b=WL->∀y,ok (K (.val (enc (F b))) (S y)))->(t b=PO->∀y,ok (Z (S y)))->ok (bd (enc b) (S x) λab=>ts ab λc az=>br c (el az K) (Z az))) (hQ:∀x,ok (Q (((l.filter t).map F).map enc) (S x))):G:=by
 subst ex;subst es;unfold ic at f;refine f (aha t F l S) ⟨[],l,x0,rfl,rfl,rfl,rfl⟩ (λx r ys st hI=>?_) λys st hI=>?_
 ·obtain⟨as,bs,x,e4,y,a,q⟩:=hI;induction bs using K1 with
  |nil=>exact fN e4
  |cons b bs=>
   refine ak (dj e4) λy9 y8=>?_;subst y9;subst y8;subst q;subst y;have la:as.length<=l.length:=by rw[<- a,Es];exact oW _ _
   refine h1 b x (by rw[<- a];simp) _ _ (λhc y G f=>f (by rw[K4,K4];exact Le (alD t as) (Le la hl)) ⟨as++[b],bs,y,rfl,?_,by rw[zx];exact a,rfl⟩) λhc y G f=>f ⟨as++[b],bs,y,rfl,?_,by rw[zx];exact a,rfl⟩
   ·rw[amn,show[b].filter t=[b] by rw[YT,hc];rfl,wh];exact iy.symm
   ·rw[amn,show[b].filter t=[] by rw[YT,hc];rfl,zB]
 ·obtain⟨as,bs,x,e4,y,a,q⟩:=hI;induction bs using K1 with
  |cons _ _=>exact fO e4
  |nil=>subst q;subst y;rw[zB] at a;subst a;exact hQ x
theorem Ce{xs:List AV}:bK 140 (.lst xs) (.lst [])=Ss xs.isEmpty:=by induction xs using K1<;>rfl
theorem Cn{t:Int}{rg:Rg}:(((rg.filter λp=>decide (p.1<=t)&&decide (t<=p.2)).map (·.1)).map (enc:Int->AV)).isEmpty=!bX rg t:=by
 rw[amS,amS,bX];induction rg with
 |nil=>rfl
 |cons p rg ih=>
  rw[YC,YT];cases c:(decide (p.1<=t)&&decide (t<=p.2)) with
  |true=>rfl
  |false=>exact ih
theorem aar{Ps rg:Rg}{one:Bool}{a:Int}{g:Gr}(c:(a==(Ps.length:Int))=PO):gW Ps rg one a g=if bX rg (cX Ps a)=WL then[(a+(if one=WL then 1 else (Ps[a.toNat]?.getD (0,0)).2),g)] else[]:=by unfold gW;rw[c,Us];cases bX rg (cX Ps a)<;>rfl
theorem Jr{Ps:Rg}{a:Int}{p:Int×Int}(h0:0<=a)(h1:a<Ps.length)(it:fY (Ps.map enc) a=Ss (enc p)):(Ps[a.toNat]?.getD (0,0)).2=p.2:=by
 refine a7 (ZJ h0) λk y9=>?_;subst y9;have e:Ps[k]?=Ss Ps[k]:=Zs (qO.mp h1);rw[bW (dn e) rfl] at it;rw[show ((k:Int)).toNat=k from rfl,e];injection (K6 it) with h
 injection h with _ h
 injection h with h _
 injection h
theorem aau{Ps:Rg}{f:Bool}{r a:Int}{rs:List Int}:dt Ps f (r::rs) a=if (a==Ps.length)=WL then M4 else if (!(r==cX Ps a)&&!(f&&cp r==cp (cX Ps a)))=WL then M4 else dt Ps f rs (a+(Ps[a.toNat]?.getD (0,0)).2):=rfl
structure yi(h:Nat)(n:N)(Ps:Rg)(a:Int)(gr:Gr):Prop where
 ht:n.ht<=h
 kS:n.kS Ps
 p:ku Ps
 a:dS Ps a
 g:fQ gr
abbrev qe(n:N)(Ps:Rg)(a:Int)(gr:Gr)(x7 x8 x9 x10 ig dO kJ:an):List an:=[.val (enc n),.val (enc Ps),.val (.int a),.val (enc gr),.val (.str n.k.A),.val n.k.hG,.val (.lst (oH n.H)),x7,x8,x9,x10,ig,dO,kJ]
inductive ahZ{α σ:Type}[Enc α](F:α->List aH)(l:List α)(S:σ->St)(xs ys:List AV)(st:St):Prop
 |mk (as bs:List α) (x:σ) (e:xs=bs.map enc) (y:ys=(as.flatMap F).map enc) (a:as++bs=l) (q:st=S x)
inductive ahX{τ:Type}(base ws:List aH)(S:τ->St)(xs ys:List AV)(st:St):Prop
 |mk (us vs:List aH) (x:τ) (e:xs=vs.map enc) (y:ys=(base++us).map enc) (a:us++vs=ws) (q:st=S x)
theorem aai{α:Type}{F:α->List aH}{as bs l:List α}{b:α}(h:as++b::bs=l):(as.flatMap F).length+(F b).length<=(l.flatMap F).length:=by rw[<- h,ZA,Zw,Es,Es];exact QI
theorem aaj{α:Type}{F:α->List aH}{as:List α}{b:α}:as.flatMap F++F b=(as++[b]).flatMap F:=by rw[ZA,Zw,VG,zB]
theorem Jn{α σ τ:Type}[Enc α](F:α->List aH){l:List α}{xs:List AV}(S:σ->St)(T:α->τ->σ){b1 b2:AV->St->(St->PS)->PS}{mv:DX}{el:DE}(x0:σ){st:St}{Q:List AV->St->PS}{G:Prop}(f:pi (ic b1 (zc mv b2 el) xs [] st Q) G)(hl:(l.flatMap F).length<=1000000)(ex:xs=l.map enc)(es:st=S x0)
 (h1:∀(b:α) x,b∈l->∀K:List AV->St->PS,(∀y,ok (K ((F b).map enc) (S (T b y))))->ok (b1 (enc b) (S x) λab=>mv ab K))
 (h3:∀(b:α) (w:aH) y (K:aS->St->PS) (Z:St->PS),(∀z,ok (K (.val (enc w)) (S (T b z))))->ok (b2 (enc w) (S (T b y)) λab=>br WL (el ab K) (Z ab))) (h5:∀x,ok (Q ((l.flatMap F).map enc) (S x))):G:=by
 subst ex;subst es;unfold ic at f;refine f (ahZ F l S) ⟨[],l,x0,rfl,rfl,rfl,rfl⟩ (λx r ys st hI=>?_) λys st hI=>?_
 ·obtain⟨as,bs,x,e,y,a,q⟩:=hI;induction bs using K1 with
  |nil=>exact fN e
  |cons b bs=>
   refine ak (dj e) λy9 y8=>?_;subst y9;subst y8;subst q;subst y;have mb:b∈l:=by rw[<- a];simp
   have hp:=aai (F:=F) a;refine h1 b x mb _ λy G f=>?_;unfold zc ic at f;refine f (ahX (as.flatMap F) (F b) λz=>S (T b z)) ⟨[],F b,y,rfl,by rw[zB],rfl,rfl⟩ (λx r ys st hI=>?_) λys st hI=>?_
   ·obtain⟨us,vs,z,e,y,a',q⟩:=hI;induction vs using K1 with
    |nil=>exact fN e
    |cons v vs=>refine ak (dj e) λy9 y8=>?_;subst y9;subst y8;subst y;subst q;have la:=congrArg W7 a';rw[Es] at la;have la:us.length+(vs.length+1)=_:=la;exact h3 b v z _ _ λz' G f=>f (by rw[K4,Es];exact QH la (by assumption) hp hl) ⟨us++[v],vs,z',rfl,by rw[<- zx];exact iy.symm,by rw[zx];exact a',rfl⟩
   ·obtain⟨us,vs,z,e,y,a',q⟩:=hI;induction vs using K1 with
    |cons _ _=>exact fO e
    |nil=>subst y;subst q;rw[zB] at a';subst a';exact λG f=>f ⟨as++[b],bs,T b z,rfl,by rw[aaj],by rw[zx];exact a,rfl⟩
 ·obtain⟨as,bs,x,e,y,a,q⟩:=hI;induction bs using K1 with
  |cons _ _=>exact fO e
  |nil=>subst y;subst q;rw[zB] at a;subst a;exact h5 x
structure ahQ(Ps:Rg)(fs:List bh)(k:Kd):Prop where
 h1:(k.A==("text":Str))=PO
 h2:(k.A==("place":Str))=PO
 h3:Ja k.A=PO
 h4:(k.A==("times":Str))=PO
 h5:(k.A==("choice":Str))=PO
 h6:(k.A==("row":Str))=WL/\(∀a g,qd Ps k fs a g=hW fs [(a,g)])∨∃c nm,k=.group c nm
structure ai1(Ps:Rg)(l:List N)(res:List aH)(bs:List N)(s:Bool×List aH×an):Prop where
 bJ:∀b∈bs,b∈l
 ok:iZ Ps s.2.1
 ln:s.2.1.length<=Ps.length+1
 h:hW (bs.map (N.R Ps)) s.2.1=res
noncomputable def aaP(n:N)(Ps:Rg)(a:Int)(gr:Gr)(s:Bool×List aH×an):St:=⟨qe n Ps a gr .none .none .none .none .none (match s.1 with|true=>.own (enc s.2.1)|false=>.val (enc s.2.1)) s.2.2,[]⟩
noncomputable def uX:FI:=⟨[("node",.loc),("page",.cell),("at",.cell),("groups",.cell),("kind",.loc),("data",.cell),("subs",.loc),("runes",.loc),("is_folded",.loc),("rune",.loc),("there",.loc),("rows",.loc),("ways",.loc),("sub",.cell)],["_law_firsts","_law_rounds","len","_law_stands","_law_small"],WL⟩
noncomputable def aae:FI:=uX.bJ [1,2] ["low","high"] []
noncomputable def aad:FI:=uX.bJ [1,2,3] ["sub","way"] ["_law_ways"]
noncomputable def aac:FI:=uX.bJ [1,13] ["here","held","way"] ["_law_ways"]
noncomputable def aab:FI:=uX.bJ [2,5] ["end","held"] ["_law_kept"]
theorem Ji{g:Gx}(G:ED g)(d:Nat):∀h:Nat,a8 g (d+5+2*h) (g.fa 62) (Jq (yi h))
 |0=>.none λxs P hV=>by refine FJ hV λt U U U U hp U=>?_;induction t using N.casesOn;exact MQ hp.ht (Yb _)
 |h0+1=>by
  have ih:=Ji G d h0;have hr:=aay G (d+5+2*h0) (QG) ih;have NX:=ih.aE (Wy _);exact .vS (G.K (d:=d+5+2*h0+1) (fi:=uX) 62 rfl (ae (kE (.cons (i:=4) rfl rfl (.cons (i:=5) rfl rfl (.cons (i:=6) rfl rfl .nil))) (E.u 0)) (ae (aJ (tQ G (E.u 4) E.A) (ae (kE (.cons (i:=7) rfl rfl (.cons (i:=8) rfl rfl .nil)) (E.u 5)) (ae (gF (cH (E.u 7)) (cN 9) (ae (aJ (tQ G (E.u 2) (ax (cG 2 G.toGOK2 (ah 1)))) (ae (aA (a9 ag)) af) af) (ae (bg 10 (ax (aB (aB (ah 1) (ah 2)) aF))) (ae (aJ (cq (bL (bn (gk G.sm) (E.u 9) (E.u 10)) (bL (sH (cq (bL (eT (E.u 8)) (bL (tQ G (cV G 4 56 rfl ((BW G 0).aE (tT)) (aa (E.u 9) ag)) (cV G 4 56 rfl ((BW G 0).aE (tT)) (aa (E.u 10) ag))) eS)))) eS))) (ae (aA (a9 ag)) af) af) (ae (bg 2 (bC O.e9 (E.u 2) (ax (aB (aB (ah 1) (ah 2)) aF))) rfl rfl) af))))) (ae (aA (a9 (aa (bD (aa (E.u 2) (aa (E.u 3) ag))) ag))) af))) af) (ae (aJ (tQ G (E.u 4) E.A) (ae (aA (cE (eT (cV G 3 58 rfl ((ahK G 0).aE (QF)) (aa (E.u 5) (aa (E.u 1) (aa (E.u 2) ag))))) (a9 (aa (bD (aa (E.u 2) (aa (E.u 3) ag))) ag)) (a9 ag))) af) af) (ae (aJ (bn oF (E.u 4) (bD (aa E.A (aa E.A (aa E.A (aa E.A ag)))))) (ae (bg 11 (cE (tQ G (E.u 4) E.A) (E.u 5) (ad4 (ad1 (DN E.A (a9 (aa (bD (aa E.x (aa E.x ag))) ag)) (DN E.A (a9 (aa (bD (aa (lT O.qF E.x) (aa E.x ag))) ag)) (DN E.A (a9 ag) aea)))) (ah 4)))) (ae (aJ (cq (cY (tQ G (E.u 2) (ax (cG 2 G.toGOK2 (ah 1)))) (cY (tQ G (lW aae (gh (by decide +kernel) (by decide +kernel)) (cH (E.u 11)) (qu (.cons (i:=14) rfl rfl (.cons (i:=15) rfl rfl .nil))) (Ly (DO O.le O.le (E.u 14) (ax (aB (aB (ah 1) (ah 2)) aF)) (E.u 15))) (E.u 14)) (a9 ag)) iF))) (ae (aA (a9 ag)) af) af) (ae (aA (a9 (aa (bD (aa (bC O.e9 (E.u 2) (cE (tQ G (E.u 4) E.A) E.x (ax (aB (aB (ah 1) (ah 2)) aF)))) (aa (E.u 3) ag))) ag))) af))) af) (ae (aJ (tQ G (E.u 4) E.A) (ae (aA (cV G 1 61 rfl hr (aa (E.u 5) (aa (ax (aB (ah 6) aF)) (aa (E.u 1) (aa (E.u 2) (aa (E.u 3) ag))))))) af) af) (ae (aJ (tQ G (E.u 4) E.A) (ae (aA (cV G 0 59 rfl ((BU G 0).aE (tT)) (aa (LJ aad (gh (by decide +kernel) (by decide +kernel)) (cH (E.u 6)) (cN 14) (cH (cV G 0 62 rfl NX (aa (E.u 14) (aa (E.u 1) (aa (E.u 2) (aa (E.u 3) ag)))))) (cN 15) (E.u 15)) ag))) af) af) (ae (bg 12 (a9 (aa (bD (aa (E.u 2) (aa (E.u 3) ag))) ag))) (ae (gF (cH (E.u 6)) (cN 13 rfl rfl) (ae (bg 12 (cV G 0 59 rfl ((BU G 0).aE (tT)) (aa (LJ aac (gh (by decide +kernel) (by decide +kernel)) (cH (E.u 12)) (qu (.cons (i:=14) rfl rfl (.cons (i:=15) rfl rfl .nil))) (cH (cV G 0 62 rfl NX (aa (E.u 13) (aa (E.u 1) (aa (E.u 14) (aa (E.u 15) ag)))))) (cN 16) (E.u 16)) ag))) af)) (ae (aJ (tQ G (E.u 4) E.A) (ae (aA (E.u 12)) af) af) (ae (aA (lW aab (gh (by decide +kernel) (by decide +kernel)) (cH (E.u 12)) (qu (.cons (i:=14) rfl rfl (.cons (i:=15) rfl rfl .nil))) iI (bD (aa (E.u 14) (aa (cV G 0 60 rfl ((ahP G 0).aE (tT)) (aa (E.u 15) (aa (E.u 5) (aa (E.u 2) (aa (E.u 14) ag))))) ag))))) af))))))))))) λn Ps a gr hp=>by
   have hn:=hp.kS;have pp:=hp.p;have lp:sm Ps:=Le pp.len (by decide);obtain⟨k,l⟩:=n;refine (?_:iS _ [enc (N.mk k l),enc Ps,enc a,enc gr] [] (enc (qd Ps k (gn Ps l) a gr)));by_cases wI:ahV Ps (gn Ps l) k
   ·obtain⟨rg,e,h1,h2,h3,hs,h4⟩:=wI;rw[e];refine λG f=>db (f rfl _ rfl PO h1 _ rfl PO h2 _ rfl WL (fb h3)) ⟨qe (.mk k l) Ps a gr .none .none .none .none (.val (enc rg)) .none .none,[]⟩ (λK kk=>?_) ?_
    ·rcases h4 with⟨c,e5⟩|⟨c,e5⟩
     ·refine a7 (Cp c) λr y9=>?_;subst y9;rw[<- show enc r=enc rg from e5] at kk;exact λG f=>kk G (f _ rfl WL tt)
     ·exact λG f=>kk G (f _ rfl PO c _ e5)
    refine λG f=>aC (a==((Ps.map (enc:Int×Int->AV)).length:Int)) (λc=>f (aq lp) WL c WL tt (by unfold gW;rw[n6] at c;rw[c];rfl)) λc=>?_;have c':(a==(Ps.length:Int))=PO:=n6▸c;have jj:a≠Ps.length:=λz=>by rw[z] at c';simp at c'
    have gv:a<Ps.length:=FW jj hp.a.2;refine aj (uQ (Ps:=Ps) hp.a.1 gv) λp it ep=>?_;refine Jo (λq:Int×Int=>decide (q.1<=p.1)&&decide (p.1<=q.2)) (·.1) (l:=rg) (λz:an×an=>⟨qe (.mk k l) Ps a gr .none .none .none .none (.val (enc rg)) .none .none++[z.1,z.2],[]⟩) (.none,.none) (f (aq lp) PO c) hs rfl rfl (λq x U K Z k1 k2=>?_) λx=>?_
    ·exact aC (decide (q.1<=p.1)) (λc1=>aC (decide (p.1<=q.2)) (λc2 G f=>k1 (by rw[c1,c2];rfl) (.val (.int q.1),.val (.int q.2)) G (f (aq lp) _ it bv _ rfl WL c1 WL c2)) λc2 G f=>k2 (by rw[c1,c2];rfl) (.val (.int q.1),.val (.int q.2)) G (f (aq lp) _ it bv _ rfl WL c1 PO c2))
      λc1 G f=>k2 (by rw[c1];rfl) (.val (.int q.1),.val (.int q.2)) G (f (aq lp) _ it bv _ rfl PO c1 PO ff)
    ·rw[aar c',ep];exact aC (bX rg p.1) (λci=>aC (k.A==("octet":Str))
      (λco G f=>f _ Ce PO (Cn.trans (by rw[ci];rfl)) PO ff _ rfl WL co (by rw[ci,co];rfl))
      λco G f=>f _ Ce PO (Cn.trans (by rw[ci];rfl)) PO ff _ rfl PO co (aq lp) _ it bv _ rfl (by rw[ci,co,Jr hp.a.1 gv it];rfl))
      λci G f=>f _ Ce WL (Cn.trans (by rw[ci];rfl)) WL tt (by rw[ci];rfl)
   by_cases px:ahQ Ps (gn Ps l) k
   ·have hl:l.length<=10000:=by cases hn with|mk h _ _ _ _ _=>exact h
    have hs:∀s∈l,s.kS Ps:=by cases hn with|mk _ _ _ _ _ h=>exact h
    have Fm:=yv (Ps:=Ps) (fs:=gn Ps l) (λf hf=>by rw[uZ] at hf;refine aj (zK.mp hf) λs m y9=>?_;subst y9;exact u6 pp (hs s m)) (rY hp.a hp.g) (de (zJ _));refine λG f=>gS enc (aaP (.mk k l) Ps a gr) (ai1 Ps l (hW (gn Ps l) [(a,gr)])) (f rfl _ rfl PO px.h1 _ rfl PO px.h2 _ rfl PO (fb px.h3) _ rfl PO px.h4 _ rfl PO px.h5) l (WL,[(a,gr)],.none) (n8 l) rfl
     ⟨λU h=>h,rY hp.a hp.g,de (zJ _),by rw[uZ]⟩ (λb bs z H=>?_) λz H=>?_
    ·clear f;obtain⟨o,ws,kJ⟩:=z;have mb:=H.bJ b (.head _);have nM:=I4 (Ps:=Ps) (l:=ws) (f:=λw=>b.R Ps w.1 w.2) λw m=>(u6 pp (hs b mb) w.1 w.2 (H.ok w m).1 (H.ok w m).2).2;have nM:(ws.flatMap λw=>b.R Ps w.1 w.2).length<=1000000:=by refine Le nM (Le (Nat.mul_le_mul (Le H.ln (de pp.len)) (de pp.len)) (by decide))
     refine ak (yn (Ch (l:=ws) (f:=λw=>b.R Ps w.1 w.2) λw m=>(u6 pp (hs b mb) w.1 w.2 (H.ok w m).1 (H.ok w m).2).1)) λk1 k2=>?_;induction o<;>exact λG f=>Jn (λw:aH=>b.R Ps w.1 w.2) (l:=ws) (λz:an×an×an=>⟨qe (.mk k l) Ps a gr .none .none .none .none .none (.val (enc ws)) (.val (enc b))++[z.1,z.2.1,z.2.2],[]⟩) (λw z=>(.val (.int w.1),.val (enc w.2),z)) (.none,.none,.none) f nM rfl rfl
      (λw x mw K k G f=>k x.2.2 G (f b Ps w.1 w.2 rfl ⟨ni hp.ht mb,hs b mb,pp,(H.ok w mw).1,(H.ok w mw).2⟩))
      (λw v y K Z k G f=>k (.val (enc v)) G (f WL tt)) λx G f=>f _ rfl nM (.C (PO,_,.val (enc b)) ⟨λc m=>H.bJ c (.tail _ m),k1,k2,H.h⟩ rfl)
    ·clear f;obtain⟨o,ws,kJ⟩:=z;have hh:ws=hW (gn Ps l) [(a,gr)]:=H.h;rcases px.h6 with⟨c1,e1⟩|⟨c,nm,rfl⟩
     ·induction o<;>exact λG f=>f _ rfl WL c1 (congrArg enc ((e1 a gr).trans hh.symm))
     ·rw[<- hh] at Fm;have hw:ws.length<=1000000:=Le Fm.2 (Le (de pp.len) (by decide));induction o<;>exact λG f=>B5 enc (λw:aH=>(w.1,BO w.2 (c,nm) a w.1)) (l:=ws) (λz:an×an=>⟨qe (.mk (.group c nm) l) Ps a gr .none .none .none .none .none (.val (enc ws)) kJ++[z.1,z.2],[]⟩) (.none,.none) (f _ rfl PO ff) hw rfl rfl
       (λw x m K Z k G f=>k (.val (.int w.1),.val (enc w.2)) G (f WL tt w.2 (c,nm) a w.1 (by induction nm<;>rfl) (Le (Fm.1 w m).2.len (by decide))))
       λx G f=>f (by rw[hh];rfl)
   induction k with
   |text rs f0=>
    refine (?_:iS _ [enc (N.mk (.text rs f0) l),enc Ps,enc a,enc gr] [] (enc ((dt Ps f0 rs a).toList.map λe=>(e,gr))));generalize Fk:dt Ps f0 rs a=res;refine λG f=>gS enc (λs:Int×an×an=>⟨qe (.mk (.text rs f0) l) Ps s.1 gr (.val (enc rs)) (.val (.bool f0)) s.2.1 s.2.2 .none .none .none,[]⟩) (λiM s=>dS Ps s.1/\dt Ps f0 iM s.1=res) (f rfl _ rfl WL tt) rs (a,.none,.none) rfl rfl ⟨hp.a,Fk⟩ (λr' iM ⟨a',x9,x10⟩ ⟨ha,hm⟩ G f=>?_) λs ⟨ha,hm⟩ G f=>f (by rw[<- show Ss s.1=res from hm];rfl);replace ha:dS Ps a':=ha;replace hm:dt Ps f0 (r'::iM) a'=res:=hm;rw[aau] at hm;refine aC (a'==((Ps.map (enc:Int×Int->AV)).length:Int)) (λc=>f (aq lp) WL c (by rw[<- hm,<- n6,c];rfl)) λc=>?_;have c':(a'==(Ps.length:Int))=PO:=n6▸c;have jj:a'≠Ps.length:=λz=>by rw[z] at c';simp at c'
    have gv:a'<Ps.length:=FW jj ha.2;refine aj (uQ (Ps:=Ps) ha.1 gv) λp it ep=>?_;have w:=yx pp ha jj;rw[Jr ha.1 gv it] at w hm;rw[c',ep,MZ qH] at hm;refine aC (r'==p.1) (λc1=>?_) λc1=>aC f0 (λh0=>aC (cp r'==cp p.1) (λh1=>?_) λh1=>?_) λh0=>?_
    ·have hm:dt Ps f0 iM (a'+p.2)=res:=by rw[c1] at hm;exact hm
     exact f (aq lp) PO c (aq lp) _ it bv _ rfl PO (by rw[c1];rfl) PO ff (aq lp) _ it bv _ rfl (.C (a'+p.2,.val (.int r'),.val (.int p.1)) ⟨w.1,hm⟩ rfl)
    ·have hm:dt Ps f0 iM (a'+p.2)=res:=by rw[c1,h0,h1] at hm;rw[h0];exact hm
     exact f (aq lp) PO c (aq lp) _ it bv _ rfl WL (by rw[c1];rfl) WL h0 r' rfl trivial p.1 rfl trivial WL h1 PO ff PO ff (aq lp) _ it bv _ rfl (.C (a'+p.2,.val (.int r'),.val (.int p.1)) ⟨w.1,hm⟩ rfl)
    ·exact f (aq lp) PO c (aq lp) _ it bv _ rfl WL (by rw[c1];rfl) WL h0 r' rfl trivial p.1 rfl trivial PO h1 WL tt WL tt (by rw[<- hm,c1,h0,h1];rfl)
    ·exact f (aq lp) PO c (aq lp) _ it bv _ rfl WL (by rw[c1];rfl) PO h0 WL tt WL tt (by rw[<- hm,c1,h0];rfl)
   |place op=>exact λG f=>aC (hU op Ps a) (λc=>f rfl _ rfl PO ff _ rfl WL tt op Ps a rfl ⟨lp,hp.a⟩ WL c (by refine (?_:enc (if hU op Ps a=WL then[(a,gr)] else[])=_);rw[c];rfl)) λc=>f rfl _ rfl PO ff _ rfl WL tt op Ps a rfl ⟨lp,hp.a⟩ PO c (by refine (?_:enc (if hU op Ps a=WL then[(a,gr)] else[])=_);rw[c];rfl)
   |set rg=>exact MQ (.mk rg rfl rfl rfl rfl (by cases hn with|mk _ _ h _ _ _=>exact h _ rfl) (.inl ⟨rfl,rfl⟩)) wI
   |any=>exact MQ (.mk [(0,1114111)] rfl rfl rfl rfl (l9 rfl) (.inr ⟨rfl,rfl⟩)) wI
   |octet=>exact MQ (.mk [(-1,1114111)] rfl rfl rfl rfl (l9 rfl) (.inr ⟨rfl,rfl⟩)) wI
   |none=>exact MQ (.mk [] (by funext a g;refine (?_:[]=gW Ps [] _ a g);unfold gW;rw[MS (by simp[bX])]) rfl rfl rfl (zJ _) (.inr ⟨rfl,rfl⟩)) wI
   |times lo hi lz=>
    obtain⟨s,rfl,L⟩:∃s,l=[s]/\iX Ps (s.R Ps):=by cases hn with|mk _ _ _ h _ _=>exact h _ _ _ rfl
    have hs:s.kS Ps:=by cases hn with|mk _ _ _ _ _ h=>exact h s (.head _)
    exact λG f=>f rfl _ rfl PO ff _ rfl PO ff _ rfl PO ff _ rfl WL tt (show 1<2 ^ 62 by decide) _ (bW (k:=0) rfl rfl) ⟨lo,hi,lz,s,Ps,a,gr⟩ rfl ⟨pp,hp.a,hp.g,L,λa' g' ha hg=>⟨ni hp.ht (.head _),hs,pp,ha,hg⟩⟩ rfl
   |choice=>
    have hl:l.length<=10000:=by cases hn with|mk h _ _ _ _ _=>exact h
    have hs:∀s∈l,s.kS Ps:=by cases hn with|mk _ _ _ _ _ h=>exact h
    have nM:=I4 (Ps:=Ps) (l:=l) (f:=λs=>s.R Ps a gr) λs m=>(u6 pp (hs s m) a gr hp.a hp.g).2;have nM:(l.flatMap λs=>s.R Ps a gr).length<=1000000:=by refine Le nM (Le (Nat.mul_le_mul hl (de pp.len)) (by decide))
    refine (?_:iS _ [enc (N.mk .choice l),enc Ps,enc a,enc gr] [] (enc (cy ((gn Ps l).flatMap λf=>f a gr))));rw[uZ,List.flatMap_map];exact λG f=>Jn (λs:N=>s.R Ps a gr) (l:=l) (λz:an×an=>⟨qe (.mk .choice l) Ps a gr .none .none .none .none .none .none .none++[z.1,z.2],[]⟩) (λb z=>(.val (enc b),z)) (.none,.none) (f rfl _ rfl PO ff _ rfl PO ff _ rfl PO ff _ rfl PO ff _ rfl WL tt) nM (n8 l) rfl
     (λb x mb K k G f=>k x.2 G (f b Ps a gr rfl ⟨ni hp.ht mb,hs b mb,pp,hp.a,hp.g⟩))
     (λb w y K Z k G f=>k (.val (enc w)) G (f WL tt)) λx G f=>f _ rfl nM rfl
   |row=>exact MQ ⟨rfl,rfl,rfl,rfl,rfl,.inl ⟨rfl,λU U=>rfl⟩⟩ px
   |group c nm=>exact MQ ⟨rfl,rfl,rfl,rfl,rfl,.inr ⟨c,nm,rfl⟩⟩ px
def gV(f:AV->AV->Option Bool)(x y:AV):Prop:=∃b,f x y=Ss b/\(b=WL↔x=y)
def ye(f:AV->AV->Option Bool)(xs ys:List AV):Prop:=∃b,pL f xs ys=Ss b/\(b=WL↔xs=ys)
section
variable {f:AV->AV->Option Bool}
theorem ye.ik:ye f [] []:=⟨WL,rfl,by simp⟩
theorem ye.gq{x y:AV}{xs ys:List AV}(h:gV f x y)(k:x=y->ye f xs ys):ye f (x::xs) (y::ys):=by
 refine aj h λb e i=>?_
 induction b with
 |false=>exact⟨PO,by refine (?_:(f x y).bind _=_);rw[e];rfl,by simp;intro z;exact MQ (i.mpr z) qH⟩
 |true=>have z:=i.mp rfl;refine aj (k z) λc e2 i2=>?_;exact⟨c,by refine (?_:(f x y).bind _=_);rw[e];exact e2,by rw[i2,z];simp⟩
theorem rW{xs ys:List AV}(h:ye f xs ys):gV (eY f) (.tup xs) (.tup ys):=by
 refine aj h λb e i=>?_
 exact⟨b,e,by rw[i];simp⟩
theorem Cm{xs ys:List AV}(h:∀x∈xs,∀y∈ys,gV f x y):gV (eY f) (.lst xs) (.lst ys):=by
 have go:∀xs ys:List AV,xs.length=ys.length->(∀x∈xs,∀y∈ys,gV f x y)->∃b,iv f xs ys=Ss b/\(b=WL↔xs=ys):=λxs=>by
  induction xs with
  |nil=>intro ys l _;rw[Wh.mp l.symm];exact⟨WL,rfl,by simp⟩
  |cons x xs ih=>
   intro ys l h;induction ys using K1 with
   |nil=>cases l
   |cons y ys=>refine aj (h x (.head _) y (.head _)) λb e i=>?_;refine aj (ih ys (ZG l) λx hx y hy=>h x (.tail _ hx) y (.tail _ hy)) λc e2 i2=>?_;exact⟨b&&c,by refine (?_:(f x y).bind (λb=>(iv f xs ys).bind λc=>Ss (b&&c))=_);rw[e,e2];rfl,by rw[zA,i,i2];simp⟩
 unfold gV eY;refine (?_:∃b,(bif xs.length==ys.length then iv f xs ys else Ss PO)=_/\_);cases c:xs.length==ys.length with
 |true=>refine aj (go xs ys (zH c) h) λb e i=>?_;exact⟨b,e,by rw[i];simp⟩
 |false=>exact⟨PO,rfl,by simp;intro z;rw[z] at c;simp at c⟩
theorem oe{i j:Int}:gV (eY f) (.int i) (.int j):=⟨i==j,rfl,by simp⟩
theorem Cl{i j:Bool}:gV (eY f) (.bool i) (.bool j):=⟨i==j,rfl,by simp⟩
theorem aap{i j:Str}:gV (eY f) (.str i) (.str j):=⟨i==j,rfl,by simp⟩
theorem I7:gV (eY f) .none .none:=⟨WL,rfl,by simp⟩
theorem aal{i:Array UInt8}:gV (eY f) (.bytes i) (.bytes i):=⟨WL,by refine (?_:Ss (i.toList==i.toList)=_);rw[Yv],by simp⟩
end
noncomputable def pZ(c:Int):Option (Array UInt8):=if c=1 then M4 else Ss #[110]
class inductive N.gH:N->Prop
 |mk {k:Kd}{l:List N}:(∀c nm,k=.group c nm->nm=pZ c)->(∀s∈l,s.gH)->N.gH (.mk k l)
noncomputable def shS(s:Str):Nat:=if s==("text":Str) then 0 else if s==("place":Str) then 1 else if s==("set":Str) then 2 else if s==("times":Str) then 3 else if s==("group":Str) then 4 else 5
def B7(n:Nat)(x:AV):Prop:=match n with
 |0=>∃(rs:List Int) (b:Bool),x=.tup [enc rs,.bool b]
 |1=>∃i,x=.int i
 |2=>∃rg:Rg,x=enc rg
 |3=>∃i j b,x=.tup [.int i,.int j,.bool b]
 |4=>∃i,x=.tup [.int i,enc (pZ i)]
 |_=>x=.none
theorem Kd.M0(k:Kd)(h:∀c nm,k=.group c nm->nm=pZ c):B7 (shS k.A) k.hG:=by
 induction k with
 |text rs f=>exact⟨rs,f,rfl⟩
 |place op=>exact⟨op,rfl⟩
 |set rg=>exact⟨rg,rfl⟩
 |times lo hi lz=>exact⟨lo,hi,lz,rfl⟩
 |group c nm=>rw[h c nm rfl];exact⟨c,rfl⟩
 |_=>exact rfl
theorem aao{n:Nat}{as bs:List Int}:gV (bK (n+2)) (enc as) (enc bs):=Cm λx hx y hy=>by refine aj (zK.mp hx) λa U y9=>?_;subst y9;refine aj (zK.mp hy) λb U y9=>?_;subst y9;exact oe
theorem ahy{n c:Nat}{x y:AV}(h:B7 c x)(h':B7 c y):gV (bK (n+4)) x y:=by
 rcases c with _|_|_|_|_|c
 ·refine dm h λrs f e=>?_;refine dm h' λiM f' e'=>?_
  subst e;subst e';exact rW (f:=bK (n+3)) (.gq (aao (n:=n+1)) λU=>.gq Cl λU=>.ik)
 ·refine a7 h λi e=>?_;refine a7 h' λi' e'=>?_
  subst e;subst e';exact oe
 ·refine a7 h λrg e=>?_;refine a7 h' λFn e'=>?_
  subst e;subst e';refine Cm λx hx y hy=>?_;refine aj (zK.mp hx) λa U y9=>?_;subst y9;refine aj (zK.mp hy) λb U y9=>?_;subst y9;exact rW (.gq oe λU=>.gq oe λU=>.ik)
 ·refine pF h λi j b e=>?_;refine pF h' λi' j' b' e'=>?_
  subst e;subst e';exact rW (.gq oe λU=>.gq oe λU=>.gq Cl λU=>.ik)
 ·refine a7 h λi e=>?_;refine a7 h' λi' e'=>?_
  subst e;subst e';refine rW (.gq oe λz=>.gq ?_ λU=>.ik)
  (injection z with y9;subst y9);unfold pZ;split
  ·exact I7
  ·exact aal
 ·cases (show x=.none from h);cases (show y=.none from h');exact I7
set_option tactic.hygienic true in
theorem uY:∀(h:Nat) (a b:N),a.ht<=h->a.gH->b.gH->∀n,2*h+4<=n->gV (bK n) (enc a) (enc b)
 |0,a,b,ha,_,_,_,_=>by induction a using N.casesOn;exact MQ ha (Yb _)
 |h+1,a,b,ha,na,nb,n,hn=>by
  obtain⟨m,rfl⟩:∃m,n=m+6:=⟨n-6,by exact QK hn ha⟩
  cases na with
  |mk n1 n2=>cases nb with
  |mk n3 n4=>
   rename_i k l k' l';refine rW (f:=bK (m+5)) (.gq aap λz=>.gq ?_ λ_=>.gq ?_ λ_=>.ik)
   ·have z:k.A=k'.A:=AV.str.inj z;exact ahy (n:=m+1) (k.M0 n1) (z▸k'.M0 n3)
   ·refine Cm (f:=bK (m+4)) λx hx y hy=>?_;rw[show (N.mk k l).O=l.map enc from ya _] at hx;rw[show (N.mk k' l').O=l'.map enc from ya _] at hy;refine aj (zK.mp hx) λs hs y9=>?_;subst y9;refine aj (zK.mp hy) λs' q7 y9=>?_;subst y9;exact uY h s s' (ni ha hs) (n2 s hs) (n4 s' q7) _ (QJ hn)
noncomputable def uT:N:=.mk (.text [] PO) []
structure pW(a b:N):Prop where
 sg:(a.mf&&b.mf)=PO
 em:¬ ((enc a:AV)=enc uT/\(enc b:AV)=enc uT)
 fr:a.fr=M4∨a.fr≠b.fr
 hd:a.hd=M4∨(enc a.hd:AV)≠enc b.hd
class inductive mZ:List N->Prop
 |nil:mZ []
 |one (a:N):mZ [a]
 |cons {a b:N}{l:List N}:pW a b->mZ (b::l)->mZ (a::b::l)
theorem mZ.two{a b:N}{l:List N}(h:mZ (a::b::l)):pW a b/\mZ (b::l):=by cases (h) with|cons p q=>exact⟨p,q⟩
class inductive yg:List N->Prop
 |mk {l:List N}:mZ l->(∀n∈l,n.k≠.choice)->(∀n∈l,n.k=.row->∀p∈n.H,p.k=.choice->p.H≠[])->(∀n∈l,n.k=.row->∀p∈n.H,p.k=.choice->yg p.H)->yg l
structure rU(h:Nat)(n:N):Prop where
 ht:n.ht<=h
 zG:n.ht<=60
 ok:n.ok
 wf:n.wf
 nc:n.gH
structure Cd(h:Nat)(l:List N):Prop where
 sm:sm l
 ne:l≠[]
 n:∀n∈l,rU h n
 t:yg l
theorem aam{p:Int×Bool}{q:Option (Int×Bool)}:gV (bK 140) (enc p) (enc q):=by
 induction q with
 |none=>exact⟨PO,rfl,by simp[enc,Enc.enc]⟩
 |some q=>exact rW (f:=bK 139) (.gq oe λU=>.gq Cl λU=>.ik)
theorem aan{a:N}{b:Option N}(ha:a.ht<=60)(na:a.gH)(nb:∀n,b=Ss n->n.gH):gV (bK 140) (enc a) (enc b):=by
 induction b with
 |none=>exact⟨PO,rfl,⟨λz=>MQ z qH,λz=>AV.noConfusion z⟩⟩
 |some b=>exact uY 60 a b ha na (nb b rfl) 140 (by decide)
theorem aaB{α:Type}[Enc α]{l:List α}(h:l≠[]):cx (l.map (enc:α->AV)) (Ss 1) M4=l.tail.map enc:=by
 induction l using K1 with
 |nil=>exact MQ rfl h
 |cons x l=>exact xD
theorem N.gH.bJ{k:Kd}{l:List N}{s:N}(h:(N.mk k l).gH)(m:s∈l):s.gH:=by cases h with|mk _ b=>exact b s m
theorem I8{P:N->Prop}{n:N}(h:P n)(s:∀k l s,P (.mk k l)->s∈l->P s):P n.jg:=by
 obtain⟨k,l⟩:=n;induction k with
 |row=>induction l using K1 with
  |nil=>exact h
  |cons x xs=>exact s _ _ x h (.head _)
 |_=>exact h
theorem I9{n m:N}(h:n.hd=Ss m):m=n.jg:=by unfold N.hd at h;generalize n.jg=u at h ⊢;generalize u.k=k at h;induction k using Kd.casesOn<;>first|exact (K6 h).symm|exact aY h|(refine (?_:m=u);exact (Classical.em _).elim (λc=>(K6 ((MS c).symm.trans h)).symm) λc=>aY ((MZ c).symm.trans h))
theorem aaq{n:N}:n.jg.ht<=n.ht:=by
 obtain⟨k,l⟩:=n;induction k with
 |row=>induction l using K1 with
  |nil=>exact EC _
  |cons x xs=>exact ZP (VC _ _)
 |_=>exact EC _
theorem Me{k:Kd}(h:(k.A==("choice":Str))=WL):k=.choice:=by induction k<;>first|rfl|exact aX h
theorem aeE{k:Kd}(h:(k.A==("row":Str))=WL):k=.row:=by induction k<;>first|rfl|exact aX h
inductive yh(l:List N):List (N×N)->Prop
 |mk (r:List N) (sub:∀n∈r,n∈l) (a:mZ r):yh l (r.zip r.tail)
theorem Js:∀{as bs:List N},xK (as.map enc) (bs.map enc)=(as.zip bs).map (enc:N×N->AV)
 |[],j4=>rfl
 |j4::j5,[]=>rfl
 |a::as,b::bs=>congrArg (_::·) (Js (as:=as) (bs:=bs))
theorem yh.at{l:List N}{a b:N}{ps:List (N×N)}(h:yh l ((a,b)::ps)):pW a b/\a∈l/\b∈l/\yh l ps:=by
 generalize e:(a,b)::ps=qs at h;obtain⟨r,sub,ad⟩:=h;rcases r with _|⟨x,_|⟨y,r'⟩⟩
 ·exact fN e
 ·exact fN e
 ·refine ak (ad.two) λpk ad2=>?_;have e:(a,b)::ps=(x,y)::(y::r').zip (y::r').tail:=e;refine ak (dj e) λe1 e2=>?_
  (injection e1 with y8 y9;subst y8;subst y9);exact⟨pk,sub _ (.head _),sub _ (.tail _ (.head _)),e2▸⟨b::r',λn hn=>sub n (.tail _ hn),ad2⟩⟩
theorem frF{a b:N}(pk:pW a b)(c:(!O.g9 (enc a.fr))=WL):bK 140 (enc a.fr) (enc b.fr)=Ss PO:=by
 have hfr:=pk.fr;cases ha:a.fr with
 |none=>rw[ha] at c;exact aX c
 |some p=>
  refine aj (aam (p:=p) (q:=b.fr)) λx e i=>?_;have e:bK 140 (enc (Ss p)) (enc b.fr)=Ss x:=e;rw[e];induction x with
  |false=>rfl
  |true=>
   refine MQ ?_ (hfr.resolve_left λz=>by rw[ha] at z;exact lu z);have z:enc p=enc b.fr:=i.mp rfl;rw[ha];cases hb:b.fr with
   |none=>rw[hb] at z;exact AV.noConfusion z
   |some q=>rw[hb] at z;have z:=AV.tup.inj z;have z1:=AV.int.inj (dj z).1;have z2:=AV.bool.inj (dj (dj z).2).1;rw[Ye z1 z2]
theorem hdF{h:Nat}{a b:N}(pk:pW a b)(oa:rU h a)(ob:rU h b)(c:(!O.g9 (enc a.hd))=WL):bK 140 (enc a.hd) (enc b.hd)=Ss PO:=by
 have hhd:=pk.hd;cases ha:a.hd with
 |none=>rw[ha] at c;exact aX c
 |some p=>
  have qY:=I9 ha;have np:p.gH:=qY▸I8 oa.nc λk l s h m=>h.bJ m;have afV:p.ht<=60:=qY▸Le aaq oa.zG;refine aj (aan (a:=p) (b:=b.hd) afV np λn hn=>I9 hn▸I8 ob.nc λk l s h m=>h.bJ m) λx e i=>?_;have e:bK 140 (enc (Ss p)) (enc b.hd)=Ss x:=e;rw[e];induction x with
  |false=>rfl
  |true=>exact MQ (ha▸i.mp rfl) (hhd.resolve_left λz=>by rw[ha] at z;exact lu z)
theorem ahx{h:Nat}{a b:N}(pk:pW a b)(oa:rU h a)(ob:rU h b):∃c,bK 140 (enc a) (enc b)=Ss c/\(c=WL->bK 140 (enc b) (enc uT)=Ss PO):=by
 refine aj (uY 60 a b oa.zG oa.nc ob.nc 140 (by decide)) λc e1 i1=>?_;refine aj (uY 60 b uT ob.zG ob.nc (.mk (λU U z=>(Kd.noConfusion z)) λU z=>by exact aT z) 140 (by decide)) λc2 e2 i2=>?_;refine⟨c,e1,λhc=>?_⟩;induction c2 with
 |false=>exact e2
 |true=>exact MQ ⟨(i1.mp hc).trans (i2.mp rfl),i2.mp rfl⟩ pk.em
theorem aaR{xs:List AV}{P:List AV->PS}{G:Prop}(f:pi ((AV.tup xs).vH P) G):pi (P xs) G:=f
theorem ahz{b:Bool}{P:PS}{G:Prop}(f:pi (cL b P) G)(h:b=WL):pi P G:=by subst h;exact f
set_option tactic.hygienic true in
theorem yj{x y:AV}{b:Bool}{P:Bool->PS}{G:Prop}(f:pi (pM x y P) G)(h:bK 140 x y=Ss b):pi (P b) G:=by
 unfold pM at f;generalize x.vR=u,y.vR=v at f;induction u using Y8 with
 |none=>exact f b h
 |some a=>
  induction v using Y8 with
  |none=>exact f b h
  |some c=>have e:(a.1==c.1)=b:=K6 ((show bK 140 (.int a.1) (.int c.1)=Ss b from a.2▸c.2▸h));exact e▸f
theorem aaQ{n:N}(h:n.ok):sm n.H:=by induction n using N.casesOn;exact h.sm
theorem aav{l:List N}:bK 140 (.lst (((l.filter λU=>PO).map id).map enc)) (.lst [])=Ss WL:=by rw[show (l.filter λU=>PO)=[] from alj.mpr λU U h=>qH h];rfl
noncomputable def I0:FI:=⟨[("nodes",.loc),("one",.loc),("other",.loc),("node",.loc),("parts",.loc)],["zip","_law_head","_law_first_rune","_law_is_sign"],WL⟩
noncomputable def ahu:FI:=I0.bJ [] ["part"] ["_law_is_tidy"]
theorem Jh{g:Gx}(G:ED g)(d:Nat):∀h:Nat,a8 g (d+5+h) (g.fa 67) (V1 (λ_:List N=>WL) (Cd h))
 |0=>.none (λxs P hV=>by
  refine bV hV λl U hp U=>?_
  induction l using K1 with
  |nil=>exact hp.ne rfl
  |cons n l=>have:=(hp.n n (.head _)).ht;induction n using N.casesOn;exact MQ this (Yb _))
 |h0+1=>by
  have ih:=Jh G d h0;exact .fT (G.K (d:=d+5+h0) (fi:=I0) 67 rfl (ae (Dy (aeu 0 G.toGOK (G.blt 9 rfl) (aa (E.u 0) (aa (jG (ah 0) (.some aF) .none) ag))) (qu (.cons (i:=1) rfl rfl (.cons (i:=2) rfl rfl .nil))) (ae (aJ (cq (cY (cq (bL (eT (cV G 3 64 rfl ((Ix G 0).aE (nS)) (aa (E.u 1) ag))) (bL (eT (cV G 3 64 rfl ((Ix G 0).aE (nS)) (aa (E.u 2) ag))) eS))) (cY (DO (dh G.sm) (dh G.sm) (E.u 1) (E.u 2) (bD (aa E.A (aa (bD (aa (a9 ag) (aa E.cK ag))) (aa (a9 ag) ag))))) iF))) (ae (aA E.cK) af) af) (ae (aJ (cq (bL (bn O.Ea (cV G 2 65 rfl ((BS G 0).aE (nS)) (aa (E.u 1) ag)) E.none) (bL (tQ G (cV G 2 65 rfl ((BS G 0).aE (nS)) (aa (E.u 1) ag)) (cV G 2 65 rfl ((BS G 0).aE (nS)) (aa (E.u 2) ag))) eS))) (ae (aA E.cK) af) af) (ae (aJ (cq (bL (bn O.Ea (cV G 1 66 rfl ((BV G 0).aE (nS)) (aa (E.u 1) ag)) E.none) (bL (tQ G (cV G 1 66 rfl ((BV G 0).aE (nS)) (aa (E.u 1) ag)) (cV G 1 66 rfl ((BV G 0).aE (nS)) (aa (E.u 2) ag))) eS))) (ae (aA E.cK) af) af) af)))) (ae (gF (cH (E.u 0)) (cN 3) (ae (bg 4 (cE (tQ G (ax (aB (ah 3) aF)) E.A) (ax (aB (ah 3) aF)) (a9 ag))) (ae (aJ (cq (cY (tQ G (ax (aB (ah 3) aF)) E.A) (cY (bn (gk G.sm) (lW ahu (gh (by decide +kernel) (by decide +kernel)) (cH (E.u 4)) (cN 5) (Ly (cq (bL (tQ G (ax (aB (ah 5) aF)) E.A) (bL (sH (eT (cV G 0 67 rfl ih (aa (ax (aB (ah 5) aF)) ag)))) eS)))) (E.u 5)) (a9 ag)) iF))) (ae (aA E.cK) af) af) af))) (ae (aA E.cK) af)))) λl hp=>by
   obtain⟨adj,nch,sne,sub⟩:=hp.t;refine λG f=>rJ (f rfl) (λz:an×an=>⟨[.val (enc l),z.1,z.2,.none,.none],[]⟩) (λU=>True) (λK kk=>?_) λz U=>?_
   ·clear f;refine λG f=>gS enc (λz:an×an=>⟨[.val (enc l),z.1,z.2,.none,.none],[]⟩) (λps U=>yh l ps) (f (cM hp.sm)) (l.zip l.tail) (.none,.none) (by rw[aaB hp.ne];exact Js) rfl ⟨l,λU h=>h,adj⟩ (λ⟨a,b⟩ ps z H=>?_) λz U=>kk z trivial;clear f;refine iR (H.at) λpk ma mb H=>?_;have oa:=hp.n a ma;have ob:=hp.n b mb;refine aj (ahx pk oa ob) λc e1 e2=>?_;have sg:=pk.sg;refine λG f=>db (ahz (aaR (xs:=[enc a,enc b]) f) rfl) ⟨[.val (enc l),.val (enc a),.val (enc b),.none,.none],[]⟩ (λK k=>aC c (λhc=>aC a.mf (λca=>?_) λca=>?_) λhc=>aC a.mf (λca=>?_) λca=>?_) λG f=>db f ⟨[.val (enc l),.val (enc a),.val (enc b),.none,.none],[]⟩ (λK k=>aC (!O.g9 (enc a.fr)) (λc G f=>k G (yj (f a rfl oa.wf rfl WL c a rfl oa.wf b rfl ob.wf) (frF pk c) PO ff PO ff)) λc G f=>k G (f a rfl oa.wf rfl PO c PO ff))
     (aC (!O.g9 (enc a.hd)) (λc G f=>yj (f a rfl oa.wf rfl WL c a rfl oa.wf b rfl ob.wf) (hdF pk oa ob c) PO ff PO ff (.C (.val (enc a),.val (enc b)) H rfl)) λc G f=>f a rfl oa.wf rfl PO c PO ff (.C (.val (enc a),.val (enc b)) H rfl))
    ·exact λG f=>k G (f a rfl oa.ok WL ca b rfl ob.ok PO (by rw[ca] at sg;exact sg) PO ff _ e1 WL hc _ (e2 hc) PO ff PO ff)
    ·exact λG f=>k G (f a rfl oa.ok PO ca PO ff _ e1 WL hc _ (e2 hc) PO ff PO ff)
    ·exact λG f=>k G (f a rfl oa.ok WL ca b rfl ob.ok PO (by rw[ca] at sg;exact sg) PO ff _ e1 PO hc PO ff PO ff)
    ·exact λG f=>k G (f a rfl oa.ok PO ca PO ff _ e1 PO hc PO ff PO ff)
   ·clear f;refine λG f=>gS enc (λz:an×an×an×an=>⟨[.val (enc l),z.1,z.2.1,z.2.2.1,z.2.2.2],[]⟩) (λr U=>∀n∈r,n∈l) f l (z.1,z.2,.none,.none) rfl rfl (λU h=>h) (λn r z NY=>?_) λz U G f=>f rfl;clear f;have mn:=NY n (.head _);have on:=hp.n n mn;have c1:(n.k.A==("choice":Str))=PO:=by
     cases c:n.k.A==("choice":Str) with
     |false=>rfl
     |true=>exact MQ (Me c) (nch n mn)
    refine λG f=>rJ f (λu:Bool×List N=>⟨[.val (enc l),z.1,z.2.1,.val (enc n),match u.1 with|true=>.own (enc u.2)|false=>.val (enc u.2)],[]⟩) (λu=>(∀p∈u.2,p∈n.H/\n.k=.row)/\sm u.2) (λK kk=>aC (n.k.A==("row":Str)) (λc=>?_) λc G f=>kk (WL,[]) ⟨λp hp=>(aT hp),zJ _⟩ G (f bU _ rfl _ rfl PO c)) λz_ NZ=>?_
    ·have kk:=kk (PO,n.H) ⟨λp hp=>⟨hp,aeE c⟩,aaQ on.ok⟩;dsimp only at kk;rw[show (enc n.H:AV)=.lst n.O from congrArg AV.lst (ya n).symm] at kk;exact λG f=>kk G (f bU _ rfl _ rfl WL c bU _ rfl)
    ·clear f;obtain⟨o,ps⟩:=z_;refine ak NZ λhps hl=>?_
     have lps:∀p∈ps,p.k=.choice->Cd h0 p.H:=λp hpp hc=>by refine ak (hps p hpp) λm1 m2=>?_;obtain⟨k,l'⟩:=n;obtain⟨k2,l2⟩:=p;have o2:=on.ok.bJ m1;refine⟨o2.sm,sne _ mn m2 _ m1 hc,λq hq=>?_,sub _ mn m2 _ m1 hc⟩;have h1:=ni on.ht m1;have h2:q.ht<=h0:=Le (ni (ZP h1) hq) (EC _);exact⟨h2,Le (ni (h:=60) (ZP (ni (h:=60) (ZP on.zG) m1)) hq) (EC _),o2.bJ hq,(on.wf.bJ m1).bJ hq,(on.nc.bJ m1).bJ hq⟩
     induction o<;>exact λG f=>Jo (λ_:N=>PO) (id:N->N) (l:=ps) (λx5=>⟨[.val (enc l),z.1,z.2.1,.val (enc n),.val (enc ps),x5],[]⟩) .none (f bU _ rfl _ rfl PO c1) hl rfl rfl
      (λp x mp K Z k1 k2=>aC (p.k.A==("choice":Str)) (λc G f=>k2 rfl (.val (enc p)) G (f bU _ rfl _ rfl WL c bU _ rfl p.H (congrArg (λx=>[AV.lst x]) (ya p).symm) (lps p mp (Me c)) PO ff PO ff)) λc G f=>k2 rfl (.val (enc p)) G (f bU _ rfl _ rfl PO c PO ff))
      λx5 G f=>f WL aav PO ff PO ff (.C (z.1,z.2.1,.val (enc n),.val (enc ps)) (λm hm=>NY m (.tail _ hm)) rfl)
noncomputable def qg(s:List Int):List Int:=(s.take 7).map (λc=>c.fmod (10 ^ 12))++cx [29403,57,66] (Ss ((s.take 7).length:Int)) M4
abbrev sj(hi:Int):List Int:=[97,98,107,65,75,hi,10]
noncomputable def gY(hi:Int)(pg:Rg)(d:Int):Rg:=if ((sj hi).getD d.toNat 0==8490)=WL then pg++[((sj hi).getD d.toNat 0,3),(-1,1),(-1,1)] else pg++[((sj hi).getD d.toNat 0,1)]
noncomputable def gZ(hi fl:Int)(ps:List Tr)(c:Int):List Tr:=match mT c [3,3,35,35] with
 |[k,f,a,b]=>ps.take k.toNat++([a,b].take f.toNat).map λw=>gD hi fl w.toNat
 |_=>ps
noncomputable def lQ(hi fl:Int)(ps:List Tr):List Int->List Tr
 |[]=>[]
 |c::cs=>dF (gZ hi fl ps c) fl::lQ hi fl (gZ hi fl ps c) cs
abbrev cg(ts:List Tr):N:=.mk .choice (ts.map Tr.B)
structure Cr(Ps:Rg)(a fL:Int)(ts EM:List Tr)(N:Nat):Prop where
 sm:Mine.Internal.sm ts
 afy:N<=900000/\fB fL 0 ts EM N
 rt:∀t∈ts,t.ht<=60/\t.ok/\t.jh
 ra:Mine.Internal.sm EM/\∀t∈EM,t.ht<=60/\t.ok/\t.jh
 w1:yi 61 (cg ts) Ps a ⟨[]⟩
 w2:yi 61 (cg EM) Ps a ⟨[]⟩
 eq:i8 (cg ts) Ps a ⟨[]⟩=i8 (cg EM) Ps a ⟨[]⟩
 afz:Cd 60 (EM.map Tr.B)
 dD:(cg EM).dD<=(cg ts).dD
 m1:(cg ts).ht<=61/\(cg ts).ok
 m2:(cg EM).ht<=61/\(cg EM).ok
 gH:∀t∈ts,t.B.gH/\t.B.ht<=60
structure Cq(s:List Int)(Ps:Rg)(a fL:Int)(ts:List Tr):Prop where
 ex:∃c cs d0 d1 d2 d3 ds hi fl,qg s=c::cs/\mT c [5,14,2,2,7,7,7,7]=d0::d1::d2::d3::ds/\hi=(if (d2==1)=WL then 233 else 8490)/\fl=(if (d2==1)=WL then 32 else 0)/\Ps=(ds.take d0.toNat).foldl (gY hi) []/\a=d1.fmod (Ps.length+1)/\
  ts=lQ hi fl [] cs/\fL=if (d3==1)=WL then dM fl 1 else fl
theorem iD{n b:Int}(hb:0<b):0<=n.fmod b/\n.fmod b<b:=⟨Int.fmod_nonneg_of_pos n hb,Int.fmod_lt_of_pos n hb⟩
theorem aa2(s:List Int):∃c cs,qg s=c::cs:=by
 induction s using K1 with
 |nil=>exact⟨29403,[57,66],rfl⟩
 |cons x s=>exact⟨_,_,rfl⟩
theorem JD(s:List Int):(qg s).length<=10:=by have h1:(s.take 7).length<=7:=VT ..;have h2:=xF [(29403:Int),57,66] (Ss ((s.take 7).length:Int)) M4;have h2:_<=3:=h2;unfold qg;rw[Es,K4];exact Q8 h2 h1
abbrev CH(s:List Int)(x1:an):List an:=[.val (enc s),x1,.none,.none,.none,.none,.none,.none,.none,.none,.none,.none,.none,.none,.none,.none,.none,.none,.none,.none]
abbrev JR(s cells digs:List Int)(x3 x4 x5 x6 x7 x8 x9 x10 ig dO kJ dw Zt wJ wK wL wM:an):List an:=[.val (enc s),.own (enc cells),.val (enc digs),x3,x4,x5,x6,x7,x8,x9,x10,ig,dO,kJ,dw,Zt,wJ,wK,wL,wM]
theorem ow:(8:Nat)<2 ^ 62:=by decide
theorem CK{hi:Int}:∀{ds:List Int}{pg:Rg},(ds.foldl (gY hi) pg).length<=pg.length+3*ds.length
 |[],pg=>EC _
 |d::ds,pg=>by
  have ih:=CK (hi:=hi) (ds:=ds) (pg:=gY hi pg d);have:(gY hi pg d).length<=pg.length+3:=by
   unfold gY;split
   ·rw[Es];exact EC _
   ·rw[Es];exact Xi (show 1<=3 by decide) _
  refine (?_:((ds.foldl (gY hi) (gY hi pg d)).length<=pg.length+3*(ds.length+1)));exact Q5 this ih
set_option genInjectivity false in
structure yB where
 s:List Int
 zt:List Int
 afA:List Int
 hi:Int
 fl:Int
 pg:Rg
 x6:an
 x7:an
 a:Int
set_option genInjectivity false in
structure LwT where
 x9:an
 vY:an
 wc:an
 wd:an
 we:an
 wg:an
 EK:an
abbrev se(E:yB)(pg:an)(x8 x9 x10 ig dO kJ dw Zt wJ wK wL wM:an):List an:=JR E.s E.zt E.afA (.val (.int E.hi)) (.val (.int E.fl)) pg E.x6 E.x7 x8 x9 x10 ig dO kJ dw Zt wJ wK wL wM
abbrev qi(E:yB)(t:LwT)(wJ wK wL wM:an):List an:=se E (.own (enc E.pg)) (.val (.int E.a)) t.x9 t.vY t.wc t.wd t.we t.wg t.EK wJ wK wL wM
noncomputable def sh(E:yB)(z:Rg×an×an):St:=⟨se { E with x6:=z.2.1,x7:=z.2.2 } (.own (enc z.1)) .none .none .none .none .none .none .none .none .none .none .none .none,[]⟩
def Jv(hi:Int)(res:Rg)(ds:List Int)(z:Rg×an×an):Prop:=(∀d∈ds,0<=d/\d<7)/\z.1.length+3*ds.length<=12/\ds.foldl (gY hi) z.1=res
set_option genInjectivity false in
structure Jx where
 o:Bool
 ps:List Tr
 bH:List Tr
 wc:an
 wd:an
 we:an
 wg:an
 EK:an
noncomputable def oz(E:yB)(t:Jx):St:=⟨qi E ⟨.own (enc t.bH),iU t.o (enc t.ps),t.wc,t.wd,t.we,t.wg,t.EK⟩ .none .none .none .none,[]⟩
structure Jw(hi fl:Int)(res:List Tr)(cs:List Int)(t:Jx):Prop where
 lp:t.ps.length<=4
 l:t.bH.length+cs.length<=10
 h:t.bH++lQ hi fl t.ps cs=res
noncomputable def JS:DC:=λxs mem P=>.ex λs:List Int=>.rq ([enc s]=xs) (.rq ([]=mem) (.rq (sm s) (.rq ((∀Ps a fL ts,Cq s Ps a fL ts->∃EM N,Cr Ps a fL ts EM N)) (.leaf (∀ct,P (.bool WL) ct)))))
section
variable {f:AV->AV->Option Bool}
theorem JK:∀{xs:List AV},(∀x∈xs,f x x=Ss WL)->iv f xs xs=Ss WL
 |[],j4=>rfl
 |x::xs,h=>by refine (?_:(f x x).bind (λb=>(iv f xs xs).bind λc=>Ss (b&&c))=_);rw[h x (.head _),JK λy hy=>h y (.tail _ hy)];rfl
theorem JT{xs:List AV}(h:∀x∈xs,f x x=Ss WL):eY f (.lst xs) (.lst xs)=Ss WL:=by refine (?_:(bif xs.length==xs.length then iv f xs xs else Ss PO)=_);rw[Yv];exact JK h
theorem aa6{es:List (Int×AV)}(nd:(es.map (·.1)).Nodup)(h:∀p∈es,f p.2 p.2=Ss WL):eY f (.dict es) (.dict es)=Ss WL:=by
 have go:∀(fs es:List (Int×AV)),(∀p∈es,fw fs p.1=Ss p.2/\f p.2 p.2=Ss WL)->kg f fs es=Ss WL:=λfs es=>by
  induction es with
  |nil=>intro _;rfl
  |cons p es ih=>intro h;refine ak (h p (.head _)) λa b=>?_;refine (?_:(match fw fs p.1 with|none=>Ss PO|some y=>(f p.2 y).bind λb=>(kg f fs es).bind λc=>Ss (b&&c))=_);rw[a];refine (?_:(f p.2 p.2).bind (λb=>(kg f fs es).bind λc=>Ss (b&&c))=_);rw[b,ih λq hq=>h q (.tail _ hq)];rfl
 refine (?_:(bif es.length==es.length then kg f es es else Ss PO)=_);rw[Yv];refine go es es λp hp=>⟨?_,h p hp⟩
 unfold fw;have:∀(l:List (Int×AV)),(l.map (·.1)).Nodup->p∈l->l.find? (λq=>decide (q.1=p.1))=Ss p:=λl=>by
  induction l with
  |nil=>intro _ m;exact aT m
  |cons q l ih=>
   intro nd m;rw[Zv,bS] at nd;rcases K7.mp m with rfl|m
   ·exact List.find?_cons_of_pos (by simp)
   ·rw[List.find?_cons_of_neg (by simp;intro z;exact nd.1 (z▸zK.mpr ⟨p,m,rfl⟩))];exact ih nd.2 m
 rw[this es nd hp];rfl
end
theorem abM{Ps:Rg}{ws:List aH}(h:iZ Ps ws):bK 140 (enc ws) (enc ws)=Ss WL:=by
 refine JT (f:=bK 139) λx hx=>?_;refine aj (zK.mp hx) λw hw y9=>?_;subst y9;have hg:=(h w hw).2;have hd:bK 138 (enc w.2) (enc w.2)=Ss WL:=by
  refine aa6 (f:=bK 137) ?_ λp hp=>?_
  ·rw[Za];exact hg.nd
  ·refine aj (zK.mp hp) λq hq y9=>?_;subst y9;obtain⟨k,b,e,nm⟩:=q;have hn:bK 136 (enc nm) (enc nm)=Ss WL:=by
    induction nm with
    |none=>rfl
    |some b=>refine (?_:Ss (b.toList==b.toList)=_);rw[Yv]
   refine (?_:(Ss (b==b)).bind (λx=>bif x then (Ss (e==e)).bind (λx=>bif x then (bK 136 (enc nm) (enc nm)).bind (λx=>bif x then Ss WL else Ss PO) else Ss PO) else Ss PO)=_);rw[Yv,Yv,hn];rfl
 refine (?_:(Ss (w.1==w.1)).bind (λx=>bif x then (bK 138 (enc w.2) (enc w.2)).bind (λx=>bif x then Ss WL else Ss PO) else Ss PO)=_);rw[Yv,hd];rfl
theorem JJ{ts:List Tr}:(enc (cg ts):AV)=.tup [.str "choice",.none,.lst ((ts.map Tr.B).map enc)]:=by refine (?_:AV.tup [_,_,.lst (oH _)]=_);rw[n8];rfl
noncomputable def sb:FI:=⟨[("script",.loc),("cells",.loc),("digits",.loc),("high",.cell),("flags",.cell),("page",.loc),("digit",.loc),("rune",.loc),("at",.loc),("trees",.loc),("parts",.loc),("cell",.loc),("kept",.loc),("fresh",.loc),("first",.loc),("second",.loc),("before",.loc),("found",.loc),("old",.loc),("new",.loc)],["_law_many","_law_is_tidy","_law_ways","factored","FOLD_CASE","tree_concat","_law_digits","len","LATIN1","_law_rest"],WL⟩
noncomputable def abb:FI:=sb.bJ [] ["cell"] ["int"]
noncomputable def aba:FI:=sb.bJ [3,4] ["what"] ["_law_part"]
noncomputable def aa9:FI:=sb.bJ [] ["tree"] ["_law_read"]
noncomputable def aa8:FI:=sb.bJ [] ["tree"] ["_law_read"]
noncomputable def aa7:FI:=sb.bJ [] ["tree"] ["_law_read"]
theorem abc{x:AV}(e:bK 140 x x=Ss WL):ok (pM x x λb=>.leaf (AV.bool WL=.bool b)):=λG f=>yj f e rfl
theorem abn{g:Gx}(G:ED g):bQ g 191 (g.fa 68) JS:=by
 have hw:=(Ji G 0 61).aE (show 0+5+2*61<=190 by decide);have ht:=(Jh G 0 60).aE (show 0+5+60<=190 by decide);have hr:=(ahM G 0 60).aE (show 0+60<=190 by decide);have hm:=(ahO G 0 61).aE (show 0+61<=190 by decide);have hf:=(aaA G 0).aE (show 0+9<=190 by decide);exact (G.K (d:=190) (fi:=sb) 68 rfl (ae (sI 1 abb (gh (by decide +kernel) (by decide +kernel)) (cH (jG (ah 0) .none (.some aF))) (cN 20) iI (bC O.Eb (adX 0 G.toGOK (G.blt 2 rfl) (E.u 20)) (bC ad9 E.x E.x)) (λU U N=>rI N 1 rfl rfl rfl)) (ae (bg 1 (bC O.e9 (E.u 1) (Lw (L7 9 G.toGOK (G.ZV 51 rfl) ((ahL G 0).aE (AE))) (.some (cG 7 G.toGOK2 (ah 1))) .none))) (ae (bg 2 (cV G 6 53 rfl ((Iw G 0).aE (AE)) (aa (ax (aB (ah 1) aF)) (aa (a9 (aa E.x (aa E.x (aa E.x (aa E.x (aa E.x (aa E.x (aa E.x (aa E.x ag))))))))) ag)))) (ae (Lq (.cons (i:=3) rfl rfl (.cons (i:=4) rfl rfl .nil)) (dg (cE (tQ G (ax (aB (ah 2) aF)) E.x) E.x E.x) (dg (cE (tQ G (ax (aB (ah 2) aF)) E.x) (eG G 8 1 rfl) E.x) iH)) (λU U N=>Hi N ⟨_,.head _,3,_,_,rfl,rfl,N.ck rfl 3 _ rfl⟩)) (ae (bg 5 (a9 ag)) (ae (gF (cH (jG (ah 2) (.some aF) (.some (vB adH aF (aB (ah 2) aF))))) (cN 6) (ae (bg 7 (Lx (a9 (aa E.x (aa E.x (aa E.x (aa E.x (aa E.x (aa (E.u 3) (aa E.x ag)))))))) (ah 6))) (ae (bg 5 (cE (tQ G (E.u 7) E.x) (bC O.e9 (E.u 5) (a9 (aa (bD (aa (E.u 7) (aa E.x ag))) (aa (bD (aa (lT O.qF E.x) (aa E.x ag))) (aa (bD (aa (lT O.qF E.x) (aa E.x ag))) ag))))) (bC O.e9 (E.u 5) (a9 (aa (bD (aa (E.u 7) (aa E.x ag))) ag))))) af))) (ae (bg 8 (bC O.Eb (ax (aB (ah 2) aF)) (bC O.e9 (ax (cG 7 G.toGOK2 (ah 5))) E.x))) (ae (jE (names:=["trees","parts"]) (.cons (i:=10) rfl rfl (.cons (i:=9) rfl rfl .nil)) (dg (a9 ag) (dg (a9 ag) iH)) (λU U N=>jt N 9 10 rfl rfl rfl rfl rfl rfl rfl)) (ae (gF (cH (jG (ah 1) (.some aF) .none)) (cN 11) (ae (kE (.cons (i:=12) rfl rfl (.cons (i:=13) rfl rfl (.cons (i:=14) rfl rfl (.cons (i:=15) rfl rfl .nil)))) (cV G 6 53 rfl ((Iw G 0).aE (AE)) (aa (E.u 11) (aa (a9 (aa E.x (aa E.x (aa E.x (aa E.x ag))))) ag)))) (ae (bg 10 (bC O.e9 (jG (ah 10) .none (.some (ah 12))) (lW aba (gh (by decide +kernel) (by decide +kernel)) (cH (aep (bD (aa (E.u 14) (aa (E.u 15) ag))) (ah 13))) (cN 20) iI (cV G 0 54 rfl ((aax G 0).aE (Q4)) (aa (E.u 20) (aa (E.u 3) (aa (E.u 4) ag))))))) (ae (eF (g5 9 (cV G 5 13 rfl ((xB G 0).aE (Q3)) (aa (E.u 10) (aa (E.u 4) ag))))) af)))) (ae (sI 16 aa9 (gh (by decide +kernel) (by decide +kernel)) (cH (E.u 9)) (cN 20) iI (cV G 0 55 rfl hr (aa (E.u 20) ag)) (λU U N=>rI N 16 rfl rfl rfl)) (ae (sI 17 aa8 (gh (by decide +kernel) (by decide +kernel)) (cH (cV G 3 50 rfl hf (aa (E.u 9) (aa (cE (tQ G (ax (aB (ah 2) aF)) E.x) (bC O.sS (E.u 4) (eG G 4 0 rfl)) (E.u 4)) ag)))) (cN 20) iI (cV G 0 55 rfl hr (aa (E.u 20) ag)) (λU U N=>rI N 17 rfl rfl rfl)) (ae (jE (names:=["old","new"]) (.cons (i:=19) rfl rfl (.cons (i:=18) rfl rfl .nil)) (dg (bD (aa E.A (aa E.none (aa (E.u 16) ag)))) (dg (bD (aa E.A (aa E.none (aa (E.u 17) ag)))) iH)) (λU U N=>jt N 18 19 rfl rfl rfl rfl rfl rfl rfl)) (ae (aJ (bn (gk G.sm) (cV G 2 62 rfl hw (aa (E.u 18) (aa (E.u 5) (aa (E.u 8) (aa LK ag))))) (cV G 2 62 rfl hw (aa (E.u 19) (aa (E.u 5) (aa (E.u 8) (aa LK ag)))))) (ae (aA E.cK) af) af) (ae (aJ (cq (cY (sH (eT (cV G 1 67 rfl ht (aa (E.u 17) ag)))) (cY (bn O.gt (cV G 0 63 rfl hm (aa (E.u 19) ag)) (cV G 0 63 rfl hm (aa (E.u 18) ag))) iF))) (ae (aA E.cK) af) af) (ae (aA (cD (dh G.sm) (lW aa7 (gh (by decide +kernel) (by decide +kernel)) (cH (E.u 9)) (cN 20) iI (cV G 0 55 rfl hr (aa (E.u 20) ag))) (E.u 16))) af)))))))))))))))).to (Cf':=JS) λxs mem P hC=>by
  refine rx hC λs e e' hs hB h=>?_
  subst e;subst e';refine L6 (z:=.bool WL) ?_ h;refine λG f=>db (f rfl) ⟨CH s (.own (enc ((s.take 7).map λc=>c.fmod (10 ^ 12)))),[]⟩ (λK kk=>?_) ?_
  ·have l7:(s.take 7).length<=7:=VT ..;exact λG f=>iW enc (λc:Int=>c.fmod (10 ^ 12)) (l:=s.take 7) (λx=>⟨CH s .none++[x],[]⟩) .none (f (cM hs)) (Le l7 (by decide)) ((xE (k:=7)).trans (YU ..).symm) rfl (λb x m K Z hK G f=>hK (.val (.int b)) G (f WL tt (by decide))) λx G f=>kk G f
  have l7:((s.take 7).map λc:Int=>c.fmod (10 ^ 12)).length<=7:=by rw[K4];exact VT ..
  refine λG f=>db f ⟨CH s (.own (enc (qg s))),[]⟩ (λK kk=>?_) ?_
  ·have e1:(((s.take 7).map λc:Int=>c.fmod (10 ^ 12)).map (enc:Int->AV)).length=(s.take 7).length:=by rw[K4,K4]
   have p3:_<=3:=xF (([29403,57,66]:List Int).map (enc:Int->AV)) (Ss (((((s.take 7).map λc:Int=>c.fmod (10 ^ 12)).map (enc:Int->AV)).length:Nat):Int)) M4;have h7:(((s.take 7).map λc:Int=>c.fmod (10 ^ 12)).map (enc:Int->AV)).length<=7:=by rw[K4];exact l7
   unfold qg at kk;rw[show (enc (((s.take 7).map λc:Int=>c.fmod (10 ^ 12))++cx [(29403:Int),57,66] (Ss ((s.take 7).length:Int)) M4):AV)=.lst (((s.take 7).map λc:Int=>c.fmod (10 ^ 12)).map enc++cx (([29403,57,66]:List Int).map enc) (Ss (((((s.take 7).map λc:Int=>c.fmod (10 ^ 12)).map (enc:Int->AV)).length:Nat):Int)) M4) by rw[xG,e1];exact congrArg AV.lst wh] at kk;exact λG f=>kk G (f rfl (l9 rfl) (aq (Le l7 (by decide))) (Le (Zh h7 p3) (by decide)))
  refine dm (aa2 s) λc cs hc=>?_;have lc:=JD s;rw[hc] at lc;have lc:cs.length+1<=10:=lc;rw[hc];obtain⟨d0,d1,d2,d3,d4,d5,d6,d7,hd,b0,b1,b4,b5,b6,b7⟩:∃d0 d1 d2 d3 d4 d5 d6 d7,mT c [5,14,2,2,7,7,7,7]=[d0,d1,d2,d3,d4,d5,d6,d7]/\(0<=d0/\d0<5)/\(0<=d1/\d1<14)/\(0<=d4/\d4<7)/\(0<=d5/\d5<7)/\(0<=d6/\d6<7)/\(0<=d7/\d7<7):=
   ⟨_,_,_,_,_,_,_,_,rfl,iD (by decide),iD (by decide),iD (by decide),iD (by decide),iD (by decide),iD (by decide)⟩
  have hB:=λPs a fL ts hi fl e1 e2 e3 e4 e5 e6=>hB Ps a fL ts ⟨c,cs,d0,d1,d2,d3,[d4,d5,d6,d7],hi,fl,hc,hd,e1,e2,e3,e4,e5,e6⟩;refine λG f=>db f ⟨[.val (enc s),.own (enc (c::cs)),.val (enc [d0,d1,d2,d3,d4,d5,d6,d7]),.none,.none,.none,.none,.none,.none,.none,.none,.none,.none,.none,.none,.none,.none,.none,.none,.none],[]⟩ (λK kk=>?_) ?_
  ·rw[<- hd] at kk;exact λG f=>kk G (f (aq (Le lc (by decide))) _ (bW (k:=0) rfl rfl) c [5,14,2,2,7,7,7,7] rfl ⟨l9 rfl,by decide⟩)
  obtain⟨hi,wN⟩:∃hi:Int,hi=if (d2==1)=WL then 233 else 8490:=⟨_,rfl⟩
  obtain⟨fl,wO⟩:∃fl:Int,fl=if (d2==1)=WL then 32 else 0:=⟨_,rfl⟩
  have hB:=λPs a fL ts e3 e4 e5 e6=>hB Ps a fL ts hi fl wN wO e3 e4 e5 e6;refine λG f=>db f ⟨JR s (c::cs) [d0,d1,d2,d3,d4,d5,d6,d7] (.val (.int hi)) (.val (.int fl)) .none .none .none .none .none .none .none .none .none .none .none .none .none .none .none,[]⟩ (λK kk=>aC (d2==1) (λe=>?_) λe=>?_) ?_
  ·rw[e,MS rfl] at wN wO;subst wN;subst wO;exact λG f=>kk G (f ow _ (bW (k:=2) rfl rfl) WL e ow _ (bW (k:=2) rfl rfl) WL e)
  ·rw[e,MZ qH] at wN wO;subst wN;subst wO;exact λG f=>kk G (f ow _ (bW (k:=2) rfl rfl) PO e ow _ (bW (k:=2) rfl rfl) PO e)
  refine a7 (ZJ b0.1) λn0 y9=>?_;subst y9;generalize Fo:(([d4,d5,d6,d7]:List Int).take n0).foldl (gY hi) []=Ps;have lpg:Ps.length<=12:=by have:=CK (hi:=hi) (ds:=([d4,d5,d6,d7]:List Int).take n0) (pg:=[]);rw[Fo,Zo] at this;exact Le this (by refine (?_:0+3*min n0 4<=12);exact FX b0)
  refine λG f=>db f (sh ⟨s,c::cs,[(n0:Int),d1,d2,d3,d4,d5,d6,d7],hi,fl,[],.none,.none,0⟩ ([],.none,.none)) (λK kk=>kk) ?_;refine λG f=>rJ f (sh ⟨s,c::cs,[(n0:Int),d1,d2,d3,d4,d5,d6,d7],hi,fl,Ps,.none,.none,0⟩) (Jv hi Ps []) (λK kk=>?_) λz H=>?_
  ·have ep:cx (([(n0:Int),d1,d2,d3,d4,d5,d6,d7]:List Int).map (enc:Int->AV)) (Ss ((4:Nat):Int)) (Ss ((4+n0:Nat):Int))=(([d4,d5,d6,d7]:List Int).take n0).map enc:=by rw[BX (Q2 b0) (by refine (?_:4+n0<=8);exact QZ b0),YU];refine (?_:VA (4+n0-4) _=_);rw[Vn];rfl
   refine λG f=>gS enc (sh ⟨s,c::cs,[(n0:Int),d1,d2,d3,d4,d5,d6,d7],hi,fl,Ps,.none,.none,0⟩) (Jv hi Ps) (f (l9 rfl) ow _ (bW (k:=0) rfl rfl)) (([d4,d5,d6,d7]:List Int).take n0) ([],.none,.none) ep rfl ⟨λd hd=>?_,?_,Fo⟩ (λd ds z H=>?_) kk
   ·have:=Xj hd;simp only[K7,ZR,or_false] at this;rcases this with rfl|rfl|rfl|rfl<;>assumption
   ·rw[Zo];refine (?_:0+3*min n0 4<=12);exact FX b0
   ·clear f;obtain⟨pg,x6,x7⟩:=z;refine ce H λb l hh=>?_
    have l:pg.length+3*(ds.length+1)<=12:=l;refine ak (b d (.head _)) λN0 bd1=>?_;refine a7 (ZJ N0) λm y9=>?_;subst y9;have hm:m<7:=by exact QY bd1 N0
    have es:(sj hi)[m]?=Ss ((sj hi).getD m 0):=by rw[YF,Zs hm];rfl
    have hh:ds.foldl (gY hi) (gY hi pg (m:Int))=Ps:=hh;unfold gY at hh;rw[show ((m:Int)).toNat=m from rfl] at hh;generalize (sj hi).getD m 0=r at es hh;have lm:(pg.map (enc:Int×Int->AV)).length+3<=1000000:=by rw[K4];exact QW (by assumption)
    refine λG f=>db f (sh ⟨s,c::cs,[(n0:Int),d1,d2,d3,d4,d5,d6,d7],hi,fl,Ps,.none,.none,0⟩ (pg,.val (.int m),.val (.int r))) (λK kk G f=>kk G (f (show 7<2 ^ 62 by decide) _ (bW (dn es) rfl))) (aC (r==8490) (λcc=>?_) λcc=>?_)
    ·rw[MS cc] at hh;exact λG f=>f WL cc lm (.C (pg++[(r,3),(-1,1),(-1,1)],.val (.int m),.val (.int r)) ⟨λd hd=>b d (.tail _ hd),by rw[Es];refine (?_:pg.length+3+_<=_);exact QV (by assumption),hh⟩ (by unfold sh;rw[show (enc (pg++[(r,3),(-1,1),(-1,1)]):AV)=.lst (pg.map enc++([(r,3),(-1,1),(-1,1)]:Rg).map enc) from congrArg AV.lst wh];rfl))
    ·rw[MZ (by rw[cc];exact qH)] at hh;exact λG f=>f PO cc (Le (Xi (show 1<=3 by decide) _) lm) (.C (pg++[(r,1)],.val (.int m),.val (.int r)) ⟨λd hd=>b d (.tail _ hd),by rw[Es];refine (?_:pg.length+1+_<=_);exact QU (by assumption),hh⟩ (by unfold sh;rw[show (enc (pg++[(r,1)]):AV)=.lst (pg.map enc++([(r,1)]:Rg).map enc) from congrArg AV.lst wh];rfl))
  obtain⟨dy,x6,x7⟩:=z;refine ce H λU U hh=>?_
  obtain rfl:dy=Ps:=hh;have hB:=λfL ts e5 e6=>hB dy (d1.fmod (dy.length+1)) fL ts Fo.symm rfl e5 e6;generalize wP:lQ hi fl [] cs=ts at hB;generalize hat:d1.fmod (dy.length+1)=dZ at hB;refine λG f=>db f ⟨se ⟨s,c::cs,[(n0:Int),d1,d2,d3,d4,d5,d6,d7],hi,fl,dy,x6,x7,dZ⟩ (.own (enc dy)) (.val (.int dZ)) .none .none .none .none .none .none .none .none .none .none .none,[]⟩ (λK kk=>?_) ?_
  ·rw[<- hat,<- K4 (enc:Int×Int->AV)] at kk;exact λG f=>kk G (f ow _ (bW (k:=1) rfl rfl) (aq (Le lpg (by decide))) (QT))
  refine λG f=>db f (oz ⟨s,c::cs,[(n0:Int),d1,d2,d3,d4,d5,d6,d7],hi,fl,dy,x6,x7,dZ⟩ ⟨WL,[],[],.none,.none,.none,.none,.none⟩) (λK kk=>kk) ?_;refine λG f=>rJ f (oz ⟨s,c::cs,[(n0:Int),d1,d2,d3,d4,d5,d6,d7],hi,fl,dy,x6,x7,dZ⟩) (Jw hi fl ts []) (λK kk=>?_) λt H=>?_
  ·refine λG f=>gS enc (oz ⟨s,c::cs,[(n0:Int),d1,d2,d3,d4,d5,d6,d7],hi,fl,dy,x6,x7,dZ⟩) (Jw hi fl ts) (f (cM (l:=c::cs) (Le lc (by decide)))) cs ⟨WL,[],[],.none,.none,.none,.none,.none⟩ xD rfl ⟨zJ _,by refine (?_:0+cs.length<=_);exact QS lc,wP⟩ (λc' N4 t H=>?_) kk;clear f;obtain⟨o,ps,acc,ig,dO,kJ,dw,Zt⟩:=t;obtain⟨lp,l,hh⟩:=H;have l:acc.length+(N4.length+1)<=10:=l;have lp:ps.length<=4:=lp;have hh:acc++dF (gZ hi fl ps c') fl::lQ hi fl (gZ hi fl ps c') N4=ts:=hh;refine λG f=>rJ f (λz:Int×Int×Int×Int=>oz ⟨s,c::cs,[(n0:Int),d1,d2,d3,d4,d5,d6,d7],hi,fl,dy,x6,x7,dZ⟩ ⟨o,ps,acc,.val (.int c'),.val (.int z.1),.val (.int z.2.1),.val (.int z.2.2.1),.val (.int z.2.2.2)⟩) (λz=>mT c' [3,3,35,35]=[z.1,z.2.1,z.2.2.1,z.2.2.2]/\(0<=z.1/\z.1<3)/\(0<=z.2.1/\z.2.1<3)/\(0<=z.2.2.1/\z.2.2.1<35)/\(0<=z.2.2.2/\z.2.2.2<35)) (λK kk G f=>kk (_,_,_,_) ⟨rfl,iD (by decide),iD (by decide),iD (by decide),iD (by decide)⟩ G (f c' [3,3,35,35] rfl ⟨l9 rfl,by decide⟩)) λz hz=>?_;obtain⟨k,f0,wa,wb⟩:=z;refine tM hz λpd bk bf ba bb=>?_
   dsimp only at pd bk bf ba bb ⊢;have eps:gZ hi fl ps c'=ps.take k.toNat++([wa,wb].take f0.toNat).map λw=>gD hi fl w.toNat:=by unfold gZ;rw[pd]
   rw[eps] at hh;refine a7 (ZJ bk.1) λk y9=>?_;subst y9;refine a7 (ZJ bf.1) λf0 y9=>?_;subst y9;rw[show ((k:Int)).toNat=k from rfl,show ((f0:Int)).toNat=f0 from rfl] at hh;have bk:k<3:=by exact QR bk
   have lw:([wa,wb].take f0).length<=2:=Vq ..;have bw:∀b∈[wa,wb].take f0,0<=b/\b<35:=λb m=>by
    have m:=Xj m;rcases K7.mp m with rfl|m
    ·exact ba
    ·rcases K7.mp m with rfl|m
     ·exact bb
     ·exact MQ m ZR
   have lq:(ps.take k++([wa,wb].take f0).map λw=>gD hi fl w.toNat).length<=4:=by rw[Es,K4,Zo];exact QQ (by assumption) lw lp
   refine λG f=>db f (oz ⟨s,c::cs,[(n0:Int),d1,d2,d3,d4,d5,d6,d7],hi,fl,dy,x6,x7,dZ⟩ ⟨WL,ps.take k++([wa,wb].take f0).map λw=>gD hi fl w.toNat,acc,.val (.int c'),.val (.int k),.val (.int f0),.val (.int wa),.val (.int wb)⟩) (λK kk=>?_) ?_
   ·have tk:(ps.take k).map (enc:Tr->AV)=cx (ps.map enc) M4 (Ss (k:Int)):=by rw[xE,YU]
    unfold oz at kk;rw[show (enc (ps.take k++([wa,wb].take f0).map λw:Int=>gD hi fl w.toNat):AV)=.lst (cx (ps.map enc) M4 (Ss (k:Int))++(([wa,wb].take f0).map λw:Int=>gD hi fl w.toNat).map enc) from tk▸congrArg AV.lst wh] at kk;have lp':(ps.map (enc:Tr->AV)).length<=1000000:=by rw[K4];exact QO lp
    induction o<;>exact λG f=>iW enc (λw:Int=>gD hi fl w.toNat) (l:=[wa,wb].take f0) (λx=>⟨(oz ⟨s,c::cs,[(n0:Int),d1,d2,d3,d4,d5,d6,d7],hi,fl,dy,x6,x7,dZ⟩ ⟨_,ps,acc,.val (.int c'),.val (.int k),.val (.int f0),.val (.int wa),.val (.int wb)⟩).aD++[x],[]⟩) .none (f lp' (Yn _) (l9 rfl)) (Le lw (by decide)) (YU (f:=enc) (l:=[wa,wb]) (i:=f0)).symm rfl (λb x m K Z hK G f=>hK (.val (.int b)) G (f WL tt b hi fl rfl (bw b m))) λx G f=>kk G (f (by rw[<- tk,K4,K4,K4,Zo];exact QP (by assumption) lw lp))
   generalize (ps.take k++([wa,wb].take f0).map λw=>gD hi fl w.toNat)=qs at lq hh ⊢;exact λG f=>f (by rw[K4];exact QN (by assumption)) qs fl rfl (Le lq (by decide)) (.C ⟨PO,qs,acc++[dF qs fl],.val (.int c'),.val (.int k),.val (.int f0),.val (.int wa),.val (.int wb)⟩ ⟨lq,by rw[Es];refine (?_:acc.length+1+_<=_);exact QL l,by rw[zx];exact hh⟩ (by unfold oz;rw[show (enc (acc++[dF qs fl]):AV)=.lst (acc.map enc++[enc (dF qs fl)]) from congrArg AV.lst iy];rfl))
  obtain⟨o,ps,acc,ig,dO,kJ,dw,Zt⟩:=t;obtain⟨_,_,hh⟩:=H;obtain rfl:acc=ts:=by rw[<- hh];exact (zB _).symm
  refine dm (hB (if (d3==1)=WL then dM fl 1 else fl) acc rfl rfl) λEM N F=>?_;refine λG f=>db f ⟨qi ⟨s,c::cs,[(n0:Int),d1,d2,d3,d4,d5,d6,d7],hi,fl,dy,x6,x7,dZ⟩ ⟨.val (enc acc),iU o (enc ps),ig,dO,kJ,dw,Zt⟩ (.own (enc (acc.map Tr.B))) .none .none .none,[]⟩ (λK kk G f=>iW enc Tr.B (l:=acc) (λx=>⟨qi ⟨s,c::cs,[(n0:Int),d1,d2,d3,d4,d5,d6,d7],hi,fl,dy,x6,x7,dZ⟩ ⟨.val (enc acc),iU o (enc ps),ig,dO,kJ,dw,Zt⟩ .none .none .none .none++[x],[]⟩) .none f F.sm rfl rfl (λb x m K Z hK G f=>hK (.val (enc b)) G (f WL tt b rfl (F.rt b m))) λx G f=>kk G f) ?_;refine λG f=>db f ⟨qi ⟨s,c::cs,[(n0:Int),d1,d2,d3,d4,d5,d6,d7],hi,fl,dy,x6,x7,dZ⟩ ⟨.val (enc acc),iU o (enc ps),ig,dO,kJ,dw,Zt⟩ (.own (enc (acc.map Tr.B))) (.own (enc (EM.map Tr.B))) .none .none,[]⟩ (λK kk=>?_) ?_
  ·have tz:=F.afy;exact aC (d3==1) (λcc=>by
    rw[MS cc] at tz;exact λG f=>iW enc Tr.B (l:=EM) (λx=>⟨qi ⟨s,c::cs,[(n0:Int),d1,d2,d3,d4,d5,d6,d7],hi,fl,dy,x6,x7,dZ⟩ ⟨.val (enc acc),iU o (enc ps),ig,dO,kJ,dw,Zt⟩ (.own (enc (acc.map Tr.B))) .none .none .none++[x],[]⟩) .none (f ow _ (bW (k:=3) rfl rfl) WL cc ⟨acc,_,EM,N⟩ rfl ⟨F.sm,tz.1,tz.2⟩) F.ra.1 rfl rfl (λb x m K Z hK G f=>hK (.val (enc b)) G (f WL tt b rfl (F.ra.2 b m))) λx G f=>kk G f) λcc=>by
    rw[MZ (by rw[cc];exact qH)] at tz;exact λG f=>iW enc Tr.B (l:=EM) (λx=>⟨qi ⟨s,c::cs,[(n0:Int),d1,d2,d3,d4,d5,d6,d7],hi,fl,dy,x6,x7,dZ⟩ ⟨.val (enc acc),iU o (enc ps),ig,dO,kJ,dw,Zt⟩ (.own (enc (acc.map Tr.B))) .none .none .none++[x],[]⟩) .none (f ow _ (bW (k:=3) rfl rfl) PO cc ⟨acc,_,EM,N⟩ rfl ⟨F.sm,tz.1,tz.2⟩) F.ra.1 rfl rfl (λb x m K Z hK G f=>hK (.val (enc b)) G (f WL tt b rfl (F.ra.2 b m))) λx G f=>kk G f
  refine λG f=>db f ⟨qi ⟨s,c::cs,[(n0:Int),d1,d2,d3,d4,d5,d6,d7],hi,fl,dy,x6,x7,dZ⟩ ⟨.val (enc acc),iU o (enc ps),ig,dO,kJ,dw,Zt⟩ (.val (enc (acc.map Tr.B))) (.val (enc (EM.map Tr.B))) (.val (enc (cg acc))) (.val (enc (cg EM))),[]⟩ (λK kk=>by rw[JJ,JJ] at kk;exact kk) ?_;have e0:bK 140 (enc (i8 (cg acc) dy dZ ⟨[]⟩)) (enc (i8 (cg EM) dy dZ ⟨[]⟩))=Ss WL:=by rw[F.eq];exact abM (u6 F.w2.p F.w2.kS dZ ⟨[]⟩ F.w2.a F.w2.g).1
  refine λG f=>db f ⟨se ⟨s,c::cs,[(n0:Int),d1,d2,d3,d4,d5,d6,d7],hi,fl,dy,x6,x7,dZ⟩ (.val (enc dy)) (.val (.int dZ)) (.val (enc acc)) (iU o (enc ps)) ig dO kJ dw Zt (.val (enc (acc.map Tr.B))) (.val (enc (EM.map Tr.B))) (.val (enc (cg acc))) (.val (enc (cg EM))),[]⟩ (λK kk G f=>kk G (yj (f (cg acc) dy dZ ⟨[]⟩ rfl F.w1 (cg EM) dy dZ ⟨[]⟩ rfl F.w2) e0 PO ff)) ?_;refine λG f=>db f ⟨se ⟨s,c::cs,[(n0:Int),d1,d2,d3,d4,d5,d6,d7],hi,fl,dy,x6,x7,dZ⟩ (.val (enc dy)) (.val (.int dZ)) (.val (enc acc)) (iU o (enc ps)) ig dO kJ dw Zt (.val (enc (acc.map Tr.B))) (.val (enc (EM.map Tr.B))) (.val (enc (cg acc))) (.val (enc (cg EM))),[]⟩ (λK kk G f=>kk G (f (EM.map Tr.B) rfl F.afz PO ff (cg EM) rfl F.m2 (cg acc) rfl F.m1 PO (decide_eq_false (Yw.mpr F.dD)) PO ff)) ?_;have e1:bK 140 (enc (acc.map Tr.B)) (enc (acc.map Tr.B))=Ss WL:=by refine JT (f:=bK 139) λx hx=>?_;refine aj (zK.mp hx) λn hn y9=>?_;subst y9;refine aj (zK.mp hn) λt htt y9=>?_;subst y9;refine ak (F.gH t htt) λn1 n2=>?_;refine aj (uY 60 t.B t.B n2 n1 n1 139 (by decide)) λb e i=>?_;rw[e,i.mpr rfl]
  exact λG f=>iW enc Tr.B (l:=acc) (λx=>⟨se ⟨s,c::cs,[(n0:Int),d1,d2,d3,d4,d5,d6,d7],hi,fl,dy,x6,x7,dZ⟩ (.val (enc dy)) (.val (.int dZ)) (.val (enc acc)) (iU o (enc ps)) ig dO kJ dw Zt (.val (enc (acc.map Tr.B))) (.val (enc (EM.map Tr.B))) (.val (enc (cg acc))) (.val (enc (cg EM)))++[x],[]⟩) .none f F.sm rfl rfl (λb x m K Z hK G f=>hK (.val (enc b)) G (f WL tt b rfl (F.rt b m))) λx G f=>abc e1 G f
noncomputable def cj(e:Int)(ws:List aH):Bool:=ws.any (·.1==e)
set_option tactic.hygienic true in
theorem abK{acc:List aH}{w:aH}{e:Int}:cj e (gT acc w)=(cj e acc||(w.1==e)):=by
 unfold gT;split
 ·rename_i h;by_cases q:w.1=e
  ·subst q;rw[show cj w.1 acc=WL from h];rfl
  ·rw[beq_eq_false_iff_ne.mpr q,Zk]
 ·unfold cj;rw[Xo,YC,List.any_nil,Zk]
theorem CD{ws:List aH}{e:Int}:∀{acc:List aH},cj e (ws.foldl gT acc)=(cj e acc||cj e ws):=by
 induction ws with
 |nil=>intro acc;exact (Zk _).symm
 |cons w ws ih=>intro acc;rw[YA,ih,abK,Xz];rfl
noncomputable def dU(acc:List aH):List aH->List aH
 |[]=>[]
 |w::ws=>if cj w.1 acc then dU acc ws else w::dU (acc++[w]) ws
theorem ox{acc:List aH}{w:aH}{ws:List aH}:dU acc (w::ws)=if cj w.1 acc then dU acc ws else w::dU (acc++[w]) ws:=rfl
theorem vb{ws:List aH}:∀{acc:List aH},ws.foldl gT acc=acc++dU acc ws:=by
 induction ws with
 |nil=>intro acc;exact (zB _).symm
 |cons w ws ih=>
  intro acc;rw[YA];rw[ox];by_cases h:cj w.1 acc=WL
  ·rw[MS h,show gT acc w=acc from MS h];exact ih
  ·rw[MZ h,show gT acc w=acc++[w] from MZ h,ih,zx];rfl
theorem CI{ws:List aH}:∀{a b:List aH},(∀e,cj e a=cj e b)->dU a ws=dU b ws:=by
 induction ws with
 |nil=>intro a b h;rfl
 |cons w ws ih=>
  intro a b h;rw[ox,ox,h w.1];by_cases q:cj w.1 b=WL
  ·rw[MS q,MS q];exact ih h
  ·rw[MZ q,MZ q];congr 1;exact ih λe=>by unfold cj at h ⊢;rw[Xo,Xo,h e]
theorem jB(ws:List aH):cy ws=dU [] ws:=(vb (acc:=[])).trans (YR _)
theorem yF{xs ys:List aH}:∀{acc:List aH},dU acc (xs++ys)=dU acc xs++dU (acc++xs) ys:=by intro acc;have h:=(vb (ws:=xs++ys) (acc:=acc)).symm;rw[List.foldl_append,vb (ws:=xs),vb,zx] at h;rw[List.append_cancel_left h];congr 1;refine CI λe=>?_;have:=CD (ws:=xs) (e:=e) (acc:=acc);rw[vb] at this;rw[this];unfold cj;rw[Xo]
abbrev dc(xs ys:List aH):Prop:=cy xs=cy ys
theorem abF{xs ys:List aH}(h:dc xs ys)(e:Int):cj e xs=cj e ys:=by have a:=CD (ws:=xs) (e:=e) (acc:=[]);have b:=CD (ws:=ys) (e:=e) (acc:=[]);have:cj e (xs.foldl gT [])=cj e (ys.foldl gT []):=congrArg (cj e) h;rw[a,b] at this;exact this
theorem vc{e:Int}{a b:List aH}:cj e (a++b)=(cj e a||cj e b):=Xo
theorem JV{a us:List aH}:∀{acc:List aH},dU (a++acc) us=(dU acc us).filter λw=>!cj w.1 a:=by
 induction us with
 |nil=>intro acc;rfl
 |cons w us ih=>
  intro acc;rw[ox,ox,vc];cases h:cj w.1 acc with
  |true=>rw[WF,MS rfl,MS rfl];exact ih
  |false=>
   rw[Zk,MZ qH];cases q:cj w.1 a with
   |true=>
    rw[MS rfl,ak3 (by rw[q];exact qH),<- ih];exact CI λe=>by
     rw[vc,vc,vc];by_cases z:w.1=e
     ·subst z;rw[q];rfl
     ·rw[show cj e [w]=PO from by unfold cj;rw[YC,List.any_nil,beq_eq_false_iff_ne.mpr z];rfl,Zk]
   |false=>rw[MZ qH,ak2 (by rw[q];rfl),zx,ih]
theorem dc.fp{xs ys us vs:List aH}(h:dc xs ys)(k:dc us vs):dc (xs++us) (ys++vs):=by unfold dc at h k ⊢;rw[jB,jB] at h k ⊢;rewrite [yF,yF,h,YR,YR];congr 1;rewrite [<- zB xs,<- zB ys,JV,JV,k];congr 1;funext w;rewrite [abF (xs:=xs) (ys:=ys) (by unfold dc;rewrite [jB,jB,h];rfl)];rfl
def EI(f:bh):Prop:=∀a g g',(f a g).map (·.1)=(f a g').map (·.1)
abbrev bi(xs:List aH)(f:bh):List aH:=xs.flatMap λw=>f w.1 w.2
theorem CF{e:Int}{ws:List aH}:cj e ws=WL↔e∈ws.map (·.1):=by unfold cj;rw[Z7,zK];exact⟨λ⟨w,a,b⟩=>⟨w,a,zH b⟩,λ⟨w,a,b⟩=>⟨w,a,K5.mpr b⟩⟩
theorem abm{ws:List aH}:∀{acc:List aH},(∀w∈ws,cj w.1 acc=WL)->dU acc ws=[]:=by
 induction ws with
 |nil=>intro acc _;rfl
 |cons w ws ih=>intro acc h;rw[ox,MS (h w (.head _))];exact ih λv hv=>h v (.tail _ hv)
theorem CY{f:bh}(hf:EI f){xs:List aH}:∀{acc:List aH},dU (bi acc f) (bi xs f)=dU (bi acc f) (bi (dU acc xs) f):=by
 induction xs with
 |nil=>intro acc;rfl
 |cons w xs ih=>
  intro acc;rw[show dU acc (w::xs)=if cj w.1 acc then dU acc xs else w::dU (acc++[w]) xs from rfl];rw[show bi (w::xs) f=f w.1 w.2++bi xs f from Zw,yF];by_cases h:cj w.1 acc=WL
  ·rw[MS h];refine aj (Z7.mp h) λu hu e=>?_;have e:=zH e;have wQ:∀v∈f w.1 w.2,cj v.1 (bi acc f)=WL:=λv hv=>by
    rw[CF];have:v.1∈(f u.1 u.2).map (·.1):=by rw[e,hf w.1 u.2 w.2];exact al8 hv
    refine aj (zK.mp this) λz hz q=>?_;exact zK.mpr ⟨z,amQ.mpr ⟨u,hu,hz⟩,q⟩
   rw[abm wQ,YR,<- ih];refine CI λd=>?_;rw[vc];cases q:cj d (f w.1 w.2) with
   |false=>exact Zk _
   |true=>refine aj (Z7.mp q) λv hv z=>?_;have:=wQ v hv;rw[zH z] at this;rw[this];rfl
  ·rw[MZ h,show bi (w::dU (acc++[w]) xs) f=f w.1 w.2++bi (dU (acc++[w]) xs) f from Zw,yF];congr 1;have:=ih (acc:=acc++[w]);rw[show bi (acc++[w]) f=bi acc f++f w.1 w.2 from by unfold bi;rw[ZA,Zw,VG,zB]] at this;exact this
theorem zg{xs:List aH}:dc (cy xs) xs:=by
 have:=CY (f:=λa g=>[(a,g)]) (λU U U=>rfl) (xs:=xs) (acc:=[]);have e:∀l:List aH,bi l (λa g=>[(a,g)])=l:=λl=>by
  induction l with
  |nil=>rfl
  |cons w l ih=>exact congrArg (w::·) ih
 rw[e,e,e] at this;unfold dc;rw[jB (cy xs),jB xs];exact this.symm
theorem dc.qS{f:bh}(hf:EI f){xs ys:List aH}(h:dc xs ys):dc (bi xs f) (bi ys f):=by unfold dc;rewrite [jB,jB,show ([]:List aH)=Mine.Internal.bi [] f from rfl,CY hf,CY hf (xs:=ys),<- jB,<- jB,h];rfl
theorem Mj{xs:List aH}{f f':bh}(h:∀w∈xs,dc (f w.1 w.2) (f' w.1 w.2)):dc (Mine.Internal.bi xs f) (Mine.Internal.bi xs f'):=by
 induction xs with
 |nil=>rfl
 |cons w xs ih=>rw[show Mine.Internal.bi (w::xs) f=f w.1 w.2++Mine.Internal.bi xs f from Zw,show Mine.Internal.bi (w::xs) f'=f' w.1 w.2++Mine.Internal.bi xs f' from Zw];exact (h w (.head _)).fp (ih λv hv=>h v (.tail _ hv))
abbrev En(xs ys:List aH):Prop:=xs.map (·.1)=ys.map (·.1)
theorem En.fp{xs ys us vs:List aH}(h:En xs ys)(k:En us vs):En (xs++us) (ys++vs):=by unfold En;rw[wh,wh,h,k]
theorem En.qS{f:bh}(hf:EI f):∀{xs ys:List aH},En xs ys->En (Mine.Internal.bi xs f) (Mine.Internal.bi ys f)
 |[],[],j4=>rfl
 |x::xs,y::ys,h=>by
  refine ak (dj h) λh1 h2=>?_;have a:En (f x.1 x.2) (f y.1 y.2):=by rw[show x.1=y.1 from h1];exact hf _ _ _
  exact a.fp (En.qS hf h2)
 |[],j4::j5,h=>by exact fO h
 |j4::j5,[],h=>by exact fN h
theorem En.qM:∀{xs ys a b:List aH},En xs ys->En a b->En (Mine.Internal.dU a xs) (Mine.Internal.dU b ys)
 |[],[],j4,j5,j6,j7=>rfl
 |x::xs,y::ys,a,b,h,k=>by
  refine ak (dj h) λh1 h2=>?_;have e:cj x.1 a=cj y.1 b:=by rw[show x.1=y.1 from h1];exact Y9.mpr (by rw[CF,CF,k])
  rw[ox,ox,e];by_cases q:cj y.1 b=WL
  ·rw[MS q,MS q];exact En.qM h2 k
  ·rw[MZ q,MZ q];refine (?_:x.1::_=y.1::_);rw[show x.1=y.1 from h1];congr 1;exact En.qM h2 (k.fp (by refine (?_:[x.1]=[y.1]);rw[show x.1=y.1 from h1]))
 |[],j4::j5,j6,j7,h,j8=>by exact fO h
 |j4::j5,[],j6,j7,h,j8=>by exact fN h
theorem En.EE{xs ys:List aH}(h:En xs ys):En (Mine.Internal.cy xs) (Mine.Internal.cy ys):=by rw[jB,jB];exact h.qM rfl
theorem CV{f:bh}{lo hi:Int}{lz:Bool}{n:Nat}{pv:Int}{g:Gr}{done:Int}:eP f lo hi lz (n+1) pv g done=(if (decide (done≥lo)&&lz)=WL then[(pv,g)] else[])++((if (done==hi)=WL then[] else (f pv g).flatMap λw=>eP f lo hi lz n w.1 w.2 (done+1))++(if (decide (done≥lo)&&!lz)=WL then[(pv,g)] else[])):=rfl
theorem abz{f:bh}(hf:EI f){lo hi:Int}{lz:Bool}:∀(n:Nat) (a:Int) (g g':Gr) (d:Int),En (eP f lo hi lz n a g d) (eP f lo hi lz n a g' d):=by
 intro n;induction n with
 |zero=>intros;rfl
 |succ n ih=>
  intro a g g' d;rw[CV,CV];refine En.fp (by split<;>rfl) (En.fp ?_ (by split<;>rfl));split
  ·rfl
  ·exact En.qS (f:=λx y=>eP f lo hi lz n x y (d+1)) (λx y y'=>ih x y y' (d+1)) (hf a g g')
theorem J8{fs:List bh}:∀{xs ys:List aH},(∀f∈fs,EI f)->En xs ys->En (hW fs xs) (hW fs ys):=by
 induction fs with
 |nil=>intro xs ys _ h;exact h
 |cons f fs ih=>intro xs ys h k;exact ih (λg hg=>h g (.tail _ hg)) ((k.qS (h f (.head _))).EE)
theorem abA{Ps:Rg}{k:Kd}{fs:List bh}(h:∀f∈fs,EI f):EI (qd Ps k fs):=by
 intro a g g';have hd:EI (fs.headD λU U=>[]):=by induction fs using K1 with|nil=>intro _ _ _;rfl|cons f fs=>exact h f (.head _)
 have lf:∀rg one,En (gW Ps rg one a g) (gW Ps rg one a g'):=λrg one=>by unfold gW;split<;>rfl
 induction k with
 |text rs f=>refine (?_:((dt Ps f rs a).toList.map λe=>(e,g)).map (·.1)=_);rw[Za];refine (?_:_=((dt Ps f rs a).toList.map λe=>(e,g')).map (·.1));rw[Za];rfl
 |place op=>show En (if _ then _ else _) (if _ then _ else _);split<;>rfl
 |set rg=>exact lf _ _
 |any=>exact lf _ _
 |octet=>exact lf _ _
 |none=>rfl
 |times lo hi lz=>exact (abz hd _ a g g' 0).EE
 |choice=>
  refine En.EE ?_;refine (?_:En (fs.flatMap λf=>f a g) (fs.flatMap λf=>f a g'));induction fs with
  |nil=>rfl
  |cons f fs ih=>exact En.fp (h f (.head _) a g g') (ih (λq hq=>h q (.tail _ hq)) (by induction fs using K1 with|nil=>intro _ _ _;rfl|cons u us=>exact h u (.tail _ (.head _))))
 |row=>exact J8 h (by rfl)
 |group c nm=>have:=J8 h (xs:=[(a,g)]) (ys:=[(a,g')]) rfl;refine (?_:((hW fs [(a,g)]).map _).map _=((hW fs [(a,g')]).map _).map _);rw[Za,Za];exact this
theorem CW(Ps:Rg)(n:N):EI (n.R Ps):=
 N.rec (motive_1:=λn=>EI (n.R Ps)) (motive_2:=λl=>∀f∈gn Ps l,EI f)
  (λk l ih=>abA ih) (λf h=>by exact aT h) (λt ts h1 h2 f hf=>by
   rcases K7.mp hf with e|e
   ·rw[e];exact h1
   ·exact h2 f e) n
noncomputable def dK:List bh->bh
 |[],a,g=>[(a,g)]
 |f::fs,a,g=>bi (f a g) (dK fs)
noncomputable def eE(fs:List bh):bh:=λa g=>fs.flatMap λf=>f a g
theorem vm{xs:List aH}{f h:bh}:bi (bi xs f) h=bi xs λa g=>bi (f a g) h:=List.flatMap_assoc
theorem CR:∀{fs:List bh},(∀f∈fs,EI f)->EI (dK fs)
 |[],j4=>λU U U=>rfl
 |f::fs,h=>λa g g'=>En.qS (CR λq hq=>h q (.tail _ hq)) (h f (.head _) a g g')
theorem JE:∀{fs:List bh},(∀f∈fs,EI f)->EI (eE fs)
 |[],j4=>λU U U=>rfl
 |f::fs,h=>λa g g'=>En.fp (h f (.head _) a g g') (JE (λq hq=>h q (.tail _ hq)) a g g')
theorem qp:∀{ys:List aH},bi ys (dK [])=ys
 |[]=>rfl
 |w::l=>congrArg (w::·) qp
theorem abC{fs:List bh}:∀{xs ys:List aH},(∀f∈fs,EI f)->dc xs ys->dc (hW fs xs) (bi ys (dK fs)):=by
 induction fs with
 |nil=>intro xs ys _ h;rw[show bi ys (dK [])=ys from qp];exact h
 |cons f fs ih=>intro xs ys hf h;refine (?_:dc (hW fs (cy (bi xs f))) _);rw[show bi ys (dK (f::fs))=bi (bi ys f) (dK fs) from vm.symm];exact ih (λq hq=>hf q (.tail _ hq)) (Yx zg (h.qS (hf f (.head _))))
mutual
noncomputable def Tr.aR(Ps:Rg):Tr->bh
 |.mk nd eI=>if nd.op==5 then dK (nw Ps eI) else if nd.op==6 then eE (nw Ps eI) else (Tr.mk nd eI).B.R Ps
noncomputable def nw(Ps:Rg):List Tr->List bh
 |[]=>[]
 |t::ts=>Tr.aR Ps t::nw Ps ts
end
theorem CM{Ps:Rg}:∀{ts:List Tr},nw Ps ts=ts.map (Tr.aR Ps)
 |[]=>rfl
 |t::ts=>congrArg (t.aR Ps::·) CM
theorem abB{Ps:Rg}:∀{ns:List N},gn Ps ns=ns.map (N.R Ps)
 |[]=>rfl
 |t::ts=>congrArg (t.R Ps::·) abB
theorem abx:∀{ts:List Tr},nu ts=ts.map Tr.B
 |[]=>rfl
 |t::ts=>congrArg (t.B::·) abx
class inductive om:List bh->List bh->Prop
 |nil:om [] []
 |cons {f f':bh}{fs cJ:List bh}:EI f->EI f'->(∀a g,dc (f a g) (f' a g))->om fs cJ->om (f::fs) (f'::cJ)
theorem om.ei{fs cJ:List bh}(h:om fs cJ):(∀f∈fs,EI f)/\∀f∈cJ,EI f:=by
 induction h with
 |nil=>exact⟨λf h=>(ZR h).elim,λf h=>(ZR h).elim⟩
 |cons a b _ _ ih=>exact⟨λq hq=>by rcases K7.mp hq with e|e;(rw[e];exact a);exact ih.1 q e,λq hq=>by rcases K7.mp hq with e|e;(rw[e];exact b);exact ih.2 q e⟩
theorem om.Ev{fs cJ:List bh}(h:om fs cJ):∀a g,dc (dK fs a g) (dK cJ a g):=by
 induction h with
 |nil=>intros;rfl
 |cons a b c d ih=>intro x g;exact Yx ((c x g).qS (CR d.ei.1)) (Mj λw U=>ih w.1 w.2)
theorem om.ch{fs cJ:List bh}(h:om fs cJ):∀a g,dc (eE fs a g) (eE cJ a g):=by
 induction h with
 |nil=>intros;rfl
 |cons a b c d ih=>intro x g;exact (c x g).fp (ih x g)
theorem abj{nd:Nd}{l:List Tr}(h:nd.op=5):(Tr.mk nd l).B=.mk .row (nu l):=by have:(Tr.mk nd l).I=.row:=mX h;unfold Tr.B;rw[this];rfl
theorem abi{nd:Nd}{l:List Tr}(h:nd.op=6):(Tr.mk nd l).B=.mk .choice (nu l):=by have:(Tr.mk nd l).I=.choice:=mX h;unfold Tr.B;rw[this];rfl
theorem si{Ps:Rg}{nd:Nd}{l:List Tr}:(Tr.mk nd l).aR Ps=if nd.op==5 then dK (nw Ps l) else if nd.op==6 then eE (nw Ps l) else (Tr.mk nd l).B.R Ps:=rfl
theorem JY(Ps:Rg)(t:Tr):EI (t.aR Ps)/\∀a g,dc (t.B.R Ps a g) (t.aR Ps a g):=
 Tr.rec (motive_1:=λt=>EI (t.aR Ps)/\∀a g,dc (t.B.R Ps a g) (t.aR Ps a g)) (motive_2:=λl=>om (gn Ps (nu l)) (nw Ps l))
  (λnd l ih=>by
   by_cases h:nd.op=5
   ·have e:(Tr.mk nd l).aR Ps=dK (nw Ps l):=by rw[si,MS (K5.mpr h)]
    rw[e,abj h];refine⟨CR ih.ei.2,λa g=>?_⟩;have:=abC (xs:=[(a,g)]) (ys:=[(a,g)]) ih.ei.1 rfl;rw[show bi [(a,g)] (dK (gn Ps (nu l)))=dK (gn Ps (nu l)) a g from zB _] at this;exact Yx this (ih.Ev a g)
   ·by_cases h6:nd.op=6
    ·have e:(Tr.mk nd l).aR Ps=eE (nw Ps l):=by rw[si,MZ (by rw[K5];exact h),MS (K5.mpr h6)]
     rw[e,abi h6];exact⟨JE ih.ei.2,λa g=>Yx zg (ih.ch a g)⟩
    ·have e:(Tr.mk nd l).aR Ps=(Tr.mk nd l).B.R Ps:=by rw[si,MZ (by rw[K5];exact h),MZ (by rw[K5];exact h6)]
     rw[e];exact⟨CW _ _,λU U=>rfl⟩)
  .nil (λt ts h1 h2=>.cons (CW _ _) h1.1 h1.2 h2) t
abbrev jb(Ps:Rg)(rs:List Int)(f:Bool):bh:=λa g=>(dt Ps f rs a).toList.map λe=>(e,g)
theorem JU{Ps:Rg}{f:Bool}{ys:List Int}:∀{xs:List Int}{a:Int},dt Ps f (xs++ys) a=(dt Ps f xs a).bind (dt Ps f ys)
 |[],a=>rfl
 |x::xs,a=>by
  show (if _ then _ else if _ then _ else dt Ps f (xs++ys) _)=(if _ then _ else if _ then _ else dt Ps f xs _:Option Int).bind _;split
  ·rfl
  ·split
   ·rfl
   ·exact JU
theorem Kg{Ps:Rg}{f:Bool}{xs ys:List Int}{a:Int}{g:Gr}:jb Ps (xs++ys) f a g=bi (jb Ps xs f a g) (jb Ps ys f):=by
 refine (?_:((dt Ps f (xs++ys) a).toList.map λe=>(e,g))=_);rw[JU];refine (?_:_=bi ((dt Ps f xs a).toList.map λe=>(e,g)) (jb Ps ys f));cases dt Ps f xs a with
 |none=>rfl
 |some b=>exact (zB _).symm
theorem Ki{a:Int}{g:Gr}{f:bh}:bi [(a,g)] f=f a g:=zB _
theorem CS{gs:List bh}:∀{fs:List bh}{a:Int}{g:Gr},dK (fs++gs) a g=bi (dK fs a g) (dK gs)
 |[],a,g=>Ki.symm
 |f::fs,a,g=>by refine (?_:bi (f a g) (dK (fs++gs))=bi (bi (f a g) (dK fs)) (dK gs));rw[vm];congr 1;funext x y;exact CS
theorem CT{f:bh}{a:Int}{g:Gr}:dK [f] a g=f a g:=by refine (?_:bi (f a g) (dK [])=_);exact qp
theorem JF{fs gs:List bh}{a:Int}{g:Gr}:eE (fs++gs) a g=eE fs a g++eE gs a g:=ZA
abbrev dC(Ps:Rg)(ts:List Tr):bh:=dK (ts.map (Tr.aR Ps))
theorem m6{Ps:Rg}{nd:Nd}{l:List Tr}(h:nd.op≠5)(h6:nd.op≠6):(Tr.mk nd l).aR Ps=(Tr.mk nd l).B.R Ps:=by rw[si,MZ (by rw[K5];exact h),MZ (by rw[K5];exact h6)]
theorem yH{Ps:Rg}{nd:Nd}{l:List Tr}(h:nd.op=5):(Tr.mk nd l).aR Ps=dC Ps l:=by rw[si,MS (K5.mpr h),CM]
theorem J0{Ps:Rg}{nd:Nd}{l:List Tr}(h:nd.op=6):(Tr.mk nd l).aR Ps=eE (l.map (Tr.aR Ps)):=by rw[si,MZ (by rw[h];decide),MS (K5.mpr h),CM]
theorem CN{Ps:Rg}{nd:Nd}{l:List Tr}(h:nd.op=2){a:Int}{g:Gr}:(Tr.mk nd l).aR Ps a g=[(a,g)]:=by have:(Tr.mk nd l).I=.text [] PO:=mX h;rw[m6 (by rw[h];decide) (by rw[h];decide)];unfold Tr.B;rw[this];rfl
theorem JZ{Ps:Rg}{ts:List Tr}{fl:Int}{a:Int}{g:Gr}:(dF ts fl).aR Ps a g=dC Ps ts a g:=by
 match ts with
 |[]=>exact CN rfl
 |[t]=>exact CT.symm
 |t::u::r=>exact congrFun (congrFun (yH rfl) a) g
theorem abv{Ps:Rg}{t:Tr}{a:Int}{g:Gr}:dC Ps (cf t) a g=t.aR Ps a g:=by
 obtain⟨nd,l⟩:=t;rw[show cf (Tr.mk nd l)=if nd.op==5 then l else[Tr.mk nd l] from rfl];by_cases h:nd.op=5
 ·rw[MS (K5.mpr h),yH h]
 ·rw[MZ (by rw[K5];exact h)];exact CT
theorem J5{Ps:Rg}:∀{ts:List Tr}{a:Int}{g:Gr},dC Ps (ts.flatMap cf) a g=dC Ps ts a g
 |[],a,g=>rfl
 |t::ts,a,g=>by rw[Zw];unfold dC;rw[wh,CS];refine (?_:bi (dC Ps (cf t) a g) (dC Ps (ts.flatMap cf))=bi (t.aR Ps a g) (dC Ps ts));rw[abv];congr 1;funext x y;exact J5
abbrev fo(fl:Int):Bool:=!(vT fl 1==0)
theorem CP{Ps:Rg}{nd:Nd}{l:List Tr}(h:nd.op=3):(Tr.mk nd l).aR Ps=jb Ps [nd.K3] (fo nd.fl):=by have:(Tr.mk nd l).I=.text [nd.K3] (fo nd.fl):=mX h;rw[m6 (by rw[h];decide) (by rw[h];decide)];unfold Tr.B;rw[this];rfl
theorem J3{Ps:Rg}{nd:Nd}{l:List Tr}(h:nd.op=4):(Tr.mk nd l).aR Ps=jb Ps nd.D5 (fo nd.fl):=by have:(Tr.mk nd l).I=.text nd.D5 (fo nd.fl):=mX h;rw[m6 (by rw[h];decide) (by rw[h];decide)];unfold Tr.B;rw[this];rfl
theorem i9{op:Int}(h:a6 op=WL):op=3∨op=4:=by
 unfold a6 at h;rcases XD.mp h with e|e
 ·exact .inl (zH e).symm
 ·rw[Zk] at e;exact .inr (zH e).symm
theorem CO{Ps:Rg}{t:Tr}(h:a6 t.op=WL):t.aR Ps=jb Ps t.rn t.fold:=by
 obtain⟨nd,l⟩:=t;rcases i9 h with e|e
 ·rw[CP (nd:=nd) (l:=l) e];have e:nd.op=3:=e;refine (?_:_=jb Ps (if (nd.op==3)=WL then _ else _) _);rw[MS (K5.mpr e)];rfl
 ·rw[J3 (nd:=nd) (l:=l) e];have e:nd.op=4:=e;refine (?_:_=jb Ps (if (nd.op==3)=WL then _ else if (nd.op==4)=WL then _ else _) _);rw[MZ (by rw[e];decide),MS (K5.mpr e)];rfl
theorem yI{Ps:Rg}{rs:List Int}{fl a:Int}{g:Gr}:(Tr.A rs fl).aR Ps a g=jb Ps rs (fo fl) a g:=by
 match rs with
 |[]=>exact CN rfl
 |[r]=>exact congrFun (congrFun (CP rfl) a) g
 |r::q::rs=>exact congrFun (congrFun (J3 rfl) a) g
theorem CU{Ps:Rg}{xs ys:List Tr}{a:Int}{g:Gr}:dC Ps (xs++ys) a g=bi (dC Ps xs a g) (dC Ps ys):=by unfold dC;rw[wh];exact CS
theorem yJ{Ps:Rg}{t:Tr}{a:Int}{g:Gr}:dC Ps [t] a g=t.aR Ps a g:=CT
theorem Cz{x y:Tr}(h:f7 x y=WL):a6 x.op=WL/\a6 y.op=WL/\x.fold=y.fold:=by unfold f7 at h;refine ak (zA.mp h) λh1 h=>?_;refine ak (zA.mp h) λh2 h3=>?_;exact⟨h1,h2,zH h3⟩
theorem vg{Ps:Rg}{t:Tr}(h:t.op=2){a:Int}{g:Gr}:t.aR Ps a g=[(a,g)]:=by obtain⟨nd,l⟩:=t;exact CN h
theorem abL{Ps:Rg}{acc:List Tr}{p:Tr}{a:Int}{g:Gr}:dC Ps (cW acc p) a g=bi (dC Ps acc a g) (p.aR Ps):=by
 have pl:dC Ps (if (p.op==2)=WL then acc else acc++[p]) a g=bi (dC Ps acc a g) (p.aR Ps):=by
  by_cases h:(p.op==2)=WL
  ·rw[MS h,show p.aR Ps=dK [] from by funext x y;exact vg (zH h),qp]
  ·rw[MZ h,CU];congr 1;funext x y;exact yJ
 unfold cW;cases e:acc.getLast? with
 |none=>exact pl
 |some l=>
  refine (?_:dC Ps (if f7 l p=WL then _ else _) a g=_);by_cases c:f7 l p=WL
  ·rw[MS c];refine ce (Cz c) λc1 c2 c3=>?_;have ea:acc=acc.dropLast++[l]:=by refine a7 (List.getLast?_eq_some_iff.mp e) λys hy=>?_;rw[hy,alS]
   rw[CU]
   conv=>rhs;rw[ea,CU,vm]
   congr 1;funext x y;rw[yJ,yJ,yI,Kg,CO c1,CO c2,<- c3];rfl
  ·rw[MZ c];exact pl
theorem JN{Ps:Rg}:∀{ps acc:List Tr}{a:Int}{g:Gr},dC Ps (ps.foldl cW acc) a g=bi (dC Ps acc a g) (dC Ps ps)
 |[],acc,a,g=>qp.symm
 |p::ps,acc,a,g=>by rw[YA,JN,abL,vm];rfl
theorem J2{Ps:Rg}{f:Tr}{rest:List Tr}{fl a:Int}{g:Gr}:(bR f rest fl).aR Ps a g=dC Ps (f::rest) a g:=by unfold bR;rw[JZ,JN,show dC Ps [] a g=[(a,g)] from rfl,Ki,J5]
theorem J1{Ps:Rg}{t:Tr}{k:Nat}(h:a6 t.op=WL)(h0:0<k)(hk:k<=t.rn.length){a:Int}{g:Gr}(pk:cx t.D5 (Ss (k:Int)) M4=t.D5.drop k):
 t.aR Ps a g=bi (jb Ps (t.rn.take k) t.fold a g) ((eh t k).aR Ps):=by
 rw[CO h];unfold eh;rcases i9 h with e|e
 ·have hr:t.rn=[t.K3]:=by unfold Tr.rn;rw[MS (K5.mpr e)]
  rw[hr] at hk ⊢;have:k=1:=Zc hk h0;subst this;rw[MS (by rw[K5.mpr e];rfl)];rw[show (Tr.cR 2 t.fl).aR Ps=dK [] from by funext x y;exact vg rfl,qp];rfl
 ·have hr:t.rn=t.D5:=by unfold Tr.rn;rw[MZ (by rw[e];decide),MS (K5.mpr e)]
  rw[MZ (by rw[e];exact qH),MS (K5.mpr e),pk,hr];have:(Tr.A (t.D5.drop k) t.fl).aR Ps=jb Ps (t.D5.drop k) t.fold:=by funext x y;exact yI
  rw[this,<- Kg,alA]
theorem CL{α:Type}{l:List α}{k:Nat}:cx l (Ss (k:Int)) M4=l.drop k:=by
 unfold cx;rw[show kms_lo (Ss (k:Int)) l.length=min k l.length from by unfold kms_lo;simp only[];rw[MZ (tU)];rfl,show kms_hi M4 l.length=l.length from rfl];by_cases h:k<=l.length
 ·rw[Z4 h,Vk (by rw[Xk];exact EC _)]
 ·rw[VZ (FY h),Wu,List.take_zero,List.drop_eq_nil_of_le (FY h)]
theorem JP{nd:Nd}{s:Tr}{ss:List Tr}:(Tr.mk nd (s::ss)).G=if nd.op==5 then s.G else .mk nd (s::ss):=rfl
theorem Kl{k:Int}{nd:Nd}{s:Tr}{ss:List Tr}:(Tr.mk nd (s::ss)).dW k=if nd.op==5 then bR (s.dW k) ss nd.fl else eh (.mk nd (s::ss)) k:=rfl
theorem J4{Ps:Rg}{k:Nat}(h0:0<k):∀(t:Tr),a6 t.G.op=WL->k<=t.G.rn.length->∀(a:Int) (g:Gr),t.aR Ps a g=bi (jb Ps (t.G.rn.take k) t.G.fold a g) ((t.dW k).aR Ps)
 |.mk nd (s::ss),h,hk,a,g=>by
  by_cases e:nd.op=5
  ·have e1:(Tr.mk nd (s::ss)).G=s.G:=by rw[JP,MS (K5.mpr e)]
   have e2:(Tr.mk nd (s::ss)).dW k=bR (s.dW k) ss nd.fl:=by rw[Kl,MS (K5.mpr e)]
   rw[e1] at h hk ⊢;rw[e2,yH e];refine (?_:bi (s.aR Ps a g) (dC Ps ss)=_);rw[J4 h0 s h hk a g,vm];congr 1;funext x y;exact J2.symm
  ·have e1:(Tr.mk nd (s::ss)).G=.mk nd (s::ss):=by rw[JP,MZ (by rw[K5];exact e)]
   have e2:(Tr.mk nd (s::ss)).dW k=eh (.mk nd (s::ss)) k:=by rw[Kl,MZ (by rw[K5];exact e)]
   rw[e1] at h hk ⊢;rw[e2];exact J1 h h0 hk CL
 |.mk nd [],h,hk,a,g=>J1 h h0 hk CL
theorem Kh{Ps:Rg}{t:Tr}(h:t.op=2){ws:List aH}:bi ws (t.aR Ps)=ws:=by rw[show t.aR Ps=dK [] from by funext x y;exact vg h];exact qp
theorem abw{Ps:Rg}{t:Tr}(h5:t.op=5->t.H≠[]){a:Int}{g:Gr}:t.aR Ps a g=bi (t.M.aR Ps a g) (t.fJ.aR Ps):=by
 obtain⟨nd,l⟩:=t;by_cases h2:nd.op=2
 ·have e:(Tr.mk nd l).fJ=.mk nd l:=by unfold Tr.fJ;exact MS (K5.mpr h2)
  have e1:(Tr.mk nd l).M=.mk nd l:=by
   induction l using K1 with
   |nil=>rfl
   |cons s ss=>refine (?_:(if nd.op==5 then s else _)=_);rw[MZ (by rw[h2];decide)]
  rw[e,e1,Kh (t:=.mk nd l) h2]
 ·by_cases e:nd.op=5
  ·induction l using K1 with
   |nil=>exact MQ rfl (h5 e)
   |cons s ss=>
    have e1:(Tr.mk nd (s::ss)).M=s:=by refine (?_:(if nd.op==5 then s else _)=_);rw[MS (K5.mpr e)]
    have e2:(Tr.mk nd (s::ss)).fJ=dF ss nd.fl:=by unfold Tr.fJ;rw[MZ (by rw[K5];exact h2)];refine (?_:(if nd.op==5 then dF ss nd.fl else _)=_);rw[MS (K5.mpr e)]
    rw[e1,e2,yH e];refine (?_:bi (s.aR Ps a g) (dC Ps ss)=_);congr 1;funext x y;exact JZ.symm
  ·have e1:(Tr.mk nd l).M=.mk nd l:=by
    induction l using K1 with
    |nil=>rfl
    |cons s ss=>refine (?_:(if nd.op==5 then s else _)=_);rw[MZ (by rw[K5];exact e)]
   have e2:(Tr.mk nd l).fJ=.cR 2 nd.fl:=by
    unfold Tr.fJ;rw[MZ (by rw[K5];exact h2)];induction l using K1 with
    |nil=>rfl
    |cons s ss=>refine (?_:(if nd.op==5 then _ else _)=_);rw[MZ (by rw[K5];exact e)]
   rw[e1,e2,Kh rfl]
theorem abu{Ps:Rg}{ts:List Tr}{fl:Int}(h:ts≠[]){a:Int}{g:Gr}:(bZ ts fl).aR Ps a g=eE (ts.map (Tr.aR Ps)) a g:=by
 match ts with
 |[]=>exact MQ rfl h
 |[t]=>exact (zB _).symm
 |t::u::r=>exact congrFun (congrFun (J0 rfl) a) g
mutual
noncomputable def Tr.E:Tr->Nat
 |.mk nd l=>Tr.ck (.mk nd l)+be l
noncomputable def be:List Tr->Nat
 |[]=>0
 |t::ts=>t.E+be ts
end
theorem lO(t:Tr):t.E=t.ck+be t.H:=by induction t using Tr.casesOn;rfl
theorem jA{b:List Tr}:∀{a:List Tr},be (a++b)=be a+be b
 |[]=>(kI _).symm
 |t::a=>(congrArg (t.E+·) (jA (a:=a))).trans (Yj ..).symm
theorem oq{t:Tr}:∀{ts:List Tr},t∈ts->t.E<=be ts
 |u::ts,h=>by
  rcases K7.mp h with rfl|h
  ·exact oW _ _
  ·exact Le (oq h) (oJ _ _)
def fC(R:Tr->Tr->Prop):List Tr->Prop
 |[]=>True
 |a::l=>(∀b,l.head?=Ss b->R a b)/\fC R l
theorem fC.qA{R S:Tr->Tr->Prop}(h:∀a b,R a b->S a b):∀{l:List Tr},fC R l->fC S l
 |[],j4=>trivial
 |j4::j5,⟨a,b⟩=>⟨λc e=>h _ _ (a c e),fC.qA h b⟩
noncomputable def Tr.fr(t:Tr):Option (Int×Bool):=if a6 t.G.op then t.G.rn.head?.map λr=>(r,t.G.fold) else M4
abbrev oh(a b:Tr):Prop:=(aP a&&aP b)=PO
abbrev kz(a b:Tr):Prop:=a.fr=M4∨a.fr≠b.fr
abbrev Cs(a b:Tr):Prop:=dH a b=PO
abbrev aaV(a b:Tr):Prop:=¬ (a.op=2/\b.op=2)
structure lM(a b:Tr):Prop where
 s:oh a b
 f:kz a b
 al:Cs a b
 e:aaV a b
noncomputable def fE(b:Int):Int:=if b=32 then 255 else 1114111
def fD(b:Int)(rg:Rg):Prop:=rg.Pairwise (λp q=>p.2<q.1)/\∀p∈rg,0<=p.1/\p.1<=p.2/\p.2<=fE b
abbrev lP(b f:Int):Prop:=f=b∨f=dM b 1
structure dT(b:Int)(nd:Nd):Prop where
 op:nd.op∈([1,2,3,4,12,13,14,15,16,17,18,19,20]:List Int)
 st:a6 nd.op=WL->lP b nd.fl
 s2:nd.op=4->2<=nd.D5.length
 rn:∀r∈(Tr.mk nd []).rn,0<=r/\r<=fE b
 cl:nd.op=20->fD b nd.Bd
 en:nd.op=19->nd.fl=b
 r0:nd.op≠4->nd.D5=[]
 g0:nd.op≠20->nd.Bd=[]
class inductive Ft(b:Int):Tr->Prop
 |leaf {nd:Nd}:dT b nd->Ft b (.mk nd [])
 |tim {nd nd':Nd}:nd.op∈([7,8,9,10]:List Int)->(nd.op=10->nd.low=2/\nd.iL=2)->(nd.fl=b∨nd.fl=dM b 64)->dT b nd'->aP (.mk nd' [])=WL->nd'.fl=b->nd.D5=[]/\nd.Bd=[]->Ft b (.mk nd [.mk nd' []])
 |grp {nd:Nd}{s:Tr}:nd.op=11->nd.ZK=1∨nd.ZK=2->nd.name=pZ nd.ZK->Ft b s->s.op≠2->Ft b (.mk nd [s])
 |row {nd:Nd}{l:List Tr}:nd.op=5->2<=l.length->(∀t∈l,Ft b t)->(∀t∈l,t.op≠2)->Ft b (.mk nd l)
 |alt {nd:Nd}{l:List Tr}:nd.op=6->2<=l.length->(∀t∈l,Ft b t)->(∀t∈l,t.op≠6)->fC lM l->Ft b (.mk nd l)
variable {b:Int}
theorem jD{nd:Nd}{l:List Tr}{k:Int}{L:List Int}(h:nd.op=k)(m:k∈L):(Tr.mk nd l).op∈L:=(show nd.op∈L from h▸m)
theorem gE{nd:Nd}{l:List Tr}{k:Int}{L:List Int}(h:(Tr.mk nd l).op=k)(m:nd.op∈L)(d:k∉L):False:=d ((show nd.op=k from h)▸m)
theorem Ft.jR{t:Tr}(h:Ft b t)(k:t.op∉([5,6,7,8,9,10,11]:List Int)):∃nd,t=.mk nd []/\dT b nd:=by
 induction h with
 |leaf h=>exact⟨_,rfl,h⟩
 |tim h _ _ _ _ _ _=>exact MQ ((show ∀x∈([7,8,9,10]:List Int),x∈([5,6,7,8,9,10,11]:List Int) by decide) _ h) k
 |grp h _ _ _ _=>exact MQ (jD h (by decide)) k
 |row h _ _ _=>exact MQ (jD h (by decide)) k
 |alt h _ _ _ _=>exact MQ (jD h (by decide)) k
theorem abg{op:Int}(h:a6 op=WL):op∉([5,6,7,8,9,10,11]:List Int):=by rcases i9 h with rfl|rfl<;>decide
theorem Ft.A{t:Tr}(h:Ft b t)(k:a6 t.op=WL):∃nd,t=.mk nd []/\dT b nd:=h.jR (abg k)
theorem abr{t:Tr}(h:a6 t.op=WL):t.ck=t.rn.length:=by unfold Tr.ck;rcases i9 h with e|e<;>rw[e]<;>rfl
theorem dT.td{nd:Nd}(h:dT b nd)(k:a6 nd.op=WL):1<=(Tr.mk nd []).rn.length:=by
 rcases i9 k with e|e
 ·unfold Tr.rn;rw[show (Tr.mk nd []).op=3 from e];exact EC _
 ·unfold Tr.rn;rw[show (Tr.mk nd []).op=4 from e];exact WY (h.s2 e)
theorem dT.pos{nd:Nd}(h:dT b nd)(k:nd.op≠2):1<=(Tr.mk nd []).E:=by
 rw[lO];refine Le ?_ (oW _ _);refine (?_:1<=if (nd.op==2)=WL then 0 else if a6 nd.op=WL then (Tr.mk nd []).rn.length else 1);rw[MZ (by rw[K5];exact k)];by_cases s:a6 nd.op=WL
 ·rw[MS s];exact h.td s
 ·rw[MZ s];exact EC _
theorem ve{nd:Nd}{l:List Tr}:be l<=(Tr.mk nd l).E:=oJ _ _
theorem Ft.pos{t:Tr}(h:Ft b t):t.op≠2->1<=t.E:=by
 induction h with
 |leaf h=>exact h.pos
 | @tim nd nd' _ _ _ h k _ _=>intro _;refine Le (Le (h.pos λe=>?_) (oq (.head _))) ve;unfold aP at k;rw[show (Tr.mk nd' []).op=2 from e] at k;exact aX k
 |grp _ _ _ _ k ih=>intro _;exact Le (Le (ih k) (oq (.head _))) ve
 | @row nd l _ k _ n ih=>
  intro _
  match l,k with
  |t::l,j4=>exact Le (Le (ih t (.head _) (n t (.head _))) (oq (.head _))) ve
 | @alt nd l _ k _ n c ih=>
  intro _
  match l,k with
  |t::u::l,j4=>
   by_cases e:t.op=2
   ·exact Le (Le (ih u (.tail _ (.head _)) λe'=>(c.1 u rfl).e ⟨e,e'⟩) (oq (.tail _ (.head _)))) ve
   ·exact Le (Le (ih t (.head _) e) (oq (.head _))) ve
theorem af4{t:Tr}(h:Ft b t)(k:t.E=0):t.op=2:=akE λe=>by have:=h.pos e;rw[k] at this;exact lj this
theorem Ft.EF{t:Tr}(h:Ft b t)(k:t.op=2):t.E=0:=by refine aj (h.jR (by rw[k];decide)) λnd y9 U=>?_;subst y9;rw[lO];unfold Tr.ck;rw[k];rfl
theorem dT.cR{op f:Int}(h:op∈([1,2,12,13,14,15,16,17,18,19]:List Int))(e:op=19->f=b):dT b { op,fl:=f }:=by
 refine tM ((show ∀x∈([1,2,12,13,14,15,16,17,18,19]:List Int),x∈([1,2,3,4,12,13,14,15,16,17,18,19,20]:List Int)/\a6 x=PO/\x≠4/\x≠20/\(x==3)=PO by decide) op h) λh1 h2 h3 h4 h5=>?_;refine⟨h1,λk=>(by rw[h2] at k;exact aX k),λk=>MQ k h3,λr k=>?_,λk=>MQ k h4,e,λU=>rfl,λU=>rfl⟩;have k:r∈if (op==3)=WL then[0] else if (op==4)=WL then[] else[]:=k
 rw[h5,MZ qH,ite_self] at k;exact aT k
theorem Ft.wk{f:Int}:Ft b (.cR 2 f):=.leaf (.cR (by decide) λh=>MQ h (by decide))
theorem Ft.O{t:Tr}(h:Ft b t):∀s∈t.H,Ft b s:=by
 induction h with
 |leaf _=>intro s h;exact aT h
 |tim _ _ _ h _ _ _=>intro s m;rcases K7.mp m with rfl|m;(exact .leaf h);exact aT m
 |grp _ _ _ h _=>intro s m;rcases K7.mp m with rfl|m;(exact h);exact aT m
 |row _ _ h _=>exact h
 |alt _ _ h _ _=>exact h
theorem Ft.wi{t:Tr}(h:Ft b t)(e:t.op=5):2<=t.H.length/\∀s∈t.H,s.op≠2:=by
 induction h with
 |leaf h=>exact (gE e h.op (by decide)).elim
 |tim h _ _ _ _ _ _=>exact (gE e h (by decide)).elim
 |grp h _ _ _ _=>exact MQ (h.symm.trans e) (by decide)
 |row _ n _ k=>exact⟨n,k⟩
 |alt h _ _ _ _=>exact MQ (h.symm.trans e) (by decide)
theorem Ft.EG{t:Tr}(h:Ft b t)(e:t.op=6):2<=t.H.length/\(∀s∈t.H,s.op≠6)/\fC lM t.H:=by
 induction h with
 |leaf h=>exact (gE e h.op (by decide)).elim
 |tim h _ _ _ _ _ _=>exact (gE e h (by decide)).elim
 |grp h _ _ _ _=>exact MQ (h.symm.trans e) (by decide)
 |row h _ _ _=>exact MQ (h.symm.trans e) (by decide)
 |alt _ n _ k c=>exact⟨n,k,c⟩
theorem qk{t:Tr}(h:t.op=5∨t.op=6)(n:2<=t.H.length):t.E=be t.H:=by
 rw[lO];have:t.ck=0:=by
  unfold Tr.ck
  match t.H,n with
  |j4::j5,j6=>rcases h with e|e<;>rw[e]<;>rfl
 rw[this,kI]
end Mine.Internal
namespace Mine.Internal
open PySem PySem.W PySem.Calls PyProof.Rows
variable {b:Int}
abbrev ol(b:Int)(h:Nat)(l:List Tr):Prop:=∀t∈l,Ft b t/\t.ht<=h
abbrev Ne2(l:List Tr):Prop:=∀t∈l,t.op≠2
theorem qn{P:Tr->Prop}{l:List Tr}{t:Tr}(h:∀x∈l,P x)(k:P t):∀x∈l++[t],P x:=λx m=>by
 rcases bT.mp m with m|m
 ·exact h x m
 ·rcases K7.mp m with rfl|m
  ·exact k
  ·exact aT m
theorem sd(t:Tr):1<=t.ht:=by induction t using Tr.casesOn;exact oJ _ _
theorem u9{t:Tr}(h:Ft b t)(k:a6 t.op=WL):t.E=t.rn.length:=by refine aj (h.A k) λnd y9 U=>?_;subst y9;rw[lO,abr k];rfl
theorem Ft.td{t:Tr}(h:Ft b t)(k:a6 t.op=WL):1<=t.rn.length:=by refine aj (h.A k) λnd y9 l=>?_;subst y9;exact l.td k
theorem Ft.EH{t:Tr}(h:Ft b t)(k:a6 t.op=WL):∀r∈t.rn,0<=r/\r<=fE b:=by refine aj (h.A k) λnd y9 l=>?_;subst y9;exact l.rn
theorem Ft.qT{t:Tr}(h:Ft b t)(k:a6 t.op=WL):Mine.Internal.lP b t.fl:=by refine aj (h.A k) λnd y9 l=>?_;subst y9;exact l.st k
theorem Ft.oX{rs:List Int}{f:Int}(hf:Mine.Internal.lP b f)(hr:∀r∈rs,0<=r/\r<=fE b):Ft b (Tr.A rs f):=by
 match rs,hr with
 |[],j4=>exact .wk
 |[r],hr=>exact .leaf ⟨by show (3:Int)∈_;decide,λU=>hf,λh=>MQ (show (3:Int)=4 from h) (by decide),hr,λh=>MQ (show (3:Int)=20 from h) (by decide),λh=>MQ (show (3:Int)=19 from h) (by decide),λU=>rfl,λU=>rfl⟩
 |r::q::rs,hr=>exact .leaf ⟨by show (4:Int)∈_;decide,λU=>hf,λU=>oJ _ _,hr,λh=>MQ (show (4:Int)=20 from h) (by decide),λh=>MQ (show (4:Int)=19 from h) (by decide),λh=>MQ (show (4:Int)=4 from rfl) h,λU=>rfl⟩
theorem qo{rs:List Int}{f:Int}(h:1<=rs.length):a6 (Tr.A rs f).op=WL:=by
 match rs,h with
 |[j4],j5=>rfl
 |j4::j5::j6,j7=>rfl
theorem yK{rs:List Int}{f:Int}:(Tr.A rs f).fl=f:=by
 match rs with
 |[]=>rfl
 |[_]=>rfl
 |j4::j5::j6=>rfl
theorem yL{rs:List Int}{f:Int}:(Tr.A rs f).ht=1:=by
 match rs with
 |[]=>rfl
 |[_]=>rfl
 |j4::j5::j6=>rfl
theorem CX{t:Tr}(h:a6 t.op=WL):t.op≠2:=λe=>by rw[e] at h;exact aX h
theorem yD{rs:List Int}{f:Int}(hf:Mine.Internal.lP b f)(hr:∀r∈rs,0<=r/\r<=fE b):(Tr.A rs f).E=rs.length:=by
 by_cases h:1<=rs.length
 ·rw[u9 (Ft.oX hf hr) (qo h),rK]
 ·match rs,h with
  |[],j4=>rfl
  |j4::j5,h=>exact MQ (oJ _ _) h
structure lN(b:Int)(h:Nat)(c:Nat)(l:List Tr):Prop where
 ft:ol b h l
 ne:Ne2 l
 c:be l=c
theorem lN.jQ{h c:Nat}{acc:List Tr}{p:Tr}(A:lN b h c acc)(hp:Ft b p/\p.ht<=h):lN b h (c+p.E) (cW acc p):=by
 have one:lN b h (c+p.E) (if p.op==2 then acc else acc++[p]):=by
  by_cases e:p.op=2
  ·rw[MS (K5.mpr e),hp.1.EF e];exact A
  ·rw[MZ (by rw[K5];exact e)];exact⟨qn A.ft hp,qn A.ne e,by rw[jA,A.c];rfl⟩
 rcases pO acc with rfl|⟨zs,z,rfl⟩
 ·exact one
 ·cases k:f7 z p with
  |false=>rw[uC k];exact one
  |true=>rw[xH k];refine ce (Cz k) λk1 k2 U=>?_;have hz:=A.ft z (s7 _ (.head _));have hb:∀r∈z.rn++p.rn,0<=r/\r<=fE b:=λr m=>(bT.mp m).elim (hz.1.EH k1 r) (hp.1.EH k2 r);have hl:1<=(z.rn++p.rn).length:=Le (hz.1.td k1) (by rw[Es];exact oW _ _);refine⟨qn (λt m=>A.ft t (l8 _ m)) ⟨.oX (hz.1.qT k1) hb,by rw[yL];exact Le (sd z) hz.2⟩,qn (λt m=>A.ne t (l8 _ m)) (CX (qo hl)),?_⟩;have:=A.c;rw[jA] at this ⊢;rw[<- this,Yj];refine (?_:_+(Tr.E _+0)=_+((z.E+0)+_));rw[yD (hz.1.qT k1) hb,Es,u9 hz.1 k1,u9 hp.1 k2];rfl
theorem lN.fold{h:Nat}:∀{L acc:List Tr}{c:Nat},lN b h c acc->ol b h L->lN b h (c+be L) (L.foldl cW acc)
 |[],j4,j5,A,j6=>A
 |p::L,j4,c,A,H=>by have:=(A.jQ (H p (.head _))).fold λt m=>H t (.tail _ m);rw[Yj] at this;exact this
theorem Mh{t:Tr}{h:Nat}(k:Ft b t/\t.ht<=h):ol b h (Mine.Internal.cf t)/\be (Mine.Internal.cf t)=t.E:=by
 unfold Mine.Internal.cf;by_cases e:t.op=5
 ·rw[MS (K5.mpr e)];refine ak (k.1.wi e) λn U=>?_;exact⟨λs m=>⟨k.1.O s m,nq (ZP k.2) m⟩,(qk (.inl e) n).symm⟩
 ·rw[MZ (by rw[K5];exact e)];exact⟨λs m=>(wm.mp m)▸k,rfl⟩
theorem CG{h:Nat}:∀{l:List Tr},(∀t∈l,t.ht<=h)->nj l<=h
 |[],j4=>zJ _
 |t::l,k=>Nat.max_le.mpr ⟨k t (.head _),CG λs m=>k s (.tail _ m)⟩
theorem lN.EL{h c:Nat}{J:List Tr}{f:Int}(A:lN b h c J):Ft b (Mine.Internal.dF J f)/\(Mine.Internal.dF J f).E=c/\(Mine.Internal.dF J f).ht<=h+1:=by
 match J,A with
 |[],A=>exact⟨.wk,A.c,oJ _ _⟩
 |[t],A=>exact⟨(A.ft t (.head _)).1,A.c,ZP (A.ft t (.head _)).2⟩
 |t::u::J,A=>exact⟨.row rfl (oJ _ _) (λt m=>(A.ft t m).1) A.ne,(qk (t:=.mk { op:=5,fl:=f } (t::u::J)) (.inl rfl) (oJ _ _)).trans A.c,de (CG λt m=>(A.ft t m).2)⟩
theorem JM{h:Nat}:∀{l:List Tr},ol b h l->ol b h (l.flatMap cf)/\be (l.flatMap cf)=be l
 |[],j4=>⟨λt m=>(aT m),rfl⟩
 |t::l,k=>by refine ak (Mh (k t (.head _))) λa1 a2=>?_;refine ak (JM (l:=l) λs m=>k s (.tail _ m)) λb1 b2=>?_;rw[Zw,jA,a2,b2];exact⟨λs m=>(bT.mp m).elim (a1 s) (b1 s),rfl⟩
theorem abJ{h:Nat}:lN b h 0 []:=⟨λt m=>(aT m),λt m=>(aT m),rfl⟩
theorem JQ{h:Nat}{f:Tr}{rest:List Tr}{fl:Int}(H:ol b h (f::rest)):Ft b (bR f rest fl)/\(bR f rest fl).E=f.E+be rest/\(bR f rest fl).ht<=h+1:=by refine ak (JM H) λa c=>?_;have:=(abJ.fold a).EL (f:=fl);rw[c,kI] at this;exact this
inductive r6(p:Tr)(l:List Tr):Prop
 |same (l':List Tr) (e:l=p::l')
 |long (q:Tr) (l':List Tr) (y:List Int) (e:l=q::l') (p1:a6 p.op=WL) (q1:a6 q.op=WL) (f:q.fl=p.fl) (r:q.rn=p.rn++y)
theorem r6.jQ{h c:Nat}{p r:Tr}{acc:List Tr}(A:lN b h c acc)(B:r6 p acc):r6 p (cW acc r):=by
 have EV:∀x,r6 p (acc++x):=λx=>by
  rcases B with⟨l',e⟩|⟨q,l',y,e,p1,q1,f,r⟩
  ·exact .same (l'++x) (by rw[e];rfl)
  ·exact .long q (l'++x) y (by rw[e];rfl) p1 q1 f r
 rcases pO acc with rfl|⟨zs,z,rfl⟩
 ·rcases B with⟨l',e⟩|⟨q,l',y,e,p1,q1,f,r⟩<;>exact fO e
 ·cases k:f7 z r with
  |false=>
   rw[uC k];split
   ·exact B
   ·exact EV [r]
  |true=>
   rw[xH k];refine ce (Cz k) λk1 k2 U=>?_;have hl:1<=(z.rn++r.rn).length:=Le ((A.ft z (s7 _ (.head _))).1.td k1) (by rw[Es];exact oW _ _);induction zs using K1 with
   |nil=>
    rcases B with⟨l',e⟩|⟨q,l',y,e,p1,q1,f,r1⟩
    ·(injection e with y8 y9;subst y8;subst y9);exact .long _ [] r.rn rfl k1 (qo hl) yK rK
    ·(injection e with y8 y9;subst y8;subst y9);exact .long _ [] (y++r.rn) rfl p1 (qo hl) (yK.trans f) (by rw[rK,r1,zx])
   |cons u zs=>
    rcases B with⟨l',e⟩|⟨q,l',y,e,p1,q1,f,r1⟩
    ·(injection e with y8 y9;subst y8;subst y9);exact .same _ rfl
    ·(injection e with y8 y9;subst y8;subst y9);exact .long _ _ y rfl p1 q1 f r1
theorem Mg{h:Nat}{p:Tr}:∀{L acc:List Tr}{c:Nat},lN b h c acc->r6 p acc->ol b h L->r6 p (L.foldl cW acc)
 |[],j4,j5,j6,B,j7=>B
 |r::L,j4,j5,A,B,H=>Mg (L:=L) (A.jQ (H r (.head _))) (B.jQ A) λt m=>H t (.tail _ m)
structure yz(b:Int)(p r:Tr)(c h:Nat):Prop where
 ft:Ft b r
 c:r.E=c
 ht:r.ht<=h
 op:r.op≠6/\r.op≠2
 q:∃q,r.M=q/\r.G=q/\(r=q∨aP r=PO)/\(q=p∨a6 p.op=WL/\a6 q.op=WL/\q.fl=p.fl/\∃y,q.rn=p.rn++y)
theorem aa1{q:Tr}{J:List Tr}{f:Int}(h:q.op≠5):(Mine.Internal.dF (q::J) f).M=q/\(Mine.Internal.dF (q::J) f).G=q/\(Mine.Internal.dF (q::J) f=q∨aP (Mine.Internal.dF (q::J) f)=PO):=by
 have h:(q.op==5)=PO:=beq_eq_false_iff_ne.mpr h;induction J using K1 with
 |nil=>exact⟨oG h,Tr.kR h,.inl rfl⟩
 |cons u J=>exact⟨qy rfl,(Tr.qP rfl).trans (Tr.kR h),.inr rfl⟩
theorem abh{h:Nat}{p x:Tr}{fl:Int}(H:ol b h [p,x])(p2:p.op≠2)(p5:p.op≠5)(p6:p.op≠6):yz b p (bR p [x] fl) (p.E+x.E) (h+1):=by
 refine ce (JQ (fl:=fl) H) λa c t=>?_;have e1:(([p,x]:List Tr).flatMap cf).foldl cW []=(cf x).foldl cW [p]:=by
  have e:cf p=[p]:=by unfold cf;rw[MZ (by rw[K5];exact p5)]
  rw[Zw,e,Zw,VG,zB];refine (?_:(cf x).foldl cW (cW [] p)=_);rw[ajf,MZ (by rw[K5];exact p2)]
 have A:lN b h p.E [p]:=⟨λs m=>(wm.mp m)▸H p (.head _),λs m=>(wm.mp m)▸p2,rfl⟩
 have hx:=(Mh (H x (.tail _ (.head _)))).1;have B:r6 p ((cf x).foldl cW [p]):=Mg A (.same [] rfl) hx;have S:=A.fold hx;have e2:bR p [x] fl=Mine.Internal.dF ((cf x).foldl cW [p]) fl:=by unfold bR;rw[e1]
 have c:(bR p [x] fl).E=p.E+x.E:=c;have ji:∀q l',(cf x).foldl cW [p]=q::l'->q.op≠5->q.op≠6->(q=p∨a6 p.op=WL/\a6 q.op=WL/\q.fl=p.fl/\∃y,q.rn=p.rn++y)->yz b p (bR p [x] fl) (p.E+x.E) (h+1):=λq l' e q5 q6 k=>by
  rw[e] at e2 S;refine ce (aa1 (J:=l') (f:=fl) q5) λu1 u2 u3=>?_;refine⟨a,c,t,?_,q,by rw[e2];exact u1,by rw[e2];exact u2,by rw[e2];exact u3,k⟩;rw[e2];induction l' using K1 with
  |nil=>exact⟨q6,S.ne q (.head _)⟩
  |cons _ _=>exact⟨(show (5:Int)≠6 by decide),(show (5:Int)≠2 by decide)⟩
 rcases B with⟨l',e⟩|⟨q,l',y,e,k1,k2,f,r⟩
 ·exact ji p l' e p5 p6 (.inl rfl)
 ·exact ji q l' e (λz=>by rw[z] at k2;exact aX k2) (λz=>by rw[z] at k2;exact aX k2) (.inr ⟨k1,k2,f,y,r⟩)
theorem ot{rg:Rg}{x:Int}:bX rg x=WL↔∃p∈rg,p.1<=x/\x<=p.2:=by unfold bX;rw[Z7];exact⟨λ⟨p,m,h⟩=>⟨p,m,by simpa using h⟩,λ⟨p,m,h⟩=>⟨p,m,by simpa using h⟩⟩
theorem abf{l r:Rg}{x:Int}:bX (l++r) x=(bX l x||bX r x):=Xo
abbrev sf(b:Int)(p:Int×Int):Prop:=0<=p.1/\p.1<=p.2/\p.2<=fE b
theorem fD.up{rg:Rg}(h:fD b rg):Mine.Internal.up rg:=by
 refine ak h λh1 h2=>?_;try clear h
 induction h1 with
 |nil=>exact .nil
 |cons k _ ih=>exact .cons (λq m=>Y7 (k q m) (h2 q (.tail _ m)).2.1) (ih λq m=>h2 q (.tail _ m))
theorem fD.El{A M C:Rg}{n:Int×Int}(h:fD b (A++(M++C)))(ha:∀a∈A,a.2<n.1)(hc:∀c∈C,n.2<c.1)(hn:sf b n):fD b (A++[n]++C):=by
 refine ak h λh1 h2=>?_
 refine ce (Z2.mp h1) λp1 p2 p3=>?_;refine⟨?_,λp m=>?_⟩
 ·rw[zx];refine Z2.mpr ⟨p1,Xl.mpr ⟨hc,(Z2.mp p2).2.1⟩,λa m c k=>?_⟩;rcases K7.mp k with rfl|k
  ·exact ha a m
  ·exact p3 a m c (s7 _ k)
 ·rw[zx] at m;rcases bT.mp m with m|m
  ·exact h2 p (l8 _ m)
  ·rcases K7.mp m with rfl|m
   ·exact hn
   ·exact h2 p (s7 _ (s7 _ m))
structure Jt(rows:Rg)(lo hi:Int)(A M C:Rg):Prop where
 e:rows=A++(M++C)
 k:bG rows (lo-1)=A.length
 m:(rows.drop A.length).takeWhile (λp=>decide (p.1<=hi+1))=M
 a:∀p∈A,p.2<lo-1
 b:∀p∈M++C,lo-1<=p.2
 d:∀p∈M,p.1<=hi+1
 c:∀p∈C,hi+1<p.1
theorem CZ{α:Type}{f:α->Bool}:∀{l:List α},∀x∈l.takeWhile f,f x=WL
 |[],j4,m=>by exact aT m
 |y::l,x,m=>by
  by_cases h:f y=WL
  ·rw[We h] at m;rcases K7.mp m with rfl|m
   ·exact h
   ·exact CZ x m
  ·rw[Wl h] at m;exact aT m
theorem CC{α:Type}{f:α->Bool}:∀{l:List α}{x:α}{r:List α},l.dropWhile f=x::r->¬ f x=WL
 |[],j4,j5,e=>by exact fO e
 |y::l,x,r,e=>by
  by_cases h:f y=WL
  ·rw[List.dropWhile_cons_of_pos h] at e;exact CC e
  ·rw[List.dropWhile_cons_of_neg h] at e;(injection e with y8 y9;subst y8;subst y9);exact h
theorem aaZ(rows:Rg)(lo hi:Int)(h:fD b rows):∃A M C,Jt rows lo hi A M C:=by
 refine ak h λh1 h2=>?_
 have e1:=ajR (p:=λp:Int×Int=>decide (p.2<lo-1)) (l:=rows);generalize hA:rows.takeWhile (λp=>decide (p.2<lo-1))=A at e1;generalize hR:rows.dropWhile (λp=>decide (p.2<lo-1))=R at e1;have e2:=ajR (p:=λp:Int×Int=>decide (p.1<=hi+1)) (l:=R);generalize hM:R.takeWhile (λp=>decide (p.1<=hi+1))=M at e2;generalize hC:R.dropWhile (λp=>decide (p.1<=hi+1))=C at e2;have pR:R.Pairwise λp q=>p.2<q.1:=by rw[<- e1] at h1;exact (Z2.mp h1).2.1
 have pC:C.Pairwise λp q=>p.2<q.1:=by rw[<- e2] at pR;exact (Z2.mp pR).2.1
 have oR:∀p∈R,sf b p:=λp m=>h2 p (by rw[<- e1];exact s7 _ m);have oC:∀p∈C,sf b p:=λp m=>oR p (by rw[<- e2];exact s7 _ m);refine⟨A,M,C,by rw[e2,e1],by unfold bG;rw[hA],?_,λp m=>?_,λp m=>?_,λp m=>?_,λp m=>?_⟩
 ·rw[<- e1,WN,hM]
 ·rw[<- hA] at m;exact zL (CZ p m)
 ·rw[e2] at m;induction R using K1 with
  |nil=>exact aT m
  |cons r R=>
   have r1:lo-1<=r.2:=by have:=CC hR;simpa using this
   rcases K7.mp m with rfl|m
   ·exact r1
   ·have:=(Xl.mp pR).1 p m;have:=(oR p (.tail _ m)).2.1;exact Rl r1 (by assumption) this
 ·rw[<- hM] at m;exact zL (CZ p m)
 ·induction C using K1 with
  |nil=>exact aT m
  |cons c C=>
   have c1:hi+1<c.1:=by have:=CC hC;simpa using this
   rcases K7.mp m with rfl|m
   ·exact c1
   ·have:=(Xl.mp pC).1 p m;have:=(oC c (.head _)).2.1;exact Rk c1 (by assumption) this
structure aaS(b:Int)(rows:Rg)(lo hi:Int)(out:Rg):Prop where
 d:fD b out
 s:∀x,bX out x=(bX rows x||(decide (lo<=x)&&decide (x<=hi)))
 l:out.length<=rows.length+1
theorem abk{x y:Int}:mn x y<=x/\mn x y<=y/\(mn x y=x∨mn x y=y):=by
 unfold mn;by_cases h:y<x
 ·rw[MS h];exact⟨ZE h,ZW _,.inr rfl⟩
 ·rw[MZ h];exact⟨ZW _,Yw.mp h,.inl rfl⟩
theorem abl{x y:Int}:x<=mx x y/\y<=mx x y/\(mx x y=x∨mx x y=y):=by
 unfold mx;by_cases h:y>x
 ·rw[MS h];exact⟨ZE h,ZW _,.inr rfl⟩
 ·rw[MZ h];exact⟨ZW _,Yw.mp h,.inl rfl⟩
theorem JB{rows A M C:Rg}{lo hi u v:Int}(D:Jt rows lo hi A M C)(h:fD b rows)(hu:0<=lo)(hl:lo<=hi)(hv:hi<=fE b)(u1:u<=lo)(u2:u=lo∨∃p∈M,u=p.1)(v1:hi<=v)(v2:v=hi∨∃p∈M,v=p.2)(k:∀p∈M,u<=p.1/\p.2<=v):
 fD b (A++[(u,v)]++C)/\∀x,bX (A++[(u,v)]++C) x=(bX rows x||(decide (lo<=x)&&decide (x<=hi))):=by
 have oM:∀p∈M,sf b p:=λp m=>h.2 p (by rw[D.e];exact s7 _ (l8 _ m));have uv:u<=v:=Ey u1 (Ey hl v1);have pw:=h.1;rw[D.e] at pw;refine ce (Z2.mp pw) λU q2 q3=>?_;refine ce (Z2.mp q2) λU U q4=>?_;refine⟨(D.e▸h:fD b (A++(M++C))).El (n:=(u,v)) (λp m=>?_) (λp m=>?_) ⟨?_,uv,?_⟩,λx=>?_⟩
 ·rcases u2 with e|⟨q,mq,e⟩
  ·have:=D.a p m;refine (?_:p.2<u);exact Rj this e
  ·refine (?_:p.2<u);rw[e];exact q3 p m q (l8 _ mq)
 ·rcases v2 with e|⟨q,mq,e⟩
  ·have:=D.c p m;refine (?_:v<p.1);exact Rh this e
  ·refine (?_:v<p.1);rw[e];exact q4 q mq p m
 ·rcases u2 with e|⟨q,mq,e⟩<;>rw[show (u,v).1=u from rfl,e]
  ·exact hu
  ·exact (oM q mq).1
 ·rcases v2 with e|⟨q,mq,e⟩<;>rw[show (u,v).2=v from rfl,e]
  ·exact hv
  ·exact (oM q mq).2.2
 ·rw[D.e];refine Y9.mpr ?_;simp only[abf,Xn,YS,decide_eq_true_eq];rw[ot (rg:=[(u,v)]),ot (rg:=M)];constructor
  ·rintro ((q|⟨p,m,m1,m2⟩)|q)
   ·exact .inl (.inl q)
   ·obtain rfl:=wm.mp m;have m1:u<=x:=m1;have m2:x<=v:=m2;by_cases c1:lo<=x
    ·by_cases c2:x<=hi
     ·exact .inr ⟨c1,c2⟩
     ·rcases v2 with e|⟨q,mq,e⟩
      ·exact MQ (e▸m2) c2
      ·have:=D.d q mq;exact .inl (.inr (.inl ⟨q,mq,by exact Rf this c2,e▸m2⟩))
    ·rcases u2 with e|⟨q,mq,e⟩
     ·exact MQ (e▸m1) c1
     ·have:=D.b q (l8 _ mq);exact .inl (.inr (.inl ⟨q,mq,e▸m1,by exact Re this c1⟩))
   ·exact .inl (.inr (.inr q))
  ·rintro ((q|⟨p,m,m1,m2⟩|q)|⟨m1,m2⟩)
   ·exact .inl (.inl q)
   ·exact .inl (.inr ⟨_,.head _,Ey (k p m).1 m1,Ey m2 (k p m).2⟩)
   ·exact .inr q
   ·exact .inl (.inr ⟨_,.head _,Ey u1 m1,Ey m2 v1⟩)
theorem Cy{rows:Rg}{lo hi:Int}(h:fD b rows)(hu:0<=lo)(hl:lo<=hi)(hv:hi<=fE b):aaS b rows lo hi (cn rows lo hi).1:=by
 refine pF (aaZ rows lo hi h) λA M C D=>?_;have tk:rows.take A.length=A:=by rw[D.e,List.take_left]
 have dk:rows.drop A.length=M++C:=by rw[D.e,WN]
 have pw:M.Pairwise λp q=>p.2<q.1:=by have:=h.1;rw[D.e] at this;exact (Z2.mp (Z2.mp this).2.1).1
 have oM:∀p∈M,sf b p:=λp m=>h.2 p (by rw[D.e];exact s7 _ (l8 _ m));unfold cn;rw[MZ (Rd hl),D.k,D.m];induction M using K1 with
 |nil=>refine ak (JB D h hu hl hv (ZW _) (.inl rfl) (ZW _) (.inl rfl) λp m=>by exact aT m) λa s=>?_;dsimp only;rw[tk,dk];exact⟨a,s,by rw[D.e];simp only[Es,YR,qR,Yp];exact Rc⟩
 |cons p ps=>
  dsimp only;by_cases c:(ps.isEmpty&&(decide (p.1<=lo)&&decide (hi<=p.2)))=WL
  ·rw[MS c];simp only[YS,decide_eq_true_eq] at c;refine⟨h,λx=>?_,Wy _⟩;cases q:decide (lo<=x)&&decide (x<=hi) with
   |false=>rw[Zk]
   |true=>rw[WF,ot];simp only[YS,decide_eq_true_eq] at q;exact⟨p,by rw[D.e];exact s7 _ (.head _),Ey c.2.1 q.1,Ey q.2 c.2.2⟩
  ·rw[MZ c];dsimp only;rw[tk,<- List.drop_drop,dk,WN];refine ce (abk (x:=lo) (y:=p.1)) λm1 m2 m3=>?_;generalize hq:(p::ps).getLast (by simp)=q;refine ce (abl (x:=hi) (y:=q.2)) λx1 x2 x3=>?_;have mq:q∈p::ps:=hq▸List.getLast_mem _;have ji:∀r∈p::ps,mn lo p.1<=r.1/\r.2<=mx hi q.2:=by
    intro r m;constructor
    ·refine Ey m2 ?_;rcases K7.mp m with rfl|m
     ·exact ZW _
     ·have:=(Xl.mp pw).1 r m;have:=(oM p (.head _)).2.1;exact Rb (by assumption) this
    ·refine Ey ?_ x2;have e:=List.dropLast_concat_getLast (l:=p::ps) (by simp);rw[hq] at e;rw[<- e] at m pw;rcases bT.mp m with m|m
     ·have:=(Z2.mp pw).2.2 r m q (.head _);have:=(oM q mq).2.1;exact Ra (by assumption) this
     ·rw[wm.mp m];exact ZW _
   refine ak (JB (u:=mn lo p.1) (v:=mx hi q.2) D h hu hl hv m1 (m3.imp id λe=>⟨p,.head _,e⟩) x1 (x3.imp id λe=>⟨q,mq,e⟩) ji) λa s=>?_;exact⟨a,s,by rw[D.e];simp only[Es,qR,Yp];exact Q9⟩
noncomputable def Tr.bH(t:Tr)(x:Int):Bool:=if t.op==3 then (t.K3==x||(t.fold&&cp t.K3==cp x)) else bX (if t.op==20 then t.Bd else[(0,1114111)]) x
noncomputable def jC(Ps:Rg)(P:Int->Bool):bh:=λa g=>if (a==Ps.length||!P (cX Ps a))=WL then[] else[(a+(Ps[a.toNat]?.getD (0,0)).2,g)]
theorem ib{t:Tr}(h:aP t=WL):t.op=3∨t.op=20∨t.op=12:=by
 unfold aP at h;rcases XD.mp h with h|h
 ·exact .inl (zH h)
 ·exact .inr ((XD.mp h).imp zH zH)
theorem Ft.wl{t:Tr}(h:Ft b t)(k:aP t=WL):∃nd,t=.mk nd []/\dT b nd:=
 h.jR (by rcases ib k with e|e|e<;>rw[e]<;>decide)
theorem CQ{Ps:Rg}{t:Tr}(k:aP t=WL):t.aR Ps=jC Ps t.bH:=by
 obtain⟨nd,l⟩:=t;funext a g;rcases ib k with e|e|e
 ·have e:nd.op=3:=e;rw[CP e];have:(Tr.mk nd l).bH=λx=>nd.K3==x||(fo nd.fl&&cp nd.K3==cp x):=by funext x;unfold Tr.bH;rw[show (Tr.mk nd l).op=3 from e];rfl
  rw[this];refine (?_:((if (a==Ps.length)=WL then M4 else if (!(nd.K3==cX Ps a)&&!(fo nd.fl&&cp nd.K3==cp (cX Ps a)))=WL then M4 else Ss (a+(Ps[a.toNat]?.getD (0,0)).2):Option Int).toList.map λe=>(e,g))=if (a==Ps.length||!(nd.K3==cX Ps a||(fo nd.fl&&cp nd.K3==cp (cX Ps a))))=WL then[] else[(a+(Ps[a.toNat]?.getD (0,0)).2,g)]);rw[Bool.not_or];generalize (!(nd.K3==cX Ps a)&&!(fo nd.fl&&cp nd.K3==cp (cX Ps a)))=u;cases a==Ps.length<;>induction u<;>rfl
 ·have e:nd.op=20:=e;have:(Tr.mk nd l).I=.set nd.Bd:=mX e;rw[m6 (by rw[e];decide) (by rw[e];decide)];have a2:(Tr.mk nd l).bH=bX nd.Bd:=by funext x;unfold Tr.bH;rw[show (Tr.mk nd l).op=20 from e];rfl
  unfold Tr.B;rw[this,a2];rfl
 ·have e:nd.op=12:=e;have:(Tr.mk nd l).I=.any:=mX e;rw[m6 (by rw[e];decide) (by rw[e];decide)];have a2:(Tr.mk nd l).bH=bX [(0,1114111)]:=by funext x;unfold Tr.bH;rw[show (Tr.mk nd l).op=12 from e];rfl
  unfold Tr.B;rw[this,a2];rfl
theorem qj{Ps:Rg}{P:Int->Bool}{a:Int}{g:Gr}(h:(a==Ps.length||!P (cX Ps a))=WL):jC Ps P a g=[]:=MS h
theorem vd{Ps:Rg}{P:Int->Bool}{a:Int}{g:Gr}(h:(a==Ps.length||!P (cX Ps a))=PO):jC Ps P a g=[(a+(Ps[a.toNat]?.getD (0,0)).2,g)]:=MZ (by rw[h];exact qH)
theorem Ka{e:Int}{g:Gr}:dc [(e,g),(e,g)] [(e,g)]:=by refine (?_:(if (e==e||false)=WL then[(e,g)] else[(e,g)]++[(e,g)])=[(e,g)]);rw[beq_self_eq_true,Bool.true_or,MS rfl]
theorem abo{Ps:Rg}{P Q:Int->Bool}{a:Int}{g:Gr}:dc (jC Ps P a g++jC Ps Q a g) (jC Ps (λx=>P x||Q x) a g):=by
 cases h:a==Ps.length with
 |true=>rw[qj (by rw[h];rfl),qj (by rw[h];rfl),qj (by rw[h];rfl)];rfl
 |false=>
  cases p:P (cX Ps a) with
  |false=>
   rw[qj (P:=P) (by rw[p,h];rfl)];cases q:Q (cX Ps a) with
   |false=>rw[qj (by rw[q,h];rfl),qj (by rw[p,q,h];rfl)];rfl
   |true=>rw[vd (by rw[q,h];rfl),vd (by rw[p,q,h];rfl)];rfl
  |true=>
   rw[vd (P:=P) (by rw[p,h];rfl),vd (P:=λx=>P x||Q x) (by rw[p,h];rfl)];cases q:Q (cX Ps a) with
   |false=>rw[qj (by rw[q,h];rfl)];rfl
   |true=>rw[vd (by rw[q,h];rfl)];exact Ka
theorem CA{Ps:Rg}{a:Int}{g:Gr}:∀{ts:List Tr},(∀t∈ts,aP t=WL)->dc (eE (ts.map (Tr.aR Ps)) a g) (jC Ps (λx=>ts.any (·.bH x)) a g)
 |[],j4=>by refine (?_:cy []=cy (jC Ps (λU=>PO) a g));unfold jC;rw[show (!PO)=WL from rfl,WF,MS rfl]
 |t::ts,h=>by refine (?_:dc (t.aR Ps a g++eE (ts.map (Tr.aR Ps)) a g) _);rw[CQ (h t (.head _))];refine Yx (dc.fp rfl (CA λs m=>h s (.tail _ m))) ?_;exact abo
theorem u8{nd:Nd}{l:List Tr}(e:(Tr.mk nd l).op=3)(x:Int):(Tr.mk nd l).bH x=(nd.K3==x||(fo nd.fl&&cp nd.K3==cp x)):=by unfold Tr.bH;rw[e];rfl
theorem Cx{nd:Nd}{l:List Tr}(e:(Tr.mk nd l).op=20)(x:Int):(Tr.mk nd l).bH x=bX nd.Bd x:=by unfold Tr.bH;rw[e];rfl
theorem Jz{nd:Nd}{l:List Tr}(e:(Tr.mk nd l).op=12)(x:Int):(Tr.mk nd l).bH x=bX [(0,1114111)] x:=by unfold Tr.bH;rw[e];rfl
theorem vi{r:Int}(h:65<=r/\r<=90):cp r=r+32:=MS (zA.mpr ⟨decide_eq_true h.1,decide_eq_true h.2⟩)
theorem qm{r:Int}(h:¬(65<=r/\r<=90)):cp r=r:=MZ λz=>h ((zA.mp z).elim λa b=>⟨zL a,zL b⟩)
theorem abI{r x:Int}(h:dq r=PO)(k:cp r=cp x):r=x:=by
 have n1:¬(65<=r/\r<=90):=λz=>eK ((show dq r=WL by unfold dq;rw[decide_eq_true z.1,decide_eq_true z.2];rfl).symm.trans h);have n2:¬(97<=r/\r<=122):=λz=>eK ((show dq r=WL by unfold dq;rw[decide_eq_true z.1,decide_eq_true z.2];exact WF _).symm.trans h);rw[qm n1] at k;by_cases c:65<=x/\x<=90
 ·rw[vi c] at k;exact MQ ⟨Ey (show (97:Int)<=x+32 from Z1 c.1 32) (bp k.symm),Ey (bp k) (show x+32<=(122:Int) from Z1 c.2 32)⟩ n2
 ·rw[qm c] at k;exact k
theorem abH{r x:Int}(e:cp r=cp x)(h0:0<=r)(h1:r<=1114111):0<=x/\x<=1114111:=by
 by_cases c:65<=x/\x<=90
 ·exact⟨Ey (by decide) c.1,Ey c.2 (by decide)⟩
 ·rw[qm c] at e;rw[<- e];by_cases d:65<=r/\r<=90
  ·rw[vi d];exact⟨VN h0 (by decide),Ey (Z1 d.2 32) (by decide)⟩
  ·rw[qm d];exact⟨h0,h1⟩
noncomputable def ja(r:Int):Int:=if r<=90 then r+32 else r-32
theorem yE{r:Int}(h:dq r=WL):(65<=r/\r<=90)∨(97<=r/\r<=122):=by unfold dq at h;simpa using h
theorem abN{r:Int}(h:dq r=WL):ar r 32=ja r:=by
 obtain⟨n,rfl⟩:∃n:Nat,r=n:=ZJ (by have:=yE h;exact Rp this);have hn:n<123:=by have:=yE h;exact Ro this
 exact (show ∀n:Nat,n<123->dq n=WL->ar (n:Int) 32=ja n by decide +kernel) n hn h
theorem Kb{r x:Int}(h:dq r=WL):(cp r==cp x)=(x==r||x==ja r):=by
 have h:=yE h;refine Y9.mpr ?_;rw[Xn,K5,K5,K5];rcases h with h|h
 ·rw[vi h,show ja r=r+32 from MS h.2];by_cases c:65<=x/\x<=90
  ·rw[vi c];exact⟨λe=>.inl ((Int.add_left_inj 32).mp e).symm,λe=>e.elim (λe=>by rw[e]) λe=>MQ (Ey (Z1 h.1 32) (Ey (bp e.symm) c.2)) (by decide)⟩
  ·rw[qm c];exact⟨λe=>.inr e.symm,λe=>e.elim (λe=>MQ (by rw[e];exact h) c) λe=>e.symm⟩
 ·have n:¬(65<=r/\r<=90):=λz=>MQ (Ey h.1 z.2) (by decide);rw[qm n,show ja r=r-32 from MZ λz=>MQ (Ey h.1 z) (by decide)];by_cases c:65<=x/\x<=90
  ·rw[vi c];exact⟨λe=>.inr (by rw[e];exact (XI x 32).symm),λe=>e.elim (λe=>MQ (by rw[<- e];exact c) n) λe=>by rw[e];exact (Int.sub_add_cancel r 32).symm⟩
  ·rw[qm c];exact⟨λe=>.inl e.symm,λe=>e.elim (λe=>e.symm) λe=>MQ ⟨by rw[e];exact WU h.1 32,by rw[e];exact WU h.2 32⟩ c⟩
theorem Kf{r:Int}(h:(65<=r/\r<=90)∨(97<=r/\r<=122)):0<=ja r/\ja r<=255:=by
 unfold ja;rcases h with h|h
 ·rw[MS h.2];exact⟨Ey (by decide) (Z1 h.1 32),Ey (Z1 h.2 32) (by decide)⟩
 ·rw[MZ λz=>MQ (Ey h.1 z) (by decide)];exact⟨Ey (by decide) (WU h.1 32),Ey (WU h.2 32) (by decide)⟩
theorem yM:255<=fE b:=by unfold fE;split<;>decide
theorem Kj:fE b<=1114111:=by unfold fE;split<;>decide
theorem aaY{t:Tr}(h:Ft b t)(k:aP t=WL){x:Int}(c:t.bH x=WL):bX [(0,1114111)] x=WL:=by
 refine aj (h.wl k) λnd y9 l=>?_;subst y9;have tl:=Kj (b:=b);refine ot.mpr ⟨_,.head _,?_⟩;refine (?_:0<=x/\x<=1114111);rcases ib k with e|e|e
 ·rw[u8 e,Xn,YS,K5,K5] at c;have hr:=l.rn nd.K3 (by unfold Tr.rn;rw[show (Tr.mk nd []).op=3 from e];exact .head _);rcases c with c|⟨_,c⟩
  ·exact Rn hr c tl
  ·exact abH c hr.1 (Ey hr.2 tl)
 ·rw[Cx e] at c;refine bV (ot.mp c) λp m h1 h2=>?_;have:=(l.cl e).2 p m;exact Rm this tl h1 h2
 ·rw[Jz e] at c;refine bV (ot.mp c) λp m h1 h2=>?_;rw[wm.mp m] at h1 h2;exact⟨h1,h2⟩
theorem JA:∀{rs rows:Rg},fD b rows->(∀p∈rs,sf b p)->rows.length+rs.length<=1000000->pQ rows rs/\fD b (jv rows rs)/\(∀x,bX (jv rows rs) x=(bX rows x||bX rs x))/\(jv rows rs).length<=rows.length+rs.length
 |[],rows,h,j4,l=>⟨⟨l,h.up⟩,h,λx=>(Zk _).symm,EC _⟩
 |p::rs,rows,h,k,l=>by refine ce (k p (.head _)) λp0 p1 p2=>?_;obtain⟨d,s,n⟩:=Cy h p0 p1 p2;rw[qR] at l;refine iR (JA (rs:=rs) d (λq m=>k q (.tail _ m)) (RN l n)) λa1 a2 a3 a4=>?_;refine⟨⟨by show _<=_;exact tP l,h.up,a1⟩,a2,λx=>?_,by rw[qR];refine (?_:(jv (cn rows p.1 p.2).1 rs).length<=_);exact RM n a4⟩;refine (?_:bX (jv (cn rows p.1 p.2).1 rs) x=_);rw[a3,s,Xz];rfl
theorem Cw{nd:Nd}(l:dT b nd)(k:aP (.mk nd [])=WL):12+nd.Bd.length<=(Tr.mk nd []).W:=by
 have:(Tr.mk nd []).ck=1:=by rcases ib k with e|e|e<;>(unfold Tr.ck;rw[e];first|rfl|(unfold Tr.rn;rw[e];rfl))
 rw[Tr.gu,this];refine (?_:12+nd.Bd.length<=2+10*1+nd.D5.length+nd.Bd.length+0);exact RJ
structure aaU(b:Int)(rows:Rg)(t:Tr)(out:Rg):Prop where
 d:fD b out
 s:∀x,bX out x=(bX rows x||t.bH x)
 l:out.length+10<=rows.length+t.W
theorem aby{nd:Nd}(l:dT b nd)(e:nd.op=3):0<=nd.K3/\nd.K3<=fE b:=
 l.rn nd.K3 (by unfold Tr.rn;rw[show (Tr.mk nd []).op=3 from e];exact .head _)
theorem yG{r x:Int}:(decide (r<=x)&&decide (x<=r))=(r==x):=by refine Y9.mpr ?_;rw[YS,decide_eq_true_eq,decide_eq_true_eq,K5];exact RI
theorem aa4{rows:Rg}{t:Tr}(h:fD b rows)(ht:Ft b t)(k:aP t=WL)(n:t.op≠12)(w:rows.length+t.W<=1000000):aaU b rows t (km rows t)/\(t.op=20->pQ rows t.Bd)/\(t.op≠20->(sm rows/\up rows)/\(dq t.K3=WL->sm (cn rows t.K3 t.K3).1/\up (cn rows t.K3 t.K3).1)):=by
 refine aj (ht.wl k) λnd y9 l=>?_;subst y9;have hw:=Cw l k;rcases ib k with e|e|e
 ·refine ak (aby l e) λr0 r1=>?_;obtain⟨d,s,ln⟩:=Cy h r0 (ZW _) r1;refine⟨?_,λz=>MQ (e.symm.trans z) (by decide),λU=>⟨⟨by show _<=_;exact UF w,h.up⟩,λU=>⟨by show _<=_;refine (?_:(cn rows nd.K3 nd.K3).1.length<=_);exact RG hw w ln,d.up⟩⟩⟩;have e1:km rows (.mk nd [])=if ((Tr.mk nd []).fold&&dq nd.K3)=WL then (cn (cn rows nd.K3 nd.K3).1 (ar nd.K3 32) (ar nd.K3 32)).1 else (cn rows nd.K3 nd.K3).1:=by unfold km;rw[e];exact MZ (by decide)
  rw[e1];by_cases c:((Tr.mk nd []).fold&&dq nd.K3)=WL
  ·rw[MS c];refine ak (zA.mp c) λc1 c2=>?_;rw[abN c2];have lt:=yE c2;have tg:=yM (b:=b);have sw:0<=ja nd.K3/\ja nd.K3<=fE b:=⟨(Kf lt).1,Ey (Kf lt).2 tg⟩
   obtain⟨d',s',ln'⟩:=Cy d sw.1 (ZW _) sw.2;refine⟨d',λx=>?_,by exact RE hw ln' ln⟩;rw[s',s,yG,yG,u8 e,show fo nd.fl=WL from c1,Y0,Kb c2,Xz];congr 1;rw[show (nd.K3==x)=(x==nd.K3) from Y9.mpr (by rw[K5,K5];exact eq_comm),show (ja nd.K3==x)=(x==ja nd.K3) from Y9.mpr (by rw[K5,K5];exact eq_comm),<- Xz,Bool.or_self]
  ·rw[MZ c];refine⟨d,λx=>?_,by exact RD hw ln⟩;rw[s,yG,u8 e];congr 1;cases q:nd.K3==x with
   |true=>rfl
   |false=>
    cases f:fo nd.fl with
    |false=>rfl
    |true=>
     have:dq nd.K3=PO:=by rw[show (Tr.mk nd []).fold=WL from f,Y0] at c;exact sW.mpr c
     refine (sW.mpr λz=>?_).symm;rw[Y0,Us,K5] at z;rw[abI this z,beq_self_eq_true] at q;exact eK q
 ·refine iR (JA h (l.cl e).2 (RC hw w)) λa1 a2 a3 a4=>?_;refine⟨?_,λU=>a1,λz=>MQ e z⟩;rw[show km rows (.mk nd [])=jv rows nd.Bd from MS (K5.mpr e)];exact⟨a2,λx=>by rw[a3,Cx e],by exact RB hw a4⟩
 ·exact MQ e n
theorem Kk{r:Int}:∀{rg:Rg},rg.Pairwise (λp q=>p.2<q.1)->(∀p∈rg,p.1<=p.2/\p.2<=r)->iA rg r=rg
 |[],j4,j5=>rfl
 |p::rg,h,k=>by
  refine ak (Xl.mp h) λh1 h2=>?_;have kp:=k p (.head _);by_cases c:p.2<r
  ·have pl:bG (p::rg) r=bG rg r+1:=by unfold bG;rw[We (by simpa using c)];rfl
   have ih:=Kk h2 λq m=>k q (.tail _ m);unfold iA at ih ⊢;rw[pl,List.getElem?_cons_succ,List.take_succ_cons];generalize rg[bG rg r]?=o at ih ⊢;induction o with
   |none=>exact congrArg (p::·) ih
   |some q=>
    dsimp only at ih ⊢;by_cases z:q.1<=r
    ·rw[MS z] at ih ⊢;exact congrArg (p::·) ih
    ·rw[MZ z] at ih ⊢;exact congrArg (p::·) ih
  ·have pl:bG (p::rg) r=0:=by unfold bG;rw[Wl (by simpa using c)];rfl
   induction rg using K1 with
   |nil=>unfold iA;rw[pl];refine (?_:(if p.1<=r then[(p.1,r)] else[])=[p]);rw[MS (RA kp c),show r=p.2 by exact Ry kp c]
   |cons q rg=>
    have:=h1 q (.head _);have:=k q (.tail _ (.head _))
    lia -abstractProof
structure qf(b:Int)(P:Int->Bool)(w:Nat)(r:Tr):Prop where
 ft:Ft b r
 sg:aP r=WL
 ac:∀x,r.bH x=P x
 w:r.W<=w
theorem abG(hb:b=0∨b=32){rows:Rg}(h:fD b rows):qf b (bX rows) (12+rows.length) (rP rows b):=by
 have e:rP rows b=rQ rows b:=by
  unfold rP;congr 1;rcases hb with rfl|rfl
  ·rfl
  ·exact Kk h.1 λp m=>⟨(h.2 p m).2.1,(h.2 p m).2.2⟩
 rw[e];have fb:fo b=PO/\fo (dM b 1)=WL/\vT b (Zi 1)=b:=by rcases hb with rfl|rfl<;>decide
 have cls:qf b (bX rows) (12+rows.length) (.cls rows b):=by refine⟨.leaf ⟨by show (20:Int)∈_;decide,λz=>(aX z),λz=>MQ (show (20:Int)=4 from z) (by decide),λr z=>(aT z),λU=>h,λz=>MQ (show (20:Int)=19 from z) (by decide),λU=>rfl,λz=>MQ rfl z⟩,rfl,λx=>Cx rfl x,?_⟩;refine (?_:2+10*1+0+rows.length+0<=_);exact Rx
 have afW:∀r,r=Tr.cls rows b->qf b (bX rows) (12+rows.length) r:=λr z=>z▸cls
 match rows,h,afW with
 |[],j4,k=>exact k _ (congrArg (Tr.cls []) fb.2.2)
 |[p],h,k=>
  refine (?_:qf b (bX [p]) (12+1) (if (p.1==p.2)=WL then .Y p.1 b else .cls [p] (vT b (Zi 1))));by_cases c:p.1=p.2
  ·rw[MS (K5.mpr c)];refine ce (h.2 p (.head _)) λq0 q1 q2=>?_;refine⟨Ft.oX (rs:=[p.1]) (.inl rfl) λr m=>by rw[wm.mp m];exact Rw q0 c q2,rfl,λx=>?_,by refine (?_:12<=13);decide⟩;rw[show Tr.Y p.1 b=.mk { op:=3,fl:=b,K3:=p.1 } [] from rfl,u8 rfl,fb.1,XZ,Zk];refine (?_:_=(decide (p.1<=x)&&decide (x<=p.2)||false));rw[Zk,<- c,yG]
  ·rw[MZ (by rw[K5];exact c)];exact k _ (congrArg (Tr.cls [p]) fb.2.2)
 |[p,q],h,k=>
  refine (?_:qf b (bX [p,q]) (12+2) (if mR [p,q]=WL then .Y q.1 (dM b 1) else .cls [p,q] (vT b (Zi 1))));by_cases c:mR [p,q]=WL
  ·rw[MS c];unfold mR at c;simp only[YS,decide_eq_true_eq,K5] at c;refine tM c λc1 c2 c3 c4 c5=>?_
   refine ce (h.2 q (.tail _ (.head _))) λq0 q1 q2=>?_;have lt:dq q.1=WL:=by unfold dq;simp only[Xn,YS,decide_eq_true_eq];exact Rv c3 c1 c2 c5 c4
   refine⟨Ft.oX (rs:=[q.1]) (.inr rfl) λr m=>by rw[wm.mp m];exact Rs c3 c1 c2 c5 c4 q2,rfl,λx=>?_,by refine (?_:12<=14);decide⟩;rw[show Tr.Y q.1 (dM b 1)=.mk { op:=3,fl:=dM b 1,K3:=q.1 } [] from rfl,u8 rfl,fb.2.1,Y0,Kb lt];refine Y9.mpr ?_;refine (?_:_↔(decide (p.1<=x)&&decide (x<=p.2)||(decide (q.1<=x)&&decide (x<=q.2)||false))=WL);unfold ja;simp only[Xn,YS,decide_eq_true_eq,K5,Zk];rw[MZ (Rr c3 c1 c2 c5 c4)];exact Rq c2 c1 c5
  ·rw[MZ c];exact k _ (congrArg (Tr.cls [p,q]) fb.2.2)
 |p::q::u::rg,j4,k=>exact k _ (congrArg (Tr.cls (p::q::u::rg)) fb.2.2)
abbrev r9(b:Int)(ts:List Tr):Prop:=∀t∈ts,Ft b t/\aP t=WL
theorem zf:∀{ts:List Tr},r9 b ts->12*ts.length<=aM ts
 |[],j4=>EC _
 |t::ts,h=>by refine aj ((h t (.head _)).1.wl (h t (.head _)).2) λnd y9 l=>?_;subst y9;have:=Cw l (h _ (.head _)).2;have ih:=zf (ts:=ts) λs m=>h s (.tail _ m);refine (?_:12*(ts.length+1)<=(Tr.mk nd []).W+aM ts);exact Sa ih this
theorem aeI:∀{ts:List Tr},r9 b ts->∀{x:Int},ts.any (·.bH x)=WL->bX [(0,1114111)] x=WL:=λh x k=>by refine aj (Z7.mp k) λt m c=>?_;exact aaY (h t m).1 (h t m).2 c
theorem fD.bH{rows:Rg}(h:fD b rows){x:Int}(k:bX rows x=WL):bX [(0,1114111)] x=WL:=by refine bV (ot.mp k) λp m h1 h2=>?_;have:=h.2 p m;have:=Kj (b:=b);exact ot.mpr ⟨_,.head _,by refine (?_:0<=x);exact R9 (by assumption) h1,by refine (?_:x<=1114111);exact R8 (by assumption) this h2⟩
theorem abq{u v:Bool}(h:u=WL->v=WL):v=(u||v):=by induction u<;>induction v<;>first|rfl|exact (nomatch h rfl)
theorem CB(hb:b=0∨b=32){fl:Int}(hf:vT fl (Zi 1)=b):∀{ts:List Tr}{rows:Rg},fD b rows->r9 b ts->rows.length+aM ts<=1000000->qf b (λx=>bX rows x||ts.any (·.bH x)) (12+rows.length+(aM ts-10*ts.length)) (f9 fl rows ts)/\uD rows ts
 |[],rows,d,j4,w=>by obtain⟨a1,a2,a3,a4⟩:=abG hb d;refine (?_:qf b _ _ (rP rows (vT fl (Zi 1)))/\_);rw[hf];exact⟨⟨a1,a2,λx=>by rw[a3];exact (Zk _).symm,a4⟩,Le (oW _ _) w,d.up⟩
 |t::ts,rows,d,h,w=>by
  have wt:=zf h;have w:rows.length+(t.W+aM ts)<=1000000:=w;have ht:=h t (.head _);have wP:r9 b ts:=λs m=>h s (.tail _ m);have N5:=zf wP;have wt:12*(ts.length+1)<=t.W+aM ts:=wt;by_cases c:t.op=12
  ·have e:f9 fl rows (t::ts)=t:=MS (K5.mpr c);rw[e];refine⟨⟨ht.1,ht.2,λx=>?_,?_⟩,λz=>MQ c z⟩
   ·have ta:t.bH x=bX [(0,1114111)] x:=by obtain⟨nd,l⟩:=t;exact Jz c x
    refine (?_:t.bH x=(bX rows x||(t.bH x||ts.any (·.bH x))));rw[ta,<- Xz,Bool.or_comm (bX rows x),Xz,Bool.or_comm];exact abq λz=>(XD.mp z).elim d.bH (aeI wP)
   ·refine (?_:t.W<=12+rows.length+(t.W+aM ts-10*(ts.length+1)));exact RZ wt N5 w
  ·have e:f9 fl rows (t::ts)=f9 fl (km rows t) ts:=MZ (by rw[K5];exact c);obtain⟨⟨s1,s2,s3⟩,s4,s5⟩:=aa4 d ht.1 ht.2 c (FO w);obtain⟨⟨a1,a2,a3,a4⟩,a5⟩:=CB hb hf s1 wP (RX w s3);rw[e];refine⟨⟨a1,a2,λx=>?_,?_⟩,λU=>⟨s4,s5,a5⟩⟩
   ·rw[a3,s2,Xz];rfl
   ·refine (?_:_<=12+rows.length+(t.W+aM ts-10*(ts.length+1)));exact RU wt N5 s3 a4
structure gg(ts us:List Tr):Prop where
 zM:∀Ps a g,dc (eE (us.map (Tr.aR Ps)) a g) (eE (ts.map (Tr.aR Ps)) a g)
 c:be us<=be ts
 w:aM us+20*be us<=aM ts+20*be ts
 z:be us=0->be ts=0
theorem gg.Q(ts:List Tr):gg ts ts:=⟨λU U U=>rfl,EC _,EC _,id⟩
theorem gg.S{ts us vs:List Tr}(h:gg ts us)(k:gg us vs):gg ts vs:=
 ⟨λp a g=>(k.zM p a g).trans (h.zM p a g),Le k.c h.c,Le k.w h.w,λe=>h.z (k.z e)⟩
theorem gg.fp{ts us N6 th:List Tr}(h:gg ts us)(k:gg N6 th):gg (ts++N6) (us++th):=by
 obtain⟨h1,h2,h3,h4⟩:=h;obtain⟨k1,k2,k3,k4⟩:=k;refine⟨λp a g=>?_,?_,?_,?_⟩
 ·rw[wh,wh,JF,JF];exact (h1 p a g).fp (k1 p a g)
 ·rw[jA,jA];exact Zh h2 k2
 ·rw[lF,lF,jA,jA];exact TR h3 k3
 ·rw[jA,jA];exact λe=>ak (al5.mp e) λa b=>by rw[h4 a,k4 b]
theorem ql{t:Tr}(h:Ft b t)(k:aP t=WL):t.E=1:=by
 refine aj (h.wl k) λnd y9 l=>?_;subst y9;rw[lO];have:(Tr.mk nd []).ck=1:=by rcases ib k with e|e|e<;>(unfold Tr.ck;rw[e];first|rfl|(unfold Tr.rn;rw[e];rfl))
 rw[this];rfl
theorem Mi:∀{ts:List Tr},r9 b ts->be ts=ts.length
 |[],j4=>rfl
 |t::ts,h=>by refine (?_:t.E+be ts=ts.length+1);rw[ql (h t (.head _)).1 (h t (.head _)).2,Mi λs m=>h s (.tail _ m),V5]
theorem abD(hb:b=0∨b=32){fl:Int}(hf:vT fl (Zi 1)=b){ts:List Tr}(h:r9 b ts)(n:2<=ts.length)(w:aM ts<=1000000):gg ts [f9 fl [] ts]/\Ft b (f9 fl [] ts)/\aP (f9 fl [] ts)=WL:=by
 obtain⟨⟨a1,a2,a3,a4⟩,_⟩:=CB hb hf (rows:=[]) ⟨.nil,λp m=>nomatch m⟩ h (by refine (?_:0+_<=_);exact RT w);have c:=Mi h;have wt:=zf h;have k1:be [f9 fl [] ts]=1:=ql a1 a2;refine⟨⟨λPs a g=>?_,by exact RS wt n k1 c w,?_,by exact RQ k1⟩,a1,a2⟩
 ·refine Yx ?_ (CA λt m=>(h t m).2).symm;refine Yx (CA (ts:=[f9 fl [] ts]) λt m=>by rw[wm.mp m];exact a2) ?_;have:(λx=>[f9 fl [] ts].any (·.bH x))=λx=>ts.any (·.bH x):=by funext x;refine (?_:(_||false)=_);rw[Zk];exact a3 x
  rw[this]
 ·rw[k1,c];refine (?_:(f9 fl [] ts).W+0+20*1<=_);have:(f9 fl [] ts).W<=12+0+(aM ts-10*ts.length):=a4;exact RO n c w this
structure Ct(b:Int)(p:Tr)(src out:List Tr):Prop where
 s:gg src out
 f:∀r∈out,r∈src∨(Ft b r/\aP r=WL/\∃t∈src,aP t=WL)
 n:fC oh out
 h:∃r o,out=r::o/\aP r=aP p
theorem abE(hb:b=0∨b=32){fl:Int}(hf:vT fl (Zi 1)=b):∀(ts:List Tr) (p:Tr) (g:List Tr),(∀t∈(p::g)++ts,Ft b t)->g=[]∨(∀t∈p::g,aP t=WL)->aM ((p::g)++ts)<=1000000->Ct b p ((p::g)++ts) (iB fl p g ts):=by
 have pz:∀(p:Tr) (g:List Tr),(∀t∈p::g,Ft b t)->g=[]∨(∀t∈p::g,aP t=WL)->aM (p::g)<=1000000->Ct b p (p::g) [n5 fl p g]:=λp g h k w=>by
  induction g using K1 with
  |nil=>exact⟨.Q _,λr m=>.inl m,⟨λU e=>(aY e),trivial⟩,p,[],rfl,rfl⟩
  |cons u g=>
   have k:=k.resolve_left λe=>by exact fN e
   refine ce (abD hb hf (ts:=p::u::g) (λt m=>⟨h t m,k t m⟩) (oJ _ _) w) λa1 a2 a3=>?_;exact⟨a1,λr m=>.inr (by rw[wm.mp m];exact⟨a2,a3,p,.head _,k p (.head _)⟩),⟨λU e=>(aY e),trivial⟩,_,[],rfl,a3.trans (k p (.head _)).symm⟩
 intro ts;induction ts with
 |nil=>intro p g h k w;rw[zB] at h w ⊢;exact pz p g h k w
 |cons t ts ih=>
  intro p g h k w;by_cases c:(aP p&&aP t)=WL
  ·rw[show iB fl p g (t::ts)=iB fl p (g++[t]) ts from MS c];have e:(p::g)++t::ts=(p::(g++[t]))++ts:=by rw[aU,aU,zx];rfl
   rw[e] at h w ⊢;refine ak (zA.mp c) λc1 c2=>?_;refine ih p (g++[t]) h (.inr ?_) w;rw[<- aU];refine qn (λs m=>?_) c2;rcases k with rfl|k
   ·rw[wm.mp m];exact c1
   ·exact k s m
  ·rw[show iB fl p g (t::ts)=n5 fl p g::iB fl t [] ts from MZ c];rw[lF] at w;have c':=pz p g (λs m=>h s (l8 _ m)) k (Le (oW _ _) w);have i':=ih t [] (λs m=>h s (s7 _ m)) (.inl rfl) (Le (oJ _ _) w);refine hJ (i'.h) λr o e1 e2=>?_;refine hJ (c'.h) λr0 o0 e3 e4=>?_;refine ak (dj e3) λy9 y8=>?_;subst y9;subst y8;refine⟨c'.s.fp i'.s,λq m=>?_,⟨λq e=>?_,i'.n⟩,_,_,rfl,e4⟩
   ·rcases K7.mp m with rfl|m
    ·exact (c'.f _ (.head _)).imp (l8 _) λ⟨x,y,u,m,z⟩=>⟨x,y,u,l8 _ m,z⟩
    ·exact (i'.f q m).imp (s7 _) λ⟨x,y,u,m,z⟩=>⟨x,y,u,s7 _ m,z⟩
   ·rw[e1] at e;have e:Ss r=Ss q:=e
    (have y9:=K6 e;clear e;subst y9);refine (?_:(aP _&&aP r)=PO);rw[e4,e2];exact sW.mpr c
theorem J9{fl:Int}:∀{ts:List Tr}{p:Tr},fC oh (p::ts)->iB fl p [] ts=p::ts
 |[],p,j4=>rfl
 |t::ts,p,h=>by rw[show iB fl p [] (t::ts)=if (aP p&&aP t)=WL then _ else n5 fl p []::iB fl t [] ts from rfl,MZ (by rw[show (aP p&&aP t)=PO from h.1 t rfl];exact qH),J9 h.2];rfl
structure Ju(b:Int)(p:Tr)(D:Nat)(t u:Tr):Prop where
 aR:∀Ps a g,t.aR Ps a g=bi (p.aR Ps a g) (u.aR Ps)
 c:t.E=p.E+u.E
 w:u.W+20*u.E+D<=t.W+20*t.E
 ft:Ft b u
 ht:u.ht<=t.ht
 ph:p.ht<=t.ht
 sg:t.E=1->(aP p=WL∨a6 p.op=WL)->aP t=WL
structure yy(b:Int)(p:Tr)(rm:Tr->Tr)(gs:List Tr):Prop where
 ft:Ft b p
 op:p.op≠2/\p.op≠5/\p.op≠6
 det:∀Ps a g,(p.aR Ps a g).length<=1
 D:∃D,p.W+20*p.E+4<=2*D/\∀t∈gs,Ju b p D t (rm t)
theorem JC{a b c d:List aH}(h:a=b)(k:c=d):a++c=b++d:=by rw[h,k]
theorem aa3{Ps:Rg}{X:List aH}{rm:Tr->Tr}{a:Int}{g:Gr}{gs:List Tr}(h:∀t∈gs,t.aR Ps a g=bi X ((rm t).aR Ps))(k:X.length<=1):eE (gs.map (Tr.aR Ps)) a g=bi X (eE ((gs.map rm).map (Tr.aR Ps))):=by
 revert h;refine Ar X k (λh=>?_) λw h=>?_
 ·induction gs with
  |nil=>rfl
  |cons t gs ih=>exact (JC (h t (.head _)) (ih λs m=>h s (.tail _ m)):t.aR Ps a g++eE (gs.map (Tr.aR Ps)) a g=_)
 ·refine (?_:_=eE _ w.1 w.2++[]);rw[zB];induction gs with
  |nil=>rfl
  |cons t gs ih=>exact (JC ((h t (.head _)).trans (zB _)) (ih λs m=>h s (.tail _ m)):t.aR Ps a g++eE (gs.map (Tr.aR Ps)) a g=_)
theorem JH{p:Tr}{D:Nat}{rm:Tr->Tr}:∀{gs:List Tr},(∀t∈gs,Ju b p D t (rm t))->be gs=gs.length*p.E+be (gs.map rm)/\aM (gs.map rm)+20*be (gs.map rm)+gs.length*D<=aM gs+20*be gs
 |[],j4=>⟨(Nat.zero_mul _).symm▸rfl,by rw[show ([]:List Tr).length=0 from rfl,Nat.zero_mul];exact EC _⟩
 |t::gs,h=>by refine ak (JH (gs:=gs) λs m=>h s (.tail _ m)) λc w=>?_;have a:=(h t (.head _)).c;have d:=(h t (.head _)).w;rw[qR,V7 gs.length p.E,V7 gs.length D];exact⟨by refine (?_:t.E+be gs=_+_+((rm t).E+be (gs.map rm)));exact Su a c,by refine (?_:(rm t).W+aM (gs.map rm)+20*((rm t).E+be (gs.map rm))+_<=t.W+aM gs+20*(t.E+be gs));exact Sr d w c a⟩
structure aaT(b:Int)(res:List Tr)(H:Nat)(x:Tr):Prop where
 ft:Ft b x
 c:x.E=be res
 ht:x.ht<=H+1
 w:x.W<=2+aM res
theorem aa0{res:List Tr}{H:Nat}{f:Int}(h:∀t∈res,Ft b t/\t.ht<=H/\t.op≠6)(j:fC lM res)(n:res≠[]):aaT b res H (bZ res f):=by
 match res,n with
 |[t],j4=>exact⟨(h t (.head _)).1,rfl,ZP (h t (.head _)).2.1,oJ _ _⟩
 |t::u::res,j4=>refine⟨.alt rfl (oJ _ _) (λs m=>(h s m).1) (λs m=>(h s m).2.2) j,qk (t:=.mk { op:=6,fl:=f } (t::u::res)) (.inr rfl) (oJ _ _),de (CG λs m=>(h s m).2.1),?_⟩;refine (?_:2+10*0+0+0+aM (t::u::res)<=_);exact FM
abbrev r8(ts:List Tr):Nat:=aM ts+20*be ts
structure Spc(b fl:Int)(m h:Nat)(ts EM:List Tr)(N:Nat):Prop where
 r:fB fl 0 ts EM N
 s:gg ts EM
 n:N+7*be EM<=5+7*be ts
 f:∀t∈EM,Ft b t/\t.ht<=h+2*m/\t.op≠6
 j:fC lM EM
 ne:EM≠[]
abbrev Cu(b:Int)(m h:Nat)(ts:List Tr):Prop:=∀t∈ts,Ft b t/\t.ht<=h/\t.E<=m
abbrev u7(b fl:Int)(m h:Nat):Prop:=∀ts,ts≠[]->Cu b m h ts->r8 ts<=1000000->∃EM N,Spc b fl m h ts EM N
structure aaW(b fl:Int)(p:Tr)(rm:Tr->Tr)(gs res:List Tr)(N h:Nat):Prop where
 i:fB fl 0 (gs.map rm) res N
 k:sm (gs.map rm)
 j:uU fl p res
 s:gg gs [bR p [bZ res fl] fl]
 n:N+2+7*(bR p [bZ res fl] fl).E<=7*be gs
 o:∃c,yz b p (bR p [bZ res fl] fl) c h
 sg:aP (bR p [bZ res fl] fl)=WL->∀t∈gs,aP t=WL
theorem abp{fl:Int}{m h:Nat}(IH:∀m',m'+1=m->u7 b fl m' h){p:Tr}{rm:Tr->Tr}{gs:List Tr}(C:yy b p rm gs)(L:2<=gs.length)(H:∀t∈gs,t.ht<=h/\t.E<=m)(w:r8 gs<=1000000):∃res N,aaW b fl p rm gs res N (h+2*m):=by
 refine aj (C.D) λD d1 d2=>?_;refine ak (JH d2) λc1 c2=>?_;have w:aM gs+20*be gs<=1000000:=w;have pc:=C.ft.pos C.op.1;have n0:gs.map rm≠[]:=λe=>by rw[WS.mp e] at L;exact lj L
 have m1:2*p.E<=gs.length*p.E:=alQ _ L;have m2:2*D<=gs.length*D:=alQ _ L;obtain⟨t0,z0⟩:=Vd gs λe=>by rw[e] at L;exact lj L
 obtain⟨m,rfl⟩:∃m',m=m'+1:=⟨m-1,by have:=(d2 t0 z0).c;have:=(H t0 z0).2;exact Sq pc (by assumption) this⟩
 obtain⟨res,N,S⟩:=IH m rfl (gs.map rm) n0 (λu hu=>by refine aj (zK.mp hu) λt mt y9=>?_;subst y9;have a:=(d2 t mt).c;have k:=H t mt;exact⟨(d2 t mt).ft,Le (d2 t mt).ht k.1,by exact Sn pc a k⟩) (by refine (?_:aM (gs.map rm)+20*be (gs.map rm)<=_);exact Sm pc m2 d1 c2 w c1)
 have A:=aa0 (f:=fl) S.f S.j S.ne;have ac:=A.c;have aw:=A.w;have sw:=S.s.w;have sc:=S.s.c;have hp:p.ht<=h:=Le (d2 t0 z0).ph (H t0 z0).1;have J:=abh (b:=b) (h:=h+2*m+1) (p:=p) (x:=bZ res fl) (fl:=fl) (λt mt=>by
  rcases K7.mp mt with rfl|mt
  ·exact⟨C.ft,by exact Sl hp⟩
  ·rw[wm.mp mt];exact⟨A.ft,A.ht⟩) C.op.1 C.op.2.1 C.op.2.2
 have jc:=J.c;have Fp:=Bp (a:=p) (ss:=[bZ res fl]) (fl:=fl);have Fp:(bR p [bZ res fl] fl).W<=2+p.W+((bZ res fl).W+0):=Fp;refine⟨res,N,S.r,?_,⟨?_,?_⟩,⟨λPs a g=>?_,?_,?_,?_⟩,?_,⟨_,J⟩,λk t mt=>?_⟩
 ·have:=mP (ts:=gs.map rm);show _<=_;exact Sk this c2 w c1
 ·have:=mP (ts:=res);show _<=_;exact Sj this m2 d1 c2 w sw ac c1 jc
 ·refine Le Bq (Le xv ?_);refine (?_:p.W+((bZ res fl).W+0)<=_);exact Si m2 d1 c2 w sw ac c1 jc aw
 ·refine (?_:dc (eE [(bR p [bZ res fl] fl).aR Ps] a g) _);rw[show eE [(bR p [bZ res fl] fl).aR Ps] a g=(bR p [bZ res fl] fl).aR Ps a g from zB _,J2,aa3 (λt mt=>(d2 t mt).aR Ps a g) (C.det Ps a g)];refine (?_:dc (bi (p.aR Ps a g) (dC Ps [bZ res fl])) _);refine Mj λv U=>?_;rw[yJ,abu S.ne];exact S.s.zM Ps v.1 v.2
 ·refine (?_:(bR p [bZ res fl] fl).E+0<=_);exact Sg pc m1 ac jc c1 sc
 ·refine (?_:(bR p [bZ res fl] fl).W+0+20*((bR p [bZ res fl] fl).E+0)<=_);exact Sf m2 d1 c2 sw ac jc c1 aw Fp
 ·refine (?_:(bR p [bZ res fl] fl).E+0=0->_);exact Se pc m1 w ac jc c1 sc
 ·have:=S.n;exact Sd pc m1 this ac c1 jc
 ·have k1:=ql J.ft k;have z:=S.s.z (Sc pc m1 w k1 ac c1 jc sc);have cr:=oq (al8 (f:=rm) mt);have tc:=(d2 t mt).c;refine (d2 t mt).sg (Sb z k1 ac jc tc sc cr) ?_;refine nQ (J.q) λq U U e e2=>?_;rcases e with e|e
  ·rcases e2 with e2|e2
   ·exact .inl (e2▸e▸k)
   ·exact .inr e2.1
  ·rw[e] at k;exact aX k
abbrev r7(R:Tr->Tr->Prop)(t:Tr)(ts:List Tr):Prop:=∀u,ts.head?=Ss u->R t u
class inductive ia(b:Int)(m h:Nat)(R Kr:Tr->Tr->Prop):List Tr->List Pr->Prop
 |nil:ia b m h R Kr [] []
 |one {t:Tr}{ts:List Tr}{bz:List Pr}:r7 R t ts->ia b m h R Kr ts bz->ia b m h R Kr (t::ts) (.one t::bz)
 |many {p t:Tr}{rm:Tr->Tr}{gs ts:List Tr}{bz:List Pr}:yy b p rm (t::gs)->gs≠[]->(∀s∈t::gs,s.ht<=h/\s.E<=m)->(∀r c k,yz b p r c k->Kr r t)->r7 R t ts->ia b m h R Kr ts bz->ia b m h R Kr ((t::gs)++ts) (.many p ((t::gs).map rm)::bz)
structure aaX(b fl:Int)(R Kr:Tr->Tr->Prop)(h:Nat)(ts:List Tr)(bz:List Pr)(gl:Gh):Prop where
 i:m4 fl bz gl
 s:gg ts (eU bz gl)
 n:eD gl+7*be (eU bz gl)<=7*be ts
 f:∀r∈eU bz gl,Ft b r/\(r∈ts∨(∃t,Kr r t)/\r.op≠6/\r.ht<=h)
 j:fC (λx y=>R x y/\oh x y) (eU bz gl)
 hd:∀r,(eU bz gl).head?=Ss r->∃t,ts.head?=Ss t/\(r=t∨Kr r t/\aP r=PO)
 ne:ts≠[]->eU bz gl≠[]
theorem fC.fp{R:Tr->Tr->Prop}{us:List Tr}:∀{ts:List Tr},fC R (ts++us)->fC R us
 |[],h=>h
 |j4::ts,h=>fC.fp (ts:=ts) h.2
theorem aeJ{R:Tr->Tr->Prop}{us:List Tr}:∀{ts:List Tr},fC R (ts++us)->fC R ts
 |[],j4=>trivial
 |t::ts,h=>⟨λu e=>h.1 u (by induction ts using K1 with|nil=>exact aY e|cons v ts=>exact e),aeJ (ts:=ts) h.2⟩
theorem CJ{x y:Tr}(h:aP x=PO):oh x y:=by refine (?_:(aP x&&_)=PO);rw[h];rfl
theorem JW{x y:Tr}(h:aP y=PO):oh x y:=by refine (?_:(aP x&&aP y)=PO);rw[h,X6]
theorem Kc{fl:Int}{m h:Nat}{R Kr:Tr->Tr->Prop}(IH:∀m',m'+1=m->u7 b fl m' h)(RK:∀r1 t1 r2 t2,r1=t1∨Kr r1 t1->r2=t2∨Kr r2 t2->R t1 t2->R r1 r2){ts:List Tr}{bz:List Pr}(S:ia b m h R Kr ts bz):(∀t∈ts,Ft b t)->fC oh ts->r8 ts<=1000000->∃gl,aaX b fl R Kr (h+2*m) ts bz gl:=by
 induction S with
 |nil=>exact λU U U=>⟨[],.nil,.Q _,EC _,λr m=>(aT m),trivial,λr e=>(aY e),λe=>MQ rfl e⟩
 | @one t ts bz hr S ih=>
  intro hf hs w;have w:t.W+aM ts+20*(t.E+be ts)<=1000000:=w;obtain⟨gl,i1,i2,i3,i4,i5,i6,i7⟩:=ih (λs m=>hf s (.tail _ m)) hs.2 (by refine (?_:aM ts+20*be ts<=_);exact Sz w);refine⟨gl,.one i1,gg.fp (.Q [t]) i2,?_,λr m=>?_,⟨λr e=>?_,i5⟩,λr e=>?_,λU e=>nomatch e⟩
  ·refine (?_:eD gl+7*(t.E+be (eU bz gl))<=7*(t.E+be ts));exact Sy i3
  ·rcases K7.mp m with rfl|m
   ·exact⟨hf _ (.head _),.inl (.head _)⟩
   ·exact⟨(i4 r m).1,(i4 r m).2.imp (.tail _) id⟩
  ·refine aj (i6 r e) λu e1 e2=>?_;refine⟨RK t t r u (.inl rfl) (e2.imp id (·.1)) (hr u e1),?_⟩;rcases e2 with rfl|e2
   ·exact hs.1 r e1
   ·exact JW e2.2
  ·(have y9:=K6 e;clear e;subst y9);exact⟨t,rfl,.inl rfl⟩
 | @many p t rm gs ts bz C n H K hr S ih=>
  intro hf hs w;have w:aM ((t::gs)++ts)+20*be ((t::gs)++ts)<=1000000:=w;rw[lF,jA] at w;have L:2<=(t::gs).length:=by
   induction gs using K1 with
   |nil=>exact MQ rfl n
   |cons u gs=>exact oJ _ _
  obtain⟨res,N,o1,o2,o3,o4,o5,⟨c,J⟩,o7⟩:=abp IH C L H (by refine (?_:aM (t::gs)+20*be (t::gs)<=_);exact Sx w);obtain⟨gl,i1,i2,i3,i4,i5,i6,i7⟩:=ih (λs m=>hf s (s7 _ m)) hs.fp (by refine (?_:aM ts+20*be ts<=_);exact Sw o5 w);have ns:aP (bR p [bZ res fl] fl)=PO:=by
   cases k:aP (bR p [bZ res fl] fl) with
   |false=>rfl
   |true=>
    induction gs using K1 with
    |nil=>exact MQ rfl n
    |cons u gs=>have a:=hs.1 u rfl;have:(aP t&&aP u)=PO:=a;rw[o7 k t (.head _),o7 k u (.tail _ (.head _))] at this;exact eK this
  have kr:=K _ _ _ J;refine⟨(bR p [bZ res fl] fl,N+2)::gl,.many o2 o1 o3 i1,gg.fp o4 i2,?_,λr m=>?_,⟨λr e=>?_,i5⟩,λr e=>?_,λU e=>nomatch e⟩
  ·rw[jA];refine (?_:(N+2)+eD gl+7*((bR p [bZ res fl] fl).E+be (eU bz gl))<=_);exact Sv o5 i3
  ·rcases K7.mp m with rfl|m
   ·exact⟨J.ft,.inr ⟨⟨t,kr⟩,J.op.1,J.ht⟩⟩
   ·exact⟨(i4 r m).1,(i4 r m).2.imp (s7 _) id⟩
  ·refine aj (i6 r e) λu e1 e2=>?_;exact⟨RK _ t r u (.inr kr) (e2.imp id (·.1)) (hr u e1),CJ ns⟩
  ·(have y9:=K6 e;clear e;subst y9);exact⟨t,rfl,.inr ⟨kr,ns⟩⟩
theorem vh{t:Tr}(h:t.rn≠[]):a6 t.op=WL:=by
 unfold Tr.rn at h;by_cases e:(t.op==3)=WL
 ·rw[zH e];rfl
 ·rw[MZ e] at h;by_cases e2:(t.op==4)=WL
  ·rw[zH e2];rfl
  ·rw[MZ e2] at h;exact MQ rfl h
theorem Ft.G:∀{t:Tr},Ft b t->Ft b t.G
 |.mk nd [],h=>h
 |.mk nd (s::ss),h=>by
  by_cases e:(nd.op==5)=WL
  ·rw[Tr.qP e];exact Ft.G (h.O s (.head _))
  ·rw[Tr.kR (t:=.mk nd (s::ss)) (sW.mpr e)];exact h
structure Jy(b:Int)(k:Nat)(t u:Tr):Prop where
 ft:Ft b u
 c:t.E=k+u.E
 ht:u.ht<=t.ht
theorem JG{t:Tr}(h:Ft b t)(k:a6 t.op=WL){n:Nat}(h0:0<n)(hn:n<=t.rn.length):Jy b n t (eh t n):=by
 have c:=u9 h k;refine aj (h.A k) λnd y9 l=>?_;subst y9;rcases i9 k with e|e
 ·have r:(Tr.mk nd []).rn=[nd.K3]:=by unfold Tr.rn;rw[e];rfl
  rw[r] at hn c;have:n=1:=Zc hn h0;subst this;have:eh (.mk nd []) (1:Nat)=.cR 2 nd.fl:=by unfold eh;rw[e];rfl
  rw[this];exact⟨.wk,c,EC _⟩
 ·have r:(Tr.mk nd []).rn=nd.D5:=by unfold Tr.rn;rw[e];rfl
  have lr:=l.rn;rw[r] at hn c lr;have:eh (.mk nd []) n=Tr.A (nd.D5.drop n) nd.fl:=by unfold eh;rw[e,<- CL];rfl
  rw[this];have hb:∀r∈nd.D5.drop n,0<=r/\r<=fE b:=λr m=>lr r (Vt m);refine⟨.oX (l.st k) hb,?_,by rw[yL];exact sd _⟩;rw[yD (l.st k) hb,Xk,c];exact SE c hn
theorem Km{n:Nat}(h0:0<n):∀(t:Tr),Ft b t->a6 t.G.op=WL->n<=t.G.rn.length->Jy b n t (t.dW n)
 |.mk nd [],h,k,hn=>JG h k h0 hn
 |.mk nd (s::ss),h,k,hn=>by
  by_cases e:(nd.op==5)=WL
  ·rw[Tr.qP e] at k hn;rw[Bz e];obtain⟨a1,a2,a3⟩:=Km h0 s (h.O s (.head _)) k hn;have hs:∀u∈s::ss,u.ht<=nj (s::ss):=λu m=>nq (t:=.mk nd (s::ss)) (EC _) m;obtain⟨j1,j2,j3⟩:=JQ (h:=nj (s::ss)) (f:=s.dW n) (rest:=ss) (fl:=nd.fl) λu m=>by
    rcases K7.mp m with rfl|m
    ·exact⟨a1,Le a3 (hs s (.head _))⟩
    ·exact⟨h.O u (.tail _ m),hs u (.tail _ m)⟩
   refine⟨j1,?_,j3⟩;have e5:(Tr.mk nd (s::ss)).op=5:=zH e;rw[qk (.inl e5) (h.wi e5).1,j2];refine (?_:s.E+be ss=_);rw[a2,Yj]
  ·have e:=sW.mpr e;rw[Tr.kR (t:=.mk nd (s::ss)) e] at k hn;rw[BA (t:=.mk nd (s::ss)) e];exact JG h k h0 hn
theorem J6{t:Tr}(h:Ft b t)(e:t.op=5):2<=t.E:=by
 refine ak (h.wi e) λn k=>?_;rw[qk (.inl e) n];have kd:=h.O
 match t.H,n,k,kd with
 |s::u::l,j4,k,kd=>have a:=(kd s (.head _)).pos (k s (.head _));have c:=(kd u (.tail _ (.head _))).pos (k u (.tail _ (.head _)));refine (?_:2<=s.E+(u.E+be l));exact SD c a
theorem abe{t:Tr}(h:Ft b t)(k:a6 t.G.op=WL)(c:t.E=1):aP t=WL:=by
 by_cases e:t.op=5
 ·exact MQ (c▸J6 h e) (by decide)
 ·rw[Tr.kR (beq_eq_false_iff_ne.mpr e)] at k;rw[u9 h k] at c;refine aj (h.A k) λnd y9 l=>?_;subst y9;rcases i9 k with e|e
  ·unfold aP;rw[e];rfl
  ·have:=l.s2 e;have r:(Tr.mk nd []).rn=nd.D5:=by unfold Tr.rn;rw[e];rfl
   rw[r] at c;exact MQ (c▸this) (by decide)
theorem J7:∀{as bs:List Int},as.take (eB as bs)=bs.take (eB as bs)
 |[],bs=>(List.take_zero (l:=bs)).symm
 |a::as,[]=>rfl
 |a::as,c::bs=>by
  refine (?_:(a::as).take (if (a==c)=WL then eB as bs+1 else 0)=(c::bs).take (if (a==c)=WL then eB as bs+1 else 0));by_cases e:a=c
  ·rw[MS (K5.mpr e),e];exact congrArg (c::·) J7
  ·rw[MZ (by rw[K5];exact e)];rfl
abbrev qh(b fl:Int):Prop:=(b=0∨b=32)/\lP b fl
theorem Ke{fl f:Int}(h:qh b fl)(k:lP b f):gU fl (vT f 33)=f:=by refine ak h λhb h=>?_;rcases hb with rfl|rfl<;>rcases h with rfl|rfl<;>rcases k with rfl|rfl<;>decide
theorem abd(hb:b=0∨b=32){f f':Int}(h:lP b f)(k:lP b f')(e:fo f=fo f'):f=f':=by rcases hb with rfl|rfl<;>rcases h with rfl|rfl<;>rcases k with rfl|rfl<;>first|rfl|exact MQ e (by decide)
abbrev yA(r t:Tr):Prop:=r.fr=t.fr/\r.fr≠M4
theorem CE{t:Tr}{r:Int}{l:List Int}(h:t.G.rn=r::l):t.fr=Ss (r,t.G.fold):=by unfold Tr.fr;rw[MS (vh (by rw[h];exact Zj _ _)),h];rfl
theorem JO{t:Tr}{x:Int×Bool}(h:t.fr=Ss x):∃l,t.G.rn=x.1::l/\x.2=t.G.fold:=by
 unfold Tr.fr at h;split at h
 ·cases e:t.G.rn with
  |nil=>rw[e] at h;exact aY h
  |cons r l=>rw[e] at h;(have y9:=K6 h;clear h;subst y9);exact⟨l,rfl,rfl⟩
 ·exact aY h
structure yC(c:List Int)(f:Int)(t:Tr):Prop where
 f:t.U.2=f
 c:t.U.1.take c.length=c
theorem yC.A{c:List Int}{f:Int}{t:Tr}(h:yC c f t)(n:c≠[]):a6 t.G.op=WL/\c.length<=t.G.rn.length/\f=vT t.G.fl 33/\t.G.rn.take c.length=c:=by
 have hc:t.G.rn.take c.length=c:=h.c;have s:a6 t.G.op=WL:=vh λe=>by rw[e,Uu] at hc;exact n hc.symm
 refine⟨s,?_,?_,hc⟩
 ·have:=congrArg W7 hc;rw[Zo] at this;exact SC this
 ·have e:(if a6 t.G.op=WL then vT t.G.fl 33 else 0)=f:=h.f;rw[MS s] at e;exact e.symm
theorem aa5{fl:Int}(hF:qh b fl){c:List Int}{f:Int}(n:c≠[]){gs:List Tr}(n2:gs≠[])(h:∀t∈gs,Ft b t/\yC c f t):yy b (Tr.A c (gU fl f)) (Tr.dW c.length) gs:=by
 have hl:0<c.length:=al9.mpr n;have wQ:∀t∈gs,gU fl f=t.G.fl/\a6 t.G.op=WL/\c.length<=t.G.rn.length/\t.G.rn.take c.length=c:=λt m=>by refine iR ((h t m).2.A n) λa1 a2 a3 a4=>?_;refine⟨?_,a1,a2,a4⟩;rw[a3];exact Ke hF ((h t m).1.G.qT a1)
 refine a7 (Vd gs n2) λt0 m0=>?_;refine iR (wQ t0 m0) λz1 z2 z3 z4=>?_;have N7:lP b (gU fl f):=z1▸(h t0 m0).1.G.qT z2;have rb:∀r∈c,0<=r/\r<=fE b:=λr m=>(h t0 m0).1.G.EH z2 r (Xj (z4.symm▸m));have ps:=qo (f:=gU fl f) hl;have pc:(Tr.A c (gU fl f)).E=c.length:=yD N7 rb;refine⟨.oX N7 rb,⟨CX ps,λe=>(by rw[e] at ps;exact aX ps),λe=>(by rw[e] at ps;exact aX ps)⟩,λPs a g=>?_,20*c.length,?_,λt m=>?_⟩
 ·rw[yI,K4];cases dt Ps _ c a<;>first|exact zJ _|exact EC _
 ·have:=xI (rs:=c) (fl:=gU fl f);exact SB hl pc this
 ·refine iR (wQ t m) λy1 y2 y3 y4=>?_;obtain⟨w1,w2,w3⟩:=Km hl t (h t m).1 y2 y3;refine⟨λPs a g=>?_,by rw[pc];exact w2,?_,w1,w3,by rw[yL];exact sd t,λe U=>abe (h t m).1 y2 e⟩
  ·rw[J4 hl t y2 y3,y4,yI,y1];rfl
  ·have:=HS (m:=(c.length:Int)) t;exact SA pc w2 this
theorem abt{fl:Int}(hF:qh b fl){m h:Nat}:∀(ts:List Tr) (c:List Int) (f:Int) (p:Tr) (g:List Tr),(∀t∈p::g,yC c f t)->(c≠[]∨p.U.1=[])->(g≠[]->c≠[])->(∀t∈(p::g)++ts,Ft b t/\t.ht<=h/\t.E<=m)->ia b m h kz yA ((p::g)++ts) (kq fl c f p g ts):=by
 have pz:∀(c:List Int) (f:Int) (p:Tr) (g ts:List Tr) (bz:List Pr),(∀t∈p::g,yC c f t)->(g≠[]->c≠[])->(∀t∈p::g,Ft b t/\t.ht<=h/\t.E<=m)->r7 kz p ts->ia b m h kz yA ts bz->ia b m h kz yA ((p::g)++ts) (pS fl c f p g::bz):=λc f p g ts bz hp hg hh hr S=>by
  induction g using K1 with
  |nil=>exact .one hr S
  |cons u g=>
   have n:c≠[]:=hg (Zj _ _);refine .many (p:=Tr.A c (gU fl f)) (rm:=Tr.dW c.length) (aa5 hF n (Zj _ _) λt m=>⟨(hh t m).1,hp t m⟩) (Zj _ _) (λs m=>(hh s m).2) (λr k1 k2 J=>?_) hr S;refine iR ((hp p (.head _)).A n) λa1 a2 a3 a4=>?_;induction c using K1 with
   |nil=>exact MQ rfl n
   |cons x c=>
    have ps:=qo (rs:=x::c) (f:=gU fl f) (oJ _ _);refine nQ (J.q) λq U e2 U e4=>?_;have rq:∃y,r.G.rn=x::y/\r.G.fl=gU fl f:=by
     rw[e2];rcases e4 with rfl|⟨_,_,f1,y,r1⟩
     ·exact⟨c,rK,yK⟩
     ·exact⟨c++y,by rw[r1,rK];rfl,f1.trans yK⟩
    refine aj rq λy r1 r2=>?_
    have pr:∃z,p.G.rn=x::z:=by
     cases e:p.G.rn with
     |nil=>rw[e] at a4;exact fO a4
     |cons v z=>rw[e] at a4;refine ak (dj (show v::VA c.length z=x::c from a4)) λy9 U=>?_;subst y9;exact⟨z,rfl⟩
    refine a7 pr λz pr=>?_;have fl2:gU fl f=p.G.fl:=by rw[a3];exact Ke hF ((hh p (.head _)).1.G.qT a1)
    have fo2:r.G.fold=p.G.fold:=by refine (?_:fo r.G.fl=fo p.G.fl);rw[r2,fl2]
    refine⟨by rw[CE r1,CE pr,fo2],by rw[CE r1];exact λz=>nomatch z⟩
 intro ts;induction ts with
 |nil=>intro c f p g hp hc hg hh;exact pz c f p g [] [] hp hg (λt mt=>hh t (l8 _ mt)) (λu e=>by exact aY e) .nil
 |cons t ts ih=>
  intro c f p g hp hc hg hh;have N8:∀s∈p::g,Ft b s/\s.ht<=h/\s.E<=m:=λs mt=>hh s (l8 _ mt);have ht:=hh t (s7 _ (.head _));by_cases k:0<dJ c f t.U
  ·rw[show kq fl c f p g (t::ts)=kq fl (c.take (dJ c f t.U)) f p (g++[t]) ts from MS k];have e:(p::g)++t::ts=(p::(g++[t]))++ts:=by rw[aU,aU,zx];rfl
   rw[e] at hh ⊢;have fe:t.U.2=f:=by
    unfold dJ at k;by_cases q:(t.U.2==f)=WL
    ·exact zH q
    ·rw[MZ q] at k;exact MQ k (YD _)
   have ke:dJ c f t.U=eB c t.U.1:=by unfold dJ;rw[MS (K5.mpr fe)]
   rw[ke] at k ⊢;refine ak (IG (as:=c) (bs:=t.U.1)) λl1 l2=>?_;have ln:(c.take (eB c t.U.1)).length=eB c t.U.1:=by rw[Zo,Z4 l1]
   have nn:c.take (eB c t.U.1)≠[]:=λz=>by rw[z] at ln;exact MQ ln.symm (V6 k)
   refine ih _ f p (g++[t]) ?_ (.inl nn) (λU=>nn) hh;rw[<- aU];refine qn (λs ms=>⟨(hp s ms).f,?_⟩) ⟨fe,by rw[ln];exact J7.symm⟩;rw[ln];have:=congrArg (VA (eB c t.U.1)) (hp s ms).c;rw[VJ,Z4 l1] at this;exact this
  ·rw[show kq fl c f p g (t::ts)=pS fl c f p g::kq fl t.U.1 t.U.2 t [] ts from MZ k];refine pz c f p g (t::ts) _ hp hg N8 (λu e=>?_) (ih t.U.1 t.U.2 t [] (λs ms=>by rw[wm.mp ms];exact⟨rfl,X2⟩) (by by_cases q:t.U.1=[];(exact .inr q);exact .inl q) (λz=>MQ rfl z) λs ms=>hh s (s7 _ ms))
   (have y9:=K6 e;clear e;subst y9);refine Classical.byContradiction λz=>k ?_;refine ak (not_or.mp z) λz1 z2=>?_;cases e1:p.fr with
   |none=>exact MQ e1 z1
   |some x=>
    have e2:t.fr=Ss x:=(Classical.not_not.mp z2).symm.trans e1;refine aj (JO e1) λl1 p1 p2=>?_;refine aj (JO e2) λl2 t1 t2=>?_;have ps:a6 p.G.op=WL:=vh (by rw[p1];exact Zj _ _);have tS:a6 t.G.op=WL:=vh (by rw[t1];exact Zj _ _);have nc:c≠[]:=hc.resolve_right λq=>by have q:p.G.rn=[]:=q;rw[p1] at q;exact fN q
    refine iR ((hp p (.head _)).A nc) λU U a3 a4=>?_;have fe:t.U.2=f:=by refine (?_:(if a6 t.G.op=WL then vT t.G.fl 33 else 0)=f);rw[MS tS,a3,abd hF.1 (ht.1.G.qT tS) ((N8 p (.head _)).1.G.qT ps) (t2.symm.trans p2)]
    unfold dJ;rw[MS (K5.mpr fe)];refine (?_:0<eB c t.G.rn);rw[t1];induction c using K1 with
    |nil=>exact MQ rfl nc
    |cons y c=>rw[p1] at a4;refine ak (dj a4) λy9 U=>?_;subst y9;refine (?_:0<if (x.1==x.1)=WL then eB c l2+1 else 0);rw[MS (beq_self_eq_true _)];exact Xb _
def Kt(P:Int->Prop):List Int->Prop
 |[]=>True
 |a::l=>P a/\Kt P l
@[elab_as_elim] theorem m8{P:Int->Prop}{x:Int}:∀{l:List Int},x∈l->Kt P l->P x
 |[],h,U=>aT h
 |a::l,h,k=>(K7.mp h).elim (λe=>e.symm▸k.1) λm=>m8 m k.2
abbrev dL:List Int:=[12,13,14,15,16,17,18,19,20]
theorem acO{t:Tr}(h:t.cZ=WL):(t.op=10/\(t.low==t.iL&&(t.zD.op==3||kn t.zD.op))=WL)∨t.op∈dL:=by
 unfold Tr.cZ at h;by_cases e:(t.op==10)=WL
 ·rw[MS e] at h;exact .inl ⟨zH e,h⟩
 ·rw[MZ e] at h;refine .inr ?_;unfold mV kn at h;simp only[Xn,K5,Zk] at h;rcases h with (h|h|h|h|h|h)|h|h|h<;>rw[<- h]<;>decide
theorem Dj{t:Tr}(h:t.op∈dL):t.I=if t.op=12 then .any else if t.op=13 then .octet else if t.op=20 then .set t.Bd else .place t.op:=by exact m8 (P:=λo=>mW o t=if o=12 then .any else if o=13 then .octet else if o=20 then .set t.Bd else .place o) h ⟨rfl,rfl,rfl,rfl,rfl,rfl,rfl,rfl,rfl,trivial⟩
theorem m9{x y:Tr}(h:fm x y=WL):x.op=y.op/\(vT (ar x.fl y.fl) (gB x.op)==0)=WL:=by
 unfold fm at h;split at h
 ·split at h
  ·exact⟨zH ‹_›,‹_›⟩
  ·exact aX h
 ·exact aX h
theorem Li{x y:Tr}(h:fm x y=WL):(if (x.op==3)=WL then x.K3==y.K3 else if (x.op==4)=WL then decide (x.D5=y.D5) else if (x.op==20)=WL then decide (x.Bd=y.Bd) else if (x.op==10)=WL then (x.low==y.low&&x.iL==y.iL) else (x.H.length:Int)==y.H.length)=WL:=by
 unfold fm at h;split at h
 ·split at h
  ·exact h
  ·exact aX h
 ·exact aX h
structure vo(x y:Tr):Prop where
 r:x.B=y.B
 w:x.W=y.W
 ht:x.ht=y.ht
 op:x.op=y.op
set_option tactic.hygienic true in
theorem vt{nd:Nd}(l:dT b nd)(h:nd.op∈(3::dL:List Int)):(Tr.mk nd []).W=12+nd.Bd.length:=by
 have e4:nd.op≠4:=λe=>by rw[e] at h;revert h;decide
 have:(Tr.mk nd []).ck=1:=by
  refine (?_:(if (nd.op==2)=WL then 0 else if a6 nd.op=WL then (Tr.mk nd []).rn.length else 1)=1);rw[MZ (λe=>by rw[zH e] at h;revert h;decide)];split
  ·rename_i k;have:nd.op=3:=(i9 k).resolve_right e4;unfold Tr.rn;rw[show (Tr.mk nd []).op=3 from this];rfl
  ·rfl
 rw[Tr.gu,this];refine (?_:2+10*1+nd.D5.length+nd.Bd.length+0=_);rw[l.r0 e4];refine (?_:12+0+_+0=_);exact SH
theorem Dk{nd nd':Nd}(l:dT b nd)(l':dT b nd')(h:nd.op∈dL)(k:fm (.mk nd []) (.mk nd' [])=WL):vo (.mk nd []) (.mk nd' []):=by
 have e:nd.op=nd'.op:=(m9 k).1;have rg:nd.Bd=nd'.Bd:=by
  by_cases c:nd.op=20
  ·have:=Li k;rw[show (Tr.mk nd []).op=20 from c] at this;exact zL this
  ·rw[l.g0 c,l'.g0 (e▸c)]
 have kd:(Tr.mk nd []).I=(Tr.mk nd' []).I:=by rw[Dj (t:=.mk nd []) h,Dj (t:=.mk nd' []) (show nd'.op∈dL from e▸h)];refine (?_:(if nd.op=12 then _ else if nd.op=13 then _ else if nd.op=20 then Kd.set nd.Bd else Kd.place nd.op)=if nd'.op=12 then _ else if nd'.op=13 then _ else if nd'.op=20 then Kd.set nd'.Bd else Kd.place nd'.op);rw[e,rg]
 refine⟨?_,?_,rfl,e⟩
 ·unfold Tr.B;rw[kd];rfl
 ·rw[vt l (.tail _ h),vt l' (.tail _ (e▸h)),rg]
theorem acI{nd nd':Nd}(l:dT b nd)(l':dT b nd')(h:nd.op=3)(f:nd.fl=nd'.fl)(k:fm (.mk nd []) (.mk nd' [])=WL):vo (.mk nd []) (.mk nd' []):=by
 have e:nd.op=nd'.op:=(m9 k).1;have r:nd.K3=nd'.K3:=by have:=Li k;rw[show (Tr.mk nd []).op=3 from h] at this;exact zH this
 have kd:∀n:Nd,n.op=3->(Tr.mk n []).I=.text [n.K3] (fo n.fl):=λn e=>mX e;refine⟨?_,?_,rfl,e⟩
 ·unfold Tr.B;rw[kd nd h,kd nd' (e▸h),r,f];rfl
 ·rw[vt l (by rw[h];decide),vt l' (by rw[<- e,h];decide),l.g0 (by rw[h];decide),l'.g0 (by rw[<- e,h];decide)]
theorem acx(hb:b=0∨b=32){f f':Int}(h:f=b∨f=dM b 64)(k:f'=b∨f'=dM b 64)(e:(vT (ar f f') 64==0)=WL):lz f=lz f':=by rcases hb with rfl|rfl<;>rcases h with rfl|rfl<;>rcases k with rfl|rfl<;>first|rfl|exact MQ e (by decide)
theorem sD{nd:Nd}{l:List Tr}(h:nd.op=10):(Tr.mk nd l).I=.times nd.low nd.iL (lz nd.fl):=mX h
theorem Ft.cZ{x:Tr}(h:Ft b x)(s:x.cZ=WL):(∃nd,x=.mk nd []/\dT b nd/\nd.op∈dL)∨∃nd nd',x=.mk nd [.mk nd' []]/\nd.op=10/\nd.low=2/\nd.iL=2/\(nd.fl=b∨nd.fl=dM b 64)/\dT b nd'/\aP (.mk nd' [])=WL/\nd'.fl=b/\nd.D5=[]/\nd.Bd=[]:=by
 rcases acO s with⟨e,_⟩|e
 ·refine .inr ?_;induction h with
  |leaf h=>exact (gE e h.op (by decide)).elim
  |tim a c d l k f w=>exact⟨_,_,rfl,e,(c e).1,(c e).2,d,l,k,f,w⟩
  |grp h _ _ _ _=>exact MQ (h.symm.trans e) (by decide)
  |row h _ _ _=>exact MQ (h.symm.trans e) (by decide)
  |alt h _ _ _ _=>exact MQ (h.symm.trans e) (by decide)
 ·obtain⟨nd,rfl,l⟩:=h.jR λk=>by generalize x.op=o at e k;exact (show ∀o∈dL,o∉([5,6,7,8,9,10,11]:List Int) by decide) o e k
  exact .inl ⟨nd,rfl,l,e⟩
theorem acJ{nd nd':Nd}(l:dT b nd)(l':dT b nd')(h:aP (.mk nd [])=WL)(f:nd.fl=nd'.fl)(k:fm (.mk nd []) (.mk nd' [])=WL):vo (.mk nd []) (.mk nd' []):=by
 rcases ib h with e|e|e
 ·exact acI l l' e f k
 ·exact Dk l l' (show nd.op∈_ from (show nd.op=20 from e)▸by decide) k
 ·exact Dk l l' (show nd.op∈_ from (show nd.op=12 from e)▸by decide) k
theorem K9(hb:b=0∨b=32){x y:Tr}(h:Ft b x)(k:Ft b y)(s:x.cZ=WL)(e:gC x y=WL):vo x y:=by
 refine ak (zA.mp e) λe1 e2=>?_;have eo:=(m9 e1).1;rcases h.cZ s with⟨nd,rfl,l,ho⟩|⟨nd,nd',rfl,ho,h1,h2,h3,l,sg,f,w⟩
 ·refine aj (k.jR λz=>(show ∀o∈dL,o∉([5,6,7,8,9,10,11]:List Int) by decide) nd.op ho ((show nd.op=y.op from eo).symm▸z)) λnN y9 l2=>?_;subst y9;exact Dk l l2 ho e1
 ·have dY:y.op=10:=eo.symm.trans ho;induction k with
  |leaf h=>exact (gE dY h.op (by decide)).elim
  | @tim n2 hH a c d l2 z7 f2 w2=>
   have u:=acJ l l2 sg (f.trans f2.symm) e2;have fz:=(m9 e1).2;rw[show (Tr.mk nd [Tr.mk nd' []]).op=10 from ho] at fz;have ez:=acx hb h3 d fz;have kd:(Tr.mk nd [.mk nd' []]).I=(Tr.mk n2 [.mk hH []]).I:=by rw[sD (nd:=nd) ho,sD (nd:=n2) dY,h1,h2,(c dY).1,(c dY).2,ez]
   refine⟨?_,?_,rfl,eo⟩
   ·unfold Tr.B;rw[kd,sD (nd:=n2) dY,uO,uO];refine (?_:N.mk _ [(Tr.mk nd' []).B]=N.mk _ [(Tr.mk hH []).B]);rw[u.r]
   ·have uw:=u.w;have o1:∀{n n':Nd},n.op=10->(Tr.mk n [.mk n' []]).ck=0:=λ{n n'} z=>by unfold Tr.ck;rw[show (Tr.mk n [.mk n' []]).op=10 from z];rfl
    rw[Tr.gu,Tr.gu,o1 ho,o1 (n:=n2) dY];refine (?_:2+10*0+nd.D5.length+nd.Bd.length+((Tr.mk nd' []).W+0)=2+10*0+n2.D5.length+n2.Bd.length+((Tr.mk hH []).W+0));rw[w.1,w.2,w2.1,w2.2,uw]
  |grp h _ _ _ _=>exact MQ (h.symm.trans dY) (by decide)
  |row h _ _ _=>exact MQ (h.symm.trans dY) (by decide)
  |alt h _ _ _ _=>exact MQ (h.symm.trans dY) (by decide)
theorem Lc{x:Tr}(h:Ft b x)(s:x.cZ=WL):x.E=1/\12<=x.W:=by
 rcases h.cZ s with⟨nd,rfl,l,ho⟩|⟨nd,nd',rfl,ho,h1,h2,h3,l,sg,f,w⟩
 ·refine⟨?_,by rw[vt l (.tail _ ho)];exact oW _ _⟩;rw[lO];have:(Tr.mk nd []).ck=1:=by refine (?_:(if (nd.op==2)=WL then 0 else if a6 nd.op=WL then (Tr.mk nd []).rn.length else 1)=1);have ho:nd.op∈dL:=ho;exact m8 (P:=λo=>(if (o==2)=WL then 0 else if a6 o=WL then (Tr.mk nd []).rn.length else 1)=1) ho ⟨rfl,rfl,rfl,rfl,rfl,rfl,rfl,rfl,rfl,trivial⟩
  rw[this];rfl
 ·have o1:(Tr.mk nd [.mk nd' []]).ck=0:=by unfold Tr.ck;rw[show (Tr.mk nd [.mk nd' []]).op=10 from ho];rfl
  have ws:=Cw l sg;refine⟨?_,?_⟩
  ·rw[lO,o1];refine (?_:0+((Tr.mk nd' []).E+0)=1);rw[ql (.leaf l) sg]
  ·rw[Tr.gu,o1];refine (?_:12<=2+_+_+_+((Tr.mk nd' []).W+0));exact SF ws
abbrev sr(f:bh):Prop:=∀a g,(f a g).length<=1
theorem acA{Ps:Rg}{P:Int->Bool}:sr (jC Ps P):=λa g=>by unfold jC;split;(exact zJ _);exact EC _
theorem Di{Ps rg:Rg}{o:Bool}:sr (gW Ps rg o):=λa g=>by unfold gW;split;(exact zJ _);exact EC _
theorem acS{ws:List aH}{f:bh}(h:ws.length<=1)(k:sr f):(bi ws f).length<=1:=by refine Ar ws h (zJ _) λw=>?_;refine (?_:(f w.1 w.2++[]).length<=1);rw[zB];exact k _ _
theorem acm{ws:List aH}(h:ws.length<=1):(cy ws).length<=1:=by exact Ar ws h (zJ _) λw=>EC _
theorem KZ{f:bh}(hf:sr f){lz:Bool}:∀(n:Nat) (d:Int),d<=2->sr λa g=>eP f 2 2 lz n a g d
 |0,j4,j5,j6,j7=>zJ _
 |n+1,d,hd,a,g=>by
  refine (?_:(eP f 2 2 lz (n+1) a g d).length<=1);rw[CV];by_cases e:d=2
  ·subst e;induction lz<;>exact EC _
  ·have e1:decide (d≥2)=PO:=decide_eq_false (SO hd e);rw[e1,XZ,XZ,MZ qH,MZ (by rw[K5];exact e),YR,zB];exact acS (f:=λx y=>eP f 2 2 lz n x y (d+1)) (hf a g) (KZ hf n (d+1) (SN hd e))
theorem sB{Ps:Rg}{x:Tr}(h:Ft b x)(s:x.cZ=WL):x.aR Ps=x.B.R Ps/\x.op≠5/\x.op≠6/\x.op≠2/\a6 x.op=PO/\(x.op==5)=PO:=by
 have go:x.op∈(10::dL:List Int):=by
  rcases h.cZ s with⟨nd,rfl,l,ho⟩|⟨nd,nd',rfl,ho,_⟩
  ·exact .tail _ ho
  ·exact jD ho (.head _)
 have k:=(show ∀o∈(10::dL:List Int),o≠5/\o≠6/\o≠2/\a6 o=PO/\(o==5)=PO by decide) _ go;obtain⟨nd,l⟩:=x;exact⟨m6 k.1 k.2.1,k⟩
theorem aci{Ps:Rg}{x:Tr}(h:Ft b x)(s:x.cZ=WL):sr (x.aR Ps):=by
 rw[(sB h s).1];rcases h.cZ s with⟨nd,rfl,l,ho⟩|⟨nd,nd',rfl,ho,h1,h2,h3,l,sg,f,w⟩
 ·intro a g;unfold Tr.B;rw[Dj (t:=.mk nd []) ho];split
  ·exact Di a g
  ·split
   ·exact Di a g
   ·split
    ·exact Di a g
    ·refine (?_:(if hU nd.op Ps a=WL then[(a,g)] else[]).length<=1);split;(exact EC _);exact zJ _
 ·intro a g;unfold Tr.B;rw[sD (nd:=nd) ho,uO,h1,h2];refine acm (KZ (f:=(Tr.mk nd' []).B.R Ps) (λa g=>?_) _ 0 (by decide) a g);have e:(Tr.mk nd' []).aR Ps=(Tr.mk nd' []).B.R Ps:=by rcases ib sg with e|e|e<;>exact m6 (by rw[show nd'.op=_ from e];decide) (by rw[show nd'.op=_ from e];decide)
  rw[<- e,CQ sg];exact acA a g
set_option tactic.hygienic true in
theorem m7{t x:Tr}(h:t.V=Ss x):t.M=x/\x.op≠2:=by
 unfold Tr.V at h;split at h
 ·exact aY h
 ·rename_i n;(have y9:=K6 h;clear h;subst y9);exact⟨rfl,λe=>n (K5.mpr e)⟩
theorem Ft.M:∀{t:Tr},Ft b t->Ft b t.M
 |.mk nd [],h=>h
 |.mk nd (s::ss),h=>by
  by_cases e:(nd.op==5)=WL
  ·rw[qy e];exact h.O s (.head _)
  ·rw[oG (t:=.mk nd (s::ss)) (sW.mpr e)];exact h
theorem Lh{t:Tr}(k:(t.M.op==5)=PO):t.G=t.M:=by
 match t,k with
 |.mk nd [],j4=>rfl
 |.mk nd (s::ss),k=>
  by_cases e:(nd.op==5)=WL
  ·rw[qy e] at k ⊢;rw[Tr.qP e];exact Tr.kR k
  ·have e:=sW.mpr e;rw[oG (t:=.mk nd (s::ss)) e,Tr.kR (t:=.mk nd (s::ss)) e]
theorem acM{t:Tr}(h:Ft b t)(s:t.M.cZ=WL):t.fr=M4:=by refine rv (sB (Ps:=[]) h.M s) λU U U U k k5=>?_;unfold Tr.fr;rw[Lh k5,k];rfl
set_option tactic.hygienic true in
theorem yO{p t:Tr}(h:dH p t=WL):∃x y,p.V=Ss x/\t.V=Ss y/\x.cZ=WL/\gC x y=WL:=by
 unfold dH at h;generalize p.V=u,t.V=v at h ⊢;induction u using Y8 with
 |none=>exact aX h
 |some x=>
  induction v using Y8 with
  |none=>exact aX h
  |some y=>exact ak (zA.mp h) λh1 h2=>⟨x,y,rfl,rfl,h1,h2⟩
structure abR(b:Int)(y t u:Tr):Prop where
 ft:Ft b u
 c:t.E=y.E+u.E
 w:u.W+y.W<=t.W+2
 ht:u.ht<=t.ht
 yt:y.ht<=t.ht
 sg:t.E=1->1<=y.E->t=y
theorem acY{t y:Tr}(h:Ft b t)(e:t.V=Ss y):abR b y t t.fJ:=by
 refine ak (m7 e) λy9 n2=>?_;subst y9;by_cases e5:t.op=5
 ·refine ak (h.wi e5) λl2 ne=>?_;have rc:=J6 h e5;have kd:=h.O;obtain⟨nd,l⟩:=t
  match l,l2,ne,kd with
  |s::ss,l2,ne,kd=>
   have N9:nd.op=5:=e5;have w1:(Tr.mk nd (s::ss)).fJ=dF ss nd.fl:=by unfold Tr.fJ;rw[MZ (by rw[e5];decide)];refine (?_:(if nd.op==5 then dF ss nd.fl else _)=_);rw[MS (K5.mpr N9)]
   rw[w1,qy (K5.mpr N9)];have hs:∀u∈s::ss,u.ht<=nj (s::ss):=λu m=>nq (t:=.mk nd (s::ss)) (EC _) m;refine ce (lN.EL (b:=b) (h:=nj (s::ss)) (J:=ss) (f:=nd.fl) ⟨λu m=>⟨kd u (.tail _ m),hs u (.tail _ m)⟩,λu m=>ne u (.tail _ m),rfl⟩) λc1 c2 c3=>?_;have cw:=Bk (ts:=ss) (fl:=nd.fl);have c0:(Tr.mk nd (s::ss)).E=s.E+be ss:=qk (.inl e5) l2;refine⟨c1,by rw[c2];exact c0,?_,c3,ZP (hs s (.head _)),λz U=>MQ z (SM rc z c0)⟩;refine (?_:_<=2+_+_+_+(s.W+aM ss)+2);exact SL cw
 ·have Oa:(t.op==5)=PO:=beq_eq_false_iff_ne.mpr e5;rw[oG Oa] at n2 ⊢;have w1:t.fJ=.cR 2 t.fl:=by
   unfold Tr.fJ;rw[MZ (by rw[K5];exact n2)];obtain⟨nd,l⟩:=t;induction l using K1 with
   |nil=>rfl
   |cons s ss=>exact MZ (by rw[show (nd.op==5)=PO from Oa];exact qH)
  rw[w1];exact⟨.wk,rfl,aG (V5 _ _),sd t,EC _,λU U=>rfl⟩
theorem acf(hb:b=0∨b=32){p:Tr}{gs:List Tr}(n2:gs≠[])(h:∀t∈p::gs,Ft b t)(k:∀t∈gs,dH p t=WL):yy b p.M Tr.fJ (p::gs):=by
 refine a7 (Vd gs n2) λt0 m0=>?_;refine nR (yO (k t0 m0)) λx y0 ex U sx U=>?_;refine ak (m7 ex) λe1 x2=>?_;have fx:Ft b x:=e1▸(h p (.head _)).M;rw[e1];refine rv (sB (Ps:=[]) fx sx) λU x5 x6 U xs U=>?_;refine ak (Lc fx sx) λxc xw=>?_;refine⟨fx,⟨x2,x5,x6⟩,λPs=>aci fx sx,x.W+18,by exact SK xw xc,λt m=>?_⟩;obtain⟨y,ey,sm⟩:∃y,t.V=Ss y/\vo x y:=by
  rcases K7.mp m with rfl|m
  ·exact⟨x,ex,rfl,rfl,rfl,rfl⟩
  ·refine nR (yO (k t m)) λx' y q8 ey U te=>?_;rw[ex] at q8;(have y9:=K6 q8;clear q8;subst y9)
   exact⟨y,ey,K9 hb fx ((m7 ey).1▸(h t (.tail _ m)).M) sx te⟩
 have ft:=h t m;obtain⟨w1,w2,w3,w4,w5,w6⟩:=acY ft ey;refine ak (m7 ey) λe2 y2=>?_;have yw:=sm.w;have fy:Ft b y:=e2▸ft.M;have oy:=sm.op;have y5:y.op≠5:=oy▸x5;have y6:y.op≠6:=oy▸x6;have yr:∀Ps,x.aR Ps=y.aR Ps:=λPs=>by rw[(sB fx sx).1,sm.r];obtain⟨nd,l⟩:=y;exact (m6 y5 y6).symm
 have yc:y.E=1:=by
  rcases fx.cZ sx with⟨nd,rfl,l,ho⟩|⟨nd,nd',rfl,ho,_⟩
  ·refine aj (fy.jR λz=>(show ∀o∈dL,o∉([5,6,7,8,9,10,11]:List Int) by decide) nd.op ho ((show nd.op=y.op from oy).symm▸z)) λnN y9 l2=>?_;subst y9;exact (Lc fy (show (Tr.mk nN []).cZ=WL by have:nN.op∈dL:=(show nd.op=nN.op from oy)▸ho;unfold Tr.cZ;refine (?_:(if (nN.op==10)=WL then _ else mV nN.op||kn nN.op)=WL);generalize nN.op=o at this;rw[MZ (λz=>by rw[zH z] at this;revert this;decide)];exact (show ∀o∈dL,(mV o||kn o)=WL by decide) o this)).1
  ·have dY:y.op=10:=oy.symm.trans ho;induction fy with
   |leaf h=>exact (gE dY h.op (by decide)).elim
   | @tim n2 hH a c d l2 z7 f2 w2=>
    rw[lO];have o1:(Tr.mk n2 [.mk hH []]).ck=0:=by unfold Tr.ck;rw[dY];rfl
    rw[o1];refine (?_:0+((Tr.mk hH []).E+0)=1);rw[ql (.leaf l2) z7]
   |grp h _ _ _ _=>exact MQ (h.symm.trans dY) (by decide)
   |row h _ _ _=>exact MQ (h.symm.trans dY) (by decide)
   |alt h _ _ _ _=>exact MQ (h.symm.trans dY) (by decide)
 refine⟨λPs a g=>?_,by rw[xc,w2,yc],by exact SJ w3 yc yw w2,w1,w4,by rw[sm.ht];exact w5,λc1 s=>?_⟩
 ·rw[abw (λe5 z=>by have:=(ft.wi e5).1;rw[z] at this;exact lj this),e2,yr]
 ·have:=w6 c1 (SI yc);rw[this];have s:=s.resolve_right λz=>by rw[xs] at z;exact aX z
  unfold aP at s ⊢;rw[<- oy];exact s
abbrev R2(x y:Tr):Prop:=kz x y/\Cs x y
abbrev sz(r t:Tr):Prop:=r.fr=M4/\t.fr=M4/\r.V=t.V
theorem abP(r1 t1 r2 t2:Tr)(h:r1=t1∨sz r1 t1)(k:r2=t2∨sz r2 t2)(c:R2 t1 t2):R2 r1 r2:=by
 have e1:r1.fr=t1.fr/\r1.V=t1.V:=by rcases h with rfl|h;(exact⟨rfl,rfl⟩);exact⟨h.1.trans h.2.1.symm,h.2.2⟩
 have e2:r2.fr=t2.fr/\r2.V=t2.V:=by rcases k with rfl|k;(exact⟨rfl,rfl⟩);exact⟨k.1.trans k.2.1.symm,k.2.2⟩
 refine⟨?_,?_⟩
 ·refine (?_:r1.fr=M4∨r1.fr≠r2.fr);rw[e1.1,e2.1];exact c.1
 ·refine (?_:dH r1 r2=PO);unfold dH;rw[e1.2,e2.2];exact c.2
theorem acH(hb:b=0∨b=32){m h:Nat}:∀(ts:List Tr) (p:Tr) (g:List Tr),(∀t∈g,dH p t=WL)->(g=[]->r7 kz p ts)->fC kz ts->(∀t∈(p::g)++ts,Ft b t/\(t.ht<=h/\t.E<=m∨t.fr≠M4))->ia b m h R2 sz ((p::g)++ts) (ky p g ts):=by
 have pz:∀(p:Tr) (g ts:List Tr) (bz:List Pr),(∀t∈g,dH p t=WL)->(g=[]->r7 kz p ts)->(∀t∈p::g,Ft b t/\(t.ht<=h/\t.E<=m∨t.fr≠M4))->r7 Cs p ts->ia b m h R2 sz ts bz->ia b m h R2 sz ((p::g)++ts) (pY p g::bz):=λp g ts bz hg hn hh hr S=>by
  induction g using K1 with
  |nil=>exact .one (λu e=>⟨hn rfl u e,hr u e⟩) S
  |cons u g=>
   refine nR (yO (hg u (.head _))) λx y ex U sx U=>?_;refine ak (m7 ex) λe1 x2=>?_;have fx:Ft b p.M:=(hh p (.head _)).1.M;have Ob:p.M.cZ=WL:=e1.symm▸sx;have pf:=acM (hh p (.head _)).1 Ob;refine .many (acf hb (Zj _ _) (λt m=>(hh t m).1) hg) (Zj _ _) (λs ms=>(hh s ms).2.resolve_right λz=>z ?_) (λr k1 k2 J=>?_) (λv e=>⟨.inl pf,hr v e⟩) S
   ·rcases K7.mp ms with rfl|ms
    ·exact pf
    ·refine nR (yO (hg s ms)) λx' y' q8 ey' U te=>?_;rw[ex] at q8;(have y9:=K6 q8;clear q8;subst y9)
     have ys:=(m7 ey').1;have fs:=(hh s (.tail _ ms)).1;have eo:=(K9 hb (e1▸fx) (ys▸fs.M) sx te).op;refine rv (sB (Ps:=[]) (e1▸fx) sx) λU U U U k k5=>?_;unfold Tr.fr;rw[Lh (by rw[ys,<- eo];exact k5),ys,<- eo,k];rfl
   ·refine nQ (J.q) λq q1 q2 U q4=>?_;refine rv (sB (Ps:=[]) fx Ob) λU U U U k k5=>?_;have q4:=q4.resolve_right λz=>by rw[k] at z;cases z.1
    refine⟨?_,pf,?_⟩
    ·unfold Tr.fr;rw[q2,q4,k];rfl
    ·rw[ex,<- e1];unfold Tr.V;rw[q1,q4,e1,MZ (by rw[K5];exact x2)]
 intro ts;induction ts with
 |nil=>intro p g hg hn hc hh;exact pz p g [] [] hg hn (λt mt=>hh t (l8 _ mt)) (λu e=>by exact aY e) .nil
 |cons t ts ih=>
  intro p g hg hn hc hh;by_cases k:dH p t=WL
  ·rw[show ky p g (t::ts)=ky p (g++[t]) ts from MS k];have e:(p::g)++t::ts=(p::(g++[t]))++ts:=by rw[aU,aU,zx];rfl
   rw[e] at hh ⊢;exact ih p (g++[t]) (qn hg k) (λz=>MQ z (by simp)) hc.2 hh
  ·rw[show ky p g (t::ts)=pY p g::ky t [] ts from MZ k];exact pz p g (t::ts) _ hg hn (λs ms=>hh s (l8 _ ms)) (λu e=>by (have y9:=K6 e;clear e;subst y9);exact sW.mpr k) (ih t [] (λs ms=>by exact aT ms) (λU=>hc.1) hc.2 λs ms=>hh s (s7 _ ms))
theorem yT{fl:Int}:∀{ts:List Tr},m4 fl (ts.map .one) []
 |[]=>.nil
 |j4::j5=>.one yT
theorem yQ:∀{ts:List Tr},eU (ts.map .one) []=ts
 |[]=>rfl
 |t::ts=>congrArg (t::·) yQ
theorem ia.len{m h:Nat}{R Kr:Tr->Tr->Prop}{ts:List Tr}{bz:List Pr}(S:ia b m h R Kr ts bz):bz.length<=ts.length:=by
 induction S with
 |nil=>exact EC _
 |one _ _ ih=>exact de ih
 |many _ _ _ _ _ _ ih=>rw[Es,qR,qR];exact SX ih
theorem KH{t:Tr}(h:Ft b t):gg [t] (hS t)/\(∀s∈hS t,Ft b s/\s.ht<=t.ht/\s.E<=t.E/\s.op≠6)/\hS t≠[]:=by
 unfold hS;by_cases e:t.op=6
 ·rw[MS (K5.mpr e)];refine ce (h.EG e) λn k U=>?_;have c:=qk (.inr e) n;have kd:=h.O;have wt:=t.gu;refine⟨⟨λPs a g=>?_,aG c.symm,?_,λz=>c.trans z⟩,λs m=>⟨kd s m,?_,by rw[c];exact oq m,k s m⟩,λz=>by rw[z] at n;exact lj n⟩
  ·refine (?_:_=cy (t.aR Ps a g++[]));rw[zB];obtain⟨nd,l⟩:=t;rw[J0 (nd:=nd) (l:=l) e];rfl
  ·refine (?_:_<=t.W+0+20*(t.E+0));exact SW wt c
  ·exact nq (Wy _) m
 ·rw[MZ (by rw[K5];exact e)];exact⟨.Q _,λs m=>by rw[wm.mp m];exact⟨h,EC _,EC _,e⟩,Zj _ _⟩
theorem KI{m h:Nat}:∀{ts:List Tr},Cu b m h ts->gg ts (dR ts)/\∀s∈dR ts,Ft b s/\s.ht<=h/\s.E<=m/\s.op≠6
 |[],j4=>⟨.Q _,λs m=>nomatch m⟩
 |t::ts,H=>by refine ce (KH (H t (.head _)).1) λa1 a2 U=>?_;refine ak (KI (ts:=ts) λs m=>H s (.tail _ m)) λb1 b2=>?_;have e:dR (t::ts)=hS t++dR ts:=Zw;rw[e];refine⟨gg.fp (ts:=[t]) a1 b1,λs m=>(bT.mp m).elim (λm=>?_) (b2 s)⟩;refine iR (a2 s m) λc1 c2 c3 c4=>?_;exact⟨c1,Le c2 (H t (.head _)).2.1,Le c3 (H t (.head _)).2.2,c4⟩
theorem acn{ts:List Tr}(n:ts≠[])(H:∀t∈ts,Ft b t):dR ts≠[]:=by
 induction ts using K1 with
 |nil=>exact MQ rfl n
 |cons t ts=>have:=(KH (H t (.head _))).2.2;intro e;have e:hS t++dR ts=[]:=Zw.symm.trans e;exact this (List.append_eq_nil_iff.mp e).1
theorem Lb(hb:b=0∨b=32){ts:List Tr}(h:∀t∈ts,Ft b t)(w:aM ts<=1000000):xP ts:=by refine⟨by have:=mP (ts:=ts);show _<=_;exact SV this w,λl ⟨x,y,e⟩ k=>?_⟩;rw[<- e,lF,lF] at w;exact (CB hb (fl:=b) (by rcases hb with rfl|rfl<;>decide) (rows:=[]) ⟨.nil,λp m=>nomatch m⟩ (λt m=>⟨h t (by rw[<- e];exact l8 _ (s7 _ m)),k t m⟩) (by refine (?_:0+_<=_);exact SU w)).2
theorem af5{t:Tr}(w:t.W<=1000000):t.ok:=g6 w
theorem abV(hb:b=0∨b=32){p t:Tr}(h:Ft b p)(k:Ft b t)(wp:p.W<=1000000)(wt:t.W<=1000000):BC p t:=by
 have so:∀{u:Tr},Ft b u->u.W<=1000000->u.M.ok:=λ{u} hu w=>by
  have o:=g6 w
  match u,o with
  |.mk nd [],o=>exact o
  |.mk nd (s::ss),o=>
   by_cases e:(nd.op==5)=WL
   ·rw[qy e];exact o.bJ (.head _)
   ·rw[oG (t:=.mk nd (s::ss)) (sW.mpr e)];exact o
 refine⟨g6 wp,g6 wt,λx e=>?_,λx y e e' s=>?_⟩
 ·refine ak (m7 e) λy9 U=>?_;subst y9;have hs:=h.M;refine⟨so h wp,λz8 z=>?_⟩;generalize p.M=x at hs z8 z;induction hs with
  |leaf h=>exact (gE z8 h.op (by decide)).elim
  |tim _ _ _ _ _ _ _=>exact fN z
  |grp _ _ _ _ _=>exact fN z
  |row h _ _ _=>exact MQ (h.symm.trans z8) (by decide)
  |alt h _ _ _ _=>exact MQ (h.symm.trans z8) (by decide)
 ·refine ak (m7 e) λy9 U=>?_;subst y9;refine ak (m7 e') λy9 U=>?_;subst y9;have fx:=h.M;have fy:=k.M;have Oc:=so h wp;have Od:=so k wt;generalize p.M=x at *
  generalize t.M=y at *
  rcases fx.cZ s with⟨nd,rfl,l,ho⟩|⟨nd,nd',rfl,ho,h1,h2,h3,l,sg,f,w⟩
  ·have no:=(show ∀o∈dL,o∉([5,6,7,8,9,10,11]:List Int)/\o≠11/\o≠21 by decide) nd.op ho;refine⟨Oc,Od,no.2,.inl rfl,λte=>?_,λs u e=>nomatch e⟩;refine aj (fy.jR λz=>no.1 ((show nd.op=y.op from (m9 te).1).symm▸z)) λnN y9 U=>?_;subst y9;rfl
  ·have s11:aP (.mk nd' [])=WL->nd'.op≠11/\nd'.op≠21:=λk=>by rcases ib k with e|e|e<;>rw[show nd'.op=_ from e]<;>decide
   refine⟨Oc,Od,?_,.inr ⟨_,rfl,rfl,s11 sg⟩,λte=>?_,λs u e1 e2 te=>?_⟩
   ·refine (?_:nd.op≠11/\nd.op≠21);rw[ho];decide
   ·have dY:y.op=10:=(m9 te).1.symm.trans ho;induction fy with
    |leaf h=>exact (gE dY h.op (by decide)).elim
    |tim _ _ _ _ _ _ _=>rfl
    |grp _ _ _ _ _=>rfl
    |row h _ _ _=>exact MQ (h.symm.trans dY) (by decide)
    |alt h _ _ _ _=>exact MQ (h.symm.trans dY) (by decide)
   ·(injection e1 with y9;subst y9);have ou:=(m9 te).1;have:u.op∉([5,6,7,8,9,10,11]:List Int):=by rw[<- ou];rcases ib sg with e|e|e<;>rw[e]<;>decide
    refine aj ((fy.O u (by rw[e2];exact .head _)).jR this) λU y9 U=>?_;subst y9;rfl
noncomputable def dd(l:Tr):List Tr->List Tr
 |[]=>[]
 |t::ts=>if (t.op==2&&l.op==2)=WL then dd l ts else t::dd t ts
theorem KB{l t:Tr}{ts:List Tr}:dd l (t::ts)=if (t.op==2&&l.op==2)=WL then dd l ts else t::dd t ts:=rfl
theorem C7:∀{ts acc:List Tr}{l:Tr},ts.foldl mU (acc++[l])=acc++l::dd l ts
 |[],j4,j5=>rfl
 |t::ts,acc,l=>by
  have e:mU (acc++[l]) t=if (t.op==2&&l.op==2)=WL then acc++[l] else acc++[l]++[t]:=by unfold mU;rw[XG]
  rw[YA,e];rw[KB];by_cases c:(t.op==2&&l.op==2)=WL
  ·rw[MS c,MS c];exact C7
  ·rw[MZ c,MZ c,C7,zx];rfl
structure Emp(t:Tr):Prop where
 s:aP t=PO
 f:t.fr=M4
 l:t.V=M4
theorem ack{t:Tr}(h:t.op=2):Emp t:=by have f:t.G=t:=Tr.kR (by rw[h];rfl);have s:t.M=t:=oG (by rw[h];rfl);exact⟨by unfold aP;rw[h];rfl,by unfold Tr.fr;rw[f,h];rfl,by unfold Tr.V;rw[s,h];rfl⟩
abbrev R3(x y:Tr):Prop:=R2 x y/\oh x y
theorem acj{t u:Tr}(h:t.op=2):R3 t u:=by obtain⟨s,f,l⟩:=ack h;exact⟨⟨.inl f,by refine (?_:dH t u=PO);unfold dH;rw[l]⟩,CJ s⟩
structure Kn(l:Tr)(ts us:List Tr):Prop where
 s:gg (l::ts) (l::us)
 bJ:∀u∈us,u∈ts
 j:fC lM (l::us)
theorem C8:∀{ts:List Tr}{l:Tr},(∀t∈l::ts,Ft b t)->fC R3 (l::ts)->Kn l ts (dd l ts)
 |[],l,j4,j5=>⟨.Q _,λu m=>(aT m),⟨λu e=>(aY e),trivial⟩⟩
 |t::ts,l,H,k=>by
  rw[KB];by_cases c:(t.op==2&&l.op==2)=WL
  ·rw[MS c];refine ak (zA.mp c) λc1 c2=>?_;have c1:=zH c1;have c2:=zH c2;obtain⟨a1,a2,a3⟩:=C8 (ts:=ts) (l:=l) (λs m=>by
    rcases K7.mp m with rfl|m
    ·exact H _ (.head _)
    ·exact H s (.tail _ (.tail _ m))) ⟨λu e=>acj c2,k.2.2⟩
   have s2:gg [l,t] [l]:=by have w:=t.gu;have z1:=(H l (.head _)).EF c2;have z2:=(H t (.tail _ (.head _))).EF c1;refine⟨λPs a g=>?_,by refine (?_:l.E+0<=l.E+(t.E+0));exact ST z2,by refine (?_:l.W+0+20*(l.E+0)<=l.W+(t.W+0)+20*(l.E+(t.E+0)));exact SR z2 w,λU=>by refine (?_:l.E+(t.E+0)=0);exact SQ z2 z1⟩;refine (?_:cy (l.aR Ps a g++[])=cy (l.aR Ps a g++(t.aR Ps a g++[])));rw[vg c1,vg c2];exact (Ka (e:=a) (g:=g)).symm
   exact⟨(gg.fp s2 (.Q ts)).S a1,λu m=>.tail _ (a2 u m),a3⟩
  ·rw[MZ c];obtain⟨a1,a2,a3⟩:=C8 (ts:=ts) (l:=t) (λs m=>H s (.tail _ m)) k.2;refine⟨gg.fp (.Q [l]) a1,λu m=>?_,⟨λu e=>?_,a3⟩⟩
   ·rcases K7.mp m with rfl|m
    ·exact .head _
    ·exact .tail _ (a2 u m)
   ·(have y9:=K6 e;clear e;subst y9);obtain⟨⟨k1,k2⟩,k3⟩:=k.1 t rfl;exact⟨k3,k1,k2,λz=>c (by rw[z.1,z.2];rfl)⟩
structure At(b:Int)(H:Nat)(ts us:List Tr):Prop where
 s:gg ts us
 f:∀t∈us,Ft b t/\t.ht<=H/\t.op≠6
 ne:us≠[]
theorem At.w{H:Nat}{ts us:List Tr}(A:At b H ts us)(w:r8 ts<=1000000):r8 us<=1000000/\aM us<=1000000/\sm us:=by have a:aM us+20*be us<=aM ts+20*be ts:=A.s.w;have w:aM ts+20*be ts<=1000000:=w;have:=mP (ts:=us);exact⟨by refine (?_:aM us+20*be us<=_);exact S2 w a,by exact S0 w a,by show _<=_;exact SZ this w a⟩
theorem oA{t:Tr}:∀{ts:List Tr},t∈ts->t.W<=aM ts
 |u::ts,h=>by
  rcases K7.mp h with rfl|h
  ·exact oW _ _
  ·exact Le (oA h) (oJ _ _)
theorem La{t:Tr}(h:Ft b t)(k:aP t=WL):t.ht=1/\t.op≠6:=by refine aj (h.wl k) λnd y9 U=>?_;subst y9;exact⟨rfl,by rcases ib k with e|e|e<;>rw[e]<;>decide⟩
theorem qh.hf{fl:Int}(h:qh b fl):vT fl (Zi 1)=b:=by refine ak h λhb h=>?_;rcases hb with rfl|rfl<;>rcases h with rfl|rfl<;>decide
theorem Lf{fl:Int}(hF:qh b fl){m h:Nat}(IH:∀m',m'+1=m->u7 b fl m' h):u7 b fl m h:=by
 intro ts n0 H w;have hb:=hF.1
 -- Vv signs
 refine ak (KI H) λq1 q2=>?_;have q3:=acn n0 λt mt=>(H t mt).1;have A0:At b h ts (dR ts):=⟨q1,λt mt=>⟨(q2 t mt).1,(q2 t mt).2.1,(q2 t mt).2.2.2⟩,q3⟩
 refine ce (A0.w w) λU w0 l0=>?_;refine dm (Wk q3) λp r0 e0=>?_;have S1:Ct b p (dR ts) (iV fl (dR ts)):=by have:=abE hb hF.hf r0 p [] (λt mt=>(A0.f t (e0▸mt)).1) (.inl rfl) (by rw[show[p]++r0=dR ts from e0.symm];exact w0);rw[e0];exact this
 have R1:∀t∈iV fl (dR ts),Ft b t/\(t.ht<=h/\t.E<=m)/\t.op≠6:=λt mt=>by
  rcases S1.f t mt with k|⟨f1,f2,u,mu,su⟩
  ·exact⟨(q2 t k).1,(q2 t k).2.1 |> λx=>⟨x,(q2 t k).2.2.1⟩,(q2 t k).2.2.2⟩
  ·have c1:=ql (q2 u mu).1 su;exact⟨f1,⟨by rw[(La f1 f2).1];exact Le (sd u) (q2 u mu).2.1,by rw[ql f1 f2,<- c1];exact (q2 u mu).2.2.1⟩,(La f1 f2).2⟩
 have A1:At b h ts (iV fl (dR ts)):=⟨q1.S S1.s,λt mt=>⟨(R1 t mt).1,(R1 t mt).2.1.1,(R1 t mt).2.2⟩,by refine hJ (S1.h) λr o e U=>?_;rw[e];exact Zj _ _⟩
 have N1:=S1.n;generalize mr:iV fl (dR ts)=s1 at A1 R1 N1;refine ce (A1.w w) λw1 v1 l1=>?_
 -- Vv agc
 refine dm (Wk A1.ne) λp1 r1 e1=>?_;have P1:ia b m h kz yA s1 (jy fl s1):=by rw[e1] at R1 ⊢;exact abt hF r1 p1.U.1 p1.U.2 p1 [] (λt mt=>by rw[wm.mp mt];exact⟨rfl,X2⟩) (by by_cases q:p1.U.1=[];(exact .inr q);exact .inl q) (λz=>MQ rfl z) λt mt=>⟨(R1 t mt).1,(R1 t mt).2.1⟩
 obtain⟨g1,O1⟩:=Kc IH (λa1 t1 a2 t2 x1 x2 c=>by
  have e1:a1.fr=t1.fr:=by rcases x1 with rfl|x1;(rfl);exact x1.1
  have e2:a2.fr=t2.fr:=by rcases x2 with rfl|x2;(rfl);exact x2.1
  refine (?_:a1.fr=M4∨a1.fr≠a2.fr);rw[e1,e2];exact c) P1 (λt mt=>(A1.f t mt).1) N1 w1
 have n1:=O1.n;have hm:h<=h+2*m:=oW _ _;have A2:At b (h+2*m) ts (eU (jy fl s1) g1):=⟨A1.s.S O1.s,λt mt=>by
  refine ak (O1.f t mt) λa c=>?_;rcases c with c|c
  ·exact⟨a,Le (A1.f t c).2.1 hm,(A1.f t c).2.2⟩
  ·exact⟨a,c.2.2,c.2.1⟩,O1.ne A1.ne⟩
 have Fq:∀t∈eU (jy fl s1) g1,Ft b t/\(t.ht<=h/\t.E<=m∨t.fr≠M4):=λt mt=>by refine ak (O1.f t mt) λa c=>?_;exact⟨a,c.imp (λc=>(R1 t c).2.1) λ⟨⟨u,k⟩,j4⟩=>k.2⟩
 have N2:=O1.j;have i1:=O1.i;generalize lb:eU (jy fl s1) g1=s2 at A2 Fq N2 n1;refine ce (A2.w w) λw2 v2 l2=>?_
 -- Vv agd
 refine dm (Wk A2.ne) λp2 r2 e2=>?_;have P2:ia b m h R2 sz s2 (kx s2):=by rw[e2] at Fq N2 ⊢;have k:=N2.qA (S:=kz) λU U x=>x.1;exact acH hb r2 p2 [] (λt mt=>by exact aT mt) (λU=>k.1) k.2 Fq
 refine a7 (Kc IH abP P2 (λt mt=>(A2.f t mt).1) (N2.qA λU U x=>x.2) w2) λg2 O2=>?_;have n2:=O2.n;have A3:At b (h+2*m) ts (eU (kx s2) g2):=⟨A2.s.S O2.s,λt mt=>by
  refine ak (O2.f t mt) λa c=>?_;rcases c with c|c
  ·exact⟨a,(A2.f t c).2⟩
  ·exact⟨a,c.2.2,c.2.1⟩,O2.ne A2.ne⟩
 have N3:=O2.j;have i2:=O2.i;generalize hs3:eU (kx s2) g2=s3 at A3 N3 n2;refine ce (A3.w w) λw3 v3 l3=>?_
 -- signs again,and age is agf
 refine dm (Wk A3.ne) λp3 r3 e3=>?_;have E4:iV fl s3=s3:=by rw[e3] at N3 ⊢;exact J9 (N3.qA λU U x=>x.2)
 have D:Kn p3 r3 (dd p3 r3):=by rw[e3] at A3 N3;exact C8 (λt mt=>(A3.f t mt).1) N3
 have E5:pT s3=p3::dd p3 r3:=by rw[e3];exact C7 (acc:=[])
 have ds:gg s3 (p3::dd p3 r3):=by rw[e3];exact D.s
 have fin:fB fl 4 s3 (p3::dd p3 r3) (eD []+0+1):=by have:=fB.step (fl:=fl) (r:=4) (ts:=s3) (res:=p3::dd p3 r3) (gl:=[]) (M:=0) (by decide) l3 (by refine (?_:(_:List Pr).length<=_);refine (?_:((pT s3).map Pr.one).length<=_);rw[K4,E5];have:=(At.w (b:=b) (H:=h+2*m) ⟨A3.s.S ds,λt mt=>A3.f t (by rw[e3];rcases K7.mp mt with rfl|mt;(exact .head _);exact .tail _ (D.bJ t mt)),Zj _ _⟩ w).2.2;exact this) yT (by refine (?_:fB fl 5 (eU ((pT s3).map Pr.one) []) _ 0);rw[yQ,E5];exact .done);exact this
 have rd3:fB fl 3 s3 (p3::dd p3 r3) (eD []+(eD []+0+1)+1):=by refine fB.step (by decide) (Lb hb (λt mt=>(A3.f t mt).1) v3) (by refine (?_:((iV fl s3).map Pr.one).length<=_);rw[K4,E4];exact l3) yT ?_;refine (?_:fB fl 4 (eU ((iV fl s3).map Pr.one) []) _ _);rw[yQ,E4];exact fin
 have rd2:fB fl 2 s2 (p3::dd p3 r3) (eD g2+(eD []+(eD []+0+1)+1)+1):=by refine fB.step (by decide) ⟨l2,λt mt=>g6 (Le (oA mt) v2),λt mt u mu=>abV hb (A2.f t mt).1 (A2.f u mu).1 (Le (oA mt) v2) (Le (oA mu) v2)⟩ (Le P2.len l2) i2 ?_;refine (?_:fB fl 3 (eU (kx s2) g2) _ _);rw[hs3];exact rd3
 have rd1:fB fl 1 s1 (p3::dd p3 r3) (eD g1+(eD g2+(eD []+(eD []+0+1)+1)+1)+1):=by refine fB.step (by decide) ⟨l1,A1.ne,λt mt=>Le (oA mt) v1⟩ (Le P1.len l1) i1 ?_;refine (?_:fB fl 2 (eU (jy fl s1) g1) _ _);rw[lb];exact rd2
 have rd0:fB fl 0 ts (p3::dd p3 r3) (eD []+(eD g1+(eD g2+(eD []+(eD []+0+1)+1)+1)+1)+1):=by refine fB.step (by decide) (Lb hb (λt mt=>(A0.f t mt).1) w0) (by refine (?_:((iV fl (dR ts)).map Pr.one).length<=_);rw[K4,mr];exact l1) yT ?_;refine (?_:fB fl 1 (eU ((iV fl (dR ts)).map Pr.one) []) _ _);rw[yQ,mr];exact rd1
 refine⟨_,_,rd0,A3.s.S ds,?_,λt mt=>A3.f t (by rw[e3];rcases K7.mp mt with rfl|mt;(exact .head _);exact .tail _ (D.bJ t mt)),D.j,Zj _ _⟩;have c1:=A1.s.c;have c4:=ds.c;refine (?_:0+(eD g1+(eD g2+(0+(0+0+1)+1)+1)+1)+1+_<=_);exact SY n2 n1 c4 c1
theorem Ld{fl:Int}(hF:qh b fl)(h:Nat):∀m:Nat,u7 b fl m h
 |0=>Lf hF λm' e=>by cases e
 |m+1=>Lf hF λm' e=>by cases (e);exact Ld hF h m
def Ko(t:Tr):Kd->Prop
 |.times ..=>t.op∈([7,8,9,10]:List Int)
 |.group c nm=>t.op=11/\c=t.ZK/\nm=t.name
 |.row=>t.op=5
 |.choice=>t.op=6
 |.text rs j4=>rs=t.rn/\t.op∈([2,3,4]:List Int)
 |.set rg=>rg=t.Bd/\t.op=20
 |.place o=>o=t.op/\t.op∉([1,2,3,4,5,6,7,8,9,10,11,12,13,20]:List Int)
 |.any=>t.op=12
 |.octet=>t.op=13
 |.none=>t.op=1
theorem lS(t:Tr):Ko t t.I:=by
 unfold Tr.I mW;by_cases h7:t.op=7
 ·rw[MS (K5.mpr h7)];show t.op∈_;rw[h7];decide
 rw[MZ (by rw[K5];exact h7)];by_cases h8:t.op=8
 ·rw[MS (K5.mpr h8)];show t.op∈_;rw[h8];decide
 rw[MZ (by rw[K5];exact h8)];by_cases h9:t.op=9
 ·rw[MS (K5.mpr h9)];show t.op∈_;rw[h9];decide
 rw[MZ (by rw[K5];exact h9)];by_cases mA:t.op=10
 ·rw[MS (K5.mpr mA)];show t.op∈_;rw[mA];decide
 rw[MZ (by rw[K5];exact mA)];by_cases z9:t.op=12
 ·rw[MS (K5.mpr z9)];exact z9
 rw[MZ (by rw[K5];exact z9)];by_cases Aa:t.op=13
 ·rw[MS (K5.mpr Aa)];exact Aa
 rw[MZ (by rw[K5];exact Aa)];by_cases h1:t.op=1
 ·rw[MS (K5.mpr h1)];exact h1
 rw[MZ (by rw[K5];exact h1)];by_cases h5:t.op=5
 ·rw[MS (K5.mpr h5)];exact h5
 rw[MZ (by rw[K5];exact h5)];by_cases h6:t.op=6
 ·rw[MS (K5.mpr h6)];exact h6
 rw[MZ (by rw[K5];exact h6)];by_cases Ab:t.op=11
 ·rw[MS (K5.mpr Ab)];exact⟨Ab,rfl,rfl⟩
 rw[MZ (by rw[K5];exact Ab)];by_cases Ac:t.op=20
 ·rw[MS (K5.mpr Ac)];exact⟨rfl,Ac⟩
 rw[MZ (by rw[K5];exact Ac)];by_cases h2:t.op=2
 ·rw[MS (K5.mpr h2)];exact⟨by unfold Tr.rn;rw[h2];rfl,by rw[h2];decide⟩
 rw[MZ (by rw[K5];exact h2)];by_cases h3:t.op=3
 ·rw[MS (K5.mpr h3)];exact⟨by unfold Tr.rn;rw[h3];rfl,by rw[h3];decide⟩
 rw[MZ (by rw[K5];exact h3)];by_cases h4:t.op=4
 ·rw[MS (K5.mpr h4)];exact⟨by unfold Tr.rn;rw[h4];rfl,by rw[h4];decide⟩
 rw[MZ (by rw[K5];exact h4)];exact⟨rfl,λz=>by simp only[K7,ZR,or_false] at z;exact S7 z h1 mA Ab z9 Aa h2 Ac h3 h4 h5 h6 h7 h8 h9⟩
theorem du{t:Tr}{k:Kd}(h:t.I=k):Ko t k:=h▸lS t
theorem iE(t:Tr):t.B=.mk t.I (if t.I.sY then[] else t.H.map Tr.B):=by rw[<- uO];rfl
theorem fR{o:Int}{L L':List Int}(m:o∈L)(m':o∈L')(d:∀x∈L,x∉L'):False:=d o m m'
structure vn(b:Int)(Ps:Rg)(t:Tr):Prop where
 ht:t.B.ht<=t.ht
 ok:t.B.ok
 wf:t.B.wf
 nc:t.B.gH
 ft:t.B.kS Ps
 dD:t.B.dD=t.E
 jh:t.jh
theorem yW{t s:Tr}(m:s∈t.H):s.W<=t.W:=by have:=oA m;rw[t.gu];exact S6 this
set_option tactic.hygienic true in
theorem acL{Ps:Rg}(hp:ku Ps){nd:Nd}(k:aP (.mk nd [])=WL):iX Ps ((Tr.mk nd []).B.R Ps):=λa g ha hg=>by
 have e:(Tr.mk nd []).aR Ps=(Tr.mk nd []).B.R Ps:=by rcases ib k with e|e|e<;>exact m6 (by rw[show nd.op=_ from e];decide) (by rw[show nd.op=_ from e];decide)
 rw[<- e,CQ k];unfold jC;split
 ·exact .inl rfl
 ·rename_i z;have hn:a≠Ps.length:=λh=>z (by rw[K5.mpr h];rfl);refine ak (yx hp ha hn) λw1 w2=>?_;exact .inr ⟨_,rfl,w2,w1.2⟩
theorem Dg{H:Nat}:∀{l:List N},(∀n∈l,n.ht<=H)->vE l<=H
 |[],j4=>zJ _
 |n::l,k=>Nat.max_le.mpr ⟨k n (.head _),Dg λs m=>k s (.tail _ m)⟩
theorem Dn:∀{l:List Tr},(∀t∈l,t.B.dD=t.E)->((l.map Tr.B).map N.dD).sum=(be l:Int)
 |[],j4=>rfl
 |t::l,k=>by rw[Zv,Zv,List.sum_cons,k t (.head _),Dn λs m=>k s (.tail _ m)];refine (?_:_=((t.E+be l:Nat):Int));exact S5
theorem KX{Ps:Rg}{nd:Nd}(l:dT b nd)(w:(Tr.mk nd []).W<=20000):vn b Ps (.mk nd []):=by
 have e:(Tr.mk nd []).B=.mk (Tr.mk nd []).I []:=by rw[iE];show N.mk _ (if _ then[] else[])=_;rw[ite_self]
 have ok:=g6 (Le w (by decide));have mE:∀rs f,(Tr.mk nd []).I=.text rs f->sm rs:=λrs f z=>by rw[(du z).1];have:=HM (.mk nd []);have hw:=(Tr.mk nd []).gu;show _<=_;exact S4 hw this w
 have afX:∀rg,(Tr.mk nd []).I=.set rg->sm rg:=λrg z=>by rw[(du z).1];exact ok.Bd
 have nt:∀lo hi z,(Tr.mk nd []).I≠.times lo hi z:=λlo hi z e=>fR (du e) l.op (by decide);have ng:∀c nm,(Tr.mk nd []).I≠.group c nm:=λc nm e=>(gE (du e).1 l.op (by decide)).elim;have nr:(Tr.mk nd []).I≠.row:=λe=>(gE (du e) l.op (by decide)).elim;refine⟨by rw[e];exact EC _,?_,?_,?_,?_,?_,.mk ?_ ?_ λs m=>nomatch m⟩
 ·rw[e];exact .mk (zJ _) mE λs m=>by exact aT m
 ·rw[e];exact .mk (zJ _) mE (λz=>MQ z nr) λs m=>by exact aT m
 ·rw[e];exact .mk (λc nm z=>MQ z (ng c nm)) λs m=>by exact aT m
 ·rw[e];exact .mk (zJ _) mE afX (λlo hi z e=>MQ e (nt lo hi z)) (λc nm z=>MQ z (ng c nm)) λs m=>by exact aT m
 ·rw[e];have k:=lS (.mk nd []);have co:(Tr.mk nd []).E=(Tr.mk nd []).ck:=by rw[lO];rfl
  rw[co];refine (?_:_=((if (nd.op==2)=WL then 0 else if a6 nd.op=WL then (Tr.mk nd []).rn.length else 1:Nat):Int));generalize (Tr.mk nd []).I=kd at k;have one:(Tr.mk nd []).op∉([2,3,4]:List Int)->(N.mk kd []).dD=1->(N.mk kd []).dD=((if (nd.op==2)=WL then 0 else if a6 nd.op=WL then (Tr.mk nd []).rn.length else 1:Nat):Int):=λz e=>by rw[e,MZ (λq=>z (jD (zH q) (by decide))),MZ (λq=>z ((i9 q).elim (λq=>jD q (by decide)) λq=>jD q (by decide)))];rfl
  induction kd with
  |text rs f=>
   refine ak k λk1 k2=>?_
   refine (?_:(rs.length:Int)=_);rw[k1];by_cases z:nd.op=2
   ·rw[MS (K5.mpr z)];have:(Tr.mk nd []).rn=[]:=by unfold Tr.rn;rw[show (Tr.mk nd []).op=2 from z];rfl
    rw[this];rfl
   ·rw[MZ (by rw[K5];exact z)];have:a6 nd.op=WL:=by
     have k2:nd.op∈([2,3,4]:List Int):=k2;rcases K7.mp k2 with q|q
     ·exact MQ q z
     ·rcases K7.mp q with q|q
      ·rw[q];rfl
      ·rw[wm.mp q];rfl
    rw[MS this]
  |set rg=>exact one (by rw[k.2];decide) rfl
  |place o=>exact one (λz=>k.2 ((show ∀o∈([2,3,4]:List Int),o∈([1,2,3,4,5,6,7,8,9,10,11,12,13,20]:List Int) by decide) _ z)) rfl
  |any=>exact one (by rw[show (Tr.mk nd []).op=12 from k];decide) rfl
  |octet=>exact one (by rw[show (Tr.mk nd []).op=13 from k];decide) rfl
  |none=>exact one (by rw[show (Tr.mk nd []).op=1 from k];decide) rfl
  |times lo hi z=>exact (fR k l.op (by decide)).elim
  |group c nm=>exact (gE k.1 l.op (by decide)).elim
  |row=>exact (gE k l.op (by decide)).elim
  |choice=>exact (gE k l.op (by decide)).elim
 ·exact ((show ∀o∈([1,2,3,4,12,13,14,15,16,17,18,19,20]:List Int),1<=o/\o<=20 by decide) nd.op l.op).1
 ·exact ((show ∀o∈([1,2,3,4,12,13,14,15,16,17,18,19,20]:List Int),1<=o/\o<=20 by decide) nd.op l.op).2
theorem yU{Ps:Rg}{nd:Nd}{l:List Tr}(n0:l≠[])(w:(Tr.mk nd l).W<=20000)(H:∀t∈l,vn b Ps t)(mD:nd.op∈([5,6,7,8,9,10,11]:List Int))
 (hg:∀c nm,(Tr.mk nd l).I=.group c nm->(c=1∨c=2)/\nm=pZ c) (ht:∀lo hi z,(Tr.mk nd l).I=.times lo hi z->∃s,l.map Tr.B=[s]/\iX Ps (s.R Ps)):vn b Ps (.mk nd l):=by
 have k:=lS (.mk nd l);have mE:∀rs f,(Tr.mk nd l).I≠.text rs f:=λrs f z=>fR (du z).2 mD (by decide);have lf:(Tr.mk nd l).I.sY=PO:=by
  cases e:(Tr.mk nd l).I with
  |text rs f=>exact MQ e (mE rs f)
  |set rg=>exact (gE (du e).2 mD (by decide)).elim
  |place o=>
   have op:=(du e)
   exact m8 (P:=λq=>mW q (.mk nd l)=.place o->(Kd.place o).sY=PO) mD ⟨λe=>Kd.noConfusion e,λe=>Kd.noConfusion e,λe=>Kd.noConfusion e,λe=>Kd.noConfusion e,λe=>Kd.noConfusion e,λe=>Kd.noConfusion e,λe=>Kd.noConfusion e,trivial⟩ e
  |_=>rfl
 have e:(Tr.mk nd l).B=.mk (Tr.mk nd l).I (l.map Tr.B):=by rw[iE,lf];rfl
 have lw:=mP (ts:=l);have hw:(Tr.mk nd l).W=2+10*(Tr.mk nd l).ck+nd.D5.length+nd.Bd.length+aM l:=(Tr.mk nd l).gu;have wR:(l.map Tr.B).length<=10000:=by rw[K4];exact S3 lw hw w
 have mem:∀{P:N->Prop},(∀t∈l,P t.B)->∀n∈l.map Tr.B,P n:=λh n m=>by refine aj (zK.mp m) λt mt y9=>?_;subst y9;exact h t mt
 have Ad:sm (l.map Tr.B):=Le wR (by decide);refine⟨?_,?_,?_,?_,?_,?_,.mk ?_ ?_ λs m=>(H s m).jh⟩
 ·rw[e];exact de (Dg (mem λt m=>Le (H t m).ht (nq (t:=.mk nd l) (EC _) m)))
 ·rw[e];exact .mk Ad (λrs f z=>MQ z (mE rs f)) (mem λt m=>(H t m).ok)
 ·rw[e];exact .mk Ad (λrs f z=>MQ z (mE rs f)) (λU z=>n0 (WS.mp z)) (mem λt m=>(H t m).wf)
 ·rw[e];exact .mk (λc nm z=>(hg c nm z).2) (mem λt m=>(H t m).nc)
 ·rw[e];exact .mk wR (λrs f z=>MQ z (mE rs f)) (λrg z=>by rw[z] at lf;exact eK lf) ht (λc nm z=>(hg c nm z).1) (mem λt m=>(H t m).ft)
 ·rw[e];have s:=Dn λt m=>(H t m).dD;have co:(Tr.mk nd l).E=be l:=by
   rw[lO];have:(Tr.mk nd l).ck=0:=by
    unfold Tr.ck;refine (?_:(if (nd.op==2)=WL then 0 else if a6 nd.op=WL then _ else if l.isEmpty=WL then 1 else 0)=0)
    match l,n0 with
    |t::l,j4=>exact m8 (P:=λo=>(if (o==2)=WL then 0 else if a6 o=WL then _ else 0)=0) mD ⟨rfl,rfl,rfl,rfl,rfl,rfl,rfl,trivial⟩
   rw[this,kI];rfl
  rw[co,<- s]
  match l,n0 with
  |t::l,j4=>
   generalize (Tr.mk nd (t::l)).I=kd at mE;induction kd with
   |text rs f=>exact MQ rfl (mE rs f)
   |_=>refine (?_:(t.B.dD::vF (l.map Tr.B)).sum=_);rw[xY];rfl
 ·exact ((show ∀o∈([5,6,7,8,9,10,11]:List Int),1<=o/\o<=20 by decide) nd.op mD).1
 ·exact ((show ∀o∈([5,6,7,8,9,10,11]:List Int),1<=o/\o<=20 by decide) nd.op mD).2
theorem acF{Ps:Rg}(hp:ku Ps){t:Tr}(h:Ft b t):t.W<=20000->vn b Ps t:=by
 have Vw:∀{nd:Nd}{l:List Tr}{k:Int},nd.op=k->k∉([7,8,9,10]:List Int)->∀lo hi z,(Tr.mk nd l).I≠.times lo hi z:=λe n lo hi z q=>n (e▸du q);have Fr:∀{nd:Nd}{l:List Tr},nd.op≠11->∀c nm,(Tr.mk nd l).I=.group c nm->(c=1∨c=2)/\nm=pZ c:=λe c nm q=>MQ (du q).1 e;induction h with
 |leaf l=>exact KX l
 | @tim nd nd' ho _ _ l sg _ _=>intro w;refine yU (Zj _ _) w (λt m=>by rw[wm.mp m];exact KX l (Le (yW (t:=.mk nd [.mk nd' []]) (.head _)) w)) ((show ∀o∈([7,8,9,10]:List Int),o∈([5,6,7,8,9,10,11]:List Int) by decide) _ ho) (Fr λe=>by rw[e] at ho;revert ho;decide) λlo hi z U=>⟨_,rfl,acL hp sg⟩
 | @grp nd s ho hc hn _ _ ih=>intro w;refine yU (Zj _ _) w (λt m=>by rw[wm.mp m];exact ih (Le (yW (t:=.mk nd [s]) (.head _)) w)) (by rw[ho];decide) (λc nm q=>?_) λlo hi z q=>MQ q (Vw ho (by decide) lo hi z);refine ce (du q) λU q1 q2=>?_;rw[q1,q2];exact⟨hc,hn⟩
 | @row nd l ho n _ _ ih=>intro w;exact yU (λz=>by rw[z] at n;exact lj n) w (λt m=>ih t m (Le (yW (t:=.mk nd l) m) w)) (by rw[ho];decide) (Fr (by rw[ho];decide)) λlo hi z q=>MQ q (Vw ho (by decide) lo hi z)
 | @alt nd l ho n _ _ _ ih=>intro w;exact yU (λz=>by rw[z] at n;exact lj n) w (λt m=>ih t m (Le (yW (t:=.mk nd l) m) w)) (by rw[ho];decide) (Fr (by rw[ho];decide)) λlo hi z q=>MQ q (Vw ho (by decide) lo hi z)
theorem KY{t:Tr}(h:Ft b t):t.B.mf=aP t:=by
 have k:=lS t;rw[iE];unfold N.mf N.k aP;dsimp only;generalize t.I=kd at k;have ne:∀{L:List Int},t.op∈L->(3:Int)∉L->(20:Int)∉L->(12:Int)∉L->PO=(t.op==3||(t.op==20||t.op==12)):=λm a c d=>by rw[show (t.op==3)=PO from beq_eq_false_iff_ne.mpr λz=>a (z▸m),show (t.op==20)=PO from beq_eq_false_iff_ne.mpr λz=>c (z▸m),show (t.op==12)=PO from beq_eq_false_iff_ne.mpr λz=>d (z▸m)];rfl
 induction kd with
 |text rs f=>
  refine ak k λy9 k2=>?_;subst y9
  refine (?_:((t.rn.length:Int)==1)=_);rcases K7.mp k2 with q|q
  ·have:t.rn=[]:=by unfold Tr.rn;rw[q];rfl
   rw[this,q];rfl
  ·rcases K7.mp q with q|q
   ·have:t.rn=[t.K3]:=by unfold Tr.rn;rw[q];rfl
    rw[this,q];rfl
   ·have q:=wm.mp q;refine aj (h.jR (by rw[q];decide)) λnd y9 l=>?_;subst y9;have:=l.s2 q;have e:(Tr.mk nd []).rn=nd.D5:=by unfold Tr.rn;rw[q];rfl
    rw[e,q];refine (?_:_=PO);exact beq_eq_false_iff_ne.mpr λz=>by exact S8 z this
 |set rg=>rw[k.2];rfl
 |any=>rw[show t.op=12 from k];rfl
 |place o=>obtain⟨nd,l⟩:=t;have no:=k.2;have a3:(Tr.mk nd l).op≠3:=λz=>no (jD z (by decide));have a20:(Tr.mk nd l).op≠20:=λz=>no (jD z (by decide));have a12:(Tr.mk nd l).op≠12:=λz=>no (jD z (by decide));rw[beq_eq_false_iff_ne.mpr a3,beq_eq_false_iff_ne.mpr a20,beq_eq_false_iff_ne.mpr a12];rfl
 |times _ _ _=>exact ne k (by decide) (by decide) (by decide)
 |octet=>rw[show t.op=13 from k];rfl
 |none=>rw[show t.op=1 from k];rfl
 |group _ _=>rw[k.1];rfl
 |row=>rw[show t.op=5 from k];rfl
 |choice=>rw[show t.op=6 from k];rfl
theorem KN{t:Tr}(h:t.op=5):t.I=.row:=by unfold Tr.I mW;rw[h];rfl
theorem acr{n:N}(h:n.k≠.row):n.me=n:=by
 match n,h with
 |.mk .row (j4::j5),h=>exact MQ rfl h
 |.mk .row [],j4=>rfl
 |.mk (.text ..) _,_|.mk (.place _) _,_|.mk (.set _) _,_|.mk .any _,_|.mk .octet _,_|.mk .none _,_|.mk (.times ..) _,_|.mk (.group ..) _,_|.mk .choice j4,j5=>rfl
theorem KW:∀{t:Tr},Ft b t->t.B.me=t.G.B
 |.mk nd [],h=>by
  have e:(Tr.mk nd []).B=.mk (Tr.mk nd []).I []:=by rw[iE];show N.mk _ (if _ then[] else[])=_;rw[ite_self]
  refine (?_:_=(Tr.mk nd []).B);rw[e];cases (Tr.mk nd []).I<;>rfl
 |.mk nd (s::ss),h=>by
  by_cases e:(nd.op==5)=WL
  ·rw[Tr.qP e,<- KW (h.O s (.head _)),iE,KN (t:=.mk nd (s::ss)) (zH e)];rfl
  ·rw[Tr.kR (t:=.mk nd (s::ss)) (sW.mpr e)];exact acr λz=>e (K5.mpr (du (t:=.mk nd (s::ss)) z))
theorem acp{t:Tr}{rs:List Int}{f:Bool}(h:t.I=.text rs f)(k:a6 t.op=WL):f=t.fold:=by unfold Tr.I mW at h;rcases i9 k with e|e<;>rw[e] at h<;>exact ((Kd.text.inj h).2).symm
theorem KV{t:Tr}(h:Ft b t):t.B.fr=t.fr:=by
 unfold N.fr Tr.fr;rw[KW h];have hf:=h.G;generalize t.G=u at hf;have k:=lS u;rw[iE];unfold N.k;dsimp only;by_cases s:a6 u.op=WL
 ·rw[MS s];cases e:u.I with
  |text rs f=>have z:=(du e).1;rw[<- acp e s];subst z;induction u.rn using K1<;>rfl
  |set rg=>rw[(du e).2] at s;exact aX s
  |place o=>exact MQ ((i9 s).elim (λq=>by rw[q];decide) λq=>by rw[q];decide) (du e).2
  |any=>rw[show u.op=12 from du e] at s;exact aX s
  |octet=>rw[show u.op=13 from du e] at s;exact aX s
  |none=>rw[show u.op=1 from du e] at s;exact aX s
  |times _ _ _=>exact (fR (du e) ((i9 s).elim (λq=>by rw[q];exact .head _) λq=>by rw[q];exact .tail _ (.head _):u.op∈([3,4]:List Int)) (by decide)).elim
  |group _ _=>rw[(du e).1] at s;exact aX s
  |row=>rw[show u.op=5 from du e] at s;exact aX s
  |choice=>rw[show u.op=6 from du e] at s;exact aX s
 ·rw[MZ s];cases e:u.I with
  |text rs f=>have z:=(du e).1;have:u.rn=[]:=akE λq=>s (vh q);rw[this] at z;subst z;rfl
  |_=>rfl
theorem acE{t:Tr}(h:Ft b t):t.B.jg=t.M.B:=by
 match t,h with
 |.mk nd [],h=>
  have e:(Tr.mk nd []).B=.mk (Tr.mk nd []).I []:=by rw[iE];show N.mk _ (if _ then[] else[])=_;rw[ite_self]
  refine (?_:_=(Tr.mk nd []).B);rw[e];cases (Tr.mk nd []).I<;>rfl
 |.mk nd (s::ss),h=>
  by_cases e:(nd.op==5)=WL
  ·rw[qy e,iE,KN (t:=.mk nd (s::ss)) (zH e)];rfl
  ·rw[oG (t:=.mk nd (s::ss)) (sW.mpr e)];have z:(Tr.mk nd (s::ss)).I≠.row:=λz=>e (K5.mpr (du (t:=.mk nd (s::ss)) z));rw[iE];generalize (Tr.mk nd (s::ss)).I=kd at z;induction kd with
   |row=>exact MQ rfl z
   |_=>rfl
theorem yP{a c:N}(h:(enc a:AV)=enc c):a.k.A=c.k.A/\a.k.hG=c.k.hG/\a.O=c.O:=by
 have h:AV.tup [.str a.k.A,a.k.hG,.lst a.O]=AV.tup [.str c.k.A,c.k.hG,.lst c.O]:=h;injection h with h
 injection h with h1 h
 injection h with h2 h
 injection h with h3 h
 injection h1 with h1
 injection h3 with h3
 exact⟨h1,h2,h3⟩
theorem KF{rs:List Int}:∀{qs:List Int},rs.map (enc:Int->AV)=qs.map enc->rs=qs:=by
 induction rs with
 |nil=>intro qs h;induction qs using K1 with|nil=>rfl|cons _ _=>exact fO h
 |cons r rs ih=>
  intro qs h;induction qs using K1 with
  |nil=>exact fN h
  |cons q qs=>refine ak (dj h) λh1 h2=>?_;have h1:AV.int r=AV.int q:=h1;rw[AV.int.inj h1,ih h2]
theorem acl{rs:Rg}:∀{qs:Rg},rs.map (enc:Int×Int->AV)=qs.map enc->rs=qs:=by
 induction rs with
 |nil=>intro qs h;induction qs using K1 with|nil=>rfl|cons _ _=>exact fO h
 |cons r rs ih=>
  intro qs h;induction qs using K1 with
  |nil=>exact fN h
  |cons q qs=>
   refine ak (dj h) λh1 h2=>?_;have h1:AV.tup [.int r.1,.int r.2]=AV.tup [.int q.1,.int q.2]:=h1;injection h1 with h1
   injection h1 with h1 h3
   injection h3 with h3
   rw[ih h2];congr 1;exact Ye (AV.int.inj h1) (AV.int.inj h3)
theorem Kv{k:Kd}(h:(k.A==("any":Str))=WL):k=.any:=by induction k<;>first|rfl|exact aX h
theorem KQ{k:Kd}(h:(k.A==("octet":Str))=WL):k=.octet:=by induction k<;>first|rfl|exact aX h
theorem KS{k:Kd}(h:(k.A==("place":Str))=WL):∃o,k=.place o:=by induction k<;>first|exact⟨_,rfl⟩|exact aX h
theorem kD(t:Tr):t.B.k=t.I:=by rw[iE];rfl
theorem KO{nd nd':Nd}(l:dT b nd)(l':dT b nd')(h:nd.op∈(3::dL:List Int))(f3:nd.op=3->nd.fl=nd'.fl)(e:(enc (Tr.mk nd []).B:AV)=enc (Tr.mk nd' []).B)(lf:a6 nd'.op=WL->nd'.op=3):nd.op=nd'.op/\fm (.mk nd []) (.mk nd' [])=WL:=by
 refine ce (yP e) λe1 e2 U=>?_;rw[kD,kD] at e1 e2;have top:nd.op=nd'.op->(vT (ar nd.fl nd'.fl) (gB nd.op)==0)=WL->(if (nd.op==3)=WL then nd.K3==nd'.K3 else if (nd.op==4)=WL then decide (nd.D5=nd'.D5) else if (nd.op==20)=WL then decide (nd.Bd=nd'.Bd) else if (nd.op==10)=WL then (nd.low==nd'.low&&nd.iL==nd'.iL) else ((0:Nat):Int)==((0:Nat):Int))=WL->nd.op=nd'.op/\fm (.mk nd []) (.mk nd' [])=WL:=λa c d=>by refine⟨a,?_⟩;refine (?_:(if (nd.op==nd'.op)=WL then if (vT (ar nd.fl nd'.fl) (gB nd.op)==0)=WL then _ else PO else PO)=WL);rw[MS (K5.mpr a),MS c];exact d
 have Ae:∀x:Int,(vT x 0==0)=WL:=λx=>by unfold vT;induction x<;>simp
 have k:=lS (.mk nd []);have k':=lS (.mk nd' []);cases e0:(Tr.mk nd []).I with
 |text rs f=>
  rw[e0] at e1 e2 k;have o3:nd.op=3:=by
   rcases K7.mp h with q|q
   ·exact q
   ·exact (fR k.2 q (by decide)).elim
  refine dm (uS (by rw[<- e1];rfl)) λiM f' e3=>?_;rw[e3] at e2 k';have r1:rs=[nd.K3]:=by rw[k.1];unfold Tr.rn;rw[show (Tr.mk nd []).op=3 from o3];rfl
  have e2:AV.tup [.lst (rs.map enc),.bool f]=AV.tup [.lst (iM.map enc),.bool f']:=e2;injection e2 with e2
  injection e2 with e2 _
  injection e2 with e2
  have e2:=KF e2;have o':nd'.op=3:=by
   rcases K7.mp k'.2 with q|q
   ·have:(Tr.mk nd' []).rn=[]:=by unfold Tr.rn;rw[q];rfl
    have z:=k'.1;rw[<- e2,r1,this] at z;exact fN z
   ·refine lf ?_;have q:nd'.op∈([3,4]:List Int):=q;rcases K7.mp q with q|q
    ·rw[q];rfl
    ·rw[wm.mp q];rfl
  have r2:iM=[nd'.K3]:=by rw[k'.1];unfold Tr.rn;rw[show (Tr.mk nd' []).op=3 from o'];rfl
  rw[r1,r2] at e2;have e4:=(dj e2).1;refine top (o3.trans o'.symm) ?_ ?_
  ·rw[f3 o3,o3.trans o'.symm];exact (m9 (yd (.mk nd' []))).2
  ·rw[MS (by rw[o3];rfl),e4];exact beq_self_eq_true _
 |set rg=>
  rw[e0] at e1 e2 k;refine a7 (Cp (by rw[<- e1];rfl)) λFn e3=>?_;rw[e3] at e2 k';have e2:AV.lst (rg.map enc)=AV.lst (Fn.map enc):=e2;injection e2 with e2
  have e2:=acl e2;have o:nd.op=20:=k.2;have o':nd'.op=20:=k'.2;refine top (o.trans o'.symm) (by rw[o];exact Ae _) ?_;rw[o];exact decide_eq_true (by rw[show nd.Bd=rg from k.1.symm,show nd'.Bd=Fn from k'.1.symm,e2])
 |any=>rw[e0] at e1 k;have e3:=Kv (k:=(Tr.mk nd' []).I) (by rw[<- e1];rfl);rw[e3] at k';have o:nd.op=12:=k;have o':nd'.op=12:=k';exact top (o.trans o'.symm) (by rw[o];exact Ae _) (by rw[o];rfl)
 |octet=>rw[e0] at e1 k;have e3:=KQ (k:=(Tr.mk nd' []).I) (by rw[<- e1];rfl);rw[e3] at k';have o:nd.op=13:=k;have o':nd'.op=13:=k';exact top (o.trans o'.symm) (by rw[o];exact Ae _) (by rw[o];rfl)
 |place o=>
  rw[e0] at e1 e2 k;refine a7 (KS (by rw[<- e1];rfl)) λo' e3=>?_;rw[e3] at e2 k';have e2:AV.int o=AV.int o':=e2;have oo:nd.op=nd'.op:=(k.1.symm.trans (AV.int.inj e2)).trans k'.1;have no:=k.2;have no:nd.op∉_:=no;have ho:nd.op∈([14,15,16,17,18,19]:List Int):=by exact m8 (P:=λo=>¬o∈([1,2,3,4,5,6,7,8,9,10,11,12,13,20]:List Int)->o∈([14,15,16,17,18,19]:List Int)) h ⟨λn=>MQ (by decide) n,λn=>MQ (by decide) n,λn=>MQ (by decide) n,λU=>by decide,λU=>by decide,λU=>by decide,λU=>by decide,λU=>by decide,λU=>by decide,λn=>MQ (by decide) n,trivial⟩ no
  refine top oo ?_ ?_
  ·by_cases z:nd.op=19
   ·rw[(l.en z).trans (l'.en (oo▸z)).symm,oo];exact (m9 (yd (.mk nd' []))).2
   ·have:gB nd.op=0:=by exact m8 (P:=λq=>¬q=19->gB q=0) ho ⟨λU=>rfl,λU=>rfl,λU=>rfl,λU=>rfl,λU=>rfl,λz=>MQ rfl z,trivial⟩ z
    rw[this];exact Ae _
  ·exact m8 ho ⟨rfl,rfl,rfl,rfl,rfl,rfl,trivial⟩
 |times _ _ _=>rw[e0] at k;exact (fR k h (by decide)).elim
 |group _ _=>rw[e0] at k;exact (fR (wm.mpr k.1) h (by decide)).elim
 |row=>rw[e0] at k;exact (fR (wm.mpr k) h (by decide)).elim
 |choice=>rw[e0] at k;exact (fR (wm.mpr k) h (by decide)).elim
 |none=>rw[e0] at k;exact (fR (wm.mpr k) h (by decide)).elim
theorem acN{nd:Nd}{l:List Tr}(h:nd.op∈dL):(Tr.mk nd l).cZ=WL:=by unfold Tr.cZ;refine (?_:(if (nd.op==10)=WL then _ else mV nd.op||kn nd.op)=WL);generalize nd.op=o at h;rw[MZ (λz=>by rw[zH z] at h;revert h;decide)];exact (show ∀o∈dL,(mV o||kn o)=WL by decide) o h
theorem acy(hb:b=0∨b=32){f f':Int}(h:f=b∨f=dM b 64)(k:f'=b∨f'=dM b 64)(e:lz f=lz f'):(vT (ar f f') 64==0)=WL:=by rcases hb with rfl|rfl<;>rcases h with rfl|rfl<;>rcases k with rfl|rfl<;>first|rfl|exact MQ e (by decide)
theorem act(hb:b=0∨b=32){x y:Tr}(hx:Ft b x)(hy:Ft b y)(e:(enc x.B:AV)=enc y.B)(hd:x.op∈dL∨∃lo z,x.I=.times lo lo z):x.cZ=WL/\gC x y=WL/\x.op≠2/\y.op≠2:=by
 have n2:∀o∈(10::dL:List Int),o≠2:=by decide
 rcases hd with ho|⟨lo,z,ek⟩
 ·refine aj (hx.jR λk=>(fR ho k (by decide))) λnd y9 l=>?_;subst y9;have ho:nd.op∈dL:=ho;refine ce (yP e) λe1 U U=>?_;rw[kD,kD] at e1;have k:=lS (.mk nd []);have Oe:y.op∉([5,6,7,8,9,10,11]:List Int)/\(a6 y.op=WL->False):=by
   have k':=lS y;cases e0:(Tr.mk nd []).I with
   |set rg=>rw[e0] at e1;refine a7 (Cp (k:=y.I) (by rw[<- e1];rfl)) λU e3=>?_;rw[e3] at k';rw[k'.2];decide
   |any=>rw[e0] at e1;have e3:=Kv (k:=y.I) (by rw[<- e1];rfl);rw[e3] at k';rw[show y.op=12 from k'];decide
   |octet=>rw[e0] at e1;have e3:=KQ (k:=y.I) (by rw[<- e1];rfl);rw[e3] at k';rw[show y.op=13 from k'];decide
   |place o=>rw[e0] at e1;refine a7 (KS (k:=y.I) (by rw[<- e1];rfl)) λU e3=>?_;rw[e3] at k';refine⟨λm=>k'.2 ((show ∀o∈([5,6,7,8,9,10,11]:List Int),o∈([1,2,3,4,5,6,7,8,9,10,11,12,13,20]:List Int) by decide) _ m),λm=>k'.2 ((i9 m).elim (λq=>by rw[q];decide) λq=>by rw[q];decide)⟩
   |text _ _=>rw[e0] at k;exact (fR k.2 ho (by decide)).elim
   |times _ _ _=>rw[e0] at k;exact (fR k ho (by decide)).elim
   |group _ _=>rw[e0] at k;exact (fR (wm.mpr k.1) ho (by decide)).elim
   |row=>rw[e0] at k;exact (fR (wm.mpr k) ho (by decide)).elim
   |choice=>rw[e0] at k;exact (fR (wm.mpr k) ho (by decide)).elim
   |none=>rw[e0] at k;exact (fR (wm.mpr k) ho (by decide)).elim
  refine aj (hy.jR Oe.1) λnd' y9 l'=>?_;subst y9;refine ak (KO l l' (.tail _ ho) (λq=>(fR ho (wm.mpr q) (by decide)).elim) e λq=>(Oe.2 q).elim) λt1 t2=>?_;exact⟨acN ho,zA.mpr ⟨t2,rfl⟩,n2 _ (.tail _ ho),n2 _ (.tail _ (show nd'.op∈dL from t1▸ho))⟩
 ·refine ce (yP e) λe1 e2 e3=>?_;rw[kD,kD,ek] at e1 e2;refine pF (IR (k:=y.I) (by rw[<- e1];rfl)) λlo' qZ z' Af=>?_;rw[Af] at e2;have e2:AV.tup [.int lo,.int lo,.bool z]=AV.tup [.int lo',.int qZ,.bool z']:=e2;injection e2 with e2
  injection e2 with q1 e2
  injection e2 with q2 e2
  injection e2 with q3 _
  have q1:=AV.int.inj q1;have q2:=AV.int.inj q2;have q3:=AV.bool.inj q3;have Of:∀{t:Tr}{l2:Int}{w:Bool},Ft b t->t.I=.times l2 l2 w->t.op=10:=λ{t l2 w} ht q=>by have k:=du q;exact m8 (P:=λo=>mW o t=.times l2 l2 w->o=10) (show t.op∈([7,8,9,10]:List Int) from k) ⟨λq=>(by have q:Kd.times 0 (-1) (lz t.fl)=Kd.times l2 l2 w:=q;injection q with a c;exact Tb c a),λq=>(by have q:Kd.times 1 (-1) (lz t.fl)=Kd.times l2 l2 w:=q;injection q with a c;exact Ta c a),λq=>(by have q:Kd.times 0 1 (lz t.fl)=Kd.times l2 l2 w:=q;injection q with a c;exact S9 a c),λU=>rfl,trivial⟩ q
  have xo:=Of hx ek;have yo:=Of hy (Af.trans (by rw[<- q1,<- q2]));induction hx with
  |leaf h=>exact (gE xo h.op (by decide)).elim
  | @tim nd nd' _ c d l sg f _=>
   induction hy with
   |leaf h=>exact (gE yo h.op (by decide)).elim
   | @tim hH Og _ c2 d2 l2 z7 f2 _=>
    have xk:=sD (nd:=nd) (l:=[.mk nd' []]) xo;have yk:=sD (nd:=hH) (l:=[.mk Og []]) yo;have ez:lz nd.fl=lz hH.fl:=by
     rw[xk] at ek;rw[yk] at Af;injection ek with _ _ a;injection Af with _ _ a'
     rw[a,a',q3]
    rw[iE,iE,xk,yk] at e3;have e3:[(enc (Tr.mk nd' []).B:AV)]=[enc (Tr.mk Og []).B]:=e3;have e4:=(dj e3).1;have so:∀{n:Nd},aP (.mk n [])=WL->n.op∈(3::dL:List Int):=λ{n} s=>by rcases ib s with q|q|q<;>rw[show n.op=_ from q]<;>decide
    have ss:∀{n:Nd},aP (.mk n [])=WL->a6 n.op=WL->n.op=3:=λ{n} s q=>by
     rcases ib s with r|r|r
     ·exact r
     ·rw[show n.op=_ from r] at q;exact aX q
     ·rw[show n.op=_ from r] at q;exact aX q
    refine ak (KO l l2 (so sg) (λU=>f.trans f2.symm) e4 (ss z7)) λU t2=>?_;have tA:nd.op=10:=xo;have Fs:hH.op=10:=yo;refine⟨?_,?_,n2 _ (jD xo (.head _)),n2 _ (jD yo (.head _))⟩
    ·unfold Tr.cZ;rw[xo];refine (?_:(nd.low==nd.iL&&((nd'.op==3)||kn nd'.op))=WL);rw[(c tA).1,(c tA).2];rcases ib sg with r|r|r<;>rw[show nd'.op=_ from r]<;>decide
    ·refine zA.mpr ⟨?_,t2⟩;refine (?_:(if (nd.op==hH.op)=WL then if (vT (ar nd.fl hH.fl) (gB nd.op)==0)=WL then _ else PO else PO)=WL);rw[MS (K5.mpr (tA.trans Fs.symm)),tA,show gB 10=64 from rfl,MS (acy hb d d2 ez),xo];refine (?_:(nd.low==hH.low&&nd.iL==hH.iL)=WL);rw[(c tA).1,(c tA).2,(c2 Fs).1,(c2 Fs).2];rfl
   |grp h _ _ _ _=>exact MQ (h.symm.trans yo) (by decide)
   |row h _ _ _=>exact MQ (h.symm.trans yo) (by decide)
   |alt h _ _ _ _=>exact MQ (h.symm.trans yo) (by decide)
  |grp h _ _ _ _=>exact MQ (h.symm.trans xo) (by decide)
  |row h _ _ _=>exact MQ (h.symm.trans xo) (by decide)
  |alt h _ _ _ _=>exact MQ (h.symm.trans xo) (by decide)
theorem KL{t:Tr}{n:N}(h:Ft b t)(e:t.B.hd=Ss n):n=t.M.B/\(t.M.op∈dL∨∃lo z,t.M.I=.times lo lo z):=by
 unfold N.hd at e;rw[acE h,kD] at e;have k:=lS t.M;cases e0:t.M.I with
 |times lo hi z=>
  rw[e0] at e;dsimp only at e;by_cases q:lo=hi
  ·subst q;rw[MS (beq_self_eq_true _)] at e;exact⟨(K6 e).symm,.inr ⟨_,_,rfl⟩⟩
  ·rw[MZ (by rw[K5];exact q)] at e;exact aY e
 |set rg=>rw[e0] at e k;exact⟨(K6 e).symm,.inl (by rw[k.2];decide)⟩
 |any=>rw[e0] at e k;exact⟨(K6 e).symm,.inl (by rw[show t.M.op=12 from k];decide)⟩
 |octet=>rw[e0] at e k;exact⟨(K6 e).symm,.inl (by rw[show t.M.op=13 from k];decide)⟩
 |place o=>rw[e0] at e k;refine⟨(K6 e).symm,.inl ?_⟩;refine aj (h.M.jR λm=>k.2 ((show ∀o∈([5,6,7,8,9,10,11]:List Int),o∈([1,2,3,4,5,6,7,8,9,10,11,12,13,20]:List Int) by decide) _ m)) λnd e5 l=>?_;have k2:=k.2;rw[e5] at k2 ⊢;have lo:=l.op;refine (?_:nd.op∈dL);have k2:nd.op∉_:=k2;exact (show ∀o∈([1,2,3,4,12,13,14,15,16,17,18,19,20]:List Int),o∉([1,2,3,4,5,6,7,8,9,10,11,12,13,20]:List Int)->o∈dL by decide) _ lo k2
 |_=>rw[e0] at e;exact aY e
theorem acB(hb:b=0∨b=32){x y:Tr}(hx:Ft b x)(hy:Ft b y)(A:lM x y):pW x.B y.B:=by
 have two:∀{t:Tr},Ft b t->(enc t.B:AV)=enc uT->t.op=2:=λ{t} h e=>by
  refine ce (yP e) λe1 e2 U=>?_;rw[kD] at e1 e2;refine dm (uS (k:=t.I) (by rw[e1];rfl)) λrs f e3=>?_;have k:=du e3;rw[e3] at e2;have e2:AV.tup [.lst (rs.map enc),.bool f]=AV.tup [.lst (([]:List Int).map enc),.bool PO]:=e2;injection e2 with e2
  injection e2 with e2 _
  injection e2 with e2
  have e2:=KF e2;have rn:t.rn=[]:=by rw[<- k.1,e2]
  rcases K7.mp k.2 with q|q
  ·exact q
  ·have s:a6 t.op=WL:=by
    rcases K7.mp q with q|q
    ·rw[q];rfl
    ·rw[wm.mp q];rfl
   have:=h.td s;rw[rn] at this;exact lj this
 refine⟨by rw[KY hx,KY hy];exact A.s,λ⟨e1,e2⟩=>A.e ⟨two hx e1,two hy e2⟩,by rw[KV hx,KV hy];exact A.f,?_⟩;cases e:x.B.hd with
 |none=>exact .inl rfl
 |some n=>
  refine .inr λq=>?_;refine ak (KL hx e) λy9 c=>?_;subst y9;cases e':y.B.hd with
  |none=>rw[e'] at q;exact AV.noConfusion q
  |some n'=>
   rw[e'] at q;refine ak (KL hy e') λy9 U=>?_;subst y9;have q:(enc x.M.B:AV)=enc y.M.B:=q;refine iR (act hb hx.M hy.M q c) λs te n2 hH=>?_;have A:dH x y=PO:=A.al;have l1:x.V=Ss x.M:=by unfold Tr.V;rw[MZ (by rw[K5];exact n2)]
   have l2:y.V=Ss y.M:=by unfold Tr.V;rw[MZ (by rw[K5];exact hH)]
   have:dH x y=WL:=by unfold dH;rw[l1,l2];refine (?_:(x.M.cZ&&gC x.M y.M)=WL);rw[s,te];rfl
   rw[this] at A;exact eK A
theorem Kq(hb:b=0∨b=32):∀{l:List Tr},(∀t∈l,Ft b t)->fC lM l->mZ (l.map Tr.B)
 |[],j4,j5=>.nil
 |[t],j4,j5=>.one _
 |t::u::l,h,k=>.cons (acB hb (h t (.head _)) (h u (.tail _ (.head _))) (k.1 u rfl)) (Kq hb (l:=u::l) (λs m=>h s (.tail _ m)) k.2)
theorem acT(hb:b=0∨b=32):∀(H:Nat) {l:List Tr},(∀t∈l,Ft b t/\t.op≠6/\t.ht<=H)->fC lM l->yg (l.map Tr.B):=by
 have Oh:∀{H:Nat}{l:List Tr},(∀t∈l,Ft b t/\t.op≠6/\t.ht<=H+1)->∀n∈l.map Tr.B,n.k=.row->∀p∈n.H,p.k=.choice->∃u:Tr,Ft b u/\u.op=6/\u.ht<=H/\p=.mk .choice (u.H.map Tr.B):=λ{H l} h n m e p mp ep=>by refine aj (zK.mp m) λt mt y9=>?_;subst y9;refine ce (h t mt) λft U hh=>?_;rw[kD] at e;rw[iE,e] at mp;have mp:p∈t.H.map Tr.B:=mp;refine aj (zK.mp mp) λu mu y9=>?_;subst y9;rw[kD] at ep;exact⟨u,ft.O u mu,du ep,nq hh mu,by rw[iE,ep];rfl⟩
 intro H;induction H with
 |zero=>
  intro l h k;induction l using K1 with
  |nil=>exact .mk .nil (λn m=>by exact aT m) (λn m=>by exact aT m) λn m=>by exact aT m
  |cons t l=>exact MQ (h t (.head _)).2.2 (Nat.not_le_of_gt (sd t))
 |succ H ih=>
  intro l h k;refine .mk (Kq hb (λt m=>(h t m).1) k) (λn m e=>?_) (λn m e p mp ep=>?_) λn m e p mp ep=>?_
  ·refine aj (zK.mp m) λt mt y9=>?_;subst y9;rw[kD] at e;exact (h t mt).2.1 (du e)
  ·refine nQ (Oh h n m e p mp ep) λu fu e6 U y9=>?_;subst y9;have:=(fu.EG e6).1;intro z;have z:u.H=[]:=WS.mp z;rw[z] at this;exact lj this
  ·refine nQ (Oh h n m e p mp ep) λu fu e6 hu y9=>?_;subst y9;refine ce (fu.EG e6) λU ks kc=>?_;exact ih (λs ms=>⟨fu.O s ms,ks s ms,nq (ZP hu) ms⟩) kc
abbrev eZ(b:Int):Int:=if b=32 then 233 else 8490
structure qq(b:Int)(t:Tr):Prop where
 ft:Ft b t
 ne:t.op≠2
 ht:t.ht<=3
 c:t.E<=3
 w:t.W<=40
theorem oB{r:Int}(h:0<=r/\r<=255):dT b { op:=3,fl:=b,K3:=r }:=
 ⟨by show (3:Int)∈_;decide,λU=>.inl rfl,λz=>MQ (show (3:Int)=4 from z) (by decide),λq m=>by have m:q∈[r]:=m;rw[wm.mp m];exact⟨h.1,Ey h.2 yM⟩,λz=>MQ (show (3:Int)=20 from z) (by decide),λz=>MQ (show (3:Int)=19 from z) (by decide),λU=>rfl,λU=>rfl⟩
theorem Kw{rg:Rg}(h:fD b rg):dT b { op:=20,fl:=b,Bd:=rg }:=
 ⟨by show (20:Int)∈_;decide,λz=>(aX z),λz=>MQ (show (20:Int)=4 from z) (by decide),λr z=>(aT z),λU=>h,λz=>MQ (show (20:Int)=19 from z) (by decide),λU=>rfl,λz=>MQ rfl z⟩
theorem C9{l h:Int}(a:0<=l)(c:l<=h)(d:h<=255):fD b [(l,h)]:=
 ⟨List.pairwise_singleton _ _,λp m=>by rw[wm.mp m];exact⟨a,c,Ey d yM⟩⟩
theorem acu:108<=eZ b/\eZ b<=fE b:=by unfold eZ fE;split<;>decide
theorem acR{rs:List Int}{f:Int}(hf:lP b f)(hr:∀r∈rs,0<=r/\r<=fE b)(h1:1<=rs.length)(h3:rs.length<=3):qq b (Tr.A rs f):=by have w:=xI (rs:=rs) (fl:=f);exact⟨.oX hf hr,CX (qo h1),by rw[yL];decide,by rw[yD hf hr];exact h3,by exact Tu h1 w h3⟩
theorem sC{nd nd':Nd}(ho:nd.op∈([7,8,9,10]:List Int))(mA:nd.op=10->nd.low=2/\nd.iL=2)(hf:nd.fl=b∨nd.fl=dM b 64)(l:dT b nd')(sg:aP (.mk nd' [])=WL)(ff:nd'.fl=b)(z:nd.D5=[]/\nd.Bd=[])(w:(Tr.mk nd [.mk nd' []]).W<=40)(c:(Tr.mk nd [.mk nd' []]).E<=3):qq b (.mk nd [.mk nd' []]):=
 ⟨.tim ho mA hf l sg ff z,λe=>fR (show nd.op∈_ from ho) (wm.mpr (show nd.op=2 from e)) (by decide),by refine (?_:2<=3);decide,c,w⟩
theorem abU:lM (.Y 98 b) (.cR 2 b):=⟨JW rfl,.inr λz=>(lu z),rfl,λz=>MQ (show (3:Int)=2 from z.1) (by decide)⟩
theorem abT:lM (.Eo [97,98] b) (.Y 98 b):=⟨CJ rfl,.inr λz=>MQ (congrArg Prod.fst (K6 z)) (show (97:Int)≠98 by decide),rfl,λz=>MQ (show (4:Int)=2 from z.1) (by decide)⟩
theorem acZ:∀w<12,(∀r∈(m5.getD w ([],PO)).1,r=-1∨0<=r/\r<=255)/\1<=(m5.getD w ([],PO)).1.length/\(m5.getD w ([],PO)).1.length<=3:=by decide
theorem acw{w:Nat}(hw:w<35):qq b (gD (eZ b) b w):=by
 refine ak (acu (b:=b)) λh1 h2=>?_;generalize eZ b=hi at h1 h2;have tg:=yM (b:=b);have Oi:Ft b (.Y 98 b):=.leaf (oB (r:=98) (by decide));by_cases c3:w<25
 ·unfold gD;by_cases c:w<12
  ·rw[MS c];refine ce (acZ w c) λa1 a2 a3=>?_;refine acR (by split;(exact .inr rfl);exact .inl rfl) (λr m=>?_) (by rw[K4];exact a2) (by rw[K4];exact a3);refine aj (zK.mp m) λq mq y9=>?_;subst y9;unfold rX;rcases a1 q mq with rfl|a1
   ·rw[MS (by decide)];exact Tt h1 h2
   ·rw[MZ (Ts a1)];exact Tq a1 tg
  ·rw[MZ c];by_cases c:w<16
   ·rw[MS c];have pt:∀{rg:Rg},fD b rg->rg.length<=2->qq b (.cls rg b):=λ{rg} d l=>⟨.leaf (Kw d),(show (20:Int)≠2 by decide),by refine (?_:1<=3);decide,by refine (?_:1<=3);decide,by refine (?_:2+10*1+0+rg.length+0<=40);exact Tp l⟩
    have:w=12∨w=13∨w=14∨w=15:=by exact Tn c hw (by assumption)
    rcases this with rfl|rfl|rfl|rfl
    ·exact pt (rg:=[(97,98)]) (C9 (by decide) (by decide) (by decide)) (by decide)
    ·exact pt (rg:=[(98,107)]) (C9 (by decide) (by decide) (by decide)) (by decide)
    ·exact pt (rg:=[(107,107),(hi,hi)]) ⟨List.pairwise_pair.mpr (by refine (?_:(107:Int)<hi);exact Tm h1),λp m=>by
      rcases K7.mp m with rfl|m
      ·exact⟨by decide,by decide,by refine (?_:(107:Int)<=_);exact Tl tg⟩
      ·rw[wm.mp m];exact⟨by refine (?_:0<=hi);exact Tk h1,ZW _,h2⟩⟩ (EC 2)
    ·exact pt (rg:=[]) ⟨.nil,λp m=>nomatch m⟩ (by decide)
   ·rw[MZ c];by_cases c:w<25
    ·rw[MS c];have ho:pV.getD (w-16) 0∈([1,12,13,14,15,16,17,18,19]:List Int):=(show ∀k<9,pV.getD k 0∈([1,12,13,14,15,16,17,18,19]:List Int) by decide) (w-16) (Tj c hw (by assumption) (by assumption))
     generalize pV.getD (w-16) 0=o at ho;refine⟨.leaf (.cR ((show ∀o∈([1,12,13,14,15,16,17,18,19]:List Int),o∈([1,2,12,13,14,15,16,17,18,19]:List Int) by decide) o ho) λU=>rfl),λe=>?_,by refine (?_:1<=3);decide,?_,?_⟩
     ·have e:o=2:=e;rw[e] at ho;revert ho;decide
     all_goals simp only[K7,ZR,or_false] at ho
     all_goals rcases ho with rfl|rfl|rfl|rfl|rfl|rfl|rfl|rfl|rfl<;>first|(refine (?_:1<=3);decide)|(refine (?_:12<=40);decide)
    ·exact MQ c3 c
 ·refine Ir (P:=λw=>qq b (gD hi b w)) w c3 hw ?_ ?_ ?_ ?_ ?_ ?_ ?_ ?_ ?_ ?_
  ·exact sC (nd:={ op:=10,fl:=b,low:=2,iL:=2 }) (nd':={ op:=3,fl:=b,K3:=97 }) (by show (10:Int)∈_;decide) (λU=>⟨rfl,rfl⟩) (.inl rfl) (oB (by decide)) rfl rfl ⟨rfl,rfl⟩ (by refine (?_:14<=40);decide) (by refine (?_:1<=3);decide)
  ·exact sC (nd:={ op:=10,fl:=b,low:=2,iL:=2 }) (nd':={ op:=20,fl:=b,Bd:=[(97,98)] }) (by show (10:Int)∈_;decide) (λU=>⟨rfl,rfl⟩) (.inl rfl) (Kw (C9 (by decide) (by decide) (by decide))) rfl rfl ⟨rfl,rfl⟩ (by refine (?_:15<=40);decide) (by refine (?_:1<=3);decide)
  ·exact sC (nd:={ op:=10,fl:=dM b 64,low:=2,iL:=2 }) (nd':={ op:=12,fl:=b }) (by show (10:Int)∈_;decide) (λU=>⟨rfl,rfl⟩) (.inr rfl) (.cR (by decide) λU=>rfl) rfl rfl ⟨rfl,rfl⟩ (by refine (?_:14<=40);decide) (by refine (?_:1<=3);decide)
  ·exact sC (nd:={ op:=7,fl:=b }) (nd':={ op:=3,fl:=b,K3:=97 }) (by show (7:Int)∈_;decide) (λz=>MQ (show (7:Int)=10 from z) (by decide)) (.inl rfl) (oB (by decide)) rfl rfl ⟨rfl,rfl⟩ (by refine (?_:14<=40);decide) (by refine (?_:1<=3);decide)
  ·exact sC (nd:={ op:=8,fl:=dM b 64 }) (nd':={ op:=3,fl:=b,K3:=98 }) (by show (8:Int)∈_;decide) (λz=>MQ (show (8:Int)=10 from z) (by decide)) (.inr rfl) (oB (by decide)) rfl rfl ⟨rfl,rfl⟩ (by refine (?_:14<=40);decide) (by refine (?_:1<=3);decide)
  ·exact sC (nd:={ op:=9,fl:=b }) (nd':={ op:=3,fl:=b,K3:=97 }) (by show (9:Int)∈_;decide) (λz=>MQ (show (9:Int)=10 from z) (by decide)) (.inl rfl) (oB (by decide)) rfl rfl ⟨rfl,rfl⟩ (by refine (?_:14<=40);decide) (by refine (?_:1<=3);decide)
  ·exact⟨.grp rfl (.inl rfl) rfl (.leaf (oB (r:=97) (by decide))) (show (3:Int)≠2 by decide),(show (11:Int)≠2 by decide),by refine (?_:2<=3);decide,by refine (?_:1<=3);decide,by refine (?_:14<=40);decide⟩
  ·refine⟨.grp rfl (.inr rfl) rfl (.alt rfl (EC _) (λt m=>?_) (λt m=>?_) ⟨λu e=>?_,λu e=>(aY e),trivial⟩) (show (6:Int)≠2 by decide),(show (11:Int)≠2 by decide),by refine (?_:3<=3);decide,by refine (?_:1<=3);decide,by refine (?_:18<=40);decide⟩
   ·rcases K7.mp m with rfl|m
    ·exact Oi
    ·rw[wm.mp m];exact .wk
   ·rcases K7.mp m with rfl|m
    ·exact (show (3:Int)≠6 by decide)
    ·rw[wm.mp m];exact (show (2:Int)≠6 by decide)
   ·(have y9:=K6 e;clear e;subst y9);exact abU
  ·have hs:Ft b (.Eo [97,98] b):=Ft.oX (rs:=[97,98]) (.inl rfl) λr m=>by
    rcases K7.mp m with rfl|m
    ·exact Ti tg
    ·rw[wm.mp m];exact Th tg
   refine⟨.alt rfl (EC _) (λt m=>?_) (λt m=>?_) ⟨λu e=>?_,λu e=>(aY e),trivial⟩,(show (6:Int)≠2 by decide),by refine (?_:2<=3);decide,by refine (?_:3<=3);decide,by refine (?_:38<=40);decide⟩
   ·rcases K7.mp m with rfl|m
    ·exact hs
    ·rw[wm.mp m];exact Oi
   ·rcases K7.mp m with rfl|m
    ·exact (show (4:Int)≠6 by decide)
    ·rw[wm.mp m];exact (show (3:Int)≠6 by decide)
   ·(have y9:=K6 e;clear e;subst y9);exact abT
  ·have ht:Ft b (.fg 7 b (.Y 98 b)):=.tim (nd:={ op:=7,fl:=b }) (nd':={ op:=3,fl:=b,K3:=98 }) (by show (7:Int)∈_;decide) (λz=>MQ (show (7:Int)=10 from z) (by decide)) (.inl rfl) (oB (by decide)) rfl rfl ⟨rfl,rfl⟩;refine⟨.row rfl (EC _) (λt m=>?_) (λt m=>?_),(show (5:Int)≠2 by decide),by refine (?_:3<=3);decide,by refine (?_:2<=3);decide,by refine (?_:28<=40);decide⟩
   ·rcases K7.mp m with rfl|m
    ·exact .leaf (oB (r:=97) (by decide))
    ·rw[wm.mp m];exact ht
   ·rcases K7.mp m with rfl|m
    ·exact (show (3:Int)≠2 by decide)
    ·rw[wm.mp m];exact (show (7:Int)≠2 by decide)
abbrev yN(b:Int)(ps:List Tr):Prop:=(∀t∈ps,qq b t)/\ps.length<=4
theorem acC{ps:List Tr}(h:yN b ps)(c:Int):yN b (gZ (eZ b) b ps c):=by
 refine ak h λh1 h2=>?_
 unfold gZ;have e:mT c [3,3,35,35]=[c.fmod 3,(c.fdiv 3).fmod 3,((c.fdiv 3).fdiv 3).fmod 35,(((c.fdiv 3).fdiv 3).fdiv 35).fmod 35]:=rfl;rw[e];have k1:=iD (n:=c) (b:=3) (by decide);have k2:=iD (n:=(c.fdiv 3).fdiv 3) (b:=35) (by decide);have k3:=iD (n:=((c.fdiv 3).fdiv 3).fdiv 35) (b:=35) (by decide);generalize c.fmod 3=k at k1;generalize ((c.fdiv 3).fdiv 3).fmod 35=x at k2;generalize (((c.fdiv 3).fdiv 3).fdiv 35).fmod 35=y at k3;generalize (c.fdiv 3).fmod 3=f;refine (?_:yN b (ps.take k.toNat++([x,y].take f.toNat).map λw=>gD (eZ b) b w.toNat));refine⟨λt m=>?_,?_⟩
 ·rcases bT.mp m with m|m
  ·exact h1 t (Xj m)
  ·refine aj (zK.mp m) λw mw y9=>?_;subst y9;refine acw ?_;have mw:=Xj mw;rcases K7.mp mw with rfl|mw
   ·exact F5 k2
   ·rw[wm.mp mw];exact F5 k3
 ·have:([x,y].take f.toNat).length<=2:=Vq ..;rw[Es,K4,Zo];exact Tf k1 this h2
structure abQ(b:Int)(ts:List Tr)(n:Nat):Prop where
 src:Cu b 12 4 ts
 w:r8 ts<=500*n
 l:ts.length=n
theorem Kp:∀{ps:List Tr},(∀t∈ps,qq b t)->aM ps<=40*ps.length/\be ps<=3*ps.length
 |[],j4=>⟨EC _,EC _⟩
 |t::ps,h=>by refine ak (Kp (ps:=ps) λs m=>h s (.tail _ m)) λa c=>?_;have:=(h t (.head _)).w;have:=(h t (.head _)).c;rw[qR];exact⟨by refine (?_:t.W+aM ps<=_);exact Te (by assumption) a,by refine (?_:t.E+be ps<=_);exact Tc this c⟩
theorem Lk:∀(cs:List Int) {ps:List Tr},yN b ps->abQ b (lQ (eZ b) b ps cs) cs.length
 |[],j4,j5=>⟨λt m=>(aT m),EC _,rfl⟩
 |c::cs,ps,h=>by
  have hp:=acC h c;obtain⟨a1,a2,a3⟩:=Lk cs hp;refine ak (Kp hp.1) λw1 w2=>?_;have l:=hp.2;refine ce (lN.EL (b:=b) (h:=3) (J:=gZ (eZ b) b ps c) (f:=b) ⟨λt m=>⟨(hp.1 t m).ft,(hp.1 t m).ht⟩,λt m=>(hp.1 t m).ne,rfl⟩) λc1 c2 c3=>?_;have cw:=Bk (ts:=gZ (eZ b) b ps c) (fl:=b);have a2:aM (lQ (eZ b) b (gZ (eZ b) b ps c) cs)+20*be (lQ (eZ b) b (gZ (eZ b) b ps c) cs)<=500*cs.length:=a2;refine⟨λt m=>?_,?_,by rw[qR];exact congrArg (·+1) a3⟩
  ·rcases K7.mp m with rfl|m
   ·exact⟨c1,c3,by lia -abstractProof⟩
   ·exact a1 t m
  ·rw[qR];refine (?_:(dF (gZ (eZ b) b ps c) b).W+aM (lQ (eZ b) b (gZ (eZ b) b ps c) cs)+20*((dF (gZ (eZ b) b ps c) b).E+be (lQ (eZ b) b (gZ (eZ b) b ps c) cs))<=500*(cs.length+1))
   lia -abstractProof
set_option tactic.hygienic true in
theorem KR{hi:Int}:∀{ds:List Int}{pg:Rg},(∀(i:Nat) p,pg[i]?=Ss p->1<=p.2/\(i:Int)+p.2<=pg.length)->∀(i:Nat) p,(ds.foldl (gY hi) pg)[i]?=Ss p->1<=p.2/\(i:Int)+p.2<=(ds.foldl (gY hi) pg).length
 |[],_,h=>h
 |d::ds,pg,h=>by
  refine KR (ds:=ds) (pg:=gY hi pg d) λi p e=>?_;have more:∀(x:Rg),(∀(j:Nat) q,x[j]?=Ss q->1<=q.2/\(j:Int)+q.2<=x.length)->(pg++x)[i]?=Ss p->1<=p.2/\(i:Int)+p.2<=(pg++x).length:=λx hx e=>by
   rw[Es];by_cases c:i<pg.length
   ·rw[Yl c] at e;have:=h i p e;exact TK this
   ·rw[akn (TJ c)] at e;have:=hx _ p e;exact TH this c
  unfold gY at e ⊢;split at e
  ·rename_i c;rw[MS c];refine more _ (λj q e=>?_) e
   match j,e with
   |0,e=>(have y9:=K6 e;clear e;subst y9);exact (show (1:Int)<=3/\((0:Nat):Int)+3<=((3:Nat):Int) by decide)
   |1,e=>(have y9:=K6 e;clear e;subst y9);exact (show (1:Int)<=1/\((1:Nat):Int)+1<=((3:Nat):Int) by decide)
   |2,e=>(have y9:=K6 e;clear e;subst y9);exact (show (1:Int)<=1/\((2:Nat):Int)+1<=((3:Nat):Int) by decide)
  ·rename_i c;rw[MZ c];refine more _ (λj q e=>?_) e
   match j,e with
   |0,e=>(have y9:=K6 e;clear e;subst y9);exact (show (1:Int)<=1/\((0:Nat):Int)+1<=((1:Nat):Int) by decide)
structure abO(b:Int)(Ps:Rg)(ts:List Tr):Prop where
 sm:Mine.Internal.sm ts
 n:∀n∈ts.map Tr.B,rU 60 n
 rd:∀t∈ts,t.ht<=60/\t.ok/\t.jh
 w:∀a,dS Ps a->yi 61 (cg ts) Ps a ⟨[]⟩
 m:(cg ts).ht<=61/\(cg ts).ok
 gH:∀t∈ts,t.B.gH/\t.B.ht<=60
 dD:ts≠[]->(cg ts).dD=be ts
theorem KD{Ps:Rg}(hp:ku Ps){ts:List Tr}(h:∀t∈ts,Ft b t/\t.ht<=60)(w:aM ts<=20000):abO b Ps ts:=by
 have R:∀t∈ts,vn b Ps t:=λt m=>acF hp (h t m).1 (Le (oA m) w);have lw:=mP (ts:=ts);have wR:(ts.map Tr.B).length<=10000:=by rw[K4];exact TG lw w
 have Ad:Mine.Internal.sm (ts.map Tr.B):=Le wR (by decide);have hh:∀t∈ts,t.B.ht<=60:=λt m=>Le (R t m).ht (h t m).2;have mem:∀{P:N->Prop},(∀t∈ts,P t.B)->∀n∈ts.map Tr.B,P n:=λk n m=>by refine aj (zK.mp m) λt mt y9=>?_;subst y9;exact k t mt
 have ch:(cg ts).ht<=61:=de (Dg (mem hh));refine⟨by show _<=_;exact TF lw w,mem λt m=>⟨hh t m,hh t m,(R t m).ok,(R t m).wf,(R t m).nc⟩,λt m=>⟨(h t m).2,g6 (Le (oA m) (Le w (by decide))),(R t m).jh⟩,λa ha=>⟨ch,?_,hp,ha,⟨WO,λp m=>nomatch m⟩⟩,⟨ch,?_⟩,λt m=>⟨(R t m).nc,hh t m⟩,λn0=>?_⟩
 ·exact .mk wR (λrs f z=>(Kd.noConfusion z)) (λrg z=>(Kd.noConfusion z)) (λlo hi z q=>(Kd.noConfusion q)) (λc nm z=>(Kd.noConfusion z)) (mem λt m=>(R t m).ft)
 ·exact .mk Ad (λrs f z=>(Kd.noConfusion z)) (mem λt m=>(R t m).ok)
 ·have s:=Dn λt m=>(R t m).dD
  match ts,n0 with
  |t::ts,j4=>rw[<- s];refine (?_:(t.B.dD::vF (ts.map Tr.B)).sum=_);rw[xY];rfl
theorem Lo{Ps:Rg}{ts:List Tr}{a:Int}{g:Gr}:dc (i8 (cg ts) Ps a g) (eE (ts.map (Tr.aR Ps)) a g):=by
 have e:i8 (cg ts) Ps a g=cy (eE (gn Ps (ts.map Tr.B)) a g):=rfl;rw[e];refine Yx zg ?_;have go:∀us:List Tr,om (gn Ps (us.map Tr.B)) (us.map (Tr.aR Ps)):=λus=>by
  induction us with
  |nil=>exact .nil
  |cons t us ih=>exact .cons (CW _ _) (JY Ps t).1 (JY Ps t).2 ih
 exact (go ts).ch a g
theorem KG{ws:List aH}:cy (cy ws)=cy ws:=zg
theorem ab4{s:List Int}{c:Int}{cs:List Int}(h:qg s=c::cs):cs≠[]:=by
 intro z;subst z
 match s,h with
 |[],h=>cases (h)
 |[j4],h=>cases (h)
 |j4::j5::j6,h=>cases (h)
theorem facts_of{s:List Int}{Ps:Rg}{a fL:Int}{ts:List Tr}(B:Cq s Ps a fL ts):∃EM N,Cr Ps a fL ts EM N:=by
 obtain⟨c,cs,d0,d1,d2,d3,ds,hi,fl,e1,e2,e3,e4,e5,e6,e7,e8⟩:=B.ex;have hb:fl=0∨fl=32:=by rw[e4];split;(exact .inr rfl);exact .inl rfl
 have hh:hi=eZ fl:=by rw[e3,e4];unfold eZ;split<;>rfl
 have hF:qh fl fL:=⟨hb,by rw[e8];split;(exact .inr rfl);exact .inl rfl⟩
 have lc:=JD s;rw[e1,qR] at lc;have mC:ds.length=4:=by have:=congrArg W7 e2;have:8=ds.length+1+1+1+1:=this;exact TE this
 have lp:Ps.length<=50:=by rw[e5];have:=CK (hi:=hi) (ds:=ds.take d0.toNat) (pg:=[]);rw[Zo] at this;have this:_<=0+3*min d0.toNat ds.length:=this;exact TD mC this
 have hp:ku Ps:=⟨lp,by rw[e5];exact KR λi p e=>by induction i using vI<;>exact aY e⟩
 have ha:dS Ps a:=by rw[e6];have:=iD (n:=d1) (b:=(Ps.length:Int)+1) (TC lp);exact⟨this.1,by exact TB this⟩
 rw[hh] at e7;obtain⟨t1,t2,t3⟩:=Lk (b:=fl) cs (ps:=[]) ⟨λt m=>(aT m),zJ _⟩;rw[<- e7] at t1 t2 t3;have n0:ts≠[]:=λz=>ab4 e1 (Wh.mp (by rw[<- t3,z];rfl));have Ag:aM ts+20*be ts<=500*cs.length:=t2;refine dm (Ld hF 4 12 ts n0 t1 (by refine (?_:aM ts+20*be ts<=_);exact Tz lc Ag t3)) λEM N S=>?_;have sw:=S.s.w;have sn:=S.n;have sc:=S.s.c;have D1:=KD hp (λt m=>⟨(t1 t m).1,Le (t1 t m).2.1 (by decide)⟩) (ts:=ts) (Ty lc Ag t3);have D2:=KD hp (λt m=>⟨(S.f t m).1,Le (S.f t m).2.1 (by decide)⟩) (ts:=EM) (Tx lc Ag sw t3);refine⟨EM,N,D1.sm,⟨by exact Tw lc Ag sw sn t3,S.r⟩,D1.rd,⟨D2.sm,D2.rd⟩,D1.w a ha,D2.w a ha,?_,⟨?_,λz=>S.ne (WS.mp z),D2.n,acT hb 60 (λt m=>⟨(S.f t m).1,(S.f t m).2.2,Le (S.f t m).2.1 (by decide)⟩) S.j⟩,?_,D1.m,D2.m,D1.gH⟩
 ·have k:dc (i8 (cg ts) Ps a ⟨[]⟩) (i8 (cg EM) Ps a ⟨[]⟩):=(Lo.trans (S.s.zM Ps a ⟨[]⟩).symm).trans Lo.symm;have f1:cy (i8 (cg ts) Ps a ⟨[]⟩)=i8 (cg ts) Ps a ⟨[]⟩:=KG;have f2:cy (i8 (cg EM) Ps a ⟨[]⟩)=i8 (cg EM) Ps a ⟨[]⟩:=KG;exact f1.symm.trans (k.trans f2)
 ·show _<=_;rw[K4];exact D2.sm
 ·rw[D1.dD n0,D2.dD S.ne];exact Tv sc
end Mine.Internal
namespace Mine.Internal
open PySem PySem.W PySem.Calls PyProof.Rows
noncomputable def vx(st:XO->Thread->Option (XO×Thread))(ok:Thread->Bool):Nat->XO->Thread->Option XO
 |0,j4,j5=>M4
 |n+1,s,t=>match through t with
  |true=>Ss s
  |false=>match ok t with
   |false=>M4
   |true=>match st s t with
    |some r=>vx st ok n r.1 r.2
    |none=>M4
theorem Lj{tb:String->Option Builtin}{p:ZB}{w:bc}{m:Nat}{Fu:Option M5}:∀{n:Nat}{s s':XO}{t:Thread},vx (stepT (denote tb) p w) (stepOk m Fu) n s t=Ss s'->topRun tb p w m Fu n s.abs t=Ss s'.abs
 |0,j4,j5,j6,h=>nomatch h
 |n+1,s,s',t,h=>by
  unfold vx at h;unfold topRun;cases ht:through t with
  |true=>rw[ht] at h;obtain rfl:s=s':=K6 h;rfl
  |false=>
   rw[ht] at h;cases hk:stepOk m Fu t with
   |false=>rw[hk] at h;nomatch h
   |true=>
    rw[hk] at h;cases hs:stepT (denote tb) p w s t with
    |none=>rw[hs] at h;nomatch h
    |some r=>rw[hs] at h;dsimp only at h ⊢;rw[stepT_spec (s':=r.1) (t':=r.2) hs];exact Lj h
noncomputable def ab0(P:Params):BT:=(.node (boot_o_0 P) (.node (boot_o_1 P) (.node (boot_o_3 P) (.node (boot_o_7 P) .nil .nil) .nil) (.node (boot_o_5 P) (.node (boot_o_9 P) .nil .nil) .nil)) (.node (boot_o_2 P) (.node (boot_o_4 P) (.node (boot_o_8 P) .nil .nil) .nil) (.node (boot_o_6 P) (.node (boot_o_10 P) .nil .nil) .nil)))
noncomputable def Dm(w:bc)(os:OsState):XO:=⟨ab0 w.params,11,(Zm w.params).life,#[],Wq,Wm,os⟩
theorem acQ(w:bc)(os:OsState):(Dm w os).abs=⟨Zm w.params,XL [],Wq,Wm,os⟩:=rfl
theorem ab2(P:Params):(Zm P).objs.size=11:=rfl
theorem acv{p q:ZB}{loose:List Str}{Xt:MY->Bool}{α:Type}{Yf:MY->α}{Ya:bc->α}{N:Nat}
 (bt:∀w:bc,((Zm w.params).isNs ZX&&(XL ([]:List GenState)).size==0,(Zm w.params).nsMap ZX "__annotations__")=(WL,Ss (.ref 6)))
 (op:∀w:bc,(fencedOpening W9 p w N).map (λs=>(s.heap,s.gens,s.drawn,s.toks))=Ss (Zm w.params,XL [],Wq,Wm))
 (run:∀w:bc,(λos=>(vx (stepT (denote W9) p w) (stepOk 11 (Ss (.ref 6))) N (Dm w os) (topStub p)).map λs=>
  ((staticsOk (X9 p.main.body) (Zm w.params) s.abs.heap&&namesBound p s.abs.heap&&gensDone s.abs&&laidKept (Zm w.params) s.abs.heap),
   openSeen q loose (X9 p.main.body) Xt WL s.abs,Yf s.abs))=λU=>Ss (WL,openGood q loose,Ya w)):LeftO p q loose Xt Yf Ya N WL:=λw=>by
 obtain⟨⟨h,gs,d,k,os⟩,e,e'⟩:=ZU.mp (op w);obtain⟨rfl,rfl,rfl,rfl⟩:h=Zm w.params/\gs=XL []/\d=Wq/\k=Wm:=by simpa using e'
 refine aj (ZU.mp (congrFun (run w) os)) λs h1 h2=>?_;have r:=Lj h1;rw[acQ] at r;refine ak (XS h2) λl1 l2=>?_;refine ak (XS l2) λl2 l3=>?_;have t:topFrom W9 p w N ⟨Zm w.params,XL [],Wq,Wm,os⟩=Ss s.abs:=by unfold topFrom;dsimp only;refine ak (XS (bt w)) λz1 z3=>?_;rw[z1,ab2,z3,r];refine (?_:(match staticsOk (X9 p.main.body) (Zm w.params) s.abs.heap&&namesBound p s.abs.heap&&gensDone s.abs&&laidKept (Zm w.params) s.abs.heap with|true=>_|false=>_)=_);rw[l1]
 unfold openEnds;rw[e];refine (?_:(topFrom W9 p w N _).map _=_);rw[t];exact congrArg Ss (Ye l2 l3)
theorem KJ{α β:Type}{f g:α->Option β}:∀(l:List α),(∀a∈l,f a=g a)->l.filterMap f=l.filterMap g
 |[],j4=>rfl
 |a::l,h=>by rw[WR,WR,h a (.head _),KJ l λb hb=>h b (.tail _ hb)]
theorem ac0(ns:List Str):∀vs:List M5,ns.Nodup->vs.length=ns.length->(∀n∈ns,((ns.zip vs).lookup n).isSome=WL)/\ns.filterMap (λn=>((ns.zip vs).lookup n).map (n,·))=ns.zip vs:=by
 induction ns with
 |nil=>exact λvs U U=>⟨λU h=>(ZR h).elim,rfl⟩
 |cons n ns ih=>
  intro vs nd hl;refine dm (List.exists_cons_of_length_eq_add_one hl) λv vs y9=>?_;subst y9;refine ak (bS.mp nd) λh1 h2=>?_;refine ak (ih vs h2 (ZG hl)) λi1 i2=>?_;constructor
  ·intro m hm;rw[amk,Zp];cases hb:m==n with
   |true=>rfl
   |false=>rcases K7.mp hm with e|e;(subst e;rw[beq_self_eq_true] at hb;exact eK hb);exact i1 m e
  ·rw[amk,WR,Zp,beq_self_eq_true];refine (?_:(n,v)::_=_);congr 1;refine Yx ?_ i2;exact KJ _ λm hm=>by rw[Zp,show (m==n)=PO from beq_eq_false_iff_ne.mpr λe=>h1 (e▸hm)]
theorem KM{α:Type}{c:Bool}{a b x:α}(h:c=PO)(k:b=x):(if c=WL then a else b)=x:=by subst h;exact k
theorem abX{fd:Zd}{as:List Arg}{df:List M3}{da:List M5}(hp:fd.params=⟨[],as,M4,[],[],M4,df⟩)(hd:fd.defaults=.none)(hl:da.length=as.length)(nd:(as.map (·.arg)).Nodup):
 bindArgs fd ⟨da,[]⟩=pure ((as.map (·.arg)).zip da):=by
 have zU:da.length=(as.map (·.arg)).length:=hl.trans (K4 _).symm;refine ak (ac0 _ da nd zU) λz1 z2=>?_;have z3:∀(k:Nat),(!(((as.map (·.arg)).take k).filter λn=>(((as.map (·.arg)).zip da).lookup n).isNone).isEmpty)=PO:=λk=>by rewrite [alj.mpr λn hn=>?_];rfl;have:=z1 n (Xj hn);rw[Option.isNone_eq_false_iff.mpr this];exact qH
 obtain⟨x1,x2,x3,x4,x5,x6,x7,x8,x9,x10,ig,dO,kJ,dw,Zt⟩:=fd;subst hp;subst hd;refine KM (α:=Sem _) (c:=decide (da.length>(as.map (·.arg)).length)&&WL) (by rw[zU,decide_eq_false (YD _)];rfl) ?_;refine KM (α:=Sem _) (z3 _) ?_;rw[show ((M4:Option (Array M5)).getD #[]).toList=[] from rfl,Ut,List.zip_nil_right];have ap:as.map (λx:Arg=>x.arg)++[]=as.map (λx=>x.arg):=zB _;exact congrArg (pure (f:=Sem)) ((congrArg (List.filterMap _) ap).trans z2)
noncomputable def yR:List Nat:=[28,47,62,69,76,118,140,155,170,177,184,191,198,205,212,219,226,233,240,247,254,261,268,275,282,289,334,327,299,306,313,320,348,369,376,381,402,407,414,421,426,433,440,447,461,468,454,475,482,388,489,496,537,544,549,554,561,568,575,582,599,587,592,604,611,618,625,630,635]
noncomputable def kas:List Nat:=[159,351,391,121]
noncomputable def kA(k:Nat):MW:=yR.getD k 0
noncomputable def kC(c:Nat):MW:=kas.getD c 0
noncomputable def Df(h:Ex)(l:List Nat):Frag:=l.filterMap λa=>(h.get? a).map λo=>(a,o)
noncomputable def lR(h:Ex):Frag:=Df h [159,158,140,156,155,351,350,348,391,390,369,376,381,388,121,120,62,69,76,118,126,1,55]
theorem acq(h:Ex)(l:List Nat):(Df h l).In h:=by
 induction l with
 |nil=>intro a o e;nomatch e
 |cons x l ih=>
  intro a o e;unfold Df at e;rw[WR] at e;cases hx:h.get? x with
  |none=>rw[hx] at e;exact ih a o e
  |some y=>
   rw[hx,WK] at e;rw[Zp] at e;cases hb:a==x with
   |true=>rw[hb] at e;obtain rfl:=K6 e;rw[zH hb];exact hx
   |false=>rw[hb] at e;exact ih a o e
abbrev kB(K:Frag)(a:MW)(nm:Str)(v:Option M5):Bool:=decide (ZM K (.ref a) nm=Ss v)
noncomputable def ab6(K:Frag)(a:MW)(fs:List Nat):Bool:=kB K a "__getattribute__" (Ss (.builtin "object.__getattribute__"))&&((clsIn K a).any (·.hasDict)&&(fs.all (λf=>kB K a (aQ f) M4)&&(kB K a "__setattr__" (Ss (.builtin "object.__setattr__"))&&plainOver K a)))
noncomputable def ab8(K:Frag)(a iO:MW):Bool:=makesIn K a&&(kB K a "__init__" (Ss (.ref iO))&&(decide (typeIn K (.ref iO)=Ss (.type "function"))&&keepIn K (.ref a)))
noncomputable def ab9(K:Frag)(a:MW)(nm:Str)(f:MW):Bool:=kB K a "__getattribute__" (Ss (.builtin "object.__getattribute__"))&&(kB K a "__getattr__" M4&&(kB K a nm (Ss (.ref f))&&(decide (typeIn K (.ref f)=Ss (.type "function"))&&keepIn K (.ref f))))
noncomputable def acb(K:Frag)(a:MW)(nm:Str)(p f:MW):Bool:=kB K a "__getattribute__" (Ss (.builtin "object.__getattribute__"))&&(kB K a "__getattr__" M4&&((clsIn K a).isSome&&(kB K a nm (Ss (.ref p)) &&
 (decide (specialIn K (.ref p) "__get__"=Ss (Ss (.builtin "property.__get__")))&&(decide (takesIn K (.ref p)=Ss WL)&&decide ((recIn K p "property").map (List.head?)=Ss (Ss (.ref f))))))))
noncomputable def ab7(K:Frag)(a e:MW):Bool:=kin_not K a e&&(plainGet K a "__class__"&&(hasDictIn K a&&(kB K a "__class__" (Ss (.builtin "object.__class__")) &&
 (decide (specialIn K (.builtin "object.__class__") "__get__"=Ss (Ss (.builtin "getset_descriptor.__get__")))&&(decide (takesIn K (.builtin "object.__class__")=Ss WL)&&decide (mroIn K a (.type "object")=Ss WL))))))
noncomputable def C5(K:Frag):Bool:=match K.lookup Wr with
 |some o=>match o.data with
  |.dict es j4=>es.toList.any λe=>match e.key with|.str ..=>WL|_=>PO
  |_=>PO
 |none=>PO
noncomputable def Lm:M5->Option Int|.int j j4=>Ss j|_=>M4
noncomputable def Ll:M5->Option Bool|.bool b=>Ss b|_=>M4
noncomputable def Ln:M5->Option Str|.str q j4=>Ss q|_=>M4
noncomputable def sE:M5->Option MW|.ref a=>Ss a|_=>M4
noncomputable def C6:Data->Option (Array M5)|.seq vs j4=>Ss vs|_=>M4
noncomputable def Ky:Data->Option (Array M5)|.fields vs=>Ss vs|_=>M4
noncomputable def Kz:Data->Option Zd|.func fd=>Ss fd|_=>M4
theorem acW{v:M5}{i:Int}(h:Lm v=Ss i):∃t,v=.int i t:=by induction v using XF<;>(first|exact aY h|(have y9:=K6 h;clear h;subst y9));exact⟨_,rfl⟩
theorem acV{v:M5}{i:Bool}(h:Ll v=Ss i):v=.bool i:=by induction v using XF<;>(first|exact aY h|(have y9:=K6 h;clear h;subst y9));rfl
theorem acX{v:M5}{i:Str}(h:Ln v=Ss i):∃t,v=.str i t:=by induction v using XF<;>(first|exact aY h|(have y9:=K6 h;clear h;subst y9));exact⟨_,rfl⟩
theorem Dq{v:M5}{i:MW}(h:sE v=Ss i):v=.ref i:=by induction v using XF<;>(first|exact aY h|(have y9:=K6 h;clear h;subst y9));rfl
theorem KA{v:Data}{i:Array M5}(h:C6 v=Ss i):∃n,v=.seq i n:=by induction v<;>(first|exact aY h|(have y9:=K6 h;clear h;subst y9));exact⟨_,rfl⟩
theorem acg{v:Data}{i:Array M5}(h:Ky v=Ss i):v=.fields i:=by induction v<;>(first|exact aY h|(have y9:=K6 h;clear h;subst y9));rfl
theorem ach{v:Data}{i:Zd}(h:Kz v=Ss i):v=.func i:=by induction v<;>(first|exact aY h|(have y9:=K6 h;clear h;subst y9));rfl
noncomputable def vv(t:String)(o:Obj):Option (List M5):=if (decide (o.cls=.type t)&&(o.dict.isNone&&ie o.slots.size 0))=WL then (C6 o.data).map WE else M4
noncomputable def vq(f:AV->M5->Bool):List AV->List M5->Bool
 |[],[]=>WL
 |x::xs,v::vs=>f x v&&vq f xs vs
 |j4,j5=>PO
noncomputable def KU(h:Ex)(f:AV->M5->Bool)(x:AV)(v:M5):Bool:=match x with
 |.int i=>decide (Lm v=Ss i)
 |.bool b=>decide (Ll v=Ss b)
 |.tup xs=>((sE v).bind λa=>(h.get? a).bind (vv "tuple")).any (vq f xs)
 |.lst xs=>((sE v).bind λa=>(h.get? a).bind (vv "list")).any (vq f xs)
 |_=>PO
noncomputable def yV(h:Ex)(n:Nat):AV->M5->Bool:=n.rec (λU U=>PO) λU ih=>KU h ih
noncomputable def ab5(h:Ex)(mg:Str->Option M5)(p:Str×AV):Bool:=(mg p.1).any (yV h 4 p.2)
noncomputable def C4(h:Ex)(K:Frag)(mg:Str->Option M5):Bool:=
 C5 K&&(([0,1,2,3].all λc=>ab6 K (kC c) (gA c))&&((Hy.zipIdx.all λp=>decide (mg p.1.1=Ss (.ref (kC p.2)))&&ab8 K (kC p.2) (kA p.1.2))&&((Hz.all λp=>ab9 K (kC p.1) p.2.1 (kA p.2.2)) &&
 (acb K (kC 0) "is_folded" 156 (kA 7)&&(([0,2,3].all λc=>ab7 K (kC c) (kC 1))&&(isIn K (.ref (kC 1)) (kC 1)&&((Bj.all (ab5 h mg))&&((Bi.all λp=>decide (mg p.1=M4))&&(decide (mg "len"=M4) &&
 (ju.zipIdx.all λp=>match p.1.1 with|some nm=>decide (mg nm=Ss (.ref (kA p.2)))|none=>WL))))))))))
noncomputable def Kx(h:Ex)(cd:M5)(q:Str):Bool:=((sE cd).bind h.get?).any λo=>(Ky o.data).any λvs=>((vs[1]?:Option M5).bind Ln).any λq'=>decide (q'=q)
noncomputable def KP(h:Ex)(T:MW):Bool:=(h.get? T).any λo=>decide ((C6 o.data).map WE=Ss [.none])
noncomputable def KC(h:Ex)(a:MW)(v:M5):Bool:=if v=.none then !ie a 62 else (sE v).any λT=>ie a 62&&KP h T
noncomputable def yS(h:Ex)(a:MW):Option (XQ×FuncBody×re×Bool):=((h.get? a).bind λo=>Kz o.data).map λfd=>(fd.params,fd.body,fd.scope,Kx h fd.code fd.qualname&&(fd.closure.isEmpty&&(ie fd.globals ZX&&(ie fd.builtins Y2&&KC h a fd.defaults))))
noncomputable def Xt(s:MY):Bool:=C4 s.heap (lR s.heap) (s.heap.nsMap ZX)
noncomputable def Yf(s:MY):List (Option (XQ×FuncBody×re×Bool)):=yR.map (yS s.heap)
noncomputable def Ya(_:bc):List (Option (XQ×FuncBody×re×Bool)):=ju.map λp=>Ss (iT p.2,.stmts (lD p.2),hO p.2,WL)
noncomputable def KT(a:XQ):Bool:=a.posonlyargs.isEmpty&&(a.vararg.isNone&&(a.kwonlyargs.isEmpty&&(a.kw_defaults.isEmpty&&a.kwarg.isNone)))
noncomputable def vw(t:v0):Bool:=KT (iT t)&&(decide ((iz t).Nodup)&&(decide ((hO t).kind=.function)&&(!(hO t).isCoroutine&&!(hO t).isGenerator)))
theorem acK{t:String}{o:Obj}{vs:List M5}(h:vv t o=Ss vs):∃n,o={ cls:=.type t,data:=.seq vs.toArray n }:=by
 unfold vv at h;by_cases c:(decide (o.cls=.type t)&&(o.dict.isNone&&ie o.slots.size 0))=WL
 ·rw[MS c] at h;refine ak (zA.mp c) λc1 c=>?_;refine ak (zA.mp c) λc2 c3=>?_;refine aj (ZU.mp h) λa h1 y9=>?_;subst y9;refine a7 (KA h1) λn h2=>?_;obtain⟨cls,dict,data,slots⟩:=o;exact⟨n,by rw[show cls=.type t from zL c1,show dict=M4 from Ve.mp c2,show data=.seq a n from h2,show slots=#[] from Array.eq_empty_of_size_eq_zero (ZI c3)]⟩
 ·rw[MZ c] at h;exact aY h
theorem Ks{g:Gx}{W:Wd}{f:AV->M5->Bool}(hf:∀x v,f x v=WL->Vr g W x v):∀{xs:List AV}{vs:List M5},vq f xs vs=WL->aO g W xs vs
 |[],[],j4=>.nil
 |x::xs,v::vs,h=>have⟨a,b⟩:=zA.mp h;.cons (hf x v a) (Ks hf b)
 |[],j4::j5,h=>nomatch h
 |j4::j5,[],h=>nomatch h
theorem qr{α:Type}{o:Option α}{f:α->Bool}(h:o.any f=WL):∃x,o=Ss x/\f x=WL:=by
 induction o with
 |none=>exact aX h
 |some x=>exact⟨x,rfl,h⟩
theorem acG{g:Gx}{h:Ex}{φ:Nat->Option MW}(n:Nat):∀(x:AV) (v:M5),yV h n x v=WL->Vr g ⟨h.get?,φ⟩ x v:=by
 induction n with
 |zero=>intro x v e;exact aX e
 |succ n ih=>
  intro x v e;have e:KU h (yV h n) x v=WL:=e;have sq:∀{t:String}{xs:List AV},((sE v).bind λa=>(h.get? a).bind (vv t)).any (vq (yV h n) xs)=WL->∃a o vs,v=.ref a/\h.get? a=Ss o/\(∃n,o={ cls:=.type t,data:=.seq vs.toArray n })/\aO g ⟨h.get?,φ⟩ xs vs:=λ{t xs} e=>by refine aj (qr e) λvs q e=>?_;refine aj (aV.mp q) λa q1 q2=>?_;refine aj (aV.mp q2) λo q3 q4=>?_;exact⟨a,o,vs,Dq q1,q3,acK q4,Ks ih e⟩
  induction x using AV.casesOn with
  |int i=>refine a7 (acW (zL e)) λt y9=>?_;subst y9;exact .int _ _
  |bool b=>obtain rfl:=acV (zL e);exact .bool _
  |tup xs=>refine Ax (sq e) λa o vs y9 q1 q2 q3=>?_;subst y9;exact .zq q1 q2 q3
  |lst xs=>refine Ax (sq e) λa o vs y9 q1 q2 q3=>?_;subst y9;exact .zp q1 q2 q3
  |_=>exact aX e
theorem abW:(ju.all λp=>vw p.2)=WL:=by decide +kernel
def C3(eW h:Ex):Prop:=∀b o,eW.get? b=Ss o->h.get? b=Ss o
def XP(mg:Str->Option M5)(h:Ex):Prop:=∃eW,C3 eW h/\C4 eW (lR eW) mg=WL
def YP(_:bc)(h:Ex):Prop:=∃eW,C3 eW h/\yR.map (yS eW)=ju.map λp=>Ss (iT p.2,VK (lD p.2),hO p.2,WL)
theorem hX(s:MY)(e:Xt s=WL):XP (s.heap.nsMap ZX) s.heap:=⟨s.heap,λU U e=>e,e⟩
theorem hXk(mg:Str->Option M5)(h h':Ex)(x:XP mg h)(k:∀b o,h.get? b=Ss o->h'.get? b=Ss o):XP mg h':=let⟨eW,a,b⟩:=x;⟨eW,λb o e=>k b o (a b o e),b⟩
theorem hY(w:bc)(s:MY)(e:Yf s=Ya w):YP w s.heap:=⟨s.heap,λU U e=>e,e⟩
theorem hYk(w:bc)(h h':Ex)(x:YP w h)(k:∀b o,h.get? b=Ss o->h'.get? b=Ss o):YP w h':=let⟨eW,a,b⟩:=x;⟨eW,λb o e=>k b o (a b o e),b⟩
theorem ace{h:Ex}{cd:M5}{q:Str}(e:Kx h cd q=WL):h.CodeRec cd q:=by refine aj (qr e) λo e1 e=>?_;refine aj (aV.mp e1) λc e2 e3=>?_;refine aj (qr e) λvs e4 e=>?_;refine aj (qr e) λq' e5 e=>?_;refine aj (aV.mp e5) λv e6 e7=>?_;refine a7 (acX e7) λt y9=>?_;subst y9;rw[zL e] at e6;exact⟨c,o,vs,t,Dq e2,e3,acg e4,e6⟩
theorem acz{h:Ex}{T:MW}(e:KP h T=WL):∃o n,h.get? T=Ss o/\o.data=.seq #[.none] n:=by refine aj (qr e) λo e1 e=>?_;refine aj (ZU.mp (zL e)) λvs e2 e3=>?_;refine a7 (KA e2) λn e4=>?_;obtain⟨l⟩:=vs;obtain rfl:l=[.none]:=e3;exact⟨o,n,e1,e4⟩
structure C0(h:Ex)(a:MW)(t:v0)(o:Obj)(fd:Zd):Prop where
 gp:h.get? a=Ss o
 hG:o.data=.func fd
 oU:fd.params=iT t
 body:fd.body=.stmts (lD t)
 sc:fd.scope=hO t
 cd:h.CodeRec fd.code fd.qualname
 Eg:fd.closure=[]
 oI:fd.globals=ZX
 blt:fd.builtins=Y2
 M6:fd.defaults=.none/\ie a 62=PO∨a=62/\∃T o n,fd.defaults=.ref T/\h.get? T=Ss o/\o.data=.seq #[.none] n
theorem aco{h:Ex}{a:MW}{t:v0}(e:yS h a=Ss (iT t,VK (lD t),hO t,WL)):∃o fd,C0 h a t o fd:=by
 refine aj (ZU.mp e) λfd e0 e=>?_;refine aj (aV.mp e0) λo ho e0=>?_;injection e with e1 e
 injection e with e2 e
 injection e with e3 e
 refine ak (zA.mp e) λe4 e=>?_;refine ak (zA.mp e) λe5 e=>?_;refine ak (zA.mp e) λe6 e=>?_;refine ak (zA.mp e) λe7 e=>?_;refine⟨o,fd,ho,ach e0,e1,e2,e3,ace e4,WW.mp e5,ZI e6,ZI e7,?_⟩;unfold KC at e;by_cases q:fd.defaults=.none
 ·rw[MS q] at e;exact .inl ⟨q,WX _ |>.mp e⟩
 ·rw[MZ q] at e;refine aj (qr e) λT e8 e=>?_;refine ak (zA.mp e) λx y=>?_;refine hJ (acz y) λo n z1 z2=>?_;exact .inr ⟨ZI x,T,o,n,Dq e8,z1,z2⟩
theorem acD{a:XQ}(h:KT a=WL):∃as df,a=⟨[],as,M4,[],[],M4,df⟩:=by obtain⟨p,as,va,ko,kd,kw,df⟩:=a;refine ak (zA.mp h) λa1 a=>?_;refine ak (zA.mp a) λa2 a=>?_;refine ak (zA.mp a) λa3 a=>?_;refine ak (zA.mp a) λa4 a5=>?_;exact⟨as,df,by rw[show p=[] from WW.mp a1,show va=M4 from Ve.mp a2,show ko=[] from WW.mp a3,show kd=[] from WW.mp a4,show kw=M4 from Ve.mp a5]⟩
theorem Lg{t:v0}(h:vw t=WL):(∃as df,iT t=⟨[],as,M4,[],[],M4,df⟩)/\(iz t).Nodup/\(hO t).kind=.function/\(hO t).isCoroutine=PO/\(hO t).isGenerator=PO:=by unfold vw at h;refine ak (zA.mp h) λa h=>?_;refine ak (zA.mp h) λb h=>?_;refine ak (zA.mp h) λc h=>?_;refine ak (zA.mp h) λd e=>?_;refine⟨?_,zL b,zL c,WX _ |>.mp d,WX _ |>.mp e⟩;exact acD a
theorem acP(t:v0){as:List Arg}{df:List M3}(h:iT t=⟨[],as,M4,[],[],M4,df⟩):iz t=as.map (·.arg):=by unfold iz;rw[h]
theorem ab1:V8 "len"=Ss (.builtin "len"):=by decide +kernel
theorem ab3:(Bi.all λp=>decide (p.1≠"__name__"/\V8 p.1=Ss p.2))=WL:=by decide +kernel
theorem vr{α:Type}{l:List α}{f:α->Bool}(h:l.all f=WL){k:Nat}{x:α}(e:l[k]?=Ss x):f x=WL:=Z6.mp h x (s8 e)
theorem Ku{α:Type}{l:List α}{f:α×Nat->Bool}(h:l.zipIdx.all f=WL){k:Nat}{x:α}(e:l[k]?=Ss x):f (x,k)=WL:=Z6.mp h (x,k) (List.mk_mem_zipIdx_iff_getElem?.mpr e)
theorem cC{a b:Bool}(h:(a&&b)=WL):a=WL/\b=WL:=zA.mp h
set_option tactic.hygienic true in
theorem acd{K:Frag}{h:Ex}(X:K.In h)(e:C5 K=WL):∃o es ep e n t,h.get? Wr=Ss o/\o.data=.dict es ep/\e∈es/\e.key=.str n t:=by
 unfold C5 at e;split at e
 ·rename_i o ho;split at e
  ·rename_i es ep hd;refine aj (Z7.mp e) λx hx hk=>?_;split at hk
   ·rename_i n t q;exact⟨o,es,ep,x,n,t,X _ _ ho,hd,Vo.mp hx,q⟩
   ·exact aX hk
  ·exact aX e
 ·exact aX e
theorem acU(k:Nat)(h:k<ju.length)(e:kA k=62):k=2:=by
 have:(ZY 69).all (λk=>!(ie (kA k) 62)||ie k 2)=WL:=by decide
 have:=Z6.mp this k (VI.mpr h);rw[e] at this;exact ZI this
theorem abY{s:MY}{fd:Zd}{T:MW}{o:Obj}{n:Nat}{v1:M5}(hp:fd.params=iT (dG 31 0))(hd:fd.defaults=.ref T)(ho:s.heap.get? T=Ss o)(hs:o.data=.seq #[.none] n):
 XN s fd ⟨[v1],[]⟩ ((iz (dG 31 0)).zip ([v1]++Zn 1 .none)):=by
 obtain⟨x1,x2,x3,x4,x5,x6,x7,x8,x9,x10,ig,dO,kJ,dw,Zt⟩:=fd;obtain rfl:x3=iT (dG 31 0):=hp;exact .of_defaults hd ho hs rfl rfl
theorem abZ{s:MY}{fd:Zd}{T:MW}{o:Obj}{n:Nat}{v1 v2:M5}(hp:fd.params=iT (dG 31 0))(hd:fd.defaults=.ref T)(ho:s.heap.get? T=Ss o)(hs:o.data=.seq #[.none] n):
 XN s fd ⟨[v1,v2],[]⟩ ((iz (dG 31 0)).zip [v1,v2]):=by
 obtain⟨x1,x2,x3,x4,x5,x6,x7,x8,x9,x10,ig,dO,kJ,dw,Zt⟩:=fd;obtain rfl:x3=iT (dG 31 0):=hp;exact .of_defaults hd ho hs rfl rfl
section
variable {w:bc}{s:MY}{mg mb:Str->Option M5}
abbrev gx(w:bc)(s:MY)(mg mb:Str->Option M5):Gx:=⟨w,kC,s,mg,mb,kA⟩
theorem Dd{mj:Ex}(y:yR.map (yS mj)=ju.map λp=>Ss (iT p.2,VK (lD p.2),hO p.2,WL)){k:Nat}{n:Option Str}{t:v0}(e:ju[k]?=Ss (n,t)):∃o fd,C0 mj (kA k) t o fd:=by
 have z:=congrArg (λl=>l[k]?) y;simp only[ZZ,e,WK] at z;refine aj (ZU.mp z) λa ha hz=>?_;have:kA k=a:=by unfold kA;rw[YF,ha];rfl
 rw[this];exact aco hz
theorem KK{mj:Ex}(O:C3 mj s.heap){a:MW}{t:v0}{o:Obj}{fd:Zd}(F:C0 mj a t o fd)(ok:vw t=WL):rE (gx w s mg mb) a fd (lD t):=by refine tM (Lg ok) λU U k1 k2 k3=>?_;exact⟨⟨o,O _ _ F.gp,F.hG⟩,F.body,F.Eg,F.oI,F.blt,F.cd.keeps O,F.sc▸k1,F.sc▸k2,F.sc▸k3⟩
theorem acs(ns:s.heap.Ns ZX mg)(nb:s.heap.Ns Y2 mb)(lim:s.heap.NoLimit)(bb:∀x:Str,x≠"__name__"->mb x=V8 x)(X:XP mg s.heap)(Y:YP w s.heap):ED (gx w s mg mb):=by
 refine aj X λeW O c=>?_
 refine aj Y λmj O1 y=>?_
 have K0:(lR eW).In s.heap:=(acq eW _).keeps O;unfold C4 at c;refine ak (cC c) λc1 c=>?_;refine ak (cC c) λc2 c=>?_;refine ak (cC c) λc3 c=>?_;refine ak (cC c) λc4 c=>?_;refine ak (cC c) λc5 c=>?_;refine ak (cC c) λc6 c=>?_;refine ak (cC c) λc7 c=>?_;refine ak (cC c) λc8 c=>?_;refine ak (cC c) λc9 c=>?_;refine ak (cC c) λc10 c11=>?_;have ok:∀{k:Nat}{n:Option Str}{t:v0},ju[k]?=Ss (n,t)->vw t=WL:=λe=>vr abW e;refine { ns:=ns,nb:=nb,lim:=lim,Vy:=⟨lR eW,K0,λk hk=>?_⟩,len:=⟨zL c10,(bb _ (by decide)).trans ab1⟩,sm:=acd K0 c1,Vx:=⟨λk hk hn=>⟨lR eW,K0,?_⟩,lR eW,K0,c7⟩,cst:=λk nm x e=>?_,blt:=λk nm v e=>?_,ZV:=λk nm t e=>?_,fn:=λk n t e=>⟨?_⟩,cls:=λk nm i e=>?_,Zu:=λm nm k i e=>?_,fold:=⟨lR eW,156,?_⟩,dflt:=?_ }
 ·have hm:k∈[0,1,2,3]:=(VI (n:=4)).mpr hk;refine ak (cC (Z6.mp c2 k hm)) λd1 d=>?_;refine ak (cC d) λd2 d=>?_;refine ak (cC d) λd3 d=>?_;refine ak (cC d) λd4 d5=>?_;refine⟨zL d1,?_,λf hf=>zL (Z6.mp d3 f hf),zL d4,d5⟩;cases q:clsIn (lR eW) (kC k) with
  |none=>rw[q] at d2;exact aX d2
  |some cd=>rw[q] at d2;exact⟨cd,rfl,d2⟩
 ·have hm:k∈[0,2,3]:=(show[0,1,2,3].filter (· != 1)=[0,2,3] by decide)▸X8.mpr ⟨(VI (n:=4)).mpr hk,bne_iff_ne.mpr hn⟩;refine ak (cC (Z6.mp c6 k hm)) λd1 d=>?_;refine ak (cC d) λd2 d=>?_;refine ak (cC d) λd3 d=>?_;refine ak (cC d) λd4 d=>?_;refine ak (cC d) λd5 d=>?_;refine ak (cC d) λd6 d7=>?_;exact⟨d1,d2,d3,zL d4,zL d5,zL d6,zL d7⟩
 ·have:=vr c8 e;refine aj (qr this) λv q this=>?_;have le:Wd.J ⟨eW.get?,λU=>M4⟩ ⟨s.heap.get?,λU=>M4⟩:=⟨O,λU U e=>e⟩
  exact⟨v,q,Vr.aE le (acG 4 x v this)⟩
 ·refine ak (zL (vr ab3 e)) λz1 z2=>?_;exact⟨zL (vr c9 e),(bb _ z1).trans z2⟩
 ·refine dm (Dd y e) λo fd F=>?_;exact⟨zL (Ku c11 e),o,fd,O1 _ _ F.gp,F.hG⟩
 ·refine dm (Dd y e) λo fd F=>?_;obtain⟨⟨as,df,h1⟩,h2,_⟩:=Lg (ok e);refine⟨fd,KK O1 F (ok e),F.sc,λs' da hl fj=>?_⟩;rcases F.M6 with⟨z,_⟩|⟨ha,T,oT,n,z,z1,z2⟩
  ·have e1:=acP t h1;rw[e1] at h2 hl ⊢;exact .of_eq (abX (F.oU.trans h1) z (hl.trans (K4 _)) h2)
  ·obtain rfl:=acU k (sV.mp e).1 ha;obtain rfl:dG 31 0=t:=(XS (K6 e)).2;refine dm (Ox hl) λv1 v2 y9=>?_;subst y9;exact abZ F.oU z (fj _ _ (O1 _ _ z1)) z2
 ·refine ak (cC (Ku c3 e)) λd1 d=>?_;refine ak (cC d) λd2 d=>?_;refine ak (cC d) λd3 d=>?_;refine ak (cC d) λd4 d5=>?_;exact⟨zL d1,lR eW,K0,d2,zL d3,zL d4,d5⟩
 ·refine ak (cC (vr c4 e)) λd1 d=>?_;refine ak (cC d) λd2 d=>?_;refine ak (cC d) λd3 d=>?_;refine ak (cC d) λd4 d5=>?_;exact⟨lR eW,K0,zL d1,zL d2,zL d3,zL d4,d5⟩
 ·refine ak (cC c5) λd1 d=>?_;refine ak (cC d) λd2 d=>?_;refine ak (cC d) λd3 d=>?_;refine ak (cC d) λd4 d=>?_;refine ak (cC d) λd5 d=>?_;refine ak (cC d) λd6 d7=>?_;refine aj (ZU.mp (zL d7)) λl q q1=>?_;induction l using K1 with
  |nil=>exact aY q1
  |cons x rest=>obtain rfl:=K6 q1;exact⟨rest,K0,zL d1,zL d2,akP.mp d3,zL d4,zL d5,zL d6,q⟩
 ·refine dm (Dd y (k:=2) (n:=M4) (t:=dG 31 0) rfl) λo fd F=>?_;refine⟨fd,KK O1 F (ok (k:=2) (n:=M4) rfl),F.sc,λs' da fj hl=>?_⟩;rcases F.M6 with⟨_,z⟩|⟨_,T,oT,n,z,z1,z2⟩
  ·exact MQ z (by decide)
  ·refine a7 (FA hl) λv1 y9=>?_;subst y9;exact abY F.oU z (fj _ _ (O1 _ _ z1)) z2
end
end Mine.Internal
end
open Mine.Internal.Enc (enc)
namespace Mine.Internal
open PySem PySem.W PySem.Calls PyProof.Rows
def toyBody:List v0:=[.Import [{ name:="_bisect",asname:=M4,pos:=⟨1,7,1,11⟩ }] ⟨1,0,1,11⟩,.FunctionDef "f" { posonlyargs:=[],args:=[],vararg:=M4,kwonlyargs:=[],kw_defaults:=[],kwarg:=M4,defaults:=[] } [.Return (Ss (.Constant (.bool WL) 1 ⟨3,11,3,15⟩)) ⟨3,4,3,15⟩] [] M4 [] { kind:=.function,names:=[],isGenerator:=PO,isCoroutine:=PO } M4 "f" ⟨2,0,3,15⟩]
def toy:ZB:={ main:={ body:=toyBody,scope:={ kind:=.module,names:=[("_bisect",.local),("f",.local)],isGenerator:=PO,isCoroutine:=PO,more:=[] },futureAnnotations:=PO,file:="/claim/cut.py",more:=[] },modules:=[],parses:=[],absent:=[],harvested:=[],given:={ argv:=[],stdin:=[],environ:=Ss [([76,67,95,65,76,76],[67,46,85,84,70,45,56])] } }
def toyRow:OpenRow:={ prog:=toy,name:="f",records:=[],args:=[],returns:=.bool,pre:=.lit (.bool WL),post:=.eq .res (.lit (.bool WL)),raises:=[],mutates:=[],within:=[],unshared:=WL,same:=M4,under:=⟨WL,WL,WL⟩,after:=⟨WL,WL,WL⟩,apart:=PO,loose:=[],makers:=[],pinned:=WL,writes:=PO,keeps:=[] }
set_option maxHeartbeats 8000000 in
noncomputable def qv:ZB:={ pw with main:={ pw.main with body:=[bj 102] } }
noncomputable def yX:List Str:=pw.boundNames.filter λn=>!(n==("law":Str))
local macro_rules | `(tactic| w_left) => `(tactic| refine ⟨?row, ?hl⟩)
set_option maxHeartbeats 8000000 in
theorem ac7:toyRow.Holds/\∀w:bc,(((Zm w.params).isNs ZX&&(XL ([]:List GenState)).size==0,(Zm w.params).nsMap ZX "__annotations__"),
    λos=>(vx (Fast.tw10156331382660048174 (Fast.tw11892475500146522536 Fast.tw14364793385576792824) pw w) (Fast.tw6613529449190102663 11 (Ss (.ref 6))) 4000 (Dm w os) (topStub pw)).map λs=>
      ((staticsOk (X9 pw.main.body) (Zm w.params) s.abs.heap&&namesBound pw s.abs.heap&&gensDone s.abs&&laidKept (Zm w.params) s.abs.heap),
        Fast.tw4187177175401517315 qv yX (X9 pw.main.body) Xt WL s.abs,Yf s.abs))=((WL,Ss (.ref 6)),λU=>Ss (WL,openGood qv yX,Ya w)):=by
  w_left
  unfold toyRow
  o_head Hook.none
  case hw=>w_witness2
  w_strict o_enter
theorem ac1:LeftO pw qv yX Xt Yf Ya 4000:=by
  have h:=ac7.2
  rw[<- Fast.te10156331382660048174,<- Fast.te11892475500146522536,<- Fast.te14364793385576792824,<- Fast.te6613529449190102663,<- Fast.te4187177175401517315] at h
  exact acv (λw=>(XS (h w)).1) (boot_open rfl (by decide) λs=>rfl) λw=>(XS (h w)).2
abbrev lw:OpenLaw:=XK
theorem ac5:lw.wellSaid=WL:=(congrFun PySem.W.Fast.te9446332074065402090 _).trans (by decide +kernel)
theorem ac6:PySem.W.same (.bool WL) (.bool WL)=WL:=by decide +kernel
theorem ac3 (ns:List WData):XK.row.claim.post [XV ns] (WData.bool WL) [XV ns]=WL:=by
  show (WShape.has [] (.bool WL) .bool&&WTm.holds [] (.eq .res (.lit (.bool WL))) { args:=[XV ns],res:=Ss (.bool WL),after:=[XV ns] })=WL
  have e:WTm.value [] (.eq .res (.lit (.bool WL))) { args:=[XV ns],res:=Ss (.bool WL),after:=[XV ns] }=Ss (.bool (PySem.W.same (.bool WL) (.bool WL))):=rfl
  have e1:WShape.has [] (.bool WL) .bool=WL:=by decide +kernel
  unfold WTm.holds
  rw[e,ac6,e1];rfl
theorem ac2 (a b:Int):less? (.int a) (.int b)=Ss (decide (a<b)):=by
  simp[less?,Num.less?]
theorem ac4 {args:List WData} (h:XK.row.claim.pre args=WL):∃ns:List Int,args=[.list (ns.map .int)]/\ns.length<=63:=by
  change (WShape.hasAll [] args [.list .int]&&WTm.holds [] (.and (.not (.lt (.lit (.int 63)) (.len (.arg 0)))) (.lit (.bool WL))) { args:=args })=WL at h
  obtain⟨h1,h2⟩:=zA.mp h
  match args,h1,h2 with
  |[d],h1,h2=>
    obtain⟨h1,-⟩:=zA.mp h1
    obtain⟨xs,rfl,hx⟩:=hasW_list h1
    obtain⟨ns,rfl⟩:=items_int hx
    refine⟨ns,rfl,?_⟩
    have e:WTm.value [] (.lt (.lit (.int 63)) (.len (.arg 0))) { args:=[.list (ns.map WData.int)] }=(less? (.int 63) (.int (ns.map WData.int).length)).map .bool:=rfl
    rw[ac2,K4] at e
    have e2:WTm.value [] (.and (.not (.lt (.lit (.int 63)) (.len (.arg 0)))) (.lit (.bool WL))) { args:=[.list (ns.map WData.int)] }=(match (match WTm.value [] (.lt (.lit (.int 63)) (.len (.arg 0))) { args:=[.list (ns.map WData.int)] } with
      |some (.bool b)=>Ss (.bool (!b))|_=>M4:Option WData) with
      |some (.bool PO)=>Ss (.bool PO)|some (.bool WL)=>Ss (.bool WL)|_=>M4):=rfl
    unfold WTm.holds at h2
    rw[e2,e] at h2
    by_cases c:(63:Int)<ns.length
    · rw[decide_eq_true c] at h2;cases h2
    · exact VY λz=>c (qO.mpr z)
  |[],h1,j4=>nomatch h1
  |d::j4::j5,h1,j6=>
    have:=(zA.mp h1).2
    nomatch this
theorem ac8 {g:Gx}{h:Ex}{P:Params}{φ:Nat->Option MW} (e:g.mh.heap=h) {da:List M5}{ns:List Int} (x:WellAll P h da [.list (ns.map .int)]):aO g ⟨h.get?,φ⟩ [.lst (ns.map .int)] da:=by
  obtain⟨v,vs,rfl,hv,hr⟩:=wellAll_cons_inv x
  cases hr
  cases hv with
  |list q r=>
    refine .cons (.zp q ⟨_,rfl⟩ ?_) .nil
    have:∀(ns:List Int) (us:List M5),WellAll P h us (ns.map .int)->aO g ⟨h.get?,φ⟩ (ns.map .int) us:=λns=>by
      induction ns with
      |nil=>intro us h;cases h;exact .nil
      |cons n ns ih=>
        intro us h
        obtain⟨v,vs,rfl,hv,hr⟩:=wellAll_cons_inv h
        cases hv
        exact .cons (.int _ _) (ih vs hr)
    exact this ns _ r
theorem law_holds (pl:∀s:List Int,s.length<=63->∀Ps a fL ts,Cq s Ps a fL ts->∃EM N,Cr Ps a fL ts EM N):XK.Holds:=by
  refine holds_law ac5 λws=>?_
  refine PySem.W.holds_open (q:=qv) (loose:=yX) (Xt:=Xt) (XP:=XP) (Yf:=Yf) (Ya:=Ya) (YP:=YP) (N:=4000) ac1 hY hYk hX hXk (by rfl) (by rfl) (by rfl) (λs U=>recFacts_of (by rfl)) (by rfl) ws (by decide +kernel) ⟨rfl,rfl,rfl,rfl,rfl,by decide +kernel⟩ ⟨[.list []],by decide +kernel,by decide +kernel⟩ ?_
  intro w mh kY mg mb G Y a o pm cd doc dV kV ho hd NO hD hmg hg args da as afY agg hrd hwl hlo
  have A:=acs (w:=w) (s:=kY) (mg:=mg) (mb:=mb) G.T.g G.T.b G.T.nolimit G.T.builtins G.X Y
  obtain⟨ns,rfl,hn⟩:∃ns:List Int,args=[.list (ns.map .int)]/\ns.length<=63:=ac4 afY
  have e68:=(A.ZV 68 (nm:="law") (t:=bj 102) rfl).1
  obtain rfl:a=kA 68:=by
    have:=hmg.symm.trans e68
    exact Uv (K6 this)
  refine XW ?_
  refine YX ((abn A).aN callerA ⟨kY.heap.get?,λU=>M4⟩ [] kY da [.lst (ns.map .int)] [] (λv U=>.leaf (v=.bool WL)) ?_ (ac8 rfl hwl) ⟨ns,rfl,rfl,?_,pl ns hn,λU=>rfl⟩ ⟨⟨[],.nil,?_⟩,λU U=>rfl,λU U e=>e,⟨rfl,rfl⟩⟩) λr s' hh=>?_
  · exact⟨rfl,by decide +kernel,by decide +kernel⟩
  · exact Le hn (by decide)
  · exact⟨λU U e=>e,(λp h=>nomatch h),.nil,(λp h=>nomatch h)⟩
  · obtain⟨v,W',x,ct,rfl,le,rfl,hv,M⟩:=hh
    cases hv
    refine⟨.inl ⟨.bool WL,.bool WL,[],rfl,λU=>rfl,.bool WL,ac3 _,λU=>⟨.nil,λU h=>nomatch h⟩⟩,.of_keep λb o e=>?_,M.cv.os,.of_eq (M.cv.qG.trans hg)⟩
    obtain⟨ML,_,H⟩:=M.ex
    exact H.fz b o (le.F b o e)
end Mine.Internal
end
theorem PySem.Challenge.cw_sj0140_01_holds : PySem.Challenge.rw_sj0140_01.Holds :=
  Mine.Internal.law_holds fun _ _ _ _ _ _ B => Mine.Internal.facts_of B
