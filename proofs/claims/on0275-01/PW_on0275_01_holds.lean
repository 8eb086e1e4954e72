import PyProof.Rows.All
import Wide.All
import OpenK.AllK
import PyProof.CompFree
import PyProof.NoPylong
import PyProof.Rows.ListMul
import PyProof.EqKinds
import PyProof.NeKinds
import PyProof.SliceMore
import PyProof.Rows.TupMore
import PyProof.DictTable
import OpenK.KCls
import PyProof.NsCount
import KE.KTryMore
import PyProof.InstStoreFacts
import PyProof.ExcInit
import KE.KUnpack
import KE.KBytesWalk
import PyProof.ExcAttrAll.Exception
import PyProof.StrCalls2
import KE.LcSums
import PyProof.TupleOfSeq
import PyProof.ListCopy
import PyProof.IsiPairs
import PyProof.IsiHeapPairs
import KE.BytesMake
import KE.BitLaws
import OpenK.KLine
import Lean
import PySem.Challenge.RW_on0275_01
set_option Elab.async false
set_option maxRecDepth 100000
set_option maxHeartbeats 1000000
set_option linter.all false
set_option tactic.hygienic false
set_option genInjectivity false
set_option genSizeOf false
set_option genCtorIdx false
set_option compiler.extract_closed false
set_option bootstrap.genMatcherCode false
open Option.some renaming inj → Oy
open PySem renaming wpAny_bind → Oz, wpAny_pure → OD, wpAny_mono → OF, wpAny_holding → OQ, wpAny_standAt → OS, codeAny → Pd, builtinLookup_eq_fast → Pg, wpAny_of_eq → Pi, mainGlobals → Pj, callEnvC → Pr, treeTable → Pw, codeAny_mono → PD, wpAny_field → PI, typeLookup_type → PO, swappedStores → PS, wpAny_specialOf → PX, isSubtype_type → P1, bm_if_false → P3, Builtin → P6, wpAny_newObj_type → P7, sizeLine → P8, Result → Qa, wpAny_isInstance → Qd, checkBuiltinCall → Qe, builtinsNs → Qh, assign → Qi, starEach → Qk, getItem → Ql, swapsWith → Qu, cellsFrom → QD, isInstance → QI, wpAny_load → QT, typeLookup → QU, keeperOf → Q3, wpAny_specialOf_val → Q5, getitemInPython → Rf, sysModules → Rg, clipAt → Ri, holding → Rr, getAttr → Rs, pyNext → Rt, nsFind → Ru, unbindBehindTheSuite → Rv, codeAny_call_builtin → Rw, wpAny_call → Rz, typeIs_int → RA, cameBackBy → RB, call_gives → RC, entryFor → RD, wpAny_newFunctionEnv_cells → RE, backTo → RJ, letOwnedTupleGo → RP, importedModules → RQ, wpAny_getItem_list_slice → RW, wpAny_setField → R9, recursionLimit → Sa, markedBehindIn → Sb, wpAny_rule → Sc, slot_list_getitem → Si, getMethod_builtin → Sj, truthy → Sx, attributeBase → Sy, entryFor_of_tree → SB, seqIndex? → SP, wpAny_letTemporaryGo → SU, leftWithCleanup → SW, arm_exec_Assign → SX, bootBuiltins → SZ, pyIter → Ta, argsOk → Tc, leftWithCleanup_false_of_bare → Td, wpAny_isSubtype_exc → Te, wpAny_operateT → Th, wpAny_bindName → Ti, methodCallForm → Tj, binaryOp → Tl, callEnv → Tn, seqIndex_of → To, isSubtype → Tu, getMethod → Tv, compareOp → Tx, wpAny_truthy_bool → TQ, wpAny_loadPart_at → TR, foldedSetIterable → TS, assignEach → TZ, arm_allTrue_cons → Ug, compareChain → Um, assignStores → Un, passOn → Uo, callWith → Ut, call → UL, frameOf → UM
open Bool renaming and_eq_true → OA, noConfusion → OG, false_ne_true → O7, or_eq_true → P9, casesOn → Qx, and_eq_true_iff → QR, not_eq_true' → So, or_true → S7, and_false → Tk, and_true → TL
open Nat renaming eq_of_beq_eq_true → OB, beq → OC, le_of_ble_eq_true → OE, lt_of_le_of_lt → OI, le_trans → OM, le_refl → OR, le_of_lt → OU, ne_of_beq_eq_false → OV, ne_of_lt → OX, blt → O0, lt_of_lt_of_le → Pb, add_le_add_left → Pc, zero_le → Pk, succ_le_of_lt → Pm, le_of_eq → Pp, mul_le_mul_left → Ps, le_add_right → Pu, succ_le_succ → PA, not_lt → PQ, add_sub_cancel_left → PY, casesAuxOn → P2, ble → P5, sub_self → Qm, ne_of_gt → Qn, add_right_comm → Qs, add_le_add_right → Qw, le_of_succ_le → QB, add_le_add → QH, le_succ_of_le → QP, le_succ → QW, mod_eq_of_lt → Q0, succ_pos → Q2, lt_irrefl → Ra, lt_of_succ_lt_succ → Rj, div_add_mod → RS, mul_comm → R3, zero_add → R6, lt_succ_of_lt → Sl, lt_succ_self → SG, ble_eq_true_of_le → SI, add_zero → SQ, not_lt_zero → SY, lt_trans → S4, add_comm → S5, sub_le → S9, add_sub_cancel' → Tf, add_assoc → TH, succ_ne_zero → Uj, div_eq_of_lt → Uk, lt_or_ge → Up, beq_refl → Uq, min_eq_left → Uw, le_antisymm → Ux
open Array renaming length_toList → OH, getElem?_toList → O5, size_setIfInBounds → Q4, toList_append → Q7, eraseIdxIfInBounds → RY, toList_eraseIdx → SO, eq_empty_of_size_eq_zero → SR, getElem?_eq_some_iff → Tz, getElem?_eq_getElem → TY
open List renaming getElem?_eq_some_iff → OJ, getElem?_append_right → OL, all_eq_true → OP, getElem?_append_left → OT, length_append → OW, mem_cons_of_mem → OY, mem_cons_self → OZ, map_cons → O2, lookup_cons → O4, nodup_cons → O6, isEmpty_iff → O8, mem_of_getElem? → O9, length_map → Pa, not_mem_nil → Pl, append_nil → Pn, mem_cons → Po, forall_mem_cons → Py, replicate → Pz, append_assoc → PH, nodup_nil → PJ, mem_map_of_mem → PP, getElem?_eq_getElem → PT, getElem?_of_mem → PZ, map_map → Qg, getElem?_map → Qj, take_append_drop → Qq, flatten_cons → QA, eq_nil_of_length_eq_zero → QE, zip_cons_cons → QK, any_eq_false → QQ, mem_append_left → QS, length_cons → Q1, replicate_succ → Q6, getElem?_cons_succ → Q8, map_inj_right → Re, mem_map → Ro, casesOn → Rq, length_drop → Rx, all_cons → RH, mem_append → RM, zip_append → RT, mem_singleton → R4, range → Sd, reverse_cons → Sm, getElem?_inj → Sp, getElem?_set_self → Ss, length → Sw, mem_reverse → Sz, length_take → SH, mem_append_right → SJ, size_toArray → TP, any_eq_true → T9, getElem?_take_of_lt → Ub, filterMap_cons_some → Uc, cons_append → Ul, length_nil → Uy, forIn_cons → Uz, foldl_cons → UA, mem_range → UF, drop_nil → UN
open PySem.Builtin renaming bitAnd → ON, bitNot → O3, bitOr → RI, bitXor → UI
open PySem.Heap renaming get?_push_of_some → OO, get?_push_size → Ph, lt_size → Pq, get?_update_self → PG, size_push → PK, get?_update_other → P0, dictOf_iff → QO, SameBut → Rn, size_after_update → Su
open False renaming elim → O1
open Option renaming isSome_iff_exists → Pe, isNone_iff_eq_none → Px, casesOn → QX, eq_none_iff_forall_ne_some → Sq, map_eq_some_iff → UB
open LawfulBEq renaming eq_of_beq → Pf
open Int renaming fdiv_eq_ediv_of_nonneg → Pt, fmod_eq_emod_of_nonneg → Pv, natCast_nonneg → Qt, ofNat_lt → Qv, le_of_lt → Qy, le_trans → Qz, not_lt → QV, natCast_pos → Rc, emod_lt_of_pos → Rh, add_mul_emod_self_left → RG, emod_nonneg → RV, lt_trans → R5, emod_add_mul_ediv → SM, pow_succ → S6, mul_assoc → TJ, toNat_natCast → TU, natAbs_sub_le → TV, ediv_one → Ur, pow_pos → UC, casesOn → UD
open PySem.Builtin.Bytes renaming decodersThatHold → PM, buffer? → Qr, payload → QN, ownRelease → QZ, slotIsOwn → Q9, payload? → Rk, order → RL, exported → Sv, subscript? → Ue, sliceParts → Uf, sliced → UK, write → UP
open PySem.W renaming typeIs_bytes → PU, findIn → PW, boot_heap → QL, looks_findIn → R2, topRun → R8, bytesKind → Tq, specialIn → Ts, look_both → Tt, emptyDict → Tw
open PySem.Obj renaming isFreed_of_fields → Qb, data_mapFields → Qc, mapBytearray → Ui
open PySem.NameKind renaming casesOn → Qf
open PySem.Value.ref renaming inj → Qo
open PySem.Value renaming casesOn → Qp
open And renaming imp_right → QC, imp_left → Us
open PySem.Heap.SameBut renaming update → QG
open Exists renaming imp → QJ
open PySem.Data renaming casesOn → QM
open PySem.Builtin.Tuple renaming tupleExact → QY
open List.cons renaming inj → Rb
open PySem.Builtin.ObjectAttr renaming storeInDict → Rd
open PySem.F renaming slot_list_pop → Rl, excBase_Exception → RN, slot_list_extend → RX, plainAttrs_list → Sh, entry_list_pop → Sr, args_list_extend_2 → TA, entry_list_extend → TW, slot_list_append → Ua, args_list_pop_2 → Uu, attr_Exception → UE, slot_dict_get → UH
open PySem.Str renaming ofString → Rm
open PySem.Value.bool renaming inj → Rp
open PySem.W.FB renaming slot_bytes_eq → Ry, args_bytes_eq_2 → R0, entry_bytes_eq → Sn
open PySem.Sem renaming wp_mono → RK
open PySem.Builtin.Slice renaming slicePlaces → RO, sliceApplied → TG, sliceAdjust → TX
open PySem.Data.fields renaming inj → RU
open PyProof.Rows renaming slot_tuple_getitem → RZ, bitAnd_comm → Tp
open PySem.Code renaming quiet_builtin → R1
open Prod renaming fst → R7
open Inhabited renaming default → Se
open Ne renaming symm → Sf
open PySem.callAny renaming viaDunder → Sk
open PySem.SeqAt renaming rc_eq_decline_or → SA
open PySem.Operator renaming casesOn → SD
open PySem.Around renaming under_plainId → SV
open Nat.succ renaming inj → S0
open LawfulMonad renaming bind_assoc → S8
open PySem.W.Looks renaming ld → Tm
open PySem.Calls renaming Name_function_global → TC
open PySem.ExcName renaming means → TK
open PySem.Value.int renaming inj → TM
open PySem.Builtin.List renaming listTooLong → Ud
open PySem.W.WData renaming layableAll → Uh
open UInt8 renaming toNat_inj → Uv
open PySem.ScopeKind renaming noConfusion → UG
open PySem.MeetsSeq renaming list_pop_at → UJ
open PySem.EntryCells renaming newEntry → UO
section
open Lean in
local macro_rules
  | `(∃ $xs:explicitBinders, $b) => do
    let (l, r) := (List.range 7).foldl (fun (a : List Term × Term) _ => match a.2 with
      | `($p ∧ $q) => (p :: a.1, q)
      | _ => a) ([], b)
    let cs := (r :: l).reverse
    let nm (s : String) : Term := mkIdent (.str (.mkSimple "Internal") s)
    let us : List (Term × Option Term) :=
      let k := xs.raw[0]
      if k.isOfKind ``unbracketedExplicitBinders then k[0].getArgs.toList.map fun x => (⟨x[0]⟩, if k[1].isNone then none else some ⟨k[1][1]⟩)
      else k.getArgs.toList.flatMap fun g => g[1].getArgs.toList.map fun x => (⟨x[0]⟩, some ⟨g[3]⟩)
    let e : Term ← (((List.range 8).map fun i => (us.drop (6 * i)).take 6).filter fun g => !g.isEmpty).foldrM (fun g (r : Term) => do
      let f : Term ← g.foldrM (fun (x, ty) (f : Term) => match ty with
        | some t => `(fun ($x : $t) => $f)
        | none => `(fun $x => $f)) r
      pure (Syntax.mkApp (if g.length == 1 then mkIdent `Exists else nm s!"E{g.length}") #[f])) (if cs.length < 3 then b else Syntax.mkApp (nm s!"A{cs.length}") cs.toArray)
    pure e
open Lean in
local macro_rules
  | `(tactic| cases $x:ident) => do
    let l ← ("nil cons none bool sb int si str byt sy own frz glob bi rp rg an ub ti kd".splitOn " ").toArray.mapM fun s => `(Parser.Tactic.tacticSeq| induction $x:ident using $(mkIdent (.str (.str (.mkSimple "Internal") (if s == "nil" || s == "cons" then "All2" else "DenV")) (s ++ "_elim"))))
    `(tactic| first
    | (injection $x:ident; done)
    | (injection $x:ident with y z u; subst y; subst z; subst u)
    | (injection $x:ident with y z; subst y; subst z)
    | ((fail_if_success (injection $x:ident with y z)); injection $x:ident with y; subst y)
    $[| $l]*
    | rcases $x:ident with ⟨⟩)
  | `(tactic| cases $t:elimTarget $a:inductionAlts) =>
    if (t.raw[1]).isOfKind ``Parser.Term.paren then Macro.throwUnsupported else do
      let p : TSyntax ``Parser.Tactic.elimTarget := ⟨t.raw.setArg 1 (← `(($(⟨t.raw[1]⟩)))).raw⟩
      let l ← ("Option.casesOn Bool.casesOn List.casesOn PySem.Expr.casesOn PySem.Stmt.casesOn PySem.Value.casesOn Internal.AV.casesOn Internal.AO.casesOn PySem.Flow.casesOn PySem.Fin.casesOn Except.casesOn Prod.casesOn Internal.Desc.casesOn PySem.Obj.casesOn Internal.Out.casesOn Or.casesOn Internal.All2.cons_elim Internal.All2.nil_elim".splitOn " " ++ ("none bool sb int si str byt sy own frz glob bi rp rg an ub ti kd".splitOn " ").map (s!"Internal.DenV.{·}_elim") ++ ["Nat.casesAuxOn"]).toArray.mapM fun s => `(Parser.Tactic.tacticSeq| induction $t:elimTarget using $(mkIdent s.toName) $a:inductionAlts)
      `(tactic| first $[| $l]* | cases $p:elimTarget $a:inductionAlts)
  | `(tactic| omega) => `(tactic| first | lia | omega (splitDisjunctions := true))
  | `(nofun) => do
    let j := mkIdent `J
    let n := mkIdent `Internal.ne1
    `(by first | exact $n rfl | exact fun $j => $n rfl | exact fun $j $j => $n rfl | (intros; contradiction) | exact fun $j $j $j $j $j => nomatch $j | exact fun $j => nomatch $j)
noncomputable section
namespace Internal
abbrev VP:=PySem.Value->PySem.Shared->Prop
universe u1 u2 u3 u4 u5 u6 u7 u8
inductive E2{α:Sort u1}{β:Sort u2}(p:α->β->Prop):Prop
 | mk (a:α) (b:β) (h:p a b)
inductive E3{α:Sort u1}{β:Sort u2}{γ:Sort u3}(p:α->β->γ->Prop):Prop
 | mk (a:α) (b:β) (c:γ) (h:p a b c)
inductive E4{α:Sort u1}{β:Sort u2}{γ:Sort u3}{δ:Sort u4}(p:α->β->γ->δ->Prop):Prop
 | mk (a:α) (b:β) (c:γ) (d:δ) (h:p a b c d)
inductive E5{α:Sort u1}{β:Sort u2}{γ:Sort u3}{δ:Sort u4}{ε:Sort u5}(p:α->β->γ->δ->ε->Prop):Prop
 | mk (a:α) (b:β) (c:γ) (d:δ) (e:ε) (h:p a b c d e)
inductive E6{α:Sort u1}{β:Sort u2}{γ:Sort u3}{δ:Sort u4}{ε:Sort u5}{ζ:Sort u6}(p:α->β->γ->δ->ε->ζ->Prop):Prop
 | mk (a:α) (b:β) (c:γ) (d:δ) (e:ε) (f:ζ) (h:p a b c d e f)
structure A3(a b c:Prop):Prop where
 h1:a
 h2:b
 h3:c
structure A4(a b c d:Prop):Prop where
 h1:a
 h2:b
 h3:c
 h4:d
structure A5(a b c d e:Prop):Prop where
 h1:a
 h2:b
 h3:c
 h4:d
 h5:e
structure A6(a b c d e f:Prop):Prop where
 h1:a
 h2:b
 h3:c
 h4:d
 h5:e
 h6:f
structure A7(a b c d e f g:Prop):Prop where
 h1:a
 h2:b
 h3:c
 h4:d
 h5:e
 h6:f
 h7:g
structure A8(a b c d e f g i:Prop):Prop where
 h1:a
 h2:b
 h3:c
 h4:d
 h5:e
 h6:f
 h7:g
 h8:i
theorem bw{B:Prop}(h:∀ G:Prop,(B->G)->G):B:=h B id
theorem E2.imp{α:Sort u1}{β:Sort u2}{p q:α->β->Prop}(k:∀ a b,p a b->q a b)(h:E2 p):E2 q:=h.rec λ a b h=>⟨a,b,k a b h⟩
theorem E3.imp{α:Sort u1}{β:Sort u2}{γ:Sort u3}{p q:α->β->γ->Prop}(k:∀ a b c,p a b c->q a b c)(h:E3 p):E3 q:=h.rec λ a b c h=>⟨a,b,c,k a b c h⟩
theorem E4.imp{α:Sort u1}{β:Sort u2}{γ:Sort u3}{δ:Sort u4}{p q:α->β->γ->δ->Prop}(k:∀ a b c d,p a b c d->q a b c d)(h:E4 p):E4 q:=h.rec λ a b c d h=>⟨a,b,c,d,k a b c d h⟩
section
universe u
open PySem
variable {b:Bool} {v:Expr} {n p:Nat} {o:Option NameKind} {P:Prop}
set_option genCtorIdx true in
inductive Bi where
 | len|isinstance|ord|chr|max|min|abs|repr|all|sum
 | int|bytes|bytearray|list|tuple|zip|range|str
inductive AV where
 | none
 | bool (b:Bool)|sb (b:Bool)
 | int (i:Int)|si (i:Int)
 | str (s:List Nat)
 | byt (b:List Nat)|sy (b:List UInt8)
 | own (i:Nat)|frz (i:Nat)|glob (a:Nat)
 | bi (b:Bi)
 | rp (l:List AV)
 | hid
 | any
 | rg (m:Nat)
 | an
 | ub
 | ti (t i j:Nat)
 | kd (i:Nat)
 deriving Inhabited
@[reducible] noncomputable def AV.ctorIdx(o:AV):Nat:=AV.casesOn o 0 (λ J=>1) (λ J=>2) (λ J=>3) (λ J=>4) (λ J=>5) (λ J=>6) (λ J=>7) (λ J=>8) (λ J=>9) (λ J=>10) (λ J=>11) (λ J=>12) 13 14 (λ J=>15) 16 17 (λ J J J=>18) (λ J=>19)
noncomputable abbrev bN:=List (Nat×AV)
inductive AO where
 | lst (xs:List AV)
 | tup (xs:List AV)
 | inst (c d:Nat)
 | ns (es:bN)
 | atd (es:bN)
 | dct (b:Bool) (es:List (List Nat×AV))
 | bar (b:List Nat)
 | cel (v:AV)
 | rng (lo hi:Int)
 | itL (l:AV) (k:Nat)
 | itT (l:AV) (k:Nat)
 | itS (l:List Nat) (k:Nat)
 | itB (l:List Nat) (k:Nat)
 | itR (x left:Int)
 | zip (a b ti to:Nat)
 | prA (a b:Nat)
 | prB
 | exc (c d:Nat)
 | exc0 (c:Nat)
 | scr
 | ila
 | ilaN
 | lsA
 | wld (n:Nat)
 | otp (k j:Nat)
 | oth (k:Nat)
 | oti (k:Nat)
 | otb (k:Nat) (b:Bool)
 | otx (k:Nat)
 | dead
 deriving Inhabited
@[reducible] noncomputable def AO.ctorIdx(o:AO):Nat:=AO.casesOn o (λ J=>0) (λ J=>1) (λ J J=>2) (λ J=>3) (λ J=>4) (λ J J=>5) (λ J=>6) (λ J=>7) (λ J J=>8) (λ J J=>9) (λ J J=>10) (λ J J=>11) (λ J J=>12) (λ J J=>13) (λ J J J J=>14) (λ J J=>15) 16 (λ J J=>17) (λ J=>18) 19 20 21 22 (λ J=>23) (λ J J=>24) (λ J=>25) (λ J=>26) (λ J J=>27) (λ J=>28) 29
inductive Tr where
 | nil
 | nd (v:Option AO) (l r:Tr)
 deriving Inhabited
namespace Tr
noncomputable def get:Tr->Nat->Option AO
 | .nil,_=>none
 |
  .nd v l r,i=>match OC i 0 with
  | true=>v
  |
   false=>match OC (i%2) 1 with
   | true=>l.get (i/2)
   | false=>r.get (i/2-1)
noncomputable def put{β:Type u}:Nat->Tr->Nat->AO->(Tr->β)->β
 | 0,t,_,_,k=>k t
 |
  n+1,.nil,i,o,k=>match OC i 0 with
  | true=>k (.nd (some o) .nil .nil)
  |
   false=>match OC (i%2) 1 with
   | true=>put n .nil (i/2) o λ t=>k (.nd none t .nil)
   | false=>put n .nil (i/2-1) o λ t=>k (.nd none .nil t)
 |
  n+1,.nd v l r,i,o,k=>match OC i 0 with
  | true=>k (.nd (some o) l r)
  |
   false=>match OC (i%2) 1 with
   | true=>put n l (i/2) o λ t=>k (.nd v t r)
   | false=>put n r (i/2-1) o λ t=>k (.nd v l t)
end Tr
structure Fz where
 l:List AO
 nd:Nat
 facts:List (Nat×Nat×Nat×Bool)
 deriving Inhabited
structure Sg where
 own:Tr
 n:Nat
 frz:Fz
 deriving Inhabited
noncomputable def nm(s:Str):Nat:=s.cps.toList.foldl (λ a c=>a*2097152+(c+1)) 0
inductive T(α:Type):Type 1 where
 | leaf (a:α)
 | split (b:Bool) (t f:T α)
 | need (b:Bool) (t:T α)
 | all (k:Int->T α)
 | both (t f:T α)
 | asm (b:Bool) (t:T α)
 | stuck (why:Nat)
@[reducible] noncomputable def T.ctorIdx{α:Type}(o:T α):Nat:=T.casesOn o (λ J=>0) (λ J J J=>1) (λ J J=>2) (λ J=>3) (λ J J=>4) (λ J J=>5) (λ J=>6)
noncomputable def T.bind{α β:Type}:T α->(α->T β)->T β
 | .leaf a,f=>f a
 | .split b t e,f=>.split b (t.bind f) (e.bind f)
 | .need b t,f=>.need b (t.bind f)
 | .all k,f=>.all λ i=>(k i).bind f
 | .both t e,f=>.both (t.bind f) (e.bind f)
 | .asm b t,f=>.asm b (t.bind f)
 | .stuck w,_=>.stuck w
noncomputable def T.Sat{α:Type}(Φ:α->Prop):T α->Prop
 | .leaf a=>Φ a
 | .split b t e=>(b=true->t.Sat Φ)/\(b=false->e.Sat Φ)
 | .need b t=>b=true/\t.Sat Φ
 | .all k=>∀ i,(k i).Sat Φ
 | .both t e=>t.Sat Φ/\e.Sat Φ
 | .asm b t=>b=true->t.Sat Φ
 | .stuck _=>False
set_option genInjectivity true in
inductive Out where
 | v (x:AV)
 | nx
 | rt (x:AV)
 | ex (i:Nat)
 deriving Inhabited
@[reducible] noncomputable def Out.ctorIdx(o:Out):Nat:=Out.casesOn o (λ J=>0) 1 (λ J=>2) (λ J=>3)
theorem am{α:Type u}{a:α}(h:none=some a):P:=Option.noConfusion rfl (heq_of_eq h)
theorem ne1{o p:AO}(h:OC o.ctorIdx p.ctorIdx=false):o≠p:=λ e=>OV h (congrArg AO.ctorIdx e)
section
universe v w0 w1 w2 w3
noncomputable abbrev aa{a0:Sort w0}{b:Type v}(_:a0):Option b:=none
noncomputable abbrev ag{a0:Sort w0}(_:a0):Bool:=false
theorem ac{a0:Sort w0}{b:Type v}{t:a0->b}{P:a0->Prop}(x0:a0)(h:none=some (t x0)):P x0:=am h
theorem aq{a0:Sort w0}{b:Type v}{t:a0->b}{Q P:a0->Prop}(x0:a0)(h:none=some (t x0))(_:Q x0):P x0:=am h
noncomputable abbrev ae{a0:Sort w0}{a1:Sort w1}{b:Type v}(_:a0)(_:a1):Option b:=none
noncomputable abbrev ax{a0:Sort w0}{a1:Sort w1}(_:a0)(_:a1):Bool:=false
theorem af{a0:Sort w0}{a1:Sort w1}{b:Type v}{t:a0->a1->b}{P:a0->a1->Prop}(x0:a0)(x1:a1)(h:none=some (t x0 x1)):P x0 x1:=am h
theorem Ou{a0:Sort w0}{a1:Sort w1}{b:Type v}{t:a0->a1->b}{Q P:a0->a1->Prop}(x0:a0)(x1:a1)(h:none=some (t x0 x1))(_:Q x0 x1):P x0 x1:=am h
noncomputable abbrev ai{a0:Sort w0}{a1:Sort w1}{a2:Sort w2}{b:Type v}(_:a0)(_:a1)(_:a2):Option b:=none
noncomputable abbrev aO{a0:Sort w0}{a1:Sort w1}{a2:Sort w2}(_:a0)(_:a1)(_:a2):Bool:=false
theorem ak{a0:Sort w0}{a1:Sort w1}{a2:Sort w2}{b:Type v}{t:a0->a1->a2->b}{P:a0->a1->a2->Prop}(x0:a0)(x1:a1)(x2:a2)(h:none=some (t x0 x1 x2)):P x0 x1 x2:=am h
theorem fP{a0:Sort w0}{a1:Sort w1}{a2:Sort w2}{b:Type v}{t:a0->a1->a2->b}{Q P:a0->a1->a2->Prop}(x0:a0)(x1:a1)(x2:a2)(h:none=some (t x0 x1 x2))(_:Q x0 x1 x2):P x0 x1 x2:=am h
noncomputable abbrev ah{a0:Sort w0}{a1:Sort w1}{a2:Sort w2}{a3:Sort w3}{b:Type v}(_:a0)(_:a1)(_:a2)(_:a3):Option b:=none
noncomputable abbrev bg{a0:Sort w0}{a1:Sort w1}{a2:Sort w2}{a3:Sort w3}(_:a0)(_:a1)(_:a2)(_:a3):Bool:=false
theorem aj{a0:Sort w0}{a1:Sort w1}{a2:Sort w2}{a3:Sort w3}{b:Type v}{t:a0->a1->a2->a3->b}{P:a0->a1->a2->a3->Prop}(x0:a0)(x1:a1)(x2:a2)(x3:a3)(h:none=some (t x0 x1 x2 x3)):P x0 x1 x2 x3:=am h
theorem Ot{a0:Sort w0}{a1:Sort w1}{a2:Sort w2}{a3:Sort w3}{b:Type v}{t:a0->a1->a2->a3->b}{Q P:a0->a1->a2->a3->Prop}(x0:a0)(x1:a1)(x2:a2)(x3:a3)(h:none=some (t x0 x1 x2 x3))(_:Q x0 x1 x2 x3):P x0 x1 x2 x3:=am h
theorem aP{b:Type v}{t:b}{Q P:Prop}(h:none=some t)(_:Q):P:=am h
end
noncomputable def kL(v:AV):Option (Bool):=AV.casesOn v none (λ a=>some a) aa aa aa aa aa aa aa aa aa aa aa none none aa none none ai aa
theorem nP{v:AV}{p:Bool}(h:kL v=some p):v=AV.bool p:=AV.casesOn (motive_1:=λ v=>kL v=some p->v=AV.bool p) v am (λ J h=>congrArg (λ p:Bool=>AV.bool p) (Oy h)) ac ac ac ac ac ac ac ac ac ac ac am am ac am am ak ac h
noncomputable def iG(v:AV):Option (Int):=AV.casesOn v none aa aa (λ a=>some a) aa aa aa aa aa aa aa aa aa none none aa none none ai aa
theorem ie{v:AV}{p:Int}(h:iG v=some p):v=AV.int p:=AV.casesOn (motive_1:=λ v=>iG v=some p->v=AV.int p) v am ac ac (λ J h=>congrArg (λ p:Int=>AV.int p) (Oy h)) ac ac ac ac ac ac ac ac ac am am ac am am ak ac h
noncomputable def iF(v:AV):Option (List Nat):=AV.casesOn v none aa aa aa aa (λ a=>some a) aa aa aa aa aa aa aa none none aa none none ai aa
theorem jU{v:AV}{p:List Nat}(h:iF v=some p):v=AV.str p:=AV.casesOn (motive_1:=λ v=>iF v=some p->v=AV.str p) v am ac ac ac ac (λ J h=>congrArg (λ p:List Nat=>AV.str p) (Oy h)) ac ac ac ac ac ac ac am am ac am am ak ac h
noncomputable def qX(v:AV):Option (List Nat):=AV.casesOn v none aa aa aa aa aa (λ a=>some a) aa aa aa aa aa aa none none aa none none ai aa
theorem Ai{v:AV}{p:List Nat}(h:qX v=some p):v=AV.byt p:=AV.casesOn (motive_1:=λ v=>qX v=some p->v=AV.byt p) v am ac ac ac ac ac (λ J h=>congrArg (λ p:List Nat=>AV.byt p) (Oy h)) ac ac ac ac ac ac am am ac am am ak ac h
noncomputable def jW(v:AV):Option (Nat):=AV.casesOn v none aa aa aa aa aa aa aa (λ a=>some a) aa aa aa aa none none aa none none ai aa
theorem jV{v:AV}(h:jW v=some p):v=AV.own p:=AV.casesOn (motive_1:=λ v=>jW v=some p->v=AV.own p) v am ac ac ac ac ac ac ac (λ J h=>congrArg (λ p:Nat=>AV.own p) (Oy h)) ac ac ac ac am am ac am am ak ac h
noncomputable def qW(v:AV):Option (Nat):=AV.casesOn v none aa aa aa aa aa aa aa aa (λ a=>some a) aa aa aa none none aa none none ai aa
theorem sY{v:AV}(h:qW v=some p):v=AV.frz p:=AV.casesOn (motive_1:=λ v=>qW v=some p->v=AV.frz p) v am ac ac ac ac ac ac ac ac (λ J h=>congrArg (λ p:Nat=>AV.frz p) (Oy h)) ac ac ac am am ac am am ak ac h
noncomputable def dc(v:AV):Option (Nat):=AV.casesOn v none aa aa aa aa aa aa aa aa aa (λ a=>some a) aa aa none none aa none none ai aa
theorem kJ{v:AV}(h:dc v=some p):v=AV.glob p:=AV.casesOn (motive_1:=λ v=>dc v=some p->v=AV.glob p) v am ac ac ac ac ac ac ac ac ac (λ J h=>congrArg (λ p:Nat=>AV.glob p) (Oy h)) ac ac am am ac am am ak ac h
noncomputable def vBi(v:AV):Option (Bi):=AV.casesOn v none aa aa aa aa aa aa aa aa aa aa (λ a=>some a) aa none none aa none none ai aa
theorem Kh{v:AV}{p:Bi}(h:vBi v=some p):v=AV.bi p:=AV.casesOn (motive_1:=λ v=>vBi v=some p->v=AV.bi p) v am ac ac ac ac ac ac ac ac ac ac (λ J h=>congrArg (λ p:Bi=>AV.bi p) (Oy h)) ac am am ac am am ak ac h
noncomputable def vRp(v:AV):Option (List AV):=AV.casesOn v none aa aa aa aa aa aa aa aa aa aa aa (λ a=>some a) none none aa none none ai aa
theorem Kf{v:AV}{p:List AV}(h:vRp v=some p):v=AV.rp p:=AV.casesOn (motive_1:=λ v=>vRp v=some p->v=AV.rp p) v am ac ac ac ac ac ac ac ac ac ac ac (λ J h=>congrArg (λ p:List AV=>AV.rp p) (Oy h)) am am ac am am ak ac h
noncomputable def vRg(v:AV):Option (Nat):=AV.casesOn v none aa aa aa aa aa aa aa aa aa aa aa aa none none (λ a=>some a) none none ai aa
theorem Kg{v:AV}(h:vRg v=some p):v=AV.rg p:=AV.casesOn (motive_1:=λ v=>vRg v=some p->v=AV.rg p) v am ac ac ac ac ac ac ac ac ac ac ac ac am am (λ J h=>congrArg (λ p:Nat=>AV.rg p) (Oy h)) am am ak ac h
noncomputable def vTi(v:AV):Option (Nat×Nat×Nat):=AV.casesOn v none aa aa aa aa aa aa aa aa aa aa aa aa none none aa none none (λ a b c=>some (a,b,c)) aa
theorem FF{v:AV}{p:Nat×Nat×Nat}(h:vTi v=some p):v=AV.ti p.1 p.2.1 p.2.2:=AV.casesOn (motive_1:=λ v=>vTi v=some p->v=AV.ti p.1 p.2.1 p.2.2) v am ac ac ac ac ac ac ac ac ac ac ac ac am am ac am am (λ J J J h=>congrArg (λ p:Nat×Nat×Nat=>AV.ti p.1 p.2.1 p.2.2) (Oy h)) ac h
noncomputable def jI(v:AO):Option (List AV):=AO.casesOn v (λ a=>some a) aa ae aa aa ae aa aa ae ae ae ae ae ae ah ae none ae aa none none none none aa ae aa aa ae aa none
theorem ge{v:AO}{p:List AV}(h:jI v=some p):v=AO.lst p:=AO.casesOn (motive:=λ v=>jI v=some p->v=AO.lst p) v (λ J h=>congrArg (λ p:List AV=>AO.lst p) (Oy h)) ac af ac ac af ac ac af af af af af af aj af am af ac am am am am ac af ac ac af ac am h
noncomputable def ro(v:AO):Option (List AV):=AO.casesOn v aa (λ a=>some a) ae aa aa ae aa aa ae ae ae ae ae ae ah ae none ae aa none none none none aa ae aa aa ae aa none
theorem ik{v:AO}{p:List AV}(h:ro v=some p):v=AO.tup p:=AO.casesOn (motive:=λ v=>ro v=some p->v=AO.tup p) v ac (λ J h=>congrArg (λ p:List AV=>AO.tup p) (Oy h)) af ac ac af ac ac af af af af af af aj af am af ac am am am am ac af ac ac af ac am h
noncomputable def rq(v:AO):Option (Nat×Nat):=AO.casesOn v aa aa (λ a b=>some (a,b)) aa aa ae aa aa ae ae ae ae ae ae ah ae none ae aa none none none none aa ae aa aa ae aa none
theorem lh{v:AO}{p:Nat×Nat}(h:rq v=some p):v=AO.inst p.1 p.2:=AO.casesOn (motive:=λ v=>rq v=some p->v=AO.inst p.1 p.2) v ac ac (λ J J h=>congrArg (λ p:Nat×Nat=>AO.inst p.1 p.2) (Oy h)) ac ac af ac ac af af af af af af aj af am af ac am am am am ac af ac ac af ac am h
noncomputable def oNs(v:AO):Option (bN):=AO.casesOn v aa aa ae (λ a=>some a) aa ae aa aa ae ae ae ae ae ae ah ae none ae aa none none none none aa ae aa aa ae aa none
theorem Cz{v:AO}{p:bN}(h:oNs v=some p):v=AO.ns p:=AO.casesOn (motive:=λ v=>oNs v=some p->v=AO.ns p) v ac ac af (λ J h=>congrArg (λ p:bN=>AO.ns p) (Oy h)) ac af ac ac af af af af af af aj af am af ac am am am am ac af ac ac af ac am h
noncomputable def AB(v:AO):Option (bN):=AO.casesOn v aa aa ae aa (λ a=>some a) ae aa aa ae ae ae ae ae ae ah ae none ae aa none none none none aa ae aa aa ae aa none
theorem mu{v:AO}{p:bN}(h:AB v=some p):v=AO.atd p:=AO.casesOn (motive:=λ v=>AB v=some p->v=AO.atd p) v ac ac af ac (λ J h=>congrArg (λ p:bN=>AO.atd p) (Oy h)) af ac ac af af af af af af aj af am af ac am am am am ac af ac ac af ac am h
noncomputable def nI(v:AO):Option (Bool×List (List Nat×AV)):=AO.casesOn v aa aa ae aa aa (λ a b=>some (a,b)) aa aa ae ae ae ae ae ae ah ae none ae aa none none none none aa ae aa aa ae aa none
theorem il{v:AO}{p:Bool×List (List Nat×AV)}(h:nI v=some p):v=AO.dct p.1 p.2:=AO.casesOn (motive:=λ v=>nI v=some p->v=AO.dct p.1 p.2) v ac ac af ac ac (λ J J h=>congrArg (λ p:Bool×List (List Nat×AV)=>AO.dct p.1 p.2) (Oy h)) ac ac af af af af af af aj af am af ac am am am am ac af ac ac af ac am h
noncomputable def pV(v:AO):Option (List Nat):=AO.casesOn v aa aa ae aa aa ae (λ a=>some a) aa ae ae ae ae ae ae ah ae none ae aa none none none none aa ae aa aa ae aa none
theorem kb{v:AO}{p:List Nat}(h:pV v=some p):v=AO.bar p:=AO.casesOn (motive:=λ v=>pV v=some p->v=AO.bar p) v ac ac af ac ac af (λ J h=>congrArg (λ p:List Nat=>AO.bar p) (Oy h)) ac af af af af af af aj af am af ac am am am am ac af ac ac af ac am h
noncomputable def JF(v:AO):Option (AV):=AO.casesOn v aa aa ae aa aa ae aa (λ a=>some a) ae ae ae ae ae ae ah ae none ae aa none none none none aa ae aa aa ae aa none
theorem AA{v:AO}{p:AV}(h:JF v=some p):v=AO.cel p:=AO.casesOn (motive:=λ v=>JF v=some p->v=AO.cel p) v ac ac af ac ac af ac (λ J h=>congrArg (λ p:AV=>AO.cel p) (Oy h)) af af af af af af aj af am af ac am am am am ac af ac ac af ac am h
noncomputable def KI(v:AO):Option (Int×Int):=AO.casesOn v aa aa ae aa aa ae aa aa (λ a b=>some (a,b)) ae ae ae ae ae ah ae none ae aa none none none none aa ae aa aa ae aa none
theorem Gr{v:AO}{p:Int×Int}(h:KI v=some p):v=AO.rng p.1 p.2:=AO.casesOn (motive:=λ v=>KI v=some p->v=AO.rng p.1 p.2) v ac ac af ac ac af ac ac (λ J J h=>congrArg (λ p:Int×Int=>AO.rng p.1 p.2) (Oy h)) af af af af af aj af am af ac am am am am ac af ac ac af ac am h
noncomputable def JE(v:AO):Option (AV×Nat):=AO.casesOn v aa aa ae aa aa ae aa aa ae (λ a b=>some (a,b)) ae ae ae ae ah ae none ae aa none none none none aa ae aa aa ae aa none
theorem Ay{v:AO}{p:AV×Nat}(h:JE v=some p):v=AO.itL p.1 p.2:=AO.casesOn (motive:=λ v=>JE v=some p->v=AO.itL p.1 p.2) v ac ac af ac ac af ac ac af (λ J J h=>congrArg (λ p:AV×Nat=>AO.itL p.1 p.2) (Oy h)) af af af af aj af am af ac am am am am ac af ac ac af ac am h
noncomputable def Cy(v:AO):Option (Nat×Nat×Nat×Nat):=AO.casesOn v aa aa ae aa aa ae aa aa ae ae ae ae ae ae (λ a b c d=>some (a,b,c,d)) ae none ae aa none none none none aa ae aa aa ae aa none
theorem Av{v:AO}{p:Nat×Nat×Nat×Nat}(h:Cy v=some p):v=AO.zip p.1 p.2.1 p.2.2.1 p.2.2.2:=AO.casesOn (motive:=λ v=>Cy v=some p->v=AO.zip p.1 p.2.1 p.2.2.1 p.2.2.2) v ac ac af ac ac af ac ac af af af af af af (λ J J J J h=>congrArg (λ p:Nat×Nat×Nat×Nat=>AO.zip p.1 p.2.1 p.2.2.1 p.2.2.2) (Oy h)) af am af ac am am am am ac af ac ac af ac am h
noncomputable def KL(v:AO):Option (Nat×Nat):=AO.casesOn v aa aa ae aa aa ae aa aa ae ae ae ae ae ae ah (λ a b=>some (a,b)) none ae aa none none none none aa ae aa aa ae aa none
theorem Gu{v:AO}{p:Nat×Nat}(h:KL v=some p):v=AO.prA p.1 p.2:=AO.casesOn (motive:=λ v=>KL v=some p->v=AO.prA p.1 p.2) v ac ac af ac ac af ac ac af af af af af af aj (λ J J h=>congrArg (λ p:Nat×Nat=>AO.prA p.1 p.2) (Oy h)) am af ac am am am am ac af ac ac af ac am h
noncomputable def KJ(v:AO):Option (Unit):=AO.casesOn v aa aa ae aa aa ae aa aa ae ae ae ae ae ae ah ae (some ()) ae aa none none none none aa ae aa aa ae aa none
theorem Gs{v:AO}{p:Unit}(h:KJ v=some p):v=AO.prB:=AO.casesOn (motive:=λ v=>KJ v=some p->v=AO.prB) v ac ac af ac ac af ac ac af af af af af af aj af (λ J=>rfl) af ac am am am am ac af ac ac af ac am h
noncomputable def Az(v:AO):Option (Nat×Nat):=AO.casesOn v aa aa ae aa aa ae aa aa ae ae ae ae ae ae ah ae none (λ a b=>some (a,b)) aa none none none none aa ae aa aa ae aa none
theorem uB{v:AO}{p:Nat×Nat}(h:Az v=some p):v=AO.exc p.1 p.2:=AO.casesOn (motive:=λ v=>Az v=some p->v=AO.exc p.1 p.2) v ac ac af ac ac af ac ac af af af af af af aj af am (λ J J h=>congrArg (λ p:Nat×Nat=>AO.exc p.1 p.2) (Oy h)) ac am am am am ac af ac ac af ac am h
noncomputable def CD(v:AO):Option (Nat):=AO.casesOn v aa aa ae aa aa ae aa aa ae ae ae ae ae ae ah ae none ae (λ a=>some a) none none none none aa ae aa aa ae aa none
theorem CB{v:AO}(h:CD v=some p):v=AO.exc0 p:=AO.casesOn (motive:=λ v=>CD v=some p->v=AO.exc0 p) v ac ac af ac ac af ac ac af af af af af af aj af am af (λ J h=>congrArg (λ p:Nat=>AO.exc0 p) (Oy h)) am am am am ac af ac ac af ac am h
noncomputable def JC(v:AO):Option (Unit):=AO.casesOn v aa aa ae aa aa ae aa aa ae ae ae ae ae ae ah ae none ae aa (some ()) none none none aa ae aa aa ae aa none
theorem ux{v:AO}{p:Unit}(h:JC v=some p):v=AO.scr:=AO.casesOn (motive:=λ v=>JC v=some p->v=AO.scr) v ac ac af ac ac af ac ac af af af af af af aj af am af ac (λ J=>rfl) am am am ac af ac ac af ac am h
noncomputable def KN(v:AO):Option (Unit):=AO.casesOn v aa aa ae aa aa ae aa aa ae ae ae ae ae ae ah ae none ae aa none (some ()) none none aa ae aa aa ae aa none
theorem Gz{v:AO}{p:Unit}(h:KN v=some p):v=AO.ila:=AO.casesOn (motive:=λ v=>KN v=some p->v=AO.ila) v ac ac af ac ac af ac ac af af af af af af aj af am af ac am (λ J=>rfl) am am ac af ac ac af ac am h
noncomputable def rr(v:AO):Option (Unit):=AO.casesOn v aa aa ae aa aa ae aa aa ae ae ae ae ae ae ah ae none ae aa none none (some ()) none aa ae aa aa ae aa none
theorem uA{v:AO}{p:Unit}(h:rr v=some p):v=AO.ilaN:=AO.casesOn (motive:=λ v=>rr v=some p->v=AO.ilaN) v ac ac af ac ac af ac ac af af af af af af aj af am af ac am am (λ J=>rfl) am ac af ac ac af ac am h
noncomputable def Ff(v:AO):Option (Unit):=AO.casesOn v aa aa ae aa aa ae aa aa ae ae ae ae ae ae ah ae none ae aa none none none (some ()) aa ae aa aa ae aa none
theorem uz{v:AO}{p:Unit}(h:Ff v=some p):v=AO.lsA:=AO.casesOn (motive:=λ v=>Ff v=some p->v=AO.lsA) v ac ac af ac ac af ac ac af af af af af af aj af am af ac am am am (λ J=>rfl) ac af ac ac af ac am h
noncomputable def Aw(v:AO):Option (Nat):=AO.casesOn v aa aa ae aa aa ae aa aa ae ae ae ae ae ae ah ae none ae aa none none none none (λ a=>some a) ae aa aa ae aa none
theorem pU{v:AO}(h:Aw v=some p):v=AO.wld p:=AO.casesOn (motive:=λ v=>Aw v=some p->v=AO.wld p) v ac ac af ac ac af ac ac af af af af af af aj af am af ac am am am am (λ J h=>congrArg (λ p:Nat=>AO.wld p) (Oy h)) af ac ac af ac am h
noncomputable def Gw(v:AO):Option (Nat×Nat):=AO.casesOn v aa aa ae aa aa ae aa aa ae ae ae ae ae ae ah ae none ae aa none none none none aa (λ a b=>some (a,b)) aa aa ae aa none
theorem uy{v:AO}{p:Nat×Nat}(h:Gw v=some p):v=AO.otp p.1 p.2:=AO.casesOn (motive:=λ v=>Gw v=some p->v=AO.otp p.1 p.2) v ac ac af ac ac af ac ac af af af af af af aj af am af ac am am am am ac (λ J J h=>congrArg (λ p:Nat×Nat=>AO.otp p.1 p.2) (Oy h)) ac ac af ac am h
noncomputable def JD(v:AO):Option (Nat):=AO.casesOn v aa aa ae aa aa ae aa aa ae ae ae ae ae ae ah ae none ae aa none none none none aa ae (λ a=>some a) aa ae aa none
theorem Ax{v:AO}(h:JD v=some p):v=AO.oth p:=AO.casesOn (motive:=λ v=>JD v=some p->v=AO.oth p) v ac ac af ac ac af ac ac af af af af af af aj af am af ac am am am am ac af (λ J h=>congrArg (λ p:Nat=>AO.oth p) (Oy h)) ac af ac am h
noncomputable def Fd(v:AO):Option (Nat):=AO.casesOn v aa aa ae aa aa ae aa aa ae ae ae ae ae ae ah ae none ae aa none none none none aa ae aa (λ a=>some a) ae aa none
theorem Gx{v:AO}(h:Fd v=some p):v=AO.oti p:=AO.casesOn (motive:=λ v=>Fd v=some p->v=AO.oti p) v ac ac af ac ac af ac ac af af af af af af aj af am af ac am am am am ac af ac (λ J h=>congrArg (λ p:Nat=>AO.oti p) (Oy h)) af ac am h
noncomputable def Fe(v:AO):Option (Nat×Bool):=AO.casesOn v aa aa ae aa aa ae aa aa ae ae ae ae ae ae ah ae none ae aa none none none none aa ae aa aa (λ a b=>some (a,b)) aa none
theorem Gy{v:AO}{p:Nat×Bool}(h:Fe v=some p):v=AO.otb p.1 p.2:=AO.casesOn (motive:=λ v=>Fe v=some p->v=AO.otb p.1 p.2) v ac ac af ac ac af ac ac af af af af af af aj af am af ac am am am am ac af ac ac (λ J J h=>congrArg (λ p:Nat×Bool=>AO.otb p.1 p.2) (Oy h)) ac am h
noncomputable def KM(v:AO):Option (Nat):=AO.casesOn v aa aa ae aa aa ae aa aa ae ae ae ae ae ae ah ae none ae aa none none none none aa ae aa aa ae (λ a=>some a) none
theorem Gv{v:AO}(h:KM v=some p):v=AO.otx p:=AO.casesOn (motive:=λ v=>KM v=some p->v=AO.otx p) v ac ac af ac ac af ac ac af af af af af af aj af am af ac am am am am ac af ac ac af (λ J h=>congrArg (λ p:Nat=>AO.otx p) (Oy h)) am h
noncomputable def isHid(v:AV):Bool:=(AV.casesOn v false ag ag ag ag ag ag ag ag ag ag ag ag (true) false ag false false aO ag)
noncomputable def td(v:AV):Option AV:=match isHid v with|true=>none|false=>some v
noncomputable def tc(o:Option AV):Bool:=match o with|none=>true|some v=>!isHid v
section
universe v
variable {β:Type v} {t:β} {P:Prop}
theorem aw{α:Type u}{o:Option α}{k:α->Option β}(h:o.bind k=some t)(p:∀ a,o=some a->k a=some t->P):P:=
 QX (motive:=λ o=>o.bind k=some t->(∀ a,o=some a->k a=some t->P)->P) o (λ h J=>am h) (λ a h p=>p a rfl h) h p
theorem bG{α:Type u}{o:Option α}{k:α->β}(h:o.map k=some t)(p:∀ a,o=some a->k a=t->P):P:=
 QX (motive:=λ o=>o.map k=some t->(∀ a,o=some a->k a=t->P)->P) o (λ h J=>am h) (λ a h p=>p a rfl (Oy h)) h p
theorem vw{α:Type}{f:AO->Option α}{c:α->AO}{o:Option AO}{a:α}(hf:∀ {x:AO} {a:α},f x=some a->x=c a)(h:o.bind f=some a):o=some (c a):=
 aw h λ x e h=>e.trans (congrArg some (hf h))
noncomputable def single{α:Type u}(l:List α):Option α:=match l with
 | []=>none
 |
  x::r=>match r with
  | []=>some x
  | _::_=>none
theorem ch{α:Type u}{l:List α}{x:α}(h:single l=some x):l=[x]:=by
 match l,h with
 | [y],h=>exact congrArg (λ x=>[x]) (Oy h)
noncomputable def jG{α:Type u}(l:List α):Option (α×α):=match l with
 | []=>none
 | x::r=>(single r).map λ y=>(x,y)
theorem gP{α:Type u}{l:List α}{p:α×α}(h:jG l=some p):l=[p.1,p.2]:=by
 match l,h with
 | y::r,h=>exact bG h λ a e q=>by rw[ch e,<-q]
noncomputable def two{α γ:Type}(a:Option α)(b:Option γ):Option (α×γ):=a.bind λ x=>b.map λ y=>(x,y)
theorem eG{α γ:Type}{a:Option α}{b:Option γ}{p:α×γ}(h:two a b=some p)(q:a=some p.1->b=some p.2->P):P:=
 aw h λ x e h=>bG h λ y e' h=>q (by rw[e,<-h]) (by rw[e',<-h])
noncomputable def M2(as:List AV)(k:AV->Option β):Option β:=(single as).bind k
noncomputable def E8(as:List AV)(k:AV->AV->Option β):Option β:=(jG as).bind λ p=>k p.1 p.2
noncomputable def hdK{α:Type u}(as:List α)(k:α->List α->Option β):Option β:=match as with
 | []=>none
 | x::r=>k x r
theorem lH{α:Type u}{as:List α}{k:α->List α->Option β}(h:hdK as k=some t)(p:∀ x r,as=x::r->k x r=some t->P):P:=
 Rq (motive:=λ as=>hdK as k=some t->(∀ x r,as=x::r->k x r=some t->P)->P) as (λ h J=>am h) (λ x r h p=>p x r rfl h) h p
noncomputable def FN(as:List AV)(k:AV->AV->AV->Option β):Option β:=hdK as λ x r=>E8 r (k x)
noncomputable def LB{α:Type}(as:List α)(k:α->α->α->α->Option β):Option β:=hdK as λ x r=>hdK r λ y r=>(jG r).bind λ p=>k x y p.1 p.2
theorem Gm{as:List AV}{k:AV->Option β}(h:M2 as k=some t)(p:∀ x,as=[x]->k x=some t->P):P:=
 aw h λ x e h=>p x (ch e) h
theorem l8{as:List AV}{k:AV->AV->Option β}(h:E8 as k=some t)(p:∀ x y,as=[x,y]->k x y=some t->P):P:=
 aw h λ x e h=>p x.1 x.2 (gP e) h
theorem pz{as:List AV}{k:AV->AV->AV->Option β}(h:FN as k=some t)(p:∀ x y z,as=[x,y,z]->k x y z=some t->P):P:=
 lH h λ x r e h=>l8 h λ y z e' h=>p x y z (by rw[e,e']) h
theorem AR{α:Type}{as:List α}{k:α->α->α->α->Option β}(h:LB as k=some t)(p:∀ x y z u,as=[x,y,z,u]->k x y z u=some t->P):P:=
 lH h λ x r e h=>lH h λ y r' e' h=>aw h λ q e2 h=>p x y q.1 q.2 (by rw[e,e',gP e2]) h
noncomputable def j6(v:AV)(k:Nat->Option β):Option β:=(jW v).bind k
noncomputable def nK(v:AV)(k:Nat->Option β):Option β:=(qW v).bind k
noncomputable def xd(v:AV)(k:List Nat->Option β):Option β:=(iF v).bind k
noncomputable def zN(v:AV)(k:Bool->Option β):Option β:=(kL v).bind k
noncomputable def Hw(v:AV)(k:Int->Option β):Option β:=(iG v).bind k
noncomputable def tiK(v:AV)(k:Nat->Nat->Nat->Option β):Option β:=(vTi v).bind λ p=>k p.1 p.2.1 p.2.2
noncomputable def rpK(v:AV)(k:List AV->Option β):Option β:=(vRp v).bind k
noncomputable def Jt(v:AV)(k:Nat->Option β):Option β:=(vTi v).bind λ p=>match p.1 with|0=>k p.2.1|_+1=>none
theorem cj{v:AV}{k:Nat->Option β}(h:j6 v k=some t)(p:∀ i,v=.own i->k i=some t->P):P:=aw h λ i e h=>p i (jV e) h
theorem dj{v:AV}{k:Nat->Option β}(h:nK v k=some t)(p:∀ i,v=.frz i->k i=some t->P):P:=aw h λ i e h=>p i (sY e) h
theorem fU{v:AV}{k:List Nat->Option β}(h:xd v k=some t)(p:∀ i,v=.str i->k i=some t->P):P:=aw h λ i e h=>p i (jU e) h
theorem pa{v:AV}{k:Bool->Option β}(h:zN v k=some t)(p:∀ i,v=.bool i->k i=some t->P):P:=aw h λ i e h=>p i (nP e) h
theorem qo{v:AV}{k:Int->Option β}(h:Hw v k=some t)(p:∀ i,v=.int i->k i=some t->P):P:=aw h λ i e h=>p i (ie e) h
theorem FM{v:AV}{k:Nat->Nat->Nat->Option β}(h:tiK v k=some t)(p:∀ a b c,v=.ti a b c->k a b c=some t->P):P:=aw h λ i e h=>p _ _ _ (FF e) h
theorem F6{v:AV}{k:List AV->Option β}(h:rpK v k=some t)(p:∀ i,v=.rp i->k i=some t->P):P:=aw h λ i e h=>p i (Kf e) h
theorem tu{v:AV}{k:Nat->Option β}(h:Jt v k=some t)(p:∀ i j,v=.ti 0 i j->k i=some t->P):P:=aw h λ q e h=>by
 obtain⟨a,i,j⟩:=q;exact P2 (motive:=λ a=>(v=.ti a i j)->(match a with|0=>k i|_+1=>none)=some t->P) a (λ e h=>p i j e h) (λ J J h=>am h) (FF e) h
noncomputable def ifK(b:Bool)(k:Option β):Option β:=match b with|true=>k|false=>none
theorem ay{k:Option β}(h:ifK b k=some t)(p:b=true->k=some t->P):P:=
 Qx (motive:=λ b=>ifK b k=some t->(b=true->k=some t->P)->P) b (λ h J=>am h) (λ h p=>p rfl h) h p
noncomputable def Fn(o:Option AO)(k:Bool->List (List Nat×AV)->Option β):Option β:=(o.bind nI).bind λ p=>k p.1 p.2
noncomputable def Fp(o:Option AO)(k:bN->Option β):Option β:=(o.bind AB).bind k
noncomputable def Fj(o:Option AO)(k:Nat->Nat->Option β):Option β:=(o.bind rq).bind λ p=>k p.1 p.2
noncomputable def Gg(o:Out):Option AV:=(Out.casesOn o (λ x=>some x) none aa aa)
theorem Ar{o:Out}{x:AV}(h:Gg o=some x):o=.v x:=by
 rcases o with⟨⟩<;>first|exact congrArg Out.v (Oy h)|exact am h
noncomputable def Jx(o:Out)(k:AV->Option β):Option β:=(Gg o).bind k
theorem ue{o:Out}{k:AV->Option β}(h:Jx o k=some t)(p:∀ x,o=.v x->k x=some t->P):P:=aw h λ i e h=>p i (Ar e) h
theorem nc{o:Option AO}{k:Bool->List (List Nat×AV)->Option β}(h:Fn o k=some t)(p:∀ b es,o=some (.dct b es)->k b es=some t->P):P:=aw h λ q e h=>p _ _ (vw (c:=λ p=>AO.dct p.1 p.2) il e) h
theorem nG{o:Option AO}{k:bN->Option β}(h:Fp o k=some t)(p:∀ es,o=some (.atd es)->k es=some t->P):P:=aw h λ q e h=>p _ (vw mu e) h
theorem mN{o:Option AO}{k:Nat->Nat->Option β}(h:Fj o k=some t)(p:∀ a b,o=some (.inst a b)->k a b=some t->P):P:=aw h λ q e h=>p _ _ (vw (c:=λ p=>AO.inst p.1 p.2) lh e) h
theorem bB{α:Type u}{o:Option α}(h:o.isSome=true)(p:∀ a,o=some a->P):P:=
 QX (motive:=λ o=>o.isSome=true->(∀ a,o=some a->P)->P) o (λ h J=>OG h) (λ a J p=>p a rfl) h p
noncomputable def Fh(v:AV):Bool:=(AV.casesOn v false (λ b=>b) ag ag ag ag ag ag ag ag ag ag ag false false ag false false aO ag)
noncomputable def Nf(v:AV):Bool:=(kL v).isSome
noncomputable def Lv(o:Option AO):Bool:=(o.bind KN).isSome
theorem jf{v:AV}(h:Fh v=true):v=.bool true:=by
 rcases v with⟨⟩<;>first|exact congrArg AV.bool h|exact OG h
theorem vu{v:AV}(h:Nf v=true):∃ b,v=.bool b:=bB h λ b e=>⟨b,nP e⟩
theorem mO{o:Option AO}(h:Lv o=true):o=some .ila:=bB h λ J e=>vw Gz e
end
theorem nof(h:false=true):P:=OG h
theorem sx(h:(!b)=true):b=false:=Qx (motive:=λ b=>(!b)=true->b=false) b (λ J=>rfl) (λ h=>h.symm) h
noncomputable def isI(n:Int)(v:AV):Bool:=match iG v with
 | some i=>decide (i=n)
 | none=>false
theorem Lm{n:Int}{v:AV}(h:isI n v=true):v=.int n:=by
 unfold isI at h;rcases e:iG v with _|i
 ·rw[e] at h;exact OG h
 ·rw[e] at h;exact(ie e).trans (congrArg AV.int (of_decide_eq_true h))
noncomputable def NV(i:Int):Option Nat:=UD i (λ n=>some n) aa
noncomputable def M0(i:Int):Option Nat:=UD i (λ n=>match n with|0=>none|m+1=>some (m+1)) aa
noncomputable def GO(v:AV):Option Nat:=(iG v).bind NV
theorem uH{v:AV}(h:GO v=some n):v=.int n:=aw h λ i e h=>by
 rw[ie e];rcases i with m|m
 ·exact congrArg (λ m:Nat=>AV.int m) (Oy h)
 ·exact am h
theorem Aq{v:AV}(h:(iG v).bind M0=some n):0<n/\v=.int n:=aw h λ i e h=>by
 rcases i with(_|m)|m
 ·exact am h
 ·obtain rfl:=Oy h;exact⟨Q2 _,ie e⟩
 ·exact am h
inductive Tg where
 | loc (n:Nat)|cel (n:Nat)|tup (l:List Tg)
@[reducible] noncomputable def Tg.ctorIdx(o:Tg):Nat:=Tg.casesOn o (λ J=>0) (λ J=>1) (λ J=>2)
inductive E where
 | cst (v:AV)
 | loc (n:Nat)|cel (n:Nat)
 | bin (o:Operator) (a b:E)
 | not (a:E)|neg (a:E)
 | and (a b:E)|or (a b:E)
 | ite (t a b:E)
 | cmp (o:CmpOp) (a b:E)
 | tup (l:List E)|lst (l:List E)|dic (ks:List AV) (vs:List E)
 | att (o:E) (n:Nat)
 | sub (o i:E)|slc (o lo hi:E)
 | call (f:E) (as:List E)
 | mcall (o:E) (n:Nat) (as:List E)
 | comp (elt:E) (t:Tg) (it:E) (ifs:List E)
@[reducible] noncomputable def E.ctorIdx(o:E):Nat:=E.casesOn o (λ J=>0) (λ J=>1) (λ J=>2) (λ J J J=>3) (λ J=>4) (λ J=>5) (λ J J=>6) (λ J J=>7) (λ J J J=>8) (λ J J J=>9) (λ J=>10) (λ J=>11) (λ J J=>12) (λ J J=>13) (λ J J=>14) (λ J J J=>15) (λ J J=>16) (λ J J J=>17) (λ J J J J=>18)
inductive S where
 | ex (e:E)
 | asg (t:Tg) (e:E)
 | asgR (ts:List Tg) (e:E)
 | asgU (n:Nat) (elt:E) (t:Tg) (it:E) (ifs:List E)
 | asgA (o:E) (n:Nat) (e:E)
 | asgI (o i:E) (e:E)
 | ret (e:E)
 | pass
 | iff (t:E) (a b:List S)
 | for (t:Tg) (it:E) (b:List S)
 | rai (e:E)
 | tri (b:List S) (d:Nat) (n:Nat) (h:List S)
@[reducible] noncomputable def S.ctorIdx(o:S):Nat:=S.casesOn o (λ J=>0) (λ J J=>1) (λ J J=>2) (λ J J J J J=>3) (λ J J J=>4) (λ J J J=>5) (λ J=>6) 7 (λ J J J=>8) (λ J J J=>9) (λ J=>10) (λ J J J J=>11)
structure FnI where
 params:List Nat
 dflt:List AV
 cells:List Nat
 body:List S
inductive CA where
 | no
 | meth (f:Nat)
 | prop (f:Nat)
@[reducible] noncomputable def CA.ctorIdx(o:CA):Nat:=CA.casesOn o 0 (λ J=>1) (λ J=>2)
structure ClsI where
 init:Nat
 isExc:Bool
 ups:List Nat
 attrs:List (Nat×CA)
structure Cfg where
 fns:List (Nat×FnI)
 cls:List (Nat×ClsI)
 gobs:List (Nat×List AV)
 con:List (Nat×(Nat->List AV->Sg->Option (T (Out×Sg))))
 bar:Bool
structure FC where
 fr:Nat
 cells:List (Nat×Nat)
 dep:Nat
inductive Task where
 | e (c:FC) (x:E)
 | t (c:FC) (x:E)
 | ss (c:FC) (b:List S)
 | call (dep:Nat) (f:AV) (args:List AV)
 | loop (c:FC) (target:Tg) (it:AV) (body:List S)
 | comp (c:FC) (target:Tg) (it:AV) (ifs:List E) (elt:E) (acc:Nat)
@[reducible] noncomputable def Task.ctorIdx(o:Task):Nat:=Task.casesOn o (λ J J=>0) (λ J J=>1) (λ J J=>2) (λ J J J=>3) (λ J J J J=>4) (λ J J J J J J=>5)
noncomputable abbrev R:=T (Out×Sg)
noncomputable abbrev Run:=Task->Sg->R
noncomputable def on{α:Type u}(o:Option α)(k:α->R):R:=match o with
 | some a=>k a
 | none=>.stuck 0
noncomputable def aR(b:Bool)(t:R):R:=match b with
 | true=>t
 | false=>.stuck 0
theorem bn{α:Type u}{o:Option α}{k:α->R}{Φ:Out×Sg->Prop}(h:(on o k).Sat Φ)(p:∀ a,o=some a->(k a).Sat Φ->P):P:=
 QX (motive:=λ o=>(on o k).Sat Φ->(∀ a,o=some a->(k a).Sat Φ->P)->P) o (λ h J=>h.elim) (λ a h p=>p a rfl h) h p
theorem az{t:R}{Φ:Out×Sg->Prop}(h:(aR b t).Sat Φ)(p:b=true->t.Sat Φ->P):P:=
 Qx (motive:=λ b=>(aR b t).Sat Φ->(b=true->t.Sat Φ->P)->P) b (λ h J=>h.elim) (λ h p=>p rfl h) h p
noncomputable def aX{α:Type u}(n:Nat):List (Nat×α)->Option α
 | []=>none
 | p::r=>match OC p.1 n with|true=>some p.2|false=>aX n r
noncomputable def t8{β:Type u}(n:Nat)(v:AV):bN->(bN->β)->β
 | [],k=>k [(n,v)]
 | p::r,k=>match OC p.1 n with|true=>k ((n,v)::r)|false=>t8 n v r λ r=>k (p::r)
noncomputable def JR{β:Type u}(n:Nat):bN->(bN->β)->β
 | [],k=>k []
 | p::r,k=>match OC p.1 n with|true=>k r|false=>JR n r λ r=>k (p::r)
noncomputable def app{α:Type}{β:Type u}:List α->List α->(List α->β)->β
 | [],ys,k=>k ys
 | x::xs,ys,k=>app xs ys λ l=>k (x::l)
noncomputable def M6{α γ:Type}{β:Type u}(f:α->γ):List α->(List γ->β)->β
 | [],k=>k []
 | x::xs,k=>M6 f xs λ l=>k (f x::l)
noncomputable def lx(n:Nat)(es:bN):Option AV:=(aX n es).bind td
namespace Sg
noncomputable def get(g:Sg):AV->Option AO
 | .own i=>g.own.get i
 | .frz i=>g.frz.l[i]?
 | _=>none
noncomputable def set(g:Sg)(i:Nat)(o:AO)(k:Sg->R):R:=g.own.put 40 i o λ t=>k ⟨t,g.n,g.frz⟩
noncomputable def newK(g:Sg)(k:Nat->Sg->R)(t:Tr):R:=match g.n+1 with
 | 0=>.stuck 0
 | m+1=>k m ⟨t,m+1,g.frz⟩
noncomputable def new(g:Sg)(o:AO)(k:Nat->Sg->R):R:=aR (O0 g.n 100000) (g.own.put 40 g.n o (newK g k))
end Sg
noncomputable def val(v:AV)(g:Sg):R:=.leaf (.v v,g)
noncomputable def ul(k:AV->Sg->R)(r:Out×Sg):R:=(Out.casesOn r.1 (λ x=>k x r.2) (.stuck 1) (λ J=>.stuck 1) (λ i=>.leaf (.ex i,r.2)))
noncomputable def onV(t:R)(k:AV->Sg->R):R:=t.bind (ul k)
noncomputable def evL(ih:Run)(c:FC):List E->Sg->(List AV->Sg->R)->R
 | [],g,k=>k [] g
 | e::r,g,k=>onV (ih (.e c e) g) λ v g=>evL ih c r g λ vs g=>k (v::vs) g
noncomputable def bI(v:AV):Option (Int×Bool):=(AV.casesOn v none aa aa (λ i=>some (i,true)) (λ i=>some (i,false)) aa aa aa aa aa aa aa aa none none aa none none ai aa)
noncomputable def lS(v:AV):Option (List Nat×Bool):=(AV.casesOn v none aa aa aa aa aa (λ b=>some (b,true)) (λ b=>some (b.map (·.toNat),false)) aa aa aa aa aa none none aa none none ai aa)
noncomputable def mkI(lit:Bool)(i:Int):AV:=match lit with|true=>.int i|false=>.si i
noncomputable def mkB(lit:Bool)(b:Bool):AV:=match lit with|true=>.bool b|false=>.sb b
noncomputable def au:List Nat->List Nat->Bool
 | [],ys=>ys.isEmpty
 |
  x::xs,ys=>match ys with
  | []=>false
  | y::ys=>match OC x y with|true=>au xs ys|false=>false
noncomputable def cZ:List Nat->List Nat->Bool
 | [],ys=>!ys.isEmpty
 |
  x::xs,ys=>match ys with
  | []=>false
  | y::ys=>match OC x y with|true=>cZ xs ys|false=>O0 x y
noncomputable def bJ(a b:Int):Bool:=decide (a=b)
noncomputable def dW(a b:Int):Bool:=decide (a<b)
noncomputable def bY(a b:Int):Bool:=decide (a<=b)
noncomputable def bz(o:Option AO):Option (List AV):=o.bind jI
noncomputable def dR(o:Option AO):Option (List AV):=o.bind ro
noncomputable def bOf(v:AV):Option (Bool×Bool):=(AV.casesOn v none (λ b=>some (b,true)) (λ b=>some (b,false)) aa aa aa aa aa aa aa aa aa aa none none aa none none ai aa)
noncomputable def Ov(p:Bool×Bool)(y:AV):Option AV:=match p.2 with
 | true=>(match p.1 with|true=>some y|false=>some (.bool false))
 |
  false=>(bOf y).bind λ q=>match q.2 with
  | true=>(match q.1 with|true=>some (.sb p.1)|false=>some (.bool false))
  | false=>some (.sb (p.1&&q.1))
noncomputable def NE(x y:AV):Option AV:=(bOf x).bind λ p=>Ov p y
noncomputable def GG(v:AV):Option AV:=(AV.casesOn v none (λ b=>some (.bool !b)) (λ b=>some (.sb !b)) aa aa aa aa aa aa aa aa aa aa none none aa none (some .ub) ai aa)
noncomputable def eqL(eq:AV->AV->Option AV):List AV->List AV->Option AV
 | [],_=>some (.bool true)
 |
  x::xs,ys=>match ys with
  | []=>some (.bool true)
  | y::ys=>(eq x y).bind λ a=>(eqL eq xs ys).bind λ b=>NE a b
noncomputable def yM:List AV->List AV->Bool
 | [],ys=>ys.isEmpty
 |
  _::xs,ys=>match ys with
  | []=>false
  | _::ys=>yM xs ys
noncomputable def DG(eq:AV->AV->Option AV)(xs ys:List AV):Option AV:=match eqL eq xs ys with
 | some r=>(match yM xs ys with|true=>some r|false=>some (.bool false))
 | none=>none
noncomputable def DI(eq:AV->AV->Option AV)(xs ys:List AV):Option AV:=match yM xs ys with
 | false=>some (.bool false)
 | true=>eqL eq xs ys
noncomputable def jh(o:Option AO):Bool:=(o.bind rr).isSome
noncomputable def eqO(eq:AV->AV->Option AV)(a b:Option AO):Option AV:=match bz a with
 | some xs=>(bz b).bind λ ys=>DI eq xs ys
 |
  none=>match dR a with
  | some xs=>(dR b).bind λ ys=>DG eq xs ys
  | none=>ifK (jh a) ((bz b).bind λ ys=>ifK ys.isEmpty (some (.bool false)))
noncomputable def eqI(x:Int)(l:Bool)(v:AV):Option AV:=(AV.casesOn v (some (.bool false)) aa aa (λ j=>some (mkB l (bJ x j))) (λ j=>some (.sb (bJ x j))) aa (λ J=>some (.bool false)) (λ J=>some (.bool false)) aa aa aa aa aa none none aa none none ai aa)
noncomputable def eqB(x:Bool)(l:Bool)(v:AV):Option AV:=(AV.casesOn v none (λ j=>some (mkB l (x==j))) (λ j=>some (.sb (x==j))) aa aa aa aa aa aa aa aa aa aa none none aa none none ai aa)
noncomputable def eqY(x:List Nat)(l:Bool)(v:AV):Option AV:=(AV.casesOn v (some (.bool false)) aa aa (λ J=>some (.bool false)) (λ J=>some (.bool false)) aa (λ j=>some (mkB l (au x j))) (λ j=>some (.sb (au x (j.map (·.toNat))))) aa aa aa aa aa none none aa none none ai aa)
noncomputable def eqN(v:AV):Option AV:=(AV.casesOn v (some (.bool true)) aa aa (λ J=>some (.bool false)) (λ J=>some (.bool false)) (λ J=>some (.bool false)) (λ J=>some (.bool false)) (λ J=>some (.bool false)) aa aa aa aa aa none none aa none none ai aa)
noncomputable def eqT(t i j:Nat)(v:AV):Option AV:=tiK v λ t' i' j'=>ifK (OC t t'&&OC i i'&&OC j j') (some (.bool true))
noncomputable def bp:List Nat:=[105,110,116,101,103,101,114]
noncomputable def bq:List Nat:=[98,111,111,108,101,97,110]
noncomputable def eqK(v:AV):Option AV:=(AV.casesOn v none aa aa aa aa (λ s=>ifK (au s bp||au s bq) (some (.bool false))) aa aa aa aa aa aa aa none none aa none none ai (λ J=>some .ub))
noncomputable def eqS(x:List Nat)(v:AV):Option AV:=(AV.casesOn v none aa aa aa aa (λ j=>some (.bool (au x j))) aa aa aa aa aa aa aa none none aa none none ai (λ J=>ifK (au x bp||au x bq) (some (.bool false))))
noncomputable def rpQ(f:List AV->List AV->Bool)(x y:AV):Option Unit:=(AV.casesOn x none (λ a=>zN y λ b=>ifK (a==b) (some ())) aa (λ a=>Hw y λ b=>ifK (bJ a b) (some ())) aa (λ a=>xd y λ b=>ifK (au a b) (some ())) aa aa aa aa aa aa (λ a=>rpK y λ b=>ifK (f a b) (some ())) none none aa none none (λ t i j=>tiK y λ t' i' j'=>ifK (OC t t'&&OC i i'&&OC j j') (some ())) aa)
noncomputable def MX(f:List AV->List AV->Bool)(x y:AV):Bool:=(rpQ f x y).isSome
noncomputable def t4:Nat->List AV->List AV->Bool
 | 0,xs,ys=>xs.isEmpty&&ys.isEmpty
 |
  n+1,xs,ys=>match xs with
  | []=>ys.isEmpty
  |
   x::xs=>(match ys with
   | []=>false
   | y::ys=>MX (t4 n) x y&&t4 n xs ys)
noncomputable def eqV(g:Sg):Nat->AV->AV->Option AV
 | 0,_,_=>none
 | n+1,x,y=>(AV.casesOn x (eqN y) (λ b=>eqB b true y) (λ b=>eqB b false y) (λ i=>eqI i true y) (λ i=>eqI i false y) (λ s=>eqS s y) (λ b=>eqY b true y) (λ b=>eqY (b.map (·.toNat)) false y) (λ J=>eqO (eqV g n) (g.get x) (g.get y)) (λ J=>eqO (eqV g n) (g.get x) (g.get y)) (λ J=>eqO (eqV g n) (g.get x) (g.get y)) (λ J=>eqO (eqV g n) (g.get x) (g.get y)) (λ a=>rpK y λ b=>ifK (t4 30 a b) (some (.bool true))) (eqO (eqV g n) (g.get x) (g.get y)) (eqO (eqV g n) (g.get x) (g.get y)) (λ J=>eqO (eqV g n) (g.get x) (g.get y)) (eqO (eqV g n) (g.get x) (g.get y)) (eqO (eqV g n) (g.get x) (g.get y)) (λ t i j=>eqT t i j y) (λ J=>eqK y))
noncomputable def oF(v:AV):Bool:=(AV.casesOn v (true) ag ag ag ag ag ag ag ag ag ag ag ag false false ag false false aO ag)
noncomputable def CH(v:AV):Bool:=(AV.casesOn v false ag ag ag ag (λ J=>true) (λ J=>true) ag (λ J=>true) (λ J=>true) (λ J=>true) ag ag false false ag false false aO ag)
noncomputable def isV(x y:AV):Option AV:=match oF y with
 | true=>(match oF x with|true=>some (.bool true)|false=>ifK (CH x) (some (.bool false)))
 |
  false=>match jW x with
  | some i=>j6 y λ j=>ifK (OC i j) (some (.bool true))
  | none=>nK x λ i=>nK y λ j=>ifK (OC i j) (some (.bool true))
noncomputable def Fa(o:Option AO):Option (List AV):=match o.bind jI with
 | some xs=>some xs
 | none=>o.bind ro
noncomputable def dJ(cfg:Cfg)(g:Sg)(v:AV):Option (List AV):=match dc v with
 | some a=>aX a cfg.gobs
 | none=>Fa (g.get v)
noncomputable def N6(o:Option AO):Option Nat:=match Fa o with
 | some xs=>some xs.length
 | none=>o.bind Aw
noncomputable def M9(cfg:Cfg)(g:Sg)(v:AV):Option Nat:=match qX v with
 | some b=>some b.length
 |
  none=>match dc v with
  | some a=>(aX a cfg.gobs).map (·.length)
  | none=>N6 (g.get v)
noncomputable def onT(v:AV)(cfg:Cfg)(g:Sg)(k:Bool->R):R:=(AV.casesOn v (.stuck 2) (λ b=>k b) (λ b=>.split b (k true) (k false)) (λ J=>.stuck 2) (λ J=>.stuck 2) (λ J=>.stuck 2) (λ J=>.stuck 2) (λ J=>.stuck 2) (λ J=>.stuck 2) (λ J=>.stuck 2) (λ J=>.stuck 2) (λ J=>.stuck 2) (λ J=>.stuck 2) (.stuck 2) (.stuck 2) (λ J=>.stuck 2) (.stuck 2) (.both (k true) (k false)) (λ J J J=>.stuck 2) (λ J=>.stuck 2))
noncomputable def tJ:List AV->Option (List (List Nat))
 | []=>some []
 | x::r=>xd x λ s=>(tJ r).bind λ l=>some (s::l)
noncomputable def wU(x:List Nat):List (List Nat)->Bool
 | []=>false
 | y::r=>au y x||wU x r
noncomputable def J2:List (List Nat)->Bool
 | []=>true
 | s::r=>(au s bp||au s bq)&&J2 r
noncomputable def GZ(x:AV)(ss:List (List Nat)):Option AV:=(AV.casesOn x none aa aa aa aa (λ s=>some (.bool (wU s ss))) aa aa aa aa aa aa aa none none aa none none ai (λ J=>ifK (J2 ss) (some (.bool false))))
noncomputable def K6(x:AV)(l:List AV):Option AV:=(tJ l).bind (GZ x)
noncomputable def kF(v:AV):Bool:=(AV.casesOn v false ag ag (λ J=>true) (λ J=>true) ag ag ag ag ag ag ag ag false false (λ J=>true) (true) false aO ag)
noncomputable def Gi(fi:Int->Int->Bool)(x y:AV):Option AV:=match two (bI x) (bI y) with
 | some p=>some (mkB (p.1.2&&p.2.2) (fi p.1.1 p.2.1))
 | none=>ifK (kF x&&kF y) (some .ub)
noncomputable def Jy(fi:Int->Int->Bool)(fb:List Nat->List Nat->Bool)(x y:AV):Option AV:=match two (lS x) (lS y) with
 | some p=>some (mkB (p.1.2&&p.2.2) (fb p.1.1 p.2.1))
 | none=>Gi fi x y
noncomputable def oJ(v:AV):Bool:=(bI v).isSome
noncomputable def kl(v:AV):Bool:=(AV.casesOn v false ag ag ag ag (λ J=>true) ag ag ag ag ag ag ag false false ag false false aO (λ J=>true))
noncomputable def gY(v:AV):Bool:=(AV.casesOn v false (λ J=>true) (λ J=>true) ag ag ag ag ag ag ag ag ag ag false false ag false false aO ag)
noncomputable def lE(v:AV):Bool:=(jW v).isSome
noncomputable def neK(x y:AV):Bool:=match kl x&&kl y with
 | true=>true
 |
  false=>match gY x&&gY y with
  | true=>true
  |
   false=>match lE x&&lE y with
   | true=>true
   | false=>oJ x&&oJ y
noncomputable def LQ(cfg:Cfg)(g:Sg)(op:CmpOp)(x y:AV):Option AV:=match op with
 | .Eq=>eqV g 12 x y
 | .NotEq=>ifK (neK x y) ((eqV g 12 x y).bind GG)
 | .Is=>isV x y
 | .IsNot=>(isV x y).bind GG
 | .In=>(dJ cfg g y).bind (K6 x)
 | .NotIn=>((dJ cfg g y).bind (K6 x)).bind GG
 | .Lt=>Jy dW cZ x y
 | .Gt=>Jy (λ a b=>dW b a) (λ a b=>cZ b a) x y
 | .LtE=>Gi bY x y
 | .GtE=>Gi (λ a b=>bY b a) x y
noncomputable def jJ(lit b:Bool)(t:R):R:=match lit with
 | true=>(match b with|true=>t|false=>.stuck 97)
 | false=>.need b t
noncomputable def bP(i:Int):Bool:=O0 i.natAbs 18446744073709551616
noncomputable def NB(op:Operator)(l:Bool)(i j:Int)(g:Sg):R:=match op with
 | .Add=>val (mkI l (i+j)) g
 | .Sub=>val (mkI l (i-j)) g
 | .Mult=>jJ l (bP i||bP j) (val (mkI l (i*j)) g)
 | .Mod=>jJ l (!(bJ j 0)) (val (mkI l (Int.fmod i j)) g)
 | .FloorDiv=>jJ l (!(bJ j 0)&&bP j) (val (mkI l (Int.fdiv i j)) g)
 | .Pow=>jJ l (bY 0 j&&bY j 64&&bP i) (val (mkI l (i^j.toNat)) g)
 | .LShift=>jJ l (bY 0 j&&bY j 64&&bP i) (val (mkI l (i*2^j.toNat)) g)
 | .RShift=>jJ l (bY 0 j) (val (mkI l (Int.fdiv i (2^j.toNat))) g)
 | .BitAnd=>val (mkI l (ON i j)) g
 | .BitOr=>val (mkI l (RI i j)) g
 | .BitXor=>val (mkI l (UI i j)) g
 | _=>.stuck 3
noncomputable def ud(g:Sg)(v:AV):Option (List AV):=(jW v).bind λ i=>(g.own.get i).bind jI
noncomputable def sz(xs:List AV):Bool:=O0 xs.length 100000
noncomputable def Nk(o:AO):Bool:=(AO.casesOn o (λ xs=>sz xs) (λ xs=>sz xs) (λ J J=>true) (λ J=>true) (λ J=>true) (λ J es=>O0 es.length 100000) (λ b=>O0 b.length 100000) (λ J=>true) (λ J J=>true) (λ J J=>true) (λ J J=>true) (λ J J=>true) (λ J J=>true) (λ J J=>true) (λ J J J J=>true) (λ J J=>true) true (λ J J=>true) (λ J=>true) true true true true (λ J=>true) (λ J J=>true) (λ J=>true) (λ J=>true) (λ J J=>true) (λ J=>true) true)
noncomputable def fj(g:Sg)(o:AO):R:=aR (Nk o) (g.new o λ n g=>val (.own n) g)
noncomputable def kS(g:Sg)(i:Nat)(l:List AV)(k:Sg->R):R:=aR (sz l) (g.set i (.lst l) k)
noncomputable def Jw:Nat->List AV->(List AV->R)->R
 | 0,_,k=>k []
 | n+1,xs,k=>Jw n xs λ l=>app xs l k
noncomputable def Mg(op:Operator)(xs:List AV)(y:AV)(g:Sg):R:=(SD op (on (ud g y) λ ys=>app xs ys λ l=>fj g (.lst l)) (.stuck 6) (on (iG y) λ j=>jJ true (O0 j.natAbs 1000000) (Jw j.toNat xs λ l=>fj g (.lst l))) (.stuck 6) (.stuck 6) (.stuck 6) (.stuck 6) (.stuck 6) (.stuck 6) (.stuck 6) (.stuck 6) (.stuck 6) (.stuck 6))
noncomputable def NA(op:Operator)(x y:AV)(g:Sg):R:=on (ud g x) λ xs=>Mg op xs y g
noncomputable def MP(x y:AV)(g:Sg):R:=on (vRg x) λ m=>on (iG y) λ c=>.all λ i=>.asm (bY 0 i&&dW i m) (val (.si (i-c)) g)
noncomputable def Fb(v:AV):Option Nat:=(iG v).bind M0
noncomputable def NC(op:Operator)(x y:AV)(g:Sg):R:=(SD op (val .an g) (MP x y g) (on (iG y) λ c=>jJ true (bP c) (val .an g)) (.stuck 133) (.stuck 133) (on (Fb y) λ m=>val (.rg m) g) (.stuck 133) (.stuck 133) (.stuck 133) (.stuck 133) (.stuck 133) (.stuck 133) (on (Fb y) λ m=>jJ true (bP m) (val .an g)))
noncomputable def Js(v:AV):Option Nat:=Jt v some
noncomputable def Oc(v:AV):Bool:=isI (-1) v
noncomputable def Mf(op:Operator)(i j:Nat)(g:Sg):R:=(SD op (.stuck 134) (.stuck 134) (.stuck 134) (.stuck 134) (.stuck 134) (.stuck 134) (.stuck 134) (.stuck 134) (.stuck 134) (val (.ti 2 i j) g) (val (.ti 3 i j) g) (val (.ti 1 i j) g) (.stuck 134))
noncomputable def Me(op:Operator)(j:Nat)(g:Sg):R:=(SD op (.stuck 135) (val (.ti 5 j j) g) (.stuck 135) (.stuck 135) (.stuck 135) (.stuck 135) (.stuck 135) (.stuck 135) (.stuck 135) (.stuck 135) (.stuck 135) (.stuck 135) (.stuck 135))
noncomputable def Nz(op:Operator)(x y:AV)(g:Sg):R:=on (Js y) λ j=>match Js x with
 | some i=>Mf op i j g
 | none=>aR (Oc x) (Me op j g)
noncomputable def Hk(v:AV):Bool:=(vTi v).isSome
noncomputable def JY(op:Operator)(x y:AV)(g:Sg):R:=match two (bI x) (bI y) with
 | some p=>NB op (p.1.2&&p.2.2) p.1.1 p.2.1 g
 |
  none=>match kF x&&kF y with
  | true=>NC op x y g
  |
   false=>match Hk y with
   | true=>Nz op x y g
   | false=>NA op x y g
noncomputable def idx(n:Nat)(i:Int):Option Nat:=ifK (O0 n 1000000) (UD i (λ m=>ifK (O0 m n) (some m)) (λ m=>ifK (O0 m n) (some (n-1-m))))
noncomputable def clI(n:Nat)(i:Int):Nat:=UD i (λ m=>min m n) (λ m=>n-1-m)
noncomputable def kz(n d:Nat)(v:AV):Option Nat:=(AV.casesOn v (some d) aa aa (λ i=>some (clI n i)) aa aa aa aa aa aa aa aa aa none none aa none none ai aa)
noncomputable def lZ{α:Type}(l:List α)(a b:Nat):List α:=(l.take b).drop a
noncomputable def oC(v:AV)(o:Option AO):Bool:=(dc v).isSome||(o.bind ro).isSome
noncomputable def LP(g:Sg):Nat->R
 | 0=>fj g (.lst [])
 | n+1=>.both (fj g (.lst (Pz (n+1) .an))) (LP g n)
noncomputable def Al(g:Sg)(xs:List AV)(lo hi:AV):R:=aR (oF lo) (on (GO hi) λ m=>aR (O0 m xs.length) (app (xs.take m) [] λ l=>fj g (.tup l)))
noncomputable def AK(g:Sg)(xs:List AV)(lo hi:AV):R:=on (two (kz xs.length 0 lo) (kz xs.length xs.length hi)) λ p=>app (lZ xs p.1 p.2) [] λ l=>fj g (.lst l)
noncomputable def Bj(g:Sg)(bs:List Nat)(lo hi:AV):R:=aR (O0 bs.length 100000) (aR (oJ lo&&oJ hi) (on (two (kz bs.length 0 lo) (kz bs.length bs.length hi)) λ p=>app (lZ bs p.1 p.2) [] λ l=>fj g (.bar l)))
noncomputable def mh(g:Sg)(ob:Option AO)(lo hi:AV):R:=match ob.bind pV with
 | some bs=>Bj g bs lo hi
 |
  none=>match ob.bind Ff with
  | some _=>aR (oF lo&&isI 0 hi) (fj g (.lst []))
  | none=>on (ob.bind JC) λ J=>aR (oF lo&&isI 40 hi) (LP g 40)
noncomputable def iW(cfg:Cfg)(g:Sg)(o lo hi:AV):R:=match dJ cfg g o with
 | some xs=>aR (sz xs) (match oC o (g.get o) with|true=>Al g xs lo hi|false=>AK g xs lo hi)
 | none=>mh g (g.get o) lo hi
noncomputable def jK(l:List Nat):List (List Nat×AV)->Option AV
 | []=>none
 | p::r=>match au p.1 l with|true=>some p.2|false=>jK l r
noncomputable def ow(b:Bool)(v:AV):Option (List Nat):=(AV.casesOn v none aa aa aa aa (λ l=>ifK (!b) (some l)) (λ l=>ifK b (some l)) aa aa aa aa aa aa none none aa none none ai aa)
noncomputable def Nl(o:Option (Int×Int)):Bool:=match o with|some p=>bJ p.1 p.2|none=>false
noncomputable def v6(x:AV):List AV->Bool
 | []=>false
 | y::r=>Nl (two (iG x) (iG y))||v6 x r
noncomputable def rk(g:Sg):Nat->List AV->List AV->R
 | 0,_,_=>.asm false (.stuck 138)
 |
  n+1,l,seen=>match l with
  | []=>.stuck 139
  |
   x::r=>match v6 x seen with
   | true=>rk g n r seen
   | false=>.both (val x g) (rk g n r (x::seen))
noncomputable def code:List Nat->Nat->Nat
 | [],a=>a
 | c::r,a=>code r (a*2097152+(c+1))
noncomputable def ri(g:Sg):R:=app g.frz.l [.otp g.frz.nd (g.frz.l.length+1),.oth g.frz.nd] λ l=>val (.frz g.frz.l.length) ⟨g.own,g.n,⟨l,g.frz.nd+1,g.frz.facts⟩⟩
noncomputable def Dk(g:Sg)(i:AV)(o:Option AO):R:=match o.bind Aw with
 | some n=>on (vRg i) λ m=>aR (P5 m n&&O0 m 1000000) (ri g)
 | none=>on (o.bind Gw) λ p=>aR (isI 0 i) (val (.frz p.2) g)
noncomputable def Lj(g:Sg)(i:AV)(v:AV):R:=on (qW v) λ j=>Dk g i g.frz.l[j]?
noncomputable def yZ(g:Sg)(o i:AV)(ob:Option AO):R:=match ob.bind nI with
 | some p=>on (ow p.1 i) λ l=>on (jK l p.2) λ v=>val v g
 | none=>Lj g i o
noncomputable def Dj(g:Sg)(xs:List AV)(i:AV):R:=match iG i with
 | some j=>on (idx xs.length j) λ n=>on xs[n]? λ v=>val v g
 | none=>on (vRg i) λ m=>aR (O0 m 1000000) (rk g m xs [])
noncomputable def oz(cfg:Cfg)(g:Sg)(o i:AV):R:=match dJ cfg g o with
 | some xs=>Dj g xs i
 | none=>yZ g o i (g.get o)
noncomputable def sv(o:Option AO):Option bN:=o.bind oNs
noncomputable def M8(c:FC)(g:Sg)(n:Nat):R:=on (sv (g.own.get c.fr)) λ es=>on (lx n es) λ v=>val v g
noncomputable def Nw(c:FC)(g:Sg)(n:Nat):R:=on (aX n c.cells) λ i=>on ((g.own.get i).bind JF) λ v=>aR (!isHid v) (val v g)
noncomputable def xW(c:FC)(g:Sg)(n:Nat)(v:AV)(k:Sg->R):R:=on (sv (g.own.get c.fr)) λ es=>t8 n v es λ es=>g.set c.fr (.ns es) k
noncomputable def FX(c:FC)(g:Sg)(n:Nat)(v:AV)(k:Sg->R):R:=on (aX n c.cells) λ i=>on ((g.own.get i).bind JF) λ J=>g.set i (.cel v) k
noncomputable def Dp(g:Sg)(o:AV)(c d:Nat):Option (Nat×Nat×bN):=((match lE o with|true=>g.own.get d|false=>g.frz.l[d]?).bind AB).map λ es=>(c,d,es)
noncomputable def Ls(g:Sg)(o:AV)(ob:Option AO):Option (Nat×Nat×bN):=(ob.bind rq).bind λ p=>Dp g o p.1 p.2
noncomputable def HI(g:Sg)(o:AV)(ob:Option AO):Option (Nat×Nat×bN):=(ob.bind Az).bind λ p=>ifK (lE o) (Dp g o p.1 p.2)
noncomputable def fu(g:Sg)(o:AV):Option (Nat×Nat×bN):=Ls g o (g.get o)
noncomputable def dF(cfg:Cfg)(b:Bool)(c:Nat)(n:Nat):Option CA:=(aX c cfg.cls).bind λ ci=>ifK (ci.isExc==b) (aX n ci.attrs)
noncomputable def dC:Nat:=nm "kind"
noncomputable def cQ:Nat:=nm "value"
noncomputable def yp(n:Nat)(g:Sg)(m:Nat)(x y:AV):R:=match OC n dC with
 | true=>val x g
 | false=>aR (OC n cQ) (val y g)
noncomputable def Cw(n:Nat)(g:Sg)(o:Option AO):R:=match o.bind Fd with
 | some m=>yp n g m (.str bp) (.ti 0 m m)
 |
  none=>match o.bind Fe with
  | some p=>yp n g p.1 (.str bq) (.bool p.2)
  | none=>on (o.bind KM) λ m=>aR (OC n dC) (val (.kd m) g)
noncomputable def Ks{β:Type u}:List AO->Nat->AO->(List AO->β)->β
 | [],_,_,k=>k []
 |
  x::r,n,o,k=>match n with
  | 0=>k (o::r)
  | n+1=>Ks r n o λ l=>k (x::l)
noncomputable def B7(g:Sg)(j:Nat)(o:AO)(k:Sg->R):R:=Ks g.frz.l j o λ l=>k ⟨g.own,g.n,⟨l,g.frz.nd,g.frz.facts⟩⟩
noncomputable def lf(g:Sg)(j:Nat)(k:Option AO->Sg->R):R:=match (g.frz.l[j]?).bind JD with
 | some m=>.both (B7 g j (.oti m) (k (some (.oti m)))) (.both (B7 g j (.otb m true) (k (some (.otb m true)))) (.both (B7 g j (.otb m false) (k (some (.otb m false)))) (B7 g j (.otx m) (k (some (.otx m))))))
 | none=>k g.frz.l[j]? g
noncomputable def Ml(g:Sg)(n:Nat)(v:AV):R:=on (qW v) λ j=>lf g j λ o g=>Cw n g o
noncomputable def fo(t i j:Nat):List (Nat×Nat×Nat×Bool)->Option Bool
 | []=>none
 | p::r=>match OC t p.1&&OC i p.2.1&&OC j p.2.2.1 with|true=>some p.2.2.2|false=>fo t i j r
noncomputable def eK(g:Sg)(t i j:Nat)(k:Bool->Sg->R):R:=match fo t i j g.frz.facts with
 | some b=>k b g
 | none=>.both (k true ⟨g.own,g.n,⟨g.frz.l,g.frz.nd,(t,i,j,true)::g.frz.facts⟩⟩) (k false ⟨g.own,g.n,⟨g.frz.l,g.frz.nd,(t,i,j,false)::g.frz.facts⟩⟩)
noncomputable def ij(v:AV):Bool:=(AV.casesOn v true (λ J=>true) (λ J=>true) (λ J=>true) (λ J=>true) (λ J=>true) (λ J=>true) (λ J=>true) (λ J=>true) (λ J=>true) (λ J=>true) ag (λ J=>true) true (false) (λ J=>true) true true (λ J J J=>true) (λ J=>true))
noncomputable def Cu(r:Out×Sg):R:=on (Gg r.1) λ x=>aR (ij x) (.leaf r)
noncomputable def vt(c:CA):Bool:=(CA.casesOn c (true) ag ag)
noncomputable def Bc(c:CA):Option Nat:=(CA.casesOn c none (λ f=>some f) aa)
noncomputable def Mm(cfg:Cfg)(ih:Run)(dep:Nat)(g:Sg)(o:AV)(n c:Nat)(es:bN):R:=on (dF cfg false c n) λ ca=>(CA.casesOn ca (on (lx n es) λ v=>aR (ij v) (val v g)) (λ J=>.stuck 26) (λ f=>(ih (.call dep (.glob f) [o]) g).bind Cu))
noncomputable def Mk(cfg:Cfg)(g:Sg)(n c:Nat)(es:bN):R:=on (dF cfg true c n) λ ca=>aR (vt ca) (on (lx n es) λ v=>aR (ij v) (val v g))
noncomputable def iL(cfg:Cfg)(ih:Run)(dep:Nat)(g:Sg)(o:AV)(n:Nat):R:=match fu g o with
 | some p=>Mm cfg ih dep g o n p.1 p.2.2
 |
  none=>match HI g o (g.get o) with
  | some p=>Mk cfg g n p.1 p.2.2
  | none=>Ml g n o
noncomputable def MR(cfg:Cfg)(g:Sg)(i n:Nat)(v:AV)(k:Sg->R)(o:Option AO):R:=on (o.bind CD) λ c=>on (dF cfg true c n) λ ca=>aR (vt ca) (g.new (.atd []) λ d g=>g.set i (.exc c d) λ g=>t8 n v [] λ es=>g.set d (.atd es) k)
noncomputable def fV(cfg:Cfg)(g:Sg)(o:AV)(n:Nat)(v:AV)(k:Sg->R):R:=on (jW o) λ i=>match fu g o with
 | some p=>on (dF cfg false p.1 n) λ ca=>aR (vt ca&&(O0 p.2.2.length 1000&&tc (aX n p.2.2))) (t8 n v p.2.2 λ es=>g.set p.2.1 (.atd es) k)
 | none=>MR cfg g i n v k (g.own.get i)
noncomputable def Gc(l:List Nat)(v:AV):List (List Nat×AV)->Option (List (List Nat×AV))
 | []=>none
 |
  p::r=>match au p.1 l with
  | true=>some ((p.1,v)::r)
  | false=>(Gc l v r).map λ r=>p::r
noncomputable def kT(g:Sg)(o i v:AV)(k:Sg->R):R:=on (jW o) λ d=>on ((g.own.get d).bind nI) λ p=>on (ow p.1 i) λ l=>on (Gc l v p.2) λ es'=>aR (O0 p.2.length 100000) (g.set d (.dct p.1 es') k)
noncomputable def asgN(c:FC)(t:Tg)(v:AV)(g:Sg)(k:Sg->R):R:=match t with
 | .loc n=>xW c g n v k
 | .cel n=>FX c g n v k
 | .tup _=>.stuck 33
noncomputable def xm(c:FC):List Tg->List AV->Sg->(Sg->R)->R
 | [],vs,g,k=>(match vs with | []=>k g|_::_=>.stuck 34)
 |
  t::ts,vs,g,k=>match vs with
  | []=>.stuck 34
  | v::vs=>asgN c t v g λ g=>xm c ts vs g k
noncomputable def Bl(cfg:Cfg)(c:FC)(t:Tg)(v:AV)(g:Sg)(k:Sg->R):R:=match t with
 | .tup ts=>on (dJ cfg g v) λ xs=>aR (OC xs.length ts.length&&OC (c.dep/1000) 0) (xm c ts xs g k)
 | .loc n=>asgN c (.loc n) v g k
 | .cel n=>asgN c (.cel n) v g k
noncomputable def gy:List Nat->List AV->bN
 | [],_=>[]
 |
  p::ps,vs=>match vs with
  | []=>[]
  | v::vs=>(p,v)::gy ps vs
noncomputable def lQ:List Nat->bN->List (Nat×Nat)->Sg->(bN->List (Nat×Nat)->Sg->R)->R
 | [],loc,cs,g,k=>k loc cs g
 |
  n::r,loc,cs,g,k=>match aX n loc with
  | some v=>g.new (.cel v) λ i g=>JR n loc λ loc=>lQ r loc ((n,i)::cs) g k
  | none=>g.new (.cel .hid) λ i g=>lQ r loc ((n,i)::cs) g k
noncomputable def yb(r:Out×Sg):R:=(Out.casesOn r.1 (λ J=>.stuck 36) (.leaf (.v .none,r.2)) (λ v=>.leaf (.v v,r.2)) (λ i=>.leaf (.ex i,r.2)))
noncomputable def qI(ih:Run)(dep:Nat)(f:FnI)(args:List AV)(g:Sg):R:=aR (O0 (dep%1000) 60) (app args (f.dflt.drop (f.dflt.length-(f.params.length-args.length))) λ args=>aR (OC args.length f.params.length) (lQ f.cells (gy f.params args) [] g λ loc cs g=>g.new (.ns loc) λ fr g=>(ih (.ss ⟨fr,cs,dep+1⟩ f.body) g).bind yb))
noncomputable def Dg:List AV->Option (List Nat)
 | []=>some []
 | x::r=>xd x λ s=>(Dg r).map λ l=>s++l
noncomputable def byS:List AV->Option (List Nat)
 | []=>some []
 | x::r=>(GO x).bind λ i=>ifK (O0 i 256) ((byS r).map λ l=>i::l)
noncomputable def J0:List AV->Option AV
 | []=>some (.bool true)
 | x::r=>zN x λ b=>(J0 r).map λ y=>match b with|true=>y|false=>.bool false
noncomputable def Ju:List AV->Option (Int×Bool)
 | []=>some (0,true)
 | x::r=>(two (bI x) (Ju r)).map λ p=>(p.1.1+p.2.1,p.1.2&&p.2.2)
noncomputable def Db(i:Int):Bool:=O0 i.natAbs 8589934592
noncomputable def yO(x:AV):Bool:=(AV.casesOn x false (λ J=>true) (λ J=>true) (λ i=>Db i) (λ i=>Db i) (λ l=>O0 l.length 100&&l.all λ c=>O0 c 1000000) ag ag ag ag ag ag ag false false ag false false (λ J J J=>true) ag)
noncomputable def Jv(g:Sg):List AV->Option (List AV)
 | []=>some []
 | x::r=>j6 x λ i=>((g.own.get i).bind ro).bind λ xs=>ifK (xs.all yO&&O0 xs.length 20) ((Jv g r).map λ l=>.rp xs::l)
noncomputable def rpL(g:Sg)(xs:List AV):Option (List AV):=ifK (O0 xs.length 400) (Jv g xs)
noncomputable def jk(d:Nat)(t:R):R:=aR (OC (d/1000) 0) t
noncomputable def JN(b:List Nat):Bool:=O0 b.length 100000
noncomputable def wE(d:Nat)(g:Sg)(o:Option AO):R:=match o.bind pV with
 | some b=>aR (JN b) (val (.byt b) g)
 | none=>on ((o.bind jI).bind byS) λ b=>aR (JN b) (jk d (val (.byt b) g))
noncomputable def zR(g:Sg)(x:AV):R:=match qX x with
 | some b=>fj g (.bar b)
 | none=>on ((g.get x).bind pV) λ b=>fj g (.bar b)
noncomputable def IP(g:Sg)(x:AV):R:=on ((iF x).bind single) λ c=>val (.int c) g
noncomputable def IR(g:Sg)(x:AV):R:=on (GO x) λ i=>aR (O0 i 1000000) (val (.str [i]) g)
noncomputable def pK(g:Sg):Nat->R
 | 0=>.asm false (.stuck 145)
 | n+1=>.both (fj g (.rng 0 n)) (pK g n)
noncomputable def IN(g:Sg)(x:AV):R:=match iG x with
 | some i=>fj g (.rng 0 i)
 | none=>on (vRg x) λ m=>pK g m
noncomputable def bi1(cfg:Cfg)(d:Nat)(b:Bi)(x:AV)(g:Sg):R:=(Bi.casesOn b (on (M9 cfg g x) λ v=>aR (O0 v 1000000) (val (.int v) g)) (.stuck 52) (IP g x) (IR g x) (.stuck 52) (.stuck 52) (on (bI x) λ p=>val (mkI p.2 p.1.natAbs) g) (on ((bz (g.get x)).bind (rpL g)) λ l=>val (.rp l) g) (on ((bz (g.get x)).bind J0) λ v=>jk d (val v g)) (on ((bz (g.get x)).bind Ju) λ p=>jk d (val (mkI p.2 p.1) g)) (aR (kF x) (val x g)) (wE d g (g.get x)) (aR cfg.bar (zR g x)) (on (dJ cfg g x) λ xs=>fj g (.lst xs)) (on (bz (g.get x)) λ xs=>fj g (.tup xs)) (.stuck 52) (IN g x) (.stuck 52))
noncomputable def Hu(b:Bi):Bool:=(Bi.casesOn b false false false false false false false false false false false false false false false false false (true))
noncomputable def IQ(g:Sg)(x y:AV):R:=on (vBi y) λ b=>aR (Hu b) (match iF x with
 | some _=>val (.bool true) g
 | none=>on (jW x) λ i=>on ((g.own.get i).bind ro) λ J=>val (.bool false) g)
noncomputable def bi2(d:Nat)(b:Bi)(x y:AV)(g:Sg):R:=(Bi.casesOn b (.stuck 58) (IQ g x y) (.stuck 58) (.stuck 58) (on (two (bI x) (bI y)) λ p=>jk d (val (mkI (p.1.2&&p.2.2) (max p.1.1 p.2.1)) g)) (on (two (bI x) (bI y)) λ p=>jk d (val (mkI (p.1.2&&p.2.2) (min p.1.1 p.2.1)) g)) (.stuck 58) (.stuck 58) (.stuck 58) (.stuck 58) (.stuck 58) (.stuck 58) (.stuck 58) (.stuck 58) (.stuck 58) (on (two (bz (g.get x)) (bz (g.get y))) λ J=>g.new (.itL x 0) λ n g=>g.new (.itL y 0) λ m g=>g.new (.prA n m) λ ti g=>g.new .prB λ to g=>fj g (.zip n m ti to)) (.stuck 58) (.stuck 58))
noncomputable def qJ(cfg:Cfg)(d:Nat)(b:Bi)(args:List AV)(g:Sg):R:=match single args with
 | some x=>bi1 cfg d b x g
 | none=>on (jG args) λ p=>bi2 d b p.1 p.2 g
noncomputable def jZ(cfg:Cfg)(c d:Nat):Bool:=match OC c d with
 | true=>true
 | false=>match aX c cfg.cls with|some ci=>ci.ups.any (OC d)|none=>false
noncomputable def Dr(x:Nat)(r:AV)(g:Sg):R:=aR (oF r) (val (.own x) g)
noncomputable def Hq(o:Option AO):Bool:=(o.bind Az).isSome
noncomputable def HA(x:Nat)(r:AV)(g:Sg):R:=aR (oF r&&Hq (g.own.get x)) (val (.own x) g)
noncomputable def CX(ih:Run)(dep:Nat)(a:Nat)(ci:ClsI)(args:List AV)(g:Sg):R:=aR (O0 (dep%1000) 60&&O0 args.length 1000) (g.new (.exc0 a) λ x g=>onV (ih (.call (dep+1) (.glob ci.init) (.own x::args)) g) (HA x))
noncomputable def CY(ih:Run)(dep:Nat)(a:Nat)(ci:ClsI)(args:List AV)(g:Sg):R:=aR (O0 (dep%1000) 60) (g.new (.atd []) λ d g=>g.new (.inst a d) λ x g=>onV (ih (.call (dep+1) (.glob ci.init) (.own x::args)) g) (Dr x))
noncomputable def yF(ih:Run)(dep:Nat)(a:Nat)(ci:ClsI)(args:List AV)(g:Sg):R:=match ci.isExc with
 | true=>CX ih dep a ci args g
 | false=>CY ih dep a ci args g
noncomputable def r7(cfg:Cfg)(dep:Nat)(a:Nat)(args:List AV)(g:Sg):Option R:=match OC (dep/1000) 0 with
 | true=>(aX a cfg.con).bind λ c=>c dep args g
 | false=>none
noncomputable def zD(cfg:Cfg)(ih:Run)(dep:Nat)(a:Nat)(args:List AV)(g:Sg):R:=match r7 cfg dep a args g with
 | some t=>t
 |
  none=>match aX a cfg.fns with
  | some fi=>qI ih dep fi args g
  |
   none=>match aX a cfg.cls with
   | some ci=>yF ih dep a ci args g
   | none=>.stuck 61
noncomputable def LW(cfg:Cfg)(ih:Run)(dep:Nat)(f:AV)(args:List AV)(g:Sg):R:=match dc f with
 | some a=>zD cfg ih dep a args g
 | none=>on (vBi f) λ b=>qJ cfg dep b args g
noncomputable def NW:Nat:=239807866078374019215884399
noncomputable def mG:List AV->Option AV
 | []=>none
 |
  x::r=>match r with
  | []=>some x
  | _::_=>mG r
noncomputable def G7(i:Nat)(xs:List AV)(g:Sg)(args:List AV):R:=match args with
 | []=>on (mG xs) λ x=>app xs.dropLast [] λ l=>g.set i (.lst l) (val x)
 | a::r=>on (single (a::r)) λ a=>aR (isI 0 a) (match xs with|x::r=>g.set i (.lst r) (val x) | []=>.stuck 64)
noncomputable def NX(i:Nat)(xs:List AV)(g:Sg)(args:List AV):R:=aR (sz xs) (G7 i xs g args)
set_option genCtorIdx true in
inductive BM where
 | append|pop|extend|get|join
set_option genInjectivity true in
inductive MK where
 | fn (f:Nat)
 | bm (m:BM)
@[reducible] noncomputable def MK.ctorIdx(o:MK):Nat:=MK.casesOn o (λ J=>0) (λ J=>1)
noncomputable def Lb(cfg:Cfg)(i:Nat)(xs:List AV)(m:BM)(args:List AV)(g:Sg):R:=(BM.casesOn m (on (single args) λ v=>app xs [v] λ l=>kS g i l (val .none)) (NX i xs g args) (on (single args) λ l=>on (dJ cfg g l) λ ys=>app xs ys λ l=>kS g i l (val .none)) (.stuck 107) (.stuck 107))
noncomputable def Ld(i:Nat)(m:BM)(args:List AV)(g:Sg):R:=(BM.casesOn m (.stuck 108) (on (single args) λ a=>aR (isI 0 a) (g.set i .ila (val .an))) (.stuck 108) (.stuck 108) (.stuck 108))
noncomputable def JI(b:Bool)(es:List (List Nat×AV))(m:BM)(args:List AV)(g:Sg):R:=(BM.casesOn m (.stuck 109) (.stuck 109) (.stuck 109) (on (jG args) λ p=>on (ow b p.1) λ l=>val ((jK l es).getD p.2) g) (.stuck 109))
noncomputable def K8(cfg:Cfg)(s:List Nat)(m:BM)(args:List AV)(g:Sg):R:=(BM.casesOn m (.stuck 110) (.stuck 110) (.stuck 110) (.stuck 110) (aR s.isEmpty (on (single args) λ l=>on ((bz (g.get l)).bind Dg) λ cs=>aR (O0 cs.length 10000) (val (.str cs) g))))
noncomputable def G8(cfg:Cfg)(i:Nat)(m:BM)(args:List AV)(g:Sg)(o:Option AO):R:=match o.bind jI with
 | some xs=>Lb cfg i xs m args g
 |
  none=>match o.bind rr with
  | some _=>Ld i m args g
  | none=>on (o.bind nI) λ p=>JI p.1 p.2 m args g
noncomputable def M7(m:BM)(args:List AV)(g:Sg)(o:Option AO):R:=on (o.bind nI) λ p=>JI p.1 p.2 m args g
noncomputable def yB(cfg:Cfg)(m:BM)(o:AV)(args:List AV)(g:Sg):R:=match iF o with
 | some s=>K8 cfg s m args g
 |
  none=>match jW o with
  | some i=>G8 cfg i m args g (g.own.get i)
  | none=>on (qW o) λ i=>M7 m args g g.frz.l[i]?
noncomputable def Hh(n:Nat):Option MK:=match OC n (nm "append") with
 | true=>some (.bm .append)
 |
  false=>match OC n (nm "pop") with
  | true=>some (.bm .pop)
  |
   false=>match OC n (nm "extend") with
   | true=>some (.bm .extend)
   | false=>none
noncomputable def rM(cfg:Cfg)(g:Sg)(o:AV)(n:Nat):Option MK:=(fu g o).bind λ p=>(dF cfg false p.1 n).bind λ ca=>(Bc ca).bind λ f=>ifK (aX n p.2.2).isNone (some (.fn f))
noncomputable def Ob(cfg:Cfg)(g:Sg)(o:AV)(n:Nat)(ob:Option AO):Option MK:=match (ob.bind jI).isSome||jh ob with
 | true=>Hh n
 |
  false=>match ob.bind nI with
  | some _=>ifK (OC n (nm "get")) (some (.bm .get))
  | none=>rM cfg g o n
noncomputable def rD(cfg:Cfg)(g:Sg)(o:AV)(n:Nat):Option MK:=match iF o with
 | some _=>ifK (OC n (nm "join")) (some (.bm .join))
 | none=>Ob cfg g o n (g.get o)
noncomputable def KZ(cfg:Cfg)(ih:Run)(dep:Nat)(mk:MK)(o:AV)(args:List AV)(g:Sg):R:=match mk with
 | .fn f=>ih (.call dep (.glob f) (o::args)) g
 | .bm m=>yB cfg m o args g
noncomputable def F9(g:Sg)(lo hi:Int)(k:Nat->Sg->R):R:=aR (bJ lo 0&&(bY 0 hi&&dW hi 1000000)) (g.new (.itR 0 hi) k)
noncomputable def vj(g:Sg)(v:AV)(k:Nat->Sg->R)(o:Option AO):R:=match o.bind jI with
 | some _=>g.new (.itL v 0) k
 |
  none=>match o.bind ro with
  | some _=>g.new (.itT v 0) k
  | none=>on (o.bind KI) λ p=>F9 g p.1 p.2 k
noncomputable def vg(cfg:Cfg)(g:Sg)(v:AV)(k:Nat->Sg->R):R:=(AV.casesOn v (.stuck 81) (λ J=>.stuck 81) (λ J=>.stuck 81) (λ J=>.stuck 81) (λ J=>.stuck 81) (λ s=>aR (s.all (O0 · 128)) (g.new (.itS s 0) k)) (λ b=>g.new (.itB b 0) k) (λ J=>.stuck 81) (λ i=>(match (g.own.get i).bind Cy with|some _=>k i g|none=>vj g v k (g.own.get i))) (λ j=>vj g v k g.frz.l[j]?) (λ a=>on (aX a cfg.gobs) λ J=>g.new (.itT v 0) k) (λ J=>.stuck 81) (λ J=>.stuck 81) (.stuck 81) (.stuck 81) (λ J=>.stuck 81) (.stuck 81) (.stuck 81) (λ J J J=>.stuck 81) (λ J=>.stuck 81))
noncomputable def JQ(d:Nat)(g:Sg)(n:Nat)(no:Sg->R):R:=aR (OC (d/1000) 0) (g.set n .dead no)
noncomputable def lj(d:Nat)(o:Option (List AV))(k:Nat)(g:Sg)(n:Nat)(o':AO)(no:Sg->R)(yes:AV->Sg->R):R:=on o λ xs=>match xs[k]? with
 | some v=>g.set n o' (yes v)
 | none=>JQ d g n no
noncomputable def xG(cfg:Cfg)(g:Sg)(v:AV):Option (List AV):=match dc v with
 | some a=>aX a cfg.gobs
 | none=>dR (g.get v)
noncomputable def CM(d:Nat)(g:Sg)(n:Nat)(s:List Nat)(k:Nat)(no:Sg->R)(yes:AV->Sg->R):R:=match s[k]? with
 | some c=>g.set n (.itS s (k+1)) (yes (.str [c]))
 | none=>JQ d g n no
noncomputable def CP(g:Sg)(n:Nat)(s:List Nat)(k:Nat)(no:Sg->R)(yes:AV->Sg->R):R:=match s[k]? with
 | some c=>g.set n (.itB s (k+1)) (yes (.int c))
 | none=>g.set n .dead no
noncomputable def CO(d:Nat)(g:Sg)(n:Nat)(x l:Int)(no:Sg->R)(yes:AV->Sg->R):R:=match dW 0 l with
 | true=>g.set n (.itR (x+1) (l-1)) (yes (.int x))
 | false=>JQ d g n no
noncomputable def GK(cfg:Cfg)(d:Nat)(g:Sg)(n:Nat)(no:Sg->R)(yes:AV->Sg->R)(o:AO):R:=(AO.casesOn o (λ J=>.stuck 83) (λ J=>.stuck 83) (λ J J=>.stuck 83) (λ J=>.stuck 83) (λ J=>.stuck 83) (λ J J=>.stuck 83) (λ J=>.stuck 83) (λ J=>.stuck 83) (λ J J=>.stuck 83) (λ v k=>lj d (bz (g.get v)) k g n (.itL v (k+1)) no yes) (λ v k=>lj d (xG cfg g v) k g n (.itT v (k+1)) no yes) (λ s k=>CM d g n s k no yes) (λ s k=>CP g n s k no yes) (λ x l=>CO d g n x l no yes) (λ J J J J=>.stuck 83) (λ J J=>.stuck 83) (.stuck 83) (λ J J=>.stuck 83) (λ J=>.stuck 83) (.stuck 83) (.stuck 83) (.stuck 83) (.stuck 83) (λ J=>.stuck 83) (λ J J=>.stuck 83) (λ J=>.stuck 83) (λ J=>.stuck 83) (λ J J=>.stuck 83) (λ J=>.stuck 83) (.stuck 83))
noncomputable def GJ(cfg:Cfg)(d:Nat)(g:Sg)(n:Nat)(no:Sg->R)(yes:AV->Sg->R)(o:Option AO):R:=on o (GK cfg d g n no yes)
noncomputable def Af(dp:Nat)(g:Sg)(n a b to:Nat)(no:Sg->R):R:=aR (OC (dp/1000) 0) (g.set n .dead λ g=>g.set a .dead λ g=>g.set b .dead λ g=>g.set to .dead no)
noncomputable def Bu(dp:Nat)(g:Sg)(n a b to k j:Nat)(u v:AV)(no:Sg->R)(yes:AV->Sg->R)(o:Option (AV×AV)):R:=match o with
 | some p=>g.set a (.itL u (k+1)) λ g=>g.set b (.itL v (j+1)) λ g=>g.new (.tup [p.1,p.2]) λ t g=>yes (.own t) g
 | none=>Af dp g n a b to no
noncomputable def MH(dp:Nat)(g:Sg)(n a b ti to:Nat)(no:Sg->R)(yes:AV->Sg->R):R:=aR (!(OC a b||OC ti to)) (on ((g.own.get a).bind JE) λ p=>on ((g.own.get b).bind JE) λ q=>on (two (bz (g.get p.1)) (bz (g.get q.1))) λ l=>Bu dp g n a b to p.2 q.2 p.1 q.1 no yes (two l.1[p.2]? l.2[q.2]?))
noncomputable def Ll(t:Tg):Bool:=(Tg.casesOn t ag ag (λ J=>true))
noncomputable def uE(cfg:Cfg)(d:Nat)(g:Sg)(n:Nat)(t:Tg)(no:Sg->R)(yes:AV->Sg->R):R:=match (g.own.get n).bind Cy with
 | some z=>aR (Ll t) (on ((g.own.get z.2.2.1).bind KL) λ p=>on ((g.own.get z.2.2.2).bind KJ) λ J=>aR (OC z.1 p.1&&OC z.2.1 p.2) (MH d g n z.1 z.2.1 z.2.2.1 z.2.2.2 no yes))
 | none=>GJ cfg d g n no yes (g.own.get n)
noncomputable def onB(t:R)(k:Bool->Sg->R):R:=onV t λ v g=>on (kL v) λ b=>k b g
noncomputable def J1(ih:Run)(c:FC):List E->Sg->(Bool->Sg->R)->R
 | [],g,k=>k true g
 | e::r,g,k=>onB (ih (.t c e) g) λ t g=>match t with|true=>J1 ih c r g k|false=>k false g
noncomputable def E7:List (List Nat)->List AV->Option (List (List Nat×AV))
 | [],ys=>ifK ys.isEmpty (some [])
 |
  x::xs,ys=>match ys with
  | []=>none
  | y::ys=>(E7 xs ys).map λ l=>(x,y)::l
noncomputable def jL(b:Bool):List AV->Option (List (List Nat))
 | []=>some []
 | x::r=>(ow b x).bind λ l=>(jL b r).bind λ ls=>some (l::ls)
noncomputable def gm:List (List Nat)->Bool
 | []=>true
 | x::r=>!(wU x r)&&gm r
noncomputable def Hg(ks:List AV):Option (Bool×List (List Nat)):=match jL false ks with
 | some ls=>some (false,ls)
 |
  none=>match jL true ks with
  | some ls=>some (true,ls)
  | none=>none
noncomputable def Of(b:Bool)(ls:List (List Nat))(n:Nat)(vs:List AV)(g:Sg):R:=on (E7 ls vs) λ l=>g.set n (.dct b l) (val (.own n))
noncomputable def LI(b:Bool)(ls:List (List Nat))(n:Nat)(vs:List AV)(g:Sg):R:=on ((g.own.get n).bind nI) λ p=>aR ((p.1==b)&&p.2.isEmpty) (Of b ls n vs g)
noncomputable def JA(v:Option AV)(g:Sg):R:=on v λ v=>val v g
noncomputable def JG(v:AV)(g:Sg):R:=on (bI v) λ p=>val (mkI p.2 (-p.1)) g
noncomputable def Im(acc fr:Nat)(k:Nat->Nat->Sg->R)(r:Out×Sg):R:=(Out.casesOn r.1 (λ J=>.stuck 87) (k acc fr r.2) (λ J=>.stuck 87) (λ i=>r.2.set fr .dead λ g=>.leaf (.ex i,g)))
noncomputable def Fi(o:Option AO):Bool:=match o with
 | none=>false
 | some o=>(AO.casesOn o ag ag ax ag ag ax ag ag ax (λ J J=>true) (λ J J=>true) (λ J J=>true) (λ J J=>true) (λ J J=>true) (λ J J J J=>true) ax false ax ag false false false false ag ax ag ag ax ag false)
noncomputable def qy(cfg:Cfg)(ih:Run)(c:FC)(elt:E)(t:Tg)(ifs:List E)(k:Nat->Nat->Sg->R)(iv:AV)(g:Sg):R:=
 vg cfg g iv λ it g=>aR (Fi (g.own.get it)) (g.new (.lst []) λ acc g=>g.new (.ns []) λ fr g=>(ih (.comp ⟨fr,c.cells,c.dep⟩ t (.own it) ifs elt acc) g).bind (Im acc fr k))
noncomputable def D3(acc fr:Nat)(g:Sg):R:=g.set fr .dead (val (.own acc))
noncomputable def HU(cfg:Cfg)(ih:Run)(c:FC)(elt:E)(t:Tg)(ifs:List E)(iv:AV)(g:Sg):R:=qy cfg ih c elt t ifs D3 iv g
noncomputable def Nu(ih:Run)(c:FC)(o:Operator)(a b:E)(g:Sg):R:=onV (ih (.e c a) g) λ x g=>onV (ih (.e c b) g) λ y g=>JY o x y g
noncomputable def Nt(cfg:Cfg)(ih:Run)(c:FC)(o:CmpOp)(a b:E)(g:Sg):R:=onV (ih (.e c a) g) λ x g=>onV (ih (.e c b) g) λ y g=>JA (LQ cfg g o x y) g
noncomputable def Np(cfg:Cfg)(ih:Run)(c:FC)(a:E)(g:Sg):R:=onV (ih (.e c a) g) λ v g=>onT v cfg g λ b=>val (.bool !b) g
noncomputable def Nv(cfg:Cfg)(ih:Run)(c:FC)(a b:E)(g:Sg):R:=onV (ih (.e c a) g) λ v g=>onT v cfg g λ t=>match t with|true=>ih (.e c b) g|false=>val v g
noncomputable def eOr(cfg:Cfg)(ih:Run)(c:FC)(a b:E)(g:Sg):R:=onV (ih (.e c a) g) λ v g=>onT v cfg g λ t=>match t with|true=>val v g|false=>ih (.e c b) g
noncomputable def Nr(ih:Run)(c:FC)(t a b:E)(g:Sg):R:=onB (ih (.t c t) g) λ t g=>match t with|true=>ih (.e c a) g|false=>ih (.e c b) g
noncomputable def Nm(ih:Run)(c:FC)(l:List E)(g:Sg):R:=evL ih c l g λ vs g=>fj g (.tup vs)
noncomputable def Nq(ih:Run)(c:FC)(l:List E)(g:Sg):R:=evL ih c l g λ vs g=>fj g (.lst vs)
noncomputable def LH(ih:Run)(c:FC)(ks:List AV)(vs:List E)(g:Sg):R:=on (Hg ks) λ p=>aR (gm p.2&&OC p.2.length vs.length) (g.new (.dct p.1 []) λ n g=>evL ih c vs g (LI p.1 p.2 n))
noncomputable def Nn(cfg:Cfg)(ih:Run)(c:FC)(o i:E)(g:Sg):R:=onV (ih (.e c o) g) λ ov g=>onV (ih (.e c i) g) λ iv g=>oz cfg g ov iv
noncomputable def No(cfg:Cfg)(ih:Run)(c:FC)(o a b:E)(g:Sg):R:=onV (ih (.e c o) g) λ ov g=>onV (ih (.e c a) g) λ av g=>onV (ih (.e c b) g) λ bv g=>iW cfg g ov av bv
noncomputable def HV(ih:Run)(c:FC)(f:E)(as:List E)(g:Sg):R:=onV (ih (.e c f) g) λ fv g=>evL ih c as g λ vs g=>ih (.call c.dep fv vs) g
noncomputable def HT(cfg:Cfg)(ih:Run)(c:FC)(o:E)(n:Nat)(as:List E)(g:Sg):R:=onV (ih (.e c o) g) λ ov g=>on (rD cfg g ov n) λ mk=>evL ih c as g λ vs g=>KZ cfg ih c.dep mk ov vs g
noncomputable def iV(cfg:Cfg)(ih:Run)(c:FC)(x:E)(g:Sg):R:=match x with
 | .cst v=>val v g
 | .loc n=>M8 c g n
 | .cel n=>Nw c g n
 | .bin o a b=>Nu ih c o a b g
 | .not a=>Np cfg ih c a g
 | .neg a=>onV (ih (.e c a) g) JG
 | .and a b=>Nv cfg ih c a b g
 | .or a b=>eOr cfg ih c a b g
 | .ite t a b=>Nr ih c t a b g
 | .cmp o a b=>Nt cfg ih c o a b g
 | .tup l=>Nm ih c l g
 | .lst l=>Nq ih c l g
 | .dic ks vs=>LH ih c ks vs g
 | .att o n=>onV (ih (.e c o) g) λ ov g=>iL cfg ih c.dep g ov n
 | .sub o i=>Nn cfg ih c o i g
 | .slc o a b=>No cfg ih c o a b g
 | .call f as=>HV ih c f as g
 | .mcall o n as=>HT cfg ih c o n as g
 | .comp elt t it ifs=>onV (ih (.e c it) g) λ iv g=>HU cfg ih c elt t ifs iv g
noncomputable def done(g:Sg):R:=.leaf (.nx,g)
noncomputable def onS(t:R)(k:AV->Sg->R):R:=onV t k
noncomputable def qs(dep i:Nat):Bool:=match dep/1000 with
 | 0=>true
 | j+1=>OC i j
noncomputable def dL(cfg:Cfg)(d:Nat):Bool:=match aX d cfg.cls with
 | some ci=>ci.isExc
 | none=>false
noncomputable def MY(cfg:Cfg)(dep:Nat)(v:AV)(g:Sg):R:=on (jW v) λ i=>on ((g.own.get i).bind Az) λ p=>aR (dL cfg p.1&&qs dep i) (.leaf (.ex i,g))
noncomputable def FH(fr n:Nat)(r:Out×Sg):R:=on (sv (r.2.own.get fr)) λ es=>t8 n .hid es λ es=>r.2.set fr (.ns es) λ g=>.leaf (r.1,g)
noncomputable def HK(o:Option AO):Option Nat:=(o.bind Az).map (·.1)
noncomputable def Ng(cfg:Cfg)(ih:Run)(c:FC)(n:Nat)(h:List S)(i d:Nat)(g:Sg):R:=on (HK (g.own.get i)) λ cls=>aR (dL cfg d&&dL cfg cls) (match jZ cfg cls d with
 | true=>xW c g n (.own i) λ g=>(ih (.ss ⟨c.fr,c.cells,c.dep%1000+1000*(i+1)⟩ h) g).bind (FH c.fr n)
 | false=>.leaf (.ex i,g))
noncomputable def MN(cfg:Cfg)(ih:Run)(c:FC)(d:Nat)(n:Nat)(h:List S)(r:Out×Sg):R:=(Out.casesOn r.1 (λ J=>.leaf r) (.leaf r) (λ J=>.leaf r) (λ i=>Ng cfg ih c n h i d r.2))
noncomputable def sIf(ih:Run)(c:FC)(t:E)(a b:List S)(g:Sg):R:=
 onB (ih (.t c t) g) λ t g=>match t with|true=>ih (.ss c a) g|false=>ih (.ss c b) g
noncomputable def MV(cfg:Cfg)(ih:Run)(c:FC)(t:Tg)(it:E)(b:List S)(g:Sg):R:=
 onV (ih (.e c it) g) λ v g=>vg cfg g v λ it g=>ih (.loop c t (.own it) b) g
noncomputable def Ki(c:FC)(n:Nat)(acc fr:Nat)(g:Sg):R:=xW c g n (.own acc) λ g=>g.set fr .dead done
noncomputable def dT(cfg:Cfg)(ih:Run)(c:FC)(s:S)(g:Sg):R:=match s with
 | .ex e=>onV (ih (.e c e) g) λ J g=>done g
 | .asg t e=>onV (ih (.e c e) g) λ v g=>Bl cfg c t v g done
 | .asgR ts e=>onV (ih (.e c e) g) λ v g=>on (dJ cfg g v) λ xs=>aR (OC xs.length ts.length&&OC (c.dep/1000) 0) (xm c ts.reverse xs.reverse g done)
 | .asgU n elt t it ifs=>onV (ih (.e c it) g) λ iv g=>qy cfg ih c elt t ifs (Ki c n) iv g
 | .asgA o n e=>onV (ih (.e c e) g) λ v g=>onV (ih (.e c o) g) λ ov g=>fV cfg g ov n v done
 | .asgI o i e=>onV (ih (.e c e) g) λ v g=>onV (ih (.e c o) g) λ ov g=>onV (ih (.e c i) g) λ iv g=>kT g ov iv v done
 | .ret e=>onV (ih (.e c e) g) λ v g=>.leaf (.rt v,g)
 | .pass=>done g
 | .iff t a b=>sIf ih c t a b g
 | .for t it b=>MV cfg ih c t it b g
 | .rai e=>onV (ih (.e c e) g) (MY cfg c.dep)
 | .tri b d n h=>(ih (.ss c b) g).bind (MN cfg ih c d n h)
noncomputable def MS(ih:Run)(c:FC)(rest:List S)(r:Out×Sg):R:=(Out.casesOn r.1 (λ J=>.leaf r) (ih (.ss c rest) r.2) (λ J=>.leaf r) (λ J=>.leaf r))
noncomputable def Lf(ih:Run)(c:FC)(t:Tg)(it:AV)(b:List S)(r:Out×Sg):R:=(Out.casesOn r.1 (λ J=>.stuck 92) (ih (.loop c t it b) r.2) (λ v=>.leaf (.rt v,r.2)) (λ i=>.leaf (.ex i,r.2)))
noncomputable def xT(cfg:Cfg)(ih:Run)(c:FC)(t:Tg)(it:AV)(b:List S)(g:Sg):R:=on (jW it) λ n=>uE cfg c.dep g n t done λ v g=>Bl cfg c t v g λ g=>(ih (.ss c b) g).bind (Lf ih c t it b)
noncomputable def NF(ih:Run)(c:FC)(t:Tg)(it:AV)(ifs:List E)(elt:E)(acc:Nat)(v:AV)(g:Sg):R:=on ((g.own.get acc).bind jI) λ xs=>app xs [v] λ l=>kS g acc l λ g=>ih (.comp c t it ifs elt acc) g
noncomputable def xV(cfg:Cfg)(ih:Run)(c:FC)(t:Tg)(it:AV)(ifs:List E)(elt:E)(acc:Nat)(g:Sg):R:=on (jW it) λ n=>uE cfg c.dep g n t done λ v g=>Bl cfg c t v g λ g=>J1 ih c ifs g λ b g=>match b with
 | true=>onV (ih (.e c elt) g) (NF ih c t it ifs elt acc)
 | false=>ih (.comp c t it ifs elt acc) g
noncomputable def tO(cfg:Cfg)(ih:Run)(c:FC)(b:List S)(g:Sg):R:=match b with
 | []=>done g
 | s::rest=>(dT cfg ih c s g).bind (MS ih c rest)
noncomputable def gL(cfg:Cfg)(ih:Run)(c:FC)(x:E)(g:Sg):R:=match x with
 | .and a b=>onB (ih (.t c a) g) λ t g=>match t with|true=>ih (.t c b) g|false=>val (.bool false) g
 | .or a b=>onB (ih (.t c a) g) λ t g=>match t with|true=>val (.bool true) g|false=>ih (.t c b) g
 | .not a=>onB (ih (.t c a) g) λ t g=>val (.bool !t) g
 | .ite t a b=>onB (ih (.t c t) g) λ t g=>match t with|true=>ih (.t c a) g|false=>ih (.t c b) g
 | x=>onV (ih (.e c x) g) λ v g=>onT v cfg g λ b=>val (.bool b) g
noncomputable def NO(cfg:Cfg)(ih:Run)(t:Task)(g:Sg):R:=match t with
 | .e c x=>iV cfg ih c x g
 | .t c x=>gL cfg ih c x g
 | .ss c b=>tO cfg ih c b g
 | .call d f args=>LW cfg ih d f args g
 | .loop c t it b=>xT cfg ih c t it b g
 | .comp c t it ifs elt acc=>xV cfg ih c t it ifs elt acc g
noncomputable def run(cfg:Cfg):Nat->Run
 | 0=>λ J J=>.stuck 96
 | n+1=>NO cfg (run cfg n)
noncomputable def okS(s:Str):Bool:=s.cps.toList.all λ c=>O0 c 2097151
noncomputable def bA(n:Str):List (Str×NameKind)->Option NameKind
 | []=>none
 | p::r=>match OC (nm p.1) (nm n) with|true=>some p.2|false=>bA n r
noncomputable def cst:Const->Option AV
 | .none=>some .none
 | .bool b=>some (.bool b)
 | .int i=>some (.int i)
 | .str s=>some (.str s.cps.toList)
 | .bytes b=>some (.byt (b.map (·.toNat)))
 | _=>none
structure CC where
 sc:Scope
 glb:List (Nat×AV)
noncomputable def bc{α β:Type}(f:α->Option β):List α->Option (List β)
 | []=>some []
 | x::r=>(f x).bind λ y=>(bc f r).bind λ l=>some (y::l)
noncomputable def jE(v:Expr):Option (Str×Pos):=Expr.casesOn v ai ai ah ai ah ah ai ai ah ah (λ J J J J J=>none) ah ae ae ae ah ah ah ae ai ai ai ae (λ a b=>some (a,b)) ae ai ah
theorem gG{p:Str×Pos}(h:jE v=some p):v=Expr.Name p.1 p.2:=Expr.casesOn (motive_1:=λ v=>jE v=some p->v=Expr.Name p.1 p.2) v ak ak aj ak aj aj ak ak aj aj (λ J J J J J=>am) aj af af af aj aj aj af ak ak ak af (λ J J h=>congrArg (λ p:Str×Pos=>Expr.Name p.1 p.2) (Oy h)) af ak aj h
noncomputable def ic(v:Expr):Option (List Expr×Nat×Pos):=Expr.casesOn v ai ai ah ai ah ah ai ai ah ah (λ J J J J J=>none) ah ae ae ae ah ah ah ae ai ai ai ae ae ae (λ a b c=>some (a,b,c)) ah
theorem kH{p:List Expr×Nat×Pos}(h:ic v=some p):v=Expr.Tuple p.1 p.2.1 p.2.2:=Expr.casesOn (motive_1:=λ v=>ic v=some p->v=Expr.Tuple p.1 p.2.1 p.2.2) v ak ak aj ak aj aj ak ak aj aj (λ J J J J J=>am) aj af af af aj aj aj af ak ak ak af af af (λ J J J h=>congrArg (λ p:List Expr×Nat×Pos=>Expr.Tuple p.1 p.2.1 p.2.2) (Oy h)) aj h
noncomputable def iN(v:Expr):Option (Option Expr×Option Expr×Option Expr×Pos):=Expr.casesOn v ai ai ah ai ah ah ai ai ah ah (λ J J J J J=>none) ah ae ae ae ah ah ah ae ai ai ai ae ae ae ai (λ a b c d=>some (a,b,c,d))
theorem xw{p:Option Expr×Option Expr×Option Expr×Pos}(h:iN v=some p):v=Expr.Slice p.1 p.2.1 p.2.2.1 p.2.2.2:=Expr.casesOn (motive_1:=λ v=>iN v=some p->v=Expr.Slice p.1 p.2.1 p.2.2.1 p.2.2.2) v ak ak aj ak aj aj ak ak aj aj (λ J J J J J=>am) aj af af af aj aj aj af ak ak ak af af af ak (λ J J J J h=>congrArg (λ p:Option Expr×Option Expr×Option Expr×Pos=>Expr.Slice p.1 p.2.1 p.2.2.1 p.2.2.2) (Oy h)) h
noncomputable def cV(v:Expr):Option (Expr×Str×Pos):=Expr.casesOn v ai ai ah ai ah ah ai ai ah ah (λ J J J J J=>none) ah ae ae ae ah ah ah ae ai (λ a b c=>some (a,b,c)) ai ae ae ae ai ah
theorem l6{p:Expr×Str×Pos}(h:cV v=some p):v=Expr.Attribute p.1 p.2.1 p.2.2:=Expr.casesOn (motive_1:=λ v=>cV v=some p->v=Expr.Attribute p.1 p.2.1 p.2.2) v ak ak aj ak aj aj ak ak aj aj (λ J J J J J=>am) aj af af af aj aj aj af ak (λ J J J h=>congrArg (λ p:Expr×Str×Pos=>Expr.Attribute p.1 p.2.1 p.2.2) (Oy h)) ak af af af ak aj h
noncomputable def iP(v:Expr):Option (Const×Nat×Pos):=Expr.casesOn v ai ai ah ai ah ah ai ai ah ah (λ J J J J J=>none) ah ae ae ae ah ah ah ae (λ a b c=>some (a,b,c)) ai ai ae ae ae ai ah
theorem nN{p:Const×Nat×Pos}(h:iP v=some p):v=Expr.Constant p.1 p.2.1 p.2.2:=Expr.casesOn (motive_1:=λ v=>iP v=some p->v=Expr.Constant p.1 p.2.1 p.2.2) v ak ak aj ak aj aj ak ak aj aj (λ J J J J J=>am) aj af af af aj aj aj af (λ J J J h=>congrArg (λ p:Const×Nat×Pos=>Expr.Constant p.1 p.2.1 p.2.2) (Oy h)) ak ak af af af ak aj h
noncomputable def Bw(v:Expr):Option (Expr×List Expr×List Keyword×Pos):=Expr.casesOn v ai ai ah ai ah ah ai ai ah ah (λ J J J J J=>none) ah ae ae ae ah (λ a b c d=>some (a,b,c,d)) ah ae ai ai ai ae ae ae ai ah
theorem Kb{p:Expr×List Expr×List Keyword×Pos}(h:Bw v=some p):v=Expr.Call p.1 p.2.1 p.2.2.1 p.2.2.2:=Expr.casesOn (motive_1:=λ v=>Bw v=some p->v=Expr.Call p.1 p.2.1 p.2.2.1 p.2.2.2) v ak ak aj ak aj aj ak ak aj aj (λ J J J J J=>am) aj af af af aj (λ J J J J h=>congrArg (λ p:Expr×List Expr×List Keyword×Pos=>Expr.Call p.1 p.2.1 p.2.2.1 p.2.2.2) (Oy h)) aj af ak ak ak af af af ak aj h
noncomputable def iO(v:Expr):Option (Expr×List Comprehension×Scope×Pos):=Expr.casesOn v ai ai ah ai ah ah ai ai (λ a b c d=>some (a,b,c,d)) ah (λ J J J J J=>none) ah ae ae ae ah ah ah ae ai ai ai ae ae ae ai ah
theorem nM{p:Expr×List Comprehension×Scope×Pos}(h:iO v=some p):v=Expr.ListComp p.1 p.2.1 p.2.2.1 p.2.2.2:=Expr.casesOn (motive_1:=λ v=>iO v=some p->v=Expr.ListComp p.1 p.2.1 p.2.2.1 p.2.2.2) v ak ak aj ak aj aj ak ak (λ J J J J h=>congrArg (λ p:Expr×List Comprehension×Scope×Pos=>Expr.ListComp p.1 p.2.1 p.2.2.1 p.2.2.2) (Oy h)) aj (λ J J J J J=>am) aj af af af aj aj aj af ak ak ak af af af ak aj h
noncomputable def tgK(n:Nat)(q:NameKind):Option Tg:=(Qf q (some (.loc n)) (some (.cel n)) none none none)
noncomputable def tgN(k:CC)(e:Expr):Option Tg:=(jE e).bind λ p=>ifK (okS p.1) ((bA p.1 k.sc.names).bind (tgK (nm p.1)))
noncomputable def tgT(k:CC)(e:Expr):Option Tg:=match ic e with
 | some p=>(bc (tgN k) p.1).map .tup
 | none=>tgN k e
noncomputable def okN(n:Str):Bool:=okS n&&!(OC (nm n) (nm "__debug__"))
noncomputable def zH(k:CC)(n:Str):Option E:=ifK (okN n) ((bA n k.sc.names).bind λ q=>(Qf q (some (.loc (nm n))) (some (.cel (nm n))) (some (.cel (nm n))) none ((aX (nm n) k.glb).map .cst)))
noncomputable def zI(n:Str):Option Nat:=ifK (okS n) (some (nm n))
noncomputable def eF(f:E->E->E):List E->Option E
 | []=>none
 |
  x::r=>match r with
  | []=>some x
  | _::_=>(eF f r).map (f x)
noncomputable def su(f:Expr->Option E):Option Expr->Option E
 | none=>some (.cst .none)
 | some e=>f e
noncomputable def Bd(o:Option Expr):Option AV:=o.bind λ e=>(iP e).bind λ p=>cst p.1
noncomputable def iB(e:Expr):Bool:=match Bw e with
 | some p=>!((jE p.1).isSome&&p.2.1.isEmpty&&p.2.2.1.isEmpty)
 | none=>true
noncomputable def vq(o:Option NameKind):Bool:=match o with
 | none=>false
 | some q=>(Qf q (true) false false false false)
theorem oI(h:vq o=true):o=some .local:=by
 rcases o with _|q
 ·exact OG h
 ·rcases q with⟨⟩<;>first|rfl|exact OG h
noncomputable def Ln(o:Option NameKind):Bool:=match o with
 | none=>false
 | some q=>(Qf q false (true) (true) false false)
noncomputable def Hf(k:CC)(sc:Scope)(p:Str×NameKind):Bool:=okS p.1&&(Qf p.2 (vq (bA p.1 sc.names)) (false) (Ln (bA p.1 k.sc.names)) true true)
noncomputable def ku(k:CC)(sc:Scope):Option Unit:=ifK (sc.kind==.function&&sc.names.all (Hf k sc)) (some ())
noncomputable def NU(e:Expr):Bool:=(cV e).isNone
noncomputable def cUn(a:Option E)(o:UnaryOp):Option E:=UnaryOp.casesOn o none (a.map .not) none (a.map .neg)
noncomputable def cBo(l:Option (List E))(o:BoolOp):Option E:=BoolOp.casesOn o (l.bind (eF .and)) (l.bind (eF .or))
noncomputable def cDi(n:Nat)(ks:Option (List AV))(vs:Option (List E)):Option E:=ifK (O0 n 15) (ks.bind λ ks=>vs.map λ vs=>.dic ks vs)
noncomputable def Oq(b:Bool)(o:Option E)(a:Str):Option E:=ifK b (o.bind λ o=>(zI a).map λ a=>.att o a)
noncomputable def Hl(e:Expr):Bool:=(iN e).isSome
noncomputable def cMc(b:Bool)(o:Option E)(a:Str)(l:Option (List E)):Option E:=ifK b (o.bind λ o=>(zI a).bind λ a=>l.map λ l=>.mcall o a l)
noncomputable def uk(l:List Comprehension):Option (Expr×Expr×List Expr):=(single l).bind λ c=>ifK (bJ c.is_async 0) (some (c.target,c.iter,c.ifs))
noncomputable def cE(k:CC):Nat->Expr->Option E
 | 0,_=>none
 | n
  + 1,x=>(Expr.casesOn x (λ o es J=>cBo (bc (cE k n) es) o) ai (λ a o b J=>(cE k n a).bind λ a=>(cE k n b).map λ b=>.bin o a b) (λ o a J=>cUn (cE k n a) o) ah (λ t a b J=>(cE k n t).bind λ t=>(cE k n a).bind λ a=>(cE k n b).map λ b=>.ite t a b) (λ ks vs J=>cDi vs.length (bc Bd ks) (bc (cE k n) vs)) ai (λ elt gs sc J=>(uk gs).bind λ g=>(ku k sc).bind λ J=>(cE ⟨sc,k.glb⟩ n elt).bind λ elt=>(tgT ⟨sc,k.glb⟩ g.1).bind λ t=>(cE k n g.2.1).bind λ it=>(bc (cE ⟨sc,k.glb⟩ n) g.2.2).map λ ifs=>.comp elt t it ifs) ah (λ J J J J J=>none) ah ae ae ae (λ a os bs J=>(two (single os) (single bs)).bind λ p=>(cE k n a).bind λ a=>(cE k n p.2).map λ b=>.cmp p.1 a b) (λ f as kw p=>ifK kw.isEmpty (match cV f with
  | some q=>cMc (iB q.1&&OC q.2.2.endLine p.line&&O0 as.length 25) (cE k n q.1) q.2.1 (bc (cE k n) as)
  | none=>ifK (jE f).isSome ((cE k n f).bind λ f=>(bc (cE k n) as).map λ as=>.call f as))) ah ae (λ c J J=>(cst c).map .cst) (λ o a J=>Oq (iB o) (cE k n o) a) (λ o i J=>(match iN i with
  | some p=>ifK p.2.2.1.isNone ((cE k n o).bind λ o=>(su (cE k n) p.1).bind λ a=>(su (cE k n) p.2.1).map λ b=>.slc o a b)
  | none=>(cE k n o).bind λ o=>(cE k n i).map λ i=>.sub o i)) ae (λ m J=>zH k m) (λ es J=>(bc (cE k n) es).map .lst) (λ es J J=>(bc (cE k n) es).map .tup) ah)
noncomputable def mL(e:Expr):Bool:=(Expr.casesOn e aO aO bg aO bg bg aO aO (λ J J J J=>true) (λ J J J J=>true) (λ J J J J J=>true) bg ax ax ax bg bg bg ax aO aO aO ax ax ax aO bg)
noncomputable def ft(k:CC)(line:Nat)(e:Expr):Option Str:=(jE e).bind λ p=>ifK (okS p.1&&(vq (bA p.1 k.sc.names)&&OC p.2.line line)) (some p.1)
noncomputable def Nd(o:Option NameKind):Bool:=match o with
 | none=>false
 | some q=>(Qf q false (true) false false false)
theorem Hr(h:Nd o=true):o=some .cell:=by
 rcases o with _|q
 ·exact OG h
 ·rcases q with⟨⟩<;>first|rfl|exact OG h
noncomputable def oO(k:CC)(e:Expr):Bool:=match jE e with
 | some p=>okS p.1&&Nd (bA p.1 k.sc.names)
 | none=>false
noncomputable def ip(ts:List Expr):Nat:=(ts.head?.map (·.pos.line)).getD 0
noncomputable def rb(ns:List Str)(vs:List Expr):Bool:=(ns.length==2||ns.length==3)&&vs.length==ns.length&&ns.eraseDups.length==ns.length&&!(vs.all (foldedForSure 8))&&!(vs.all (constantsAlone 8))
noncomputable def qQ(k:CC)(ts vs:List Expr)(e:E):Option S:=match bc (ft k (ip ts)) ts with
 | some ns=>ifK (rb ns vs) ((bc (tgN k) ts).map λ ts=>.asgR ts e)
 | none=>ifK (ts.any (oO k)) ((bc (tgN k) ts).map λ ts=>.asg (.tup ts) e)
noncomputable def noName(sc:Scope)(n:Str):Bool:=!(sc.names.any λ(m,k)=>m==n&&(k==.local||k==.cell))
noncomputable def v7(e:E):Option (E×Tg×E×List E):=(E.casesOn e aa aa aa ai aa aa ae ae ai ai aa aa ae ae ae ai ae ai (λ a b c d=>some (a,b,c,d)))
noncomputable def qR(k:CC)(n:Str)(tl vl:Nat)(sc:Scope)(e:E):Option S:=ifK (okS n) ((bA n k.sc.names).bind λ q=>(Qf q (ifK (OC tl vl&&noName sc n) ((v7 e).map λ p=>.asgU (nm n) p.1 p.2.1 p.2.2.1 p.2.2.2)) (some (.asg (.cel (nm n)) e)) none none none))
noncomputable def Nc(o:Option NameKind):Bool:=match o with
 | none=>false
 | some q=>(Qf q false false false false (true))
theorem Hp(h:Nc o=true):o=some .globalImplicit:=by
 rcases o with _|q
 ·exact OG h
 ·rcases q with⟨⟩<;>first|rfl|exact OG h
noncomputable def HJ(k:CC)(e:Expr):Option Nat:=(jE e).bind λ p=>ifK (okN p.1&&Nc (bA p.1 k.sc.names)) ((aX (nm p.1) k.glb).bind dc)
noncomputable def pg(e:Expr):Option (List Expr):=(ic e).map (·.1)
noncomputable def Et(e:Expr):Option (Scope×Nat):=(iO e).map λ p=>(p.2.2.1,p.2.2.2.line)
noncomputable def LZ(k:CC)(t e:Expr)(x:Option E):Option S:=(Expr.casesOn t ai ai ah ai ah ah ai ai ah ah (λ J J J J J=>none) ah ae ae ae ah ah ah ae ai (λ o a J=>(cE k 50 o).bind λ o=>(zI a).bind λ a=>x.map λ e=>.asgA o a e) (λ o i J=>(cE k 50 o).bind λ o=>(cE k 50 i).bind λ i=>x.map λ e=>.asgI o i e) ae (λ n p=>(match Et e with
 | some s=>x.bind λ e=>qR k n p.line s.2 s.1 e
 | none=>(tgN k t).bind λ t=>x.map λ e=>.asg t e)) ae (λ ts J J=>(match pg e with
 | some vs=>x.bind λ e=>qQ k ts vs e
 | none=>(bc (tgN k) ts).bind λ t=>x.map λ e=>.asg (.tup t) e)) ah)
noncomputable def Ni:ExceptHandler->Option Expr
 | .ExceptHandler c _ _ _=>c
noncomputable def Nh:ExceptHandler->Option Str
 | .ExceptHandler _ m _ _=>m
noncomputable def JM:ExceptHandler->List Stmt
 | .ExceptHandler _ _ b _=>b
noncomputable def Ny(k:CC)(b:Option (List S))(f:List Stmt->Option (List S))(hs:List ExceptHandler):Option S:=(single hs).bind λ h=>(Ni h).bind λ c=>(Nh h).bind λ m=>b.bind λ b=>(HJ k c).bind λ d=>(f (JM h)).bind λ l=>ifK (okS m&&vq (bA m k.sc.names)&&!(JM h).isEmpty) (some (.tri b d (nm m) l))
noncomputable def cS(k:CC):Nat->Stmt->Option S
 | 0,_=>none
 | n+1,x=>(Stmt.casesOn x (λ J J J J J J J J J J=>none) (λ J J J J J J J J J J=>none) (λ J J J J J J J J J J J=>none) (λ e J=>(su (cE k 50) e).map .ret) ae (λ ts e J=>(single ts).bind λ t=>LZ k t e (cE k 50 e)) (λ J J J J J J J=>none) ah (λ J J J J J=>none) (λ t it b o J=>ifK o.isEmpty ((tgT k t).bind λ t=>(cE k 50 it).bind λ it=>(bc (cS k n) b).map λ b=>.for t it b)) (λ J J J J J=>none) ah (λ t a b J=>(cE k 50 t).bind λ t=>(bc (cS k n) a).bind λ a=>(bc (cS k n) b).map λ b=>.iff t a b) ai ai ai (λ e c J=>ifK c.isNone (e.bind λ e=>(cE k 50 e).map .rai)) (λ b hs o f J=>ifK (o.isEmpty&&f.isEmpty) (Ny k (bc (cS k n) b) (bc (cS k n)) hs)) (λ J J J J J=>none) ai ae ah ae ae (λ e J=>ifK (!(mL e)) ((cE k 50 e).map .ex)) (λ J=>some .pass) aa aa)
noncomputable def bf:List (Str×NameKind)->List Nat
 | []=>[]
 | (n,.cell)::r=>nm n::bf r
 | _::r=>bf r
noncomputable def cF(glb:List (Nat×AV))(params:List Str)(dflt:List AV)(sc:Scope)(body:List Stmt):FnI:=
 { params:=params.map nm,dflt,cells:=bf sc.names,body:=(bc (cS ⟨sc,glb⟩ 20) body).getD [] }
end
section
universe u
open PySem PyProof.Rows
variable {i j n:Nat} {v:Option AO} {a b:Str}
theorem T.sat_bind{α β:Type}{Φ:β->Prop}{f:α->T β}{t:T α}(h:(t.bind f).Sat Φ):t.Sat (λ a=>(f a).Sat Φ):=by
 induction t with
 | leaf=>exact h
 | split _ _ _ i j=>exact⟨λ e=>i (h.1 e),λ e=>j (h.2 e)⟩
 | need _ _ i=>exact⟨h.1,i h.2⟩
 | all _ i=>exact λ a=>i a (h a)
 | both _ _ i j=>exact⟨i h.1,j h.2⟩
 | asm _ _ i=>exact λ e=>i (h e)
 | stuck=>exact h
theorem T.sat_mono{α:Type}{Φ Ψ:α->Prop}(k:∀ a,Φ a->Ψ a){t:T α}(h:t.Sat Φ):t.Sat Ψ:=by
 induction t with
 | leaf=>exact k _ h
 | split _ _ _ i j=>exact⟨λ e=>i (h.1 e),λ e=>j (h.2 e)⟩
 | need _ _ i=>exact⟨h.1,i h.2⟩
 | all _ i=>exact λ a=>i a (h a)
 | both _ _ i j=>exact⟨i h.1,j h.2⟩
 | asm _ _ i=>exact λ e=>i (h e)
 | stuck=>exact h
noncomputable def Tr.up(v:Option AO)(l r:Tr)(i:Nat)(o:AO)(pl pr:Tr):Tr:=match OC i 0 with
 | true=>.nd (some o) l r
 |
  false=>match OC (i%2) 1 with
  | true=>.nd v pl r
  | false=>.nd v l pr
noncomputable def Tr.put':Nat->Tr->Nat->AO->Tr
 | 0,t,_,_=>t
 | n+1,t,i,o=>Tr.casesOn t (Tr.up none .nil .nil i o (put' n .nil (i/2) o) (put' n .nil (i/2-1) o)) λ v l r=>Tr.up v l r i o (put' n l (i/2) o) (put' n r (i/2-1) o)
theorem Tr.put_eq{β:Type u}(n:Nat)(t:Tr)(i:Nat)(o:AO)(k:Tr->β):Tr.put n t i o k=k (Tr.put' n t i o):=by
 induction n generalizing t i k with
 | zero=>rfl
 |
  succ n ih=>
  rcases t with _|⟨v,l,r⟩
  ·show(match OC i 0 with|true=>_|false=>match OC (i%2) 1 with|true=>Tr.put n .nil (i/2) o λ t=>k (.nd none t .nil)|false=>Tr.put n .nil (i/2-1) o λ t=>k (.nd none .nil t))=k (match OC i 0 with|true=>_|false=>match OC (i%2) 1 with|true=>_|false=>_)
   rw[ih,ih];generalize OC i 0=a;generalize OC (i%2) 1=b;cases a<;>cases b<;>rfl
  ·show(match OC i 0 with|true=>_|false=>match OC (i%2) 1 with|true=>Tr.put n l (i/2) o λ t=>k (.nd v t r)|false=>Tr.put n r (i/2-1) o λ t=>k (.nd v l t))=k (match OC i 0 with|true=>_|false=>match OC (i%2) 1 with|true=>_|false=>_)
   rw[ih,ih];generalize OC i 0=a;generalize OC (i%2) 1=b;cases a<;>cases b<;>rfl
theorem wF(a b:Nat):OC a b=decide (a=b):=by
 cases h:OC a b with
 | true=>exact(decide_eq_true (OB h)).symm
 | false=>exact(decide_eq_false (OV h)).symm
theorem Tr.get_z{l r:Tr}(h:OC i 0=true):(Tr.nd v l r).get i=v:=by
 show(match OC i 0 with|true=>v|false=>_)=v
 rw[h]
theorem Tr.get_l{l r:Tr}(h:OC i 0=false)(h1:OC (i%2) 1=true):(Tr.nd v l r).get i=l.get (i/2):=by
 show(match OC i 0 with|true=>v|false=>match OC (i%2) 1 with|true=>l.get (i/2)|false=>_)=_
 rw[h,h1]
theorem Tr.get_r{l r:Tr}(h:OC i 0=false)(h1:OC (i%2) 1=false):(Tr.nd v l r).get i=r.get (i/2-1):=by
 show(match OC i 0 with|true=>v|false=>match OC (i%2) 1 with|true=>l.get (i/2)|false=>r.get (i/2-1))=_
 rw[h,h1]
theorem Tr.get_nd(v:Option AO)(l r:Tr)(i:Nat):(Tr.nd v l r).get i=if i=0 then v else if i%2=1 then l.get (i/2) else r.get (i/2-1):=by
 cases h:OC i 0 with
 | true=>rw[Tr.get_z h,if_pos (OB h)]
 |
  false=>
  rw[if_neg (OV h)];cases h1:OC (i%2) 1 with
  | true=>rw[Tr.get_l h h1,if_pos (OB h1)]
  | false=>rw[Tr.get_r h h1,if_neg (OV h1)]
theorem Tr.get_nil(i:Nat):Tr.nil.get i=none:=rfl
theorem eT(h:i≠0)(h1:i%2≠1):i=2*(i/2)/\0<i/2:=by
 have e:=RS i 2;rw[(Nat.mod_two_eq_zero_or_one i).resolve_right h1,SQ] at e;exact⟨e.symm,Nat.pos_of_ne_zero λ z=>h (by rw[<-e,z])⟩
theorem Dv(h:i+1<2^(n+1)):(i+1)/2<2^n:=Nat.div_lt_of_lt_mul (by rw[R3];exact h)
theorem AJ(h:i+1<2^(n+1))(h1:i%2=1):i/2+1<2^n:=by
 have e:2*(i/2+1)=i+1:=by rw[Nat.mul_add];exact congrArg (·+1) ((congrArg (2*(i/2)+·) h1.symm).trans (RS i 2))
 exact Nat.lt_of_mul_lt_mul_left (a:=2) (by rw[e,R3];exact h)
theorem uN(h:i+1<2^(n+1))(h0:i≠0)(h1:i%2≠1):i/2-1+1<2^n:=by
 rw[Nat.sub_add_cancel (eT h0 h1).2];exact OI (Nat.div_le_div_right (QW i)) (Dv h)
theorem Tr.up_self(v:Option AO)(l r:Tr)(i:Nat)(o:AO)(pl pr:Tr)(h1:i%2=1->pl.get (i/2)=some o)(h2:i≠0->i%2≠1->pr.get (i/2-1)=some o):(Tr.up v l r i o pl pr).get i=some o:=by
 unfold Tr.up;cases a:OC i 0 with
 | true=>exact Tr.get_z a
 |
  false=>cases b:OC (i%2) 1 with
  | true=>exact(Tr.get_l a b).trans (h1 (OB b))
  | false=>exact(Tr.get_r a b).trans (h2 (OV a) (OV b))
theorem Tr.up_ne(v:Option AO)(l r:Tr)(i:Nat)(o:AO)(pl pr:Tr)(h1:∀ j,j≠i/2->pl.get j=l.get j)(h2:∀ j,j≠i/2-1->pr.get j=r.get j)(hj:j≠i):(Tr.up v l r i o pl pr).get j=(Tr.nd v l r).get j:=by
 have z:OC i 0=true->OC j 0=true->False:=λ a b=>hj ((OB b).trans (OB a).symm);unfold Tr.up;cases c:OC j 0 with
 |
  true=>
  rw[Tr.get_z c];cases a:OC i 0 with
  | true=>exact(z a c).elim
  | false=>cases b:OC (i%2) 1<;>exact Tr.get_z c
 |
  false=>cases d:OC (j%2) 1 with
  |
   true=>
   rw[Tr.get_l c d];cases a:OC i 0 with
   | true=>exact Tr.get_l c d
   |
    false=>cases b:OC (i%2) 1 with
    | true=>exact(Tr.get_l c d).trans (h1 _ λ e=>hj (by rw[<-RS j 2,<-RS i 2,e,OB b,OB d]))
    | false=>exact Tr.get_l c d
  |
   false=>
   rw[Tr.get_r c d];cases a:OC i 0 with
   | true=>exact Tr.get_r c d
   |
    false=>cases b:OC (i%2) 1 with
    | true=>exact Tr.get_r c d
    |
     false=>
     have p:=eT (OV a) (OV b);have q:=eT (OV c) (OV d);exact(Tr.get_r c d).trans (h2 _ λ e=>hj (by rw[q.1,p.1,Nat.sub_one_cancel q.2 p.2 e]))
theorem Tr.nil_get(j:Nat):(Tr.nd none .nil .nil).get j=none:=by
 rw[Tr.get_nd];by_cases h:j=0
 ·rw[if_pos h]
 ·rw[if_neg h];exact ite_self _
theorem Tr.put_self(n:Nat)(t:Tr)(i:Nat)(o:AO)(h:i+1<2^n):(Tr.put' n t i o).get i=some o:=by
 induction n generalizing t i with
 | zero=>exact absurd h (PQ.mpr (PA (Pk i)))
 | succ n ih=>exact Tr.casesOn t (Tr.up_self _ _ _ _ _ _ _ (λ a=>ih _ _ (AJ h a)) λ a b=>ih _ _ (uN h a b)) λ J J J=>Tr.up_self _ _ _ _ _ _ _ (λ a=>ih _ _ (AJ h a)) λ a b=>ih _ _ (uN h a b)
theorem Tr.put_ne(n:Nat)(t:Tr)(i:Nat)(o:AO)(hj:j≠i):(Tr.put' n t i o).get j=t.get j:=by
 induction n generalizing t i j with
 | zero=>rfl
 | succ n ih=>exact Tr.casesOn t ((Tr.up_ne _ _ _ _ _ _ _ (λ J a=>ih _ _ a) (λ J a=>ih _ _ a) hj).trans (Tr.nil_get j)) λ J J J=>Tr.up_ne _ _ _ _ _ _ _ (λ J a=>ih _ _ a) (λ J a=>ih _ _ a) hj
theorem Tr.get_put'(n:Nat)(t:Tr)(i:Nat)(o:AO)(h:i+1<2^n)(j:Nat):(Tr.put' n t i o).get j=if j=i then some o else t.get j:=by
 by_cases e:j=i
 ·rw[if_pos e,e];exact Tr.put_self n t i o h
 ·rw[if_neg e];exact Tr.put_ne n t i o e
noncomputable def cd:List Nat->Nat->Nat
 | [],a=>a
 | c::r,a=>cd r (a*2097152+(c+1))
theorem GH(s:Str):nm s=cd s.cps.toList 0:=by
 unfold nm;generalize s.cps.toList=l;have:∀ a,l.foldl (λ a c=>a*2097152+(c+1)) a=cd l a:=by
  induction l with
  | nil=>intro a;rfl
  | cons c r ih=>intro a;exact ih _
 exact this 0
theorem D4:∀ (l:List Nat) (a:Nat),code l a=cd l a
 | [],_=>rfl
 | _::r,_=>D4 r _
noncomputable def cdR:List Nat->Nat
 | []=>0
 | c::r=>cdR r*2097152+(c+1)
theorem nq:∀ (l:List Nat) (c a:Nat),cd (l++[c]) a=cd l a*2097152+(c+1)
 | [],_,_=>rfl
 | _::r,c,_=>nq r c _
theorem wj:∀ l:List Nat,cd l.reverse 0=cdR l
 | []=>rfl
 | c::r=>by rw[Sm,nq,wj r];rfl
theorem zS{B c d x y:Nat}(h1:c+1<B)(h2:d+1<B)(h:x*B+(c+1)=y*B+(d+1)):c=d/\x=y:=by
 have e1:(x*B+(c+1))%B=c+1:=by rw[R3,Nat.mul_add_mod];exact Q0 h1
 have e2:(y*B+(d+1))%B=d+1:=by rw[R3,Nat.mul_add_mod];exact Q0 h2
 have hcd:c+1=d+1:=by rw[<-e1,<-e2,h]
 have hm:x*B=y*B:=by rw[hcd] at h;exact Nat.add_right_cancel h
 exact⟨S0 hcd,Nat.eq_of_mul_eq_mul_right (OI (Pk _) h1) hm⟩
theorem JV(c:Nat)(r:List Nat):cdR (c::r)=cdR r*2097152+(c+1):=rfl
theorem D9{a b:List Nat}(ha:∀ c∈a,c<2097151)(hb:∀ c∈b,c<2097151)(h:cdR a=cdR b):a=b:=by
 induction a generalizing b with
 | nil=>
  rcases b with _|⟨c,r⟩
  ·rfl
  ·exact absurd h (OX (Q2 _))
 | cons c r ih=>
  rcases b with _|⟨d,q⟩
  ·exact absurd h.symm (OX (Q2 _))
  ·have e:=zS (Nat.succ_lt_succ (ha c (.head _))) (Nat.succ_lt_succ (hb d (.head _))) h;rw[e.1,ih (λ x hx=>ha x (.tail _ hx)) (λ x hx=>hb x (.tail _ hx)) e.2]
theorem ut{s:Str}(h:okS s=true):∀ c∈s.cps.toList,c<2097151:=by
 intro c hc;have:=OP.mp h c hc;exact OE this
theorem kP(h:a.cps.toList=b.cps.toList):a=b:=by
 obtain⟨⟨x⟩⟩:=a;obtain⟨⟨y⟩⟩:=b;cases h;rfl
theorem eP(ha:okS a=true)(hb:okS b=true)(h:nm a=nm b):a=b:=by
 rw[GH,GH,<-List.reverse_reverse a.cps.toList,<-List.reverse_reverse b.cps.toList,wj,wj] at h;have:=D9 (λ c hc=>ut ha c (Sz.mp hc)) (λ c hc=>ut hb c (Sz.mp hc)) h;exact kP (List.reverse_inj.mp this)
theorem JK{α:Type u}(n:Nat):aX (α:=α) n []=none:=rfl
theorem aK{α:Type u}(n:Nat)(p:Nat×α)(r:List (Nat×α)):aX n (p::r)=if p.1=n then some p.2 else aX n r:=by
 show(match OC p.1 n with|true=>some p.2|false=>aX n r)=_
 cases h:OC p.1 n with
 | true=>rw[if_pos (OB h)]
 | false=>rw[if_neg (OV h)]
noncomputable def eE(n:Nat)(v:AV):bN->bN
 | []=>[(n,v)]
 | p::r=>match OC p.1 n with|true=>(n,v)::r|false=>p::eE n v r
theorem nX{β:Type u}(n:Nat)(v:AV)(es:bN)(k:bN->β):t8 n v es k=k (eE n v es):=by
 induction es generalizing k with
 | nil=>rfl
 |
  cons p r ih=>
  show(match OC p.1 n with|true=>_|false=>t8 n v r λ r=>k (p::r))=k (match OC p.1 n with|true=>_|false=>_)
  rw[ih];cases OC p.1 n<;>rfl
theorem kh(n:Nat)(v:AV)(j:Nat)(es:bN):aX j (eE n v es)=if j=n then some v else aX j es:=by
 induction es with
 |
  nil=>
  show aX j [(n,v)]=_;rw[aK];by_cases h:j=n
  ·rw[if_pos h,if_pos h.symm]
  ·rw[if_neg h,if_neg (Sf h)]
 |
  cons p r ih=>
  show aX j (match OC p.1 n with|true=>(n,v)::r|false=>p::eE n v r)=_
  cases h:OC p.1 n with
  |
   true=>
   rw[aK,aK,OB h];by_cases q:j=n
   ·rw[if_pos q.symm,if_pos q]
   ·rw[if_neg (Sf q),if_neg (Sf q),if_neg q]
  |
   false=>
   rw[aK,aK,ih];by_cases q:p.1=j
   ·rw[if_pos q,if_pos q,if_neg λ e=>OV h (q.trans e)]
   ·rw[if_neg q,if_neg q]
noncomputable def H8(n:Nat):bN->bN
 | []=>[]
 | p::r=>match OC p.1 n with|true=>r|false=>p::H8 n r
theorem LO{β:Type u}(n:Nat)(es:bN)(k:bN->β):JR n es k=k (H8 n es):=by
 induction es generalizing k with
 | nil=>rfl
 |
  cons p r ih=>
  show(match OC p.1 n with|true=>_|false=>JR n r λ r=>k (p::r))=k (match OC p.1 n with|true=>_|false=>_)
  rw[ih];cases OC p.1 n<;>rfl
theorem dQ{α:Type}{β:Type u}(xs ys:List α)(k:List α->β):app xs ys k=k (xs++ys):=by
 induction xs generalizing k with
 | nil=>rfl
 | cons x xs ih=>exact ih _
theorem K7{α γ:Type}{β:Type u}(f:α->γ)(xs:List α)(k:List γ->β):M6 f xs k=k (xs.map f):=by
 induction xs generalizing k with
 | nil=>rfl
 | cons x xs ih=>exact ih _
inductive All2{α β:Type}(P:α->β->Prop):List α->List β->Prop
 | nil:All2 P [] []
 | cons {x:α} {y:β} {xs:List α} {ys:List β}:P x y->All2 P xs ys->All2 P (x::xs) (y::ys)
theorem All2.nil_elim{α β:Type}{P:α->β->Prop}{motive:(ys:List β)->All2 P [] ys->Prop}(nil:motive [] .nil){ys:List β}(d:All2 P [] ys):motive ys d:=by
 have e:ys=[]:=d.rec (motive:=λ xs ys J=>xs=[]->ys=[]) (λ J=>rfl) (λ J J J h=>nomatch h) rfl
 subst e;exact nil
theorem All2.cons_inv{α β:Type}{P:α->β->Prop}{x:α}{xs:List α}{ys:List β}(d:All2 P (x::xs) ys):∃ y r,ys=y::r/\P x y/\All2 P xs r:=
 d.rec (motive:=λ l ys J=>l=x::xs->∃ y r,ys=y::r/\P x y/\All2 P xs r) (λ h=>nomatch h) (λ a b J h=>by injection h with h1 h2;subst h1 h2;exact⟨_,_,rfl,a,b⟩) rfl
theorem All2.cons_elim{α β:Type}{P:α->β->Prop}{x:α}{xs:List α}{motive:(ys:List β)->All2 P (x::xs) ys->Prop}(cons:∀ {y:β} {r:List β} (h:P x y) (t:All2 P xs r),motive (y::r) (.cons h t)){ys:List β}(d:All2 P (x::xs) ys):motive ys d:=by
 obtain⟨y,r,rfl,a,b⟩:=d.cons_inv;exact cons a b
theorem All2.mono{α β:Type}{P Q:α->β->Prop}(k:∀ x y,P x y->Q x y){xs:List α}{ys:List β}(h:All2 P xs ys):All2 Q xs ys:=
 h.rec (motive:=λ xs ys J=>All2 Q xs ys) .nil λ a J ih=>.cons (k _ _ a) ih
theorem All2.length{α β:Type}{P:α->β->Prop}{xs:List α}{ys:List β}(h:All2 P xs ys):xs.length=ys.length:=by
 induction h with
 | nil=>rfl
 | cons _ _ ih=>exact congrArg (·+1) ih
theorem All2.app{α β:Type}{P:α->β->Prop}{xs xs':List α}{ys ys':List β}(h:All2 P xs ys)(k:All2 P xs' ys'):All2 P (xs++xs') (ys++ys'):=
 h.rec (motive:=λ xs ys J=>All2 P (xs++xs') (ys++ys')) k λ a J ih=>.cons a ih
theorem All2.at_{α β:Type}{P:α->β->Prop}{xs:List α}{ys:List β}(h:All2 P xs ys):∀ {i:Nat} {x:α},xs[i]?=some x->∃ y,ys[i]?=some y/\P x y:=
 h.rec (motive:=λ xs ys J=>∀ {i:Nat} {x:α},xs[i]?=some x->∃ y,ys[i]?=some y/\P x y) (λ e=>nomatch e) λ {x y xs ys} a J ih {i} {z} e=>by
  induction i using P2 with
  | zero=>obtain rfl:=Oy e;exact⟨y,rfl,a⟩
  | succ i=>exact ih (i:=i) e
theorem All2.none_{α β:Type}{P:α->β->Prop}{xs:List α}{ys:List β}(h:All2 P xs ys)(e:xs[i]?=none):ys[i]?=none:=by
 rw[List.getElem?_eq_none_iff] at e ⊢;rw[<-h.length];exact e
theorem bu{α β:Type}{f:α->Option β}{xs:List α}{ys:List β}(h:bc f xs=some ys):All2 (λ x y=>f x=some y) xs ys:=by
 induction xs generalizing ys with
 | nil=>obtain rfl:=Oy h;exact .nil
 | cons x r ih=>exact aw h λ y e h=>aw h λ l e' h=>Oy h▸.cons e (ih e')
end
section
universe u
open PySem PyProof.Rows
variable {o o':AO} {x:AV} {a:Addr} {b fz:Bool} {es:bN} {h h':Heap} {l:List Nat} {i j n t:Nat} {ob:Obj} {P:Prop} {m:Str->Option Value} {v:Value}
inductive Desc where
 | int (n:Int)|real (n:Int)|bool (b:Bool)
 | str (body:List Nat) (start many access:Nat)
 | name (b:List UInt8)
 | row (packed:Bool) (num start many:Int)
 | dict (n:Int)|oper (b:List UInt8)|mark|null
@[reducible] noncomputable def Desc.ctorIdx(o:Desc):Nat:=Desc.casesOn o (λ J=>0) (λ J=>1) (λ J=>2) (λ J J J J=>3) (λ J=>4) (λ J J J J=>5) (λ J=>6) (λ J=>7) 8 9
namespace Desc
noncomputable def num(d:Desc):Int:=(Desc.casesOn d (λ n=>n) (λ J=>0) (λ J=>0) (λ J J J J=>0) (λ J=>0) (λ J J J J=>0) (λ J=>0) (λ J=>0) 0 0)
noncomputable def isI(d:Desc):Bool:=(Desc.casesOn d (λ J=>true) ag ag bg ag bg ag ag false false)
noncomputable def isB(d:Desc):Bool:=(Desc.casesOn d ag ag (λ J=>true) bg ag bg ag ag false false)
noncomputable def truth(d:Desc):Bool:=(Desc.casesOn d ag ag (λ b=>b) bg ag bg ag ag false false)
noncomputable def kind(d:Desc):List Nat:=(Desc.casesOn d (λ J=>bp) (λ J=>[114,101,97,108]) (λ J=>bq) (λ J J J J=>[115,116,114,105,110,103]) (λ J=>[110,97,109,101]) (λ p J J J=>(match p with|false=>[97,114,114,97,121]|true=>[112,97,99,107,101,100])) (λ J=>[100,105,99,116]) (λ J=>[111,112,101,114,97,116,111,114]) ([109,97,114,107]) ([110,117,108,108]))
noncomputable def octs(d:Desc):List Nat:=(Desc.casesOn d (λ J=>[]) (λ J=>[]) (λ J=>[]) (λ b s m J=>lZ b s (s+m)) (λ b=>b.map (·.toNat)) (λ J J J J=>[]) (λ J=>[]) (λ J=>[]) [] [])
noncomputable def key:Desc->Nat×List Int
 | .int n=>(0,[n*1000000])
 | .real n=>(0,[n])
 | .bool b=>(5,[if b then 1 else 0])
 | .str b s m _=>(1,(lZ b s (s+m)).map Int.ofNat)
 | .name b=>(1,b.map λ c=>Int.ofNat c.toNat)
 | .row _ n s m=>(2,[n,s,m])
 | .dict n=>(3,[n])
 | .oper b=>(4,b.map λ c=>Int.ofNat c.toNat)
 | .mark=>(6,[])
 | .null=>(7,[])
noncomputable def unread(d:Desc):Bool:=(Desc.casesOn d ag ag ag (λ J J J a=>O0 a 2) ag bg ag ag false false)
noncomputable def isNull(d:Desc):Bool:=(Desc.casesOn d ag ag ag bg ag bg ag ag false (true))
noncomputable def ord(d:Desc):Nat:=(Desc.casesOn d (λ J=>1) (λ J=>1) (λ J=>0) (λ J J J J=>2) (λ J=>0) (λ J J J J=>0) (λ J=>0) (λ J=>0) 0 0)
noncomputable def bad(d e:Desc):Bool:=!(d.isNull||e.isNull)&&(d.unread||e.unread)
noncomputable def eq(d e:Desc):Bool:=decide (d.key=e.key)
noncomputable def cmpT(d e:Desc):Bool:=!(OC d.ord e.ord&&!(OC d.ord 0))
noncomputable def cmpB(d e:Desc):Bool:=d.unread||e.unread
noncomputable def mil(d:Desc):Int:=(Desc.casesOn d (λ n=>n*1000000) (λ n=>n) (λ J=>0) (λ J J J J=>0) (λ J=>0) (λ J J J J=>0) (λ J=>0) (λ J=>0) 0 0)
noncomputable def lt(d e:Desc):Bool:=match OC d.ord 1 with
 | true=>decide (d.mil<e.mil)
 | false=>cZ d.octs e.octs
noncomputable def ask(t:Nat)(d e:Desc):Bool:=match t with
 | 0=>bad d e
 | 1=>eq d e
 | 2=>cmpT d e
 | 3=>cmpB d e
 | _=>lt d e
noncomputable def signed(i:Int):Int:=(i+2147483648)%4294967296-2147483648
noncomputable def shl(n b:Int):Int:=if 0<=b then(if 32<=b then 0 else signed (n*2^b.toNat)) else(if b<=-32 then 0 else signed ((n%4294967296)/2^(-b).toNat))
noncomputable def tok(t:Nat)(d e:Desc):Int:=match t with
 | 0=>d.num
 | 1=>ON d.num e.num
 | 2=>RI d.num e.num
 | 3=>UI d.num e.num
 | 4=>shl d.num e.num
 | _=>-1-d.num
end Desc
structure Va where
 ρ:List Addr
 φ:List Addr
 K:Addr->Obj->Prop
 ds:List Desc
structure Va.Le(V V':Va):Prop where
 ρ:∀ {i:Nat} {a:Addr},V.ρ[i]?=some a->V'.ρ[i]?=some a
 φ:∀ {i:Nat} {a:Addr},V.φ[i]?=some a->V'.φ[i]?=some a
 K:∀ {a:Addr} {o:Obj},V.K a o->V'.K a o
 ds:∀ {i:Nat} {d:Desc},V.ds[i]?=some d->V'.ds[i]?=some d
theorem Va.Le.rfl{V:Va}:V.Le V:=⟨id,id,id,id⟩
theorem Va.Le.trans{V V' V'':Va}(h:V.Le V')(k:V'.Le V''):V.Le V'':=⟨λ e=>k.ρ (h.ρ e),λ e=>k.φ (h.φ e),λ e=>k.K (h.K e),λ e=>k.ds (h.ds e)⟩
noncomputable def Va.push(V:Va)(a:Addr):Va:=⟨V.ρ++[a],V.φ,V.K,V.ds⟩
theorem Va.le_push(V:Va)(a:Addr):V.Le (V.push a):=⟨λ {i b} e=>by
 show(V.ρ++[a])[i]?=some b;rw[OT (OJ.mp e).1];exact e,id,id,id⟩
noncomputable def jw:Bi->Value
 | .len=>.builtin "len" | .isinstance=>.builtin "isinstance" | .ord=>.builtin "ord" | .chr=>.builtin "chr" | .max=>.builtin "max" | .min=>.builtin "min"
 | .abs=>.builtin "abs" | .repr=>.builtin "repr" | .all=>.builtin "all" | .sum=>.builtin "sum"
 | .int=>.type "int" | .bytes=>.type "bytes" | .bytearray=>.type "bytearray" | .list=>.type "list" | .tuple=>.type "tuple" | .zip=>.type "zip" | .range=>.type "range" | .str=>.type "str"
inductive RpV(V:Va):AV->PyData->Prop
 | str {l:List Nat} {x:Str}:x.cps.toList=l->RpV V (.str l) (.str x)
 | bool {b:Bool}:RpV V (.bool b) (.bool b)
 | sb {b:Bool}:RpV V (.sb b) (.bool b)
 | int {i:Int}:RpV V (.int i) (.int i)
 | si {i:Int}:RpV V (.si i) (.int i)
 | ti {t i j:Nat} {d e:Desc}:V.ds[i]?=some d->V.ds[j]?=some e->RpV V (.ti t i j) (.int (Desc.tok t d e))
 | tup {l:List AV} {ds:List PyData}:All2 (RpV V) l ds->RpV V (.rp l) (.tuple ds)
inductive DenV(V:Va):AV->Value->Prop
 | none:DenV V .none .none
 | bool (b:Bool):DenV V (.bool b) (.bool b)
 | sb (b:Bool):DenV V (.sb b) (.bool b)
 | int (i:Int) (t:Tok):DenV V (.int i) (.int i t)
 | si (i:Int) (t:Tok):DenV V (.si i) (.int i t)
 | str {l:List Nat} {s:Str} (t:Tok):s.cps.toList=l->DenV V (.str l) (.str s t)
 | byt {l:List Nat} {b:Array UInt8} (t:Tok):b.toList.map (·.toNat)=l->DenV V (.byt l) (.bytes b t)
 | sy {l:List UInt8} {b:Array UInt8} (t:Tok):b.toList=l->DenV V (.sy l) (.bytes b t)
 | own {i:Nat} {a:Addr}:V.ρ[i]?=some a->DenV V (.own i) (.ref a)
 | frz {i:Nat} {a:Addr}:V.φ[i]?=some a->DenV V (.frz i) (.ref a)
 | glob (a:Addr):DenV V (.glob a) (.ref a)
 | bi (b:Bi):DenV V (.bi b) (jw b)
 | rp {l:List AV} {ds:List PyData} (t:Tok):All2 (RpV V) l ds->DenV V (.rp l) (.str (PyData.list ds).shown t)
 | any (v:Value):DenV V .any v
 | rg {m:Nat} {i:Int} (t:Tok):0<=i->i<m->DenV V (.rg m) (.int i t)
 | an (i:Int) (t:Tok):DenV V .an (.int i t)
 | ub (b:Bool):DenV V .ub (.bool b)
 | ti {t i j:Nat} {d e:Desc} (k:Tok):V.ds[i]?=some d->V.ds[j]?=some e->DenV V (.ti t i j) (.int (Desc.tok t d e) k)
 | kd {i:Nat} {d:Desc} {s:Str} (t:Tok):V.ds[i]?=some d->d.isI=false->d.isB=false->s.cps.toList=d.kind->DenV V (.kd i) (.str s t)
def J7(V:Va)(x:AV)(v:Value):Prop:=(AV.casesOn x (v=.none) (λ b=>v=.bool b) (λ b=>v=.bool b) (λ i=>(∃ (t:Tok),v=.int i t)) (λ i=>(∃ (t:Tok),v=.int i t)) (λ l=>(∃ (s:Str) (t:Tok),v=.str s t/\s.cps.toList=l)) (λ l=>(∃ (b:Array UInt8) (t:Tok),v=.bytes b t/\b.toList.map (·.toNat)=l)) (λ l=>(∃ (b:Array UInt8) (t:Tok),v=.bytes b t/\b.toList=l)) (λ i=>(∃ (a:Addr),v=.ref a/\V.ρ[i]?=some a)) (λ i=>(∃ (a:Addr),v=.ref a/\V.φ[i]?=some a)) (λ a=>v=.ref a) (λ b=>v=jw b) (λ l=>(∃ (ds:List PyData) (t:Tok),v=.str (PyData.list ds).shown t/\All2 (RpV V) l ds)) True True (λ m=>(∃ (i:Int) (t:Tok),v=.int i t/\0<=i/\i<m)) ((∃ (i:Int) (t:Tok),v=.int i t)) ((∃ (b:Bool),v=.bool b)) (λ t i j=>(∃ (d:Desc) (e:Desc) (k:Tok),v=.int (Desc.tok t d e) k/\V.ds[i]?=some d/\V.ds[j]?=some e)) (λ i=>(∃ (d:Desc) (s:Str) (t:Tok),v=.str s t/\V.ds[i]?=some d/\d.isI=false/\d.isB=false/\s.cps.toList=d.kind)))
theorem DenV.inv{V:Va}(d:DenV V x v):J7 V x v:=
 d.rec (motive:=λ x v J=>J7 V x v) rfl (λ J=>rfl) (λ J=>rfl) (λ J J=>⟨_,rfl⟩) (λ J J=>⟨_,rfl⟩) (λ J e=>⟨_,_,rfl,e⟩) (λ J e=>⟨_,_,rfl,e⟩) (λ J e=>⟨_,_,rfl,e⟩) (λ e=>⟨_,rfl,e⟩) (λ e=>⟨_,rfl,e⟩) (λ J=>rfl) (λ J=>rfl) (λ J e=>⟨_,_,rfl,e⟩) (λ J=>trivial) (λ J a b=>⟨_,_,rfl,a,b⟩) (λ J J=>⟨_,_,rfl⟩) (λ J=>⟨_,rfl⟩) (λ J a b=>⟨_,_,_,rfl,a,b⟩) (λ J a b c d=>⟨_,_,_,rfl,a,b,c,d⟩)
theorem DenV.none_elim{V:Va}{motive:(v:Value)->DenV V .none v->Prop}(none:motive (.none) (.none))(d:DenV V .none v):motive v d:=by
 obtain rfl:=d.inv;exact none
theorem DenV.bool_elim{V:Va}{motive:(v:Value)->DenV V (.bool b) v->Prop}(bool:motive (.bool b) (.bool _))(d:DenV V (.bool b) v):motive v d:=by
 obtain rfl:=d.inv;exact bool
theorem DenV.sb_elim{V:Va}{motive:(v:Value)->DenV V (.sb b) v->Prop}(sb:motive (.bool b) (.sb _))(d:DenV V (.sb b) v):motive v d:=by
 obtain rfl:=d.inv;exact sb
theorem DenV.int_elim{V:Va}{i:Int}{motive:(v:Value)->DenV V (.int i) v->Prop}(int:∀ (t:Tok),motive (.int i t) (.int _ t))(d:DenV V (.int i) v):motive v d:=by
 obtain⟨t,rfl⟩:=d.inv;exact int t
theorem DenV.si_elim{V:Va}{i:Int}{motive:(v:Value)->DenV V (.si i) v->Prop}(si:∀ (t:Tok),motive (.int i t) (.si _ t))(d:DenV V (.si i) v):motive v d:=by
 obtain⟨t,rfl⟩:=d.inv;exact si t
theorem DenV.str_elim{V:Va}{motive:(v:Value)->DenV V (.str l) v->Prop}(str:∀ {s:Str} (t:Tok) (e:s.cps.toList=l),motive (.str s t) (.str t e))(d:DenV V (.str l) v):motive v d:=by
 obtain⟨s,t,rfl,e⟩:=d.inv;exact str t e
theorem DenV.byt_elim{V:Va}{motive:(v:Value)->DenV V (.byt l) v->Prop}(byt:∀ {b:Array UInt8} (t:Tok) (e:b.toList.map (·.toNat)=l),motive (.bytes b t) (.byt t e))(d:DenV V (.byt l) v):motive v d:=by
 obtain⟨b,t,rfl,e⟩:=d.inv;exact byt t e
theorem DenV.sy_elim{V:Va}{l:List UInt8}{motive:(v:Value)->DenV V (.sy l) v->Prop}(sy:∀ {b:Array UInt8} (t:Tok) (e:b.toList=l),motive (.bytes b t) (.sy t e))(d:DenV V (.sy l) v):motive v d:=by
 obtain⟨b,t,rfl,e⟩:=d.inv;exact sy t e
theorem DenV.own_elim{V:Va}{motive:(v:Value)->DenV V (.own i) v->Prop}(own:∀ {a:Addr} (e:V.ρ[i]?=some a),motive (.ref a) (.own e))(d:DenV V (.own i) v):motive v d:=by
 obtain⟨a,rfl,e⟩:=d.inv;exact own e
theorem DenV.frz_elim{V:Va}{motive:(v:Value)->DenV V (.frz i) v->Prop}(frz:∀ {a:Addr} (e:V.φ[i]?=some a),motive (.ref a) (.frz e))(d:DenV V (.frz i) v):motive v d:=by
 obtain⟨a,rfl,e⟩:=d.inv;exact frz e
theorem DenV.glob_elim{V:Va}{a:Nat}{motive:(v:Value)->DenV V (.glob a) v->Prop}(glob:motive (.ref a) (.glob _))(d:DenV V (.glob a) v):motive v d:=by
 obtain rfl:=d.inv;exact glob
theorem DenV.bi_elim{V:Va}{b:Bi}{motive:(v:Value)->DenV V (.bi b) v->Prop}(bi:motive (jw b) (.bi _))(d:DenV V (.bi b) v):motive v d:=by
 obtain rfl:=d.inv;exact bi
theorem DenV.rp_elim{V:Va}{l:List AV}{motive:(v:Value)->DenV V (.rp l) v->Prop}(rp:∀ {ds:List PyData} (t:Tok) (e:All2 (RpV V) l ds),motive (.str (PyData.list ds).shown t) (.rp t e))(d:DenV V (.rp l) v):motive v d:=by
 obtain⟨ds,t,rfl,e⟩:=d.inv;exact rp t e
theorem DenV.rg_elim{V:Va}{m:Nat}{motive:(v:Value)->DenV V (.rg m) v->Prop}(rg:∀ {i:Int} (t:Tok) (e:0<=i) (e2:i<m),motive (.int i t) (.rg t e e2))(d:DenV V (.rg m) v):motive v d:=by
 obtain⟨i,t,rfl,e,e2⟩:=d.inv;exact rg t e e2
theorem DenV.an_elim{V:Va}{motive:(v:Value)->DenV V .an v->Prop}(an:∀ (i:Int) (t:Tok),motive (.int i t) (.an i t))(d:DenV V .an v):motive v d:=by
 obtain⟨i,t,rfl⟩:=d.inv;exact an i t
theorem DenV.ub_elim{V:Va}{motive:(v:Value)->DenV V .ub v->Prop}(ub:∀ (b:Bool),motive (.bool b) (.ub b))(d:DenV V .ub v):motive v d:=by
 obtain⟨b,rfl⟩:=d.inv;exact ub b
theorem DenV.ti_elim{V:Va}{motive:(v:Value)->DenV V (.ti t i j) v->Prop}(ti:∀ {d e:Desc} (k:Tok) (h1:V.ds[i]?=some d) (h2:V.ds[j]?=some e),motive (.int (Desc.tok t d e) k) (.ti k h1 h2))(d:DenV V (.ti t i j) v):motive v d:=by
 obtain⟨d,e,k,rfl,h1,h2⟩:=d.inv;exact ti k h1 h2
theorem DenV.kd_elim{V:Va}{motive:(v:Value)->DenV V (.kd i) v->Prop}(kd:∀ {d:Desc} {s:Str} (t:Tok) (h1:V.ds[i]?=some d) (h2:d.isI=false) (h3:d.isB=false) (h4:s.cps.toList=d.kind),motive (.str s t) (.kd t h1 h2 h3 h4))(d:DenV V (.kd i) v):motive v d:=by
 obtain⟨d,s,t,rfl,h1,h2,h3,h4⟩:=d.inv;exact kd t h1 h2 h3 h4
def RpF(V:Va)(x:AV)(d:PyData):Prop:=(AV.casesOn x True (λ b=>d=.bool b) (λ J=>True) (λ i=>d=.int i) (λ J=>True) (λ l=>(∃ x,d=.str x/\x.cps.toList=l)) (λ J=>True) (λ J=>True) (λ J=>True) (λ J=>True) (λ J=>True) (λ J=>True) (λ l=>(∃ ds,d=.tuple ds/\All2 (RpV V) l ds)) True True (λ J=>True) True True (λ t i j=>(∃ D E,d=.int (Desc.tok t D E)/\V.ds[i]?=some D/\V.ds[j]?=some E)) (λ J=>True))
theorem RpV.inv{V:Va}{d:PyData}(r:RpV V x d):RpF V x d:=
 RpV.rec (V:=V) (motive_1:=λ x d J=>RpF V x d) (motive_2:=λ J J J=>True) (λ e=>⟨_,rfl,e⟩) rfl trivial rfl trivial (λ a b=>⟨_,_,rfl,a,b⟩) (λ a J=>⟨_,rfl,a⟩) trivial (λ J J J J=>trivial) r
theorem RpV.mono{V V':Va}(h:V.Le V'):∀ {x:AV} {d:PyData},RpV V x d->RpV V' x d:=λ r=>by
 refine RpV.rec (V:=V) (motive_1:=λ x d J=>RpV V' x d) (motive_2:=λ l ds J=>All2 (RpV V') l ds) ?_ ?_ ?_ ?_ ?_ ?_ ?_ ?_ ?_ r
 ·exact λ e=>.str e
 ·exact .bool
 ·exact .sb
 ·exact .int
 ·exact .si
 ·exact λ a b=>.ti (h.ds a) (h.ds b)
 ·exact λ J k=>.tup k
 ·exact .nil
 ·exact λ J J a b=>.cons a b
theorem qh{v:AV}(h:oF v=true):v=.none:=(AV.casesOn (motive_1:=λ v=>oF v=true->v=.none) v (λ J=>rfl) (λ J=>OG) (λ J=>OG) (λ J=>OG) (λ J=>OG) (λ J=>OG) (λ J=>OG) (λ J=>OG) (λ J=>OG) (λ J=>OG) (λ J=>OG) (λ J=>OG) (λ J=>OG) OG OG (λ J=>OG) OG OG (λ J J J=>OG) (λ J=>OG)) h
theorem eJ{V:Va}(e:jW x=some i)(d:DenV V x v):∃ a,v=.ref a/\V.ρ[i]?=some a:=(jV e▸d:DenV V (.own i) v).inv
theorem lI{V:Va}(e:qW x=some i)(d:DenV V x v):∃ a,v=.ref a/\V.φ[i]?=some a:=(sY e▸d:DenV V (.frz i) v).inv
theorem fm{V:Va}(e:dc x=some i)(d:DenV V x v):v=.ref i:=(kJ e▸d:DenV V (.glob i) v).inv
theorem jj{V:Va}{i:Int}(e:iG x=some i)(d:DenV V x v):∃ t,v=.int i t:=(ie e▸d:DenV V (.int i) v).inv
theorem gK{V:Va}(e:iF x=some l)(d:DenV V x v):∃ s t,v=.str s t/\s.cps.toList=l:=(jU e▸d:DenV V (.str l) v).inv
theorem wz{V:Va}(e:qX x=some l)(d:DenV V x v):∃ b t,v=.bytes b t/\b.toList.map (·.toNat)=l:=(Ai e▸d:DenV V (.byt l) v).inv
theorem JX{V:Va}(e:kL x=some b)(d:DenV V x v):v=.bool b:=(nP e▸d:DenV V (.bool b) v).inv
theorem pI{V:Va}{m:Nat}(e:vRg x=some m)(d:DenV V x v):∃ i t,v=.int i t/\0<=i/\i<m:=(Kg e▸d:DenV V (.rg m) v).inv
theorem qP{V:Va}{b:Bi}(e:vBi x=some b)(d:DenV V x v):v=jw b:=(Kh e▸d:DenV V (.bi b) v).inv
theorem my{V:Va}(e:oF x=true)(d:DenV V x v):v=.none:=(qh e▸d:DenV V .none v).inv
theorem gX{V:Va}{i:Int}(e:isI i x=true)(d:DenV V x v):∃ t,v=.int i t:=(Lm e▸d:DenV V (.int i) v).inv
theorem yx{V:Va}(e:GO x=some n)(d:DenV V x v):∃ t,v=.int n t:=(uH e▸d:DenV V (.int n) v).inv
theorem DenV.mono{V V':Va}(h:V.Le V')(d:DenV V x v):DenV V' x v:=
 d.rec (motive:=λ x v J=>DenV V' x v) .none .bool .sb .int .si (λ t e=>.str t e) (λ t e=>.byt t e) (λ t e=>.sy t e) (λ e=>.own (h.ρ e)) (λ e=>.frz (h.φ e)) .glob .bi (λ t e=>.rp t (e.mono λ J J=>RpV.mono h)) .any (λ t a b=>.rg t a b) .an .ub (λ t a b=>.ti t (h.ds a) (h.ds b)) (λ t a b c d=>.kd t (h.ds a) b c d)
noncomputable def DL(s:Str):List Nat:=s.cps.toList
noncomputable def DM(b:List UInt8):List Nat:=b.map (·.toNat)
def KvDen{K:Type}(enc:K->List Nat)(V:Va)(p:List Nat×AV)(q:K×Value):Prop:=enc q.1=p.1/\DenV V p.2 q.2
def NsDen(V:Va)(es:bN)(m:Str->Option Value):Prop:=∀ x,okS x=true->match aX (nm x) es with
 | some v=>v≠.hid->∃ y,m x=some y/\DenV V v y
 | none=>m x=none
theorem BA{v w:AV}(h:td v=some w):v=w/\isHid v=false:=by
 unfold td at h;rcases e:isHid v with _|_
 ·rw[e] at h;exact⟨Oy h,rfl⟩
 ·rw[e] at h;exact am h
theorem AD{v:AV}(h:isHid v=false):v≠.hid:=λ e=>by subst e;exact OG h
theorem NsDen.some_{V:Va}(h:NsDen V es m){x:Str}(hx:okS x=true){v:AV}(e:lx (nm x) es=some v):∃ y,m x=some y/\DenV V v y:=by
 have:=h x hx;refine aw e λ w e' h=>?_;obtain⟨rfl,nh⟩:=BA h;rw[e'] at this;exact this (AD nh)
theorem NsDen.none_{V:Va}(h:NsDen V es m){x:Str}(hx:okS x=true)(e:aX (nm x) es=none):m x=none:=by
 have:=h x hx;rw[e] at this;exact this
theorem NsDen.mono{V V':Va}(k:V.Le V')(h:NsDen V es m):NsDen V' es m:=λ x hx=>by
 have:=h x hx;rcases e:aX (nm x) es with _|v
 ·rw[e] at this;exact this
 ·rw[e] at this;exact λ ne=>(this ne).imp λ J q=>⟨q.1,q.2.mono k⟩
theorem NsDen.put{V:Va}(h:NsDen V es m){x:Str}(hx:okS x=true){v:AV}{y:Value}(d:DenV V v y) :
 NsDen V (eE (nm x) v es) (λ z=>if z=x then some y else m z):=λ z hz=>by
 rw[kh];by_cases e:z=x
 ·rw[if_pos (congrArg nm e)];exact λ J=>⟨y,if_pos e,d⟩
 ·rw[if_neg λ q=>e (eP hz hx q)];simp only[if_neg e];exact h z hz
theorem NsDen.hide{V:Va}(h:NsDen V es m){x:Str}(hx:okS x=true)(u:Option Value) :
 NsDen V (eE (nm x) .hid es) (λ z=>if z=x then u else m z):=λ z hz=>by
 rw[kh];by_cases e:z=x
 ·rw[if_pos (congrArg nm e)];exact λ q=>absurd rfl q
 ·rw[if_neg λ q=>e (eP hz hx q)];simp only[if_neg e];exact h z hz
theorem NsDen.nil{V:Va}:NsDen V [] aa:=λ J J=>rfl
noncomputable def iw(V:Va)(x:AV):Option Addr:=(AV.casesOn x none aa aa aa aa aa aa aa (λ i=>V.ρ[i]?) (λ i=>V.φ[i]?) (λ a=>some a) aa aa none none aa none none ai aa)
theorem eI{V:Va}(h:iw V x=some a):DenV V x (.ref a):=
 AV.casesOn (motive_1:=λ x=>iw V x=some a->DenV V x (.ref a)) x am ac ac ac ac ac ac ac (λ J h=>.own h) (λ J h=>.frz h) (λ J h=>Oy h▸.glob _) ac ac am am ac am am ak ac h
theorem bW{V V':Va}(k:V.Le V')(h:iw V x=some a):iw V' x=some a:=
 AV.casesOn (motive_1:=λ x=>iw V x=some a->iw V' x=some a) x am ac ac ac ac ac ac ac (λ J h=>k.ρ h) (λ J h=>k.φ h) (λ J h=>h) ac ac am am ac am am ak ac h
structure Cx where
 prog:Program
 w:World
 B:Heap
 out:List Addr
 h0:Heap
 gens:Array GenState
 os:OsState
 n0:Nat
noncomputable def Va.at_(V:Va)(fz:Bool)(d:Nat):Option Addr:=match fz with|true=>V.φ[d]? | false=>V.ρ[d]?
theorem Va.Le.at_{V V':Va}(k:V.Le V'){d:Nat}:V.at_ fz d=some a->V'.at_ fz d=some a:=
 Qx (motive:=λ fz=>V.at_ fz d=some a->V'.at_ fz d=some a) fz k.ρ k.φ
noncomputable def bT(vs:Array Value)(n:Nat):Obj:={ cls:=.type "list",dict:=none,data:=.seq vs n,slots:=#[] }
noncomputable def qY(vs:Array Value)(n:Nat):Obj:={ cls:=.type "tuple",dict:=none,data:=.seq vs n,slots:=#[] }
noncomputable def DenO(X:Cx)(fz:Bool)(V:Va)(ob:Obj):AO->Prop
 | .lst xs=>∃ vs n,ob=bT vs n/\All2 (DenV V) xs vs.toList
 | .tup xs=>∃ vs n,ob=qY vs n/\All2 (DenV V) xs vs.toList
 | .inst c d=>ob.cls=.ref c/\ob.data=.plain/\∃ a,V.at_ fz d=some a/\ob.dict=some a
 | .ns es=>∃ ents n,ob.data=.dict ents n/\StrKeys ents/\NsDen V es (Ru ents)
 | .atd es=>∃ ents n ns,ob.data=.dict ents n/\StrKeys ents/\UniqKeys ents/\NsDen V es (Ru ents)/\Within (Ru ents) ns/\ns.length<=es.length
 | .dct false es=>∃ kvs,ob.IsDictOf (strKind X.prog X.w) kvs/\All2 (KvDen DL V) es kvs
 | .dct true es=>∃ kvs,ob.IsDictOf (Tq X.prog X.w) kvs/\All2 (KvDen DM V) es kvs
 | .bar b=>∃ bs,ob={ cls:=.type "bytearray",dict:=none,data:=.bytearray bs 0,slots:=#[] }/\bs.toList.map (·.toNat)=b
 | .cel v=>∃ x,ob.data=.cell x/\(v≠.hid->∃ y,x=some y/\DenV V v y)
 | .rng lo hi=>∃ t u v,ob={ cls:=.type "range",dict:=none,data:=.fields #[.int lo t,.int hi u,.int 1 v],slots:=#[] }
 | .itL l k=>ob.cls=.type "list_iterator"/\∃ a,iw V l=some a/\ob.data=.fields #[.ref a,.int k 0]
 | .itT l k=>ob.cls=.type "tuple_iterator"/\∃ a,iw V l=some a/\ob.data=.fields #[.ref a,.int k 0]
 | .itS l k=>ob.cls=.type "str_ascii_iterator"/\(∃ x t,ob.data=.fields #[.str x t,.int k 0]/\x.cps.toList=l)
 | .itB l k=>ob.cls=.type "bytes_iterator"/\(∃ x t,ob.data=.fields #[.bytes x t,.int k 0]/\x.toList.map (·.toNat)=l)
 | .itR x left=>ob={ cls:=.type "range_iterator",dict:=none,data:=.fields #[rawInt x,rawInt left,rawInt 1],slots:=#[] }
 | .zip _ _ ti to=>∃ TI TO,V.ρ[ti]?=some TI/\V.ρ[to]?=some TO/\ob={ cls:=.type "zip",dict:=none,data:=.fields #[.none,.bool false,.bool false,.ref TI,.ref TO],slots:=#[] }
 | .prA a b=>∃ i1 i2,V.ρ[a]?=some i1/\V.ρ[b]?=some i2/\ob={ cls:=.type "tuple",data:=.seq #[.ref i1,.ref i2] }
 | .prB=>∃ x y,ob={ cls:=.type "tuple",data:=.seq #[x,y] }
 | .scr=>∃ vs n,ob.cls=.type "list"/\ob.data=.seq vs n/\vs.size<=64/\∀ v∈vs.toList,∃ i t,v=Value.int i t
 | .ila=>∃ vs n,ob=bT vs n/\vs.size<=64/\∀ v∈vs.toList,∃ i t,v=Value.int i t
 | .ilaN=>∃ vs n,ob=bT vs n/\0<vs.size/\vs.size<=64/\∀ v∈vs.toList,∃ i t,v=Value.int i t
 | .lsA=>∃ vs n,ob=bT vs n/\vs.size<=100000
 | .wld k=>∃ vs n,ob=bT vs n/\vs.size=k
 | .otp _ _=>True
 | .oth _=>True
 | .oti _=>True
 | .otb _ _=>True
 | .otx _=>True
 | .exc c d=>ob.cls=.ref c/\(∃ vs,ob.data=.fields vs/\vs.size=6)/\∃ a,V.ρ[d]?=some a/\ob.dict=some a
 | .exc0 c=>ob.cls=.ref c/\(∃ vs,ob.data=.fields vs/\vs.size=6/\vs[2]?=some .none/\vs[1]?=some .none)/\ob.dict=none
 | .dead=>True
theorem DenO.mono{X:Cx}{V V':Va}(k:V.Le V')(h:DenO X fz V ob o):DenO X fz V' ob o:=
 have hm:∀ x y,DenV V x y->DenV V' x y:=λ J J d=>d.mono k
 AO.casesOn (motive:=λ o=>DenO X fz V ob o->DenO X fz V' ob o) o
  (λ J=>E2.imp λ J J=>QC (All2.mono hm)) (λ J=>E2.imp λ J J=>QC (All2.mono hm))
  (λ J J h=>⟨h.1,h.2.1,h.2.2.imp λ J=>Us k.at_⟩)
  (λ J=>E2.imp λ J J q=>⟨q.1,q.2,q.3.mono k⟩)
  (λ J=>E3.imp λ J J J q=>⟨q.1,q.2,q.3,q.4.mono k,q.5,q.6⟩)
  (λ b J=>Qx (motive:=λ b=>DenO X fz V ob (.dct b _)->DenO X fz V' ob (.dct b _)) b (QJ λ J=>QC (All2.mono λ x y e=>⟨e.1,hm _ _ e.2⟩)) (QJ λ J=>QC (All2.mono λ x y e=>⟨e.1,hm _ _ e.2⟩)))
  (λ J h=>h)
  (λ J=>QJ λ J=>QC λ c q=>(c q).imp λ J=>QC (hm _ _))
  (λ J J h=>h)
  (λ J J=>QC (QJ λ J=>Us (bW k))) (λ J J=>QC (QJ λ J=>Us (bW k)))
  (λ J J h=>h) (λ J J h=>h) (λ J J h=>h)
  (λ J J J J=>E2.imp λ J J q=>⟨k.ρ q.1,k.ρ q.2,q.3⟩) (λ J J=>E2.imp λ J J q=>⟨k.ρ q.1,k.ρ q.2,q.3⟩) id
  (λ J J h=>⟨h.1,h.2.1,h.2.2.imp λ J=>Us k.ρ⟩) (λ J h=>h) id id id id (λ J h=>h) (λ J J h=>h) (λ J h=>h) (λ J h=>h) (λ J J h=>h) (λ J h=>h) id h
def Six(vs:Array Value):Prop:=vs.size=6/\vs[2]?=some .none
def Sg.live(σ:Sg)(i:Nat):Prop:=∃ o,σ.own.get i=some o/\o≠.dead
def Traced6(V:Va)(σ:Sg)(h:Heap)(a:Addr):Prop:=∃ ob vs,h.get? a=some ob/\ob.data=.fields vs/\Six vs /\
 (vs[1]?=some .none\/∃ t ot ts,vs[1]?=some (.ref t)/\(∀ i:Nat,σ.live i->V.ρ[i]?≠some t)/\h.get? t=some ot/\ot.data=.fields ts/\3<ts.size/\∀ o,¬ V.K t o)
noncomputable abbrev cC:Nat:=115
noncomputable abbrev Iu:Nat:=213
noncomputable abbrev LX:Nat:=136
noncomputable abbrev Oo:Nat:=157
noncomputable abbrev LY:Nat:=192
noncomputable def F4:List Nat:=[115,116,114,105,110,103]
noncomputable def fC:List Nat:=[110,117,109,98,101,114]
noncomputable def NR:List Nat:=[114,111,119]
noncomputable def bK(d:Desc)(v acc:AV):AO:=.atd [(dC,.str d.kind),(cQ,v),(nm "is_exec",.any),(nm "access",acc)]
noncomputable def aZ(d:Desc)(o:Nat):List AO:=match d with
 | .int n=>[.tup [.frz (o+1),.str fC,.si (n*1000000),.bool true],.inst cC (o+2),bK d (.si n) .any]
 | .real n=>[.tup [.frz (o+1),.str fC,.si n,.bool true],.inst cC (o+2),bK d (.si n) .any]
 | .bool b=>[.tup [.frz (o+1),.str bq,.bool b,.bool true],.inst cC (o+2),bK d (.bool b) .any]
 | .str b s m a=>[.tup [.frz (o+1),.str F4,.byt (lZ b s (s+m)),.bool (O0 1 a)],.inst cC (o+2),bK d (.frz (o+3)) (.int a),
  .inst Iu (o+4),.atd [(nm "body",.frz (o+5)),(nm "start",.int s),(nm "many",.int m)],.inst LX (o+6),.atd [(nm "number",.any),(nm "octets",.frz (o+7)),(nm "is_global",.any),(nm "level",.any)],.bar b]
 | .name b=>[.tup [.frz (o+1),.str d.kind,.sy b,.bool true],.inst cC (o+2),bK d (.sy b) .any]
 | .row _ n s m=>[.tup [.frz (o+1),.str NR,.frz (o+7),.bool true],.inst cC (o+2),bK d (.frz (o+3)) .any,
  .inst Iu (o+4),.atd [(nm "body",.frz (o+5)),(nm "start",.si s),(nm "many",.si m)],.inst Oo (o+6),.atd [(nm "number",.si n),(nm "things",.any),(nm "is_global",.any),(nm "level",.any)],.tup [.si n,.si s,.si m]]
 | .dict n=>[.tup [.frz (o+1),.str d.kind,.si n,.bool true],.inst cC (o+2),bK d (.frz (o+3)) .any,
  .inst LY (o+4),.atd [(nm "number",.si n),(nm "most",.any),(nm "is_global",.any),(nm "level",.any),(nm "access",.any),(nm "entries",.any)]]
 | .oper b=>[.tup [.frz (o+1),.str d.kind,.sy b,.bool true],.inst cC (o+2),bK d (.sy b) .any]
 | .mark=>[.tup [.frz (o+1),.str d.kind,.int 0,.bool true],.inst cC (o+2),bK d .none .any]
 | .null=>[.tup [.frz (o+1),.str d.kind,.int 0,.bool true],.inst cC (o+2),bK d .none .any]
noncomputable def strT:List (List Nat×Nat×Nat×Nat):=[([97,98,99,97,98],0,5,3),([97,98,99,97,98],0,2,3),([97,98,99,97,98],3,2,3),([97,98,99,97,98],1,2,2),([97,98],0,2,2),([97,98],0,2,1),([97,98,99,97,98],0,2,0),([97,98],2,0,3)]
noncomputable def Desc.OK:Desc->Prop
 | .int n=>-2147483648<=n/\n<2147483648
 | .str b s m a=>(b,s,m,a)∈strT
 | _=>True
def OpdAt(X:Cx)(K:Addr->Obj->Prop)(d:Desc)(tup th:Addr):Prop:=d.OK/\∃ φ':List Addr,φ'[0]?=some tup/\φ'[1]?=some th/\φ'.length=(aZ d 0).length /\
 ∀ (j:Nat) (o:AO),(aZ d 0)[j]?=some o->∃ (a:Addr) (ob:Obj),φ'[j]?=some a/\K a ob/\DenO X true ⟨[],φ',K,[]⟩ ob o
def FzOK(X:Cx)(V:Va)(a:Addr)(o:AO):Prop:=(AO.casesOn o (λ J=>True) (λ J=>True) (λ J J=>True) (λ J=>True) (λ J=>True) (λ J J=>(a==Rg)=false) (λ J=>True) (λ J=>True) (λ J J=>True) (λ J J=>True) (λ J J=>True) (λ J J=>True) (λ J J=>True) (λ J J=>True) (λ J J J J=>True) (λ J J=>True) True (λ J J=>True) (λ J=>True) True True True True (λ k=>(∃ vs n,V.K a (bT vs n)/\vs.size=k/\∀ v∈vs.toList,∃ t th d,v=Value.ref t/\OpdAt X V.K d t th)) (λ k j=>(∃ d th,V.ds[k]?=some d/\V.φ[j]?=some th/\OpdAt X V.K d a th)) (λ k=>(∃ d t,V.ds[k]?=some d/\OpdAt X V.K d t a)) (λ k=>(∃ d t,V.ds[k]?=some d/\OpdAt X V.K d t a/\d.isI=true)) (λ k b=>(∃ d t,V.ds[k]?=some d/\OpdAt X V.K d t a/\d.isB=true/\d.truth=b)) (λ k=>(∃ d t,V.ds[k]?=some d/\OpdAt X V.K d t a/\d.isI=false/\d.isB=false)) True)
theorem OpdAt.mono{X:Cx}{K K':Addr->Obj->Prop}(h:∀ {a o},K a o->K' a o){d:Desc}{t th:Addr}(q:OpdAt X K d t th):OpdAt X K' d t th:=
 ⟨q.1,q.2.imp λ φ' q=>⟨q.1,q.2,q.3,λ j o e=>(q.4 j o e).imp λ J J q=>⟨q.1,h q.2,q.3.mono (show Va.Le ⟨[],φ',K,[]⟩ ⟨[],φ',K',[]⟩ from⟨id,id,λ e=>h e,id⟩)⟩⟩⟩
theorem FzOK.mono{X:Cx}{V V':Va}(k:V.Le V')(h:FzOK X V a o):FzOK X V' a o:=
 (AO.casesOn (motive:=λ o=>FzOK X V a o->FzOK X V' a o) o (λ J=>id) (λ J=>id) (λ J J=>id) (λ J=>id) (λ J=>id) (λ J J=>id) (λ J=>id) (λ J=>id) (λ J J=>id) (λ J J=>id) (λ J J=>id) (λ J J=>id) (λ J J=>id) (λ J J=>id) (λ J J J J=>id) (λ J J=>id) id (λ J J=>id) (λ J=>id) id id id id (λ J=>E2.imp λ J J q=>⟨k.K q.1,q.2,λ v e=>(q.3 v e).imp λ J J J=>QC (OpdAt.mono k.K)⟩) (λ J J=>E2.imp λ J J q=>⟨k.ds q.1,k.φ q.2,q.3.mono k.K⟩) (λ J=>E2.imp λ J J q=>⟨k.ds q.1,q.2.mono k.K⟩) (λ J=>E2.imp λ J J q=>⟨k.ds q.1,q.2.mono k.K,q.3⟩) (λ J J=>E2.imp λ J J q=>⟨k.ds q.1,q.2.mono k.K,q.3,q.4⟩) (λ J=>E2.imp λ J J q=>⟨k.ds q.1,q.2.mono k.K,q.3,q.4⟩) id) h
@[reducible] noncomputable def OwnAt(X:Cx)(V:Va)(h:Heap)(i:Nat)(o:AO):Prop:=∃ a ob,V.ρ[i]?=some a/\h.get? a=some ob/\DenO X false V ob o
@[reducible] noncomputable def FrzAt(X:Cx)(V:Va)(j:Nat)(o:AO):Prop:=∃ a ob,V.φ[j]?=some a/\V.K a ob/\DenO X true V ob o/\FzOK X V a o
@[reducible] noncomputable def SoftAt(X:Cx)(V:Va)(h:Heap)(L:Addr):Prop:=∃ o sl,X.h0.get? L=some o/\(∀ vs,o.data≠.fields vs)/\(∀ o',¬ V.K L o')/\h.get? L=some { o with slots:=sl }
theorem OwnAt.mono{X:Cx}{V V':Va}(l:V.Le V')(k:∀ a ob,V.ρ[i]?=some a->h.get? a=some ob->h'.get? a=some ob)(q:OwnAt X V h i o):OwnAt X V' h' i o:=
 E2.imp (λ a ob q=>⟨l.ρ q.1,k a ob q.1 q.2,q.3.mono l⟩) q
theorem FrzAt.mono{X:Cx}{V V':Va}(l:V.Le V')(q:FrzAt X V j o):FrzAt X V' j o:=
 E2.imp (λ J J q=>⟨l.φ q.1,l.K q.2,q.3.mono l,q.4.mono l⟩) q
theorem SoftAt.mono{X:Cx}{V:Va}{L:Addr}(k:∀ o,h.get? L=some o->h'.get? L=some o)(q:SoftAt X V h L):SoftAt X V h' L:=
 E2.imp (λ J J q=>⟨q.1,q.2,q.3,k _ q.4⟩) q
theorem Traced6.mono{V V':Va}{σ σ':Sg}(k:∀ ob,h.get? a=some ob->h'.get? a=some ob)(k2:∀ t ot,(∀ i:Nat,σ.live i->V.ρ[i]?≠some t)->h.get? t=some ot->h'.get? t=some ot/\∀ i:Nat,σ'.live i->V'.ρ[i]?≠some t)(kK:∀ t o,V'.K t o->V.K t o)(q:Traced6 V σ h a):Traced6 V' σ' h' a:=
 E2.imp (λ J J q=>⟨k _ q.1,q.2,q.3,q.4.imp_right (E3.imp λ t ot J q=>⟨q.1,(k2 t ot q.2 q.3).2,(k2 t ot q.2 q.3).1,q.4,q.5,λ o r=>q.6 o (kK _ _ r)⟩)⟩) q
theorem eg{t:Tr}(hb:i<=100000)(e:(Tr.put' 40 t i o).get j=some o')(p:j=i->o=o'->P)(q:j≠i->t.get j=some o'->P):P:=by
 by_cases c:j=i
 ·subst c;exact p rfl (Oy ((Tr.put_self 40 t j o (OI (PA hb) (by decide))).symm.trans e))
 ·exact q c ((Tr.put_ne 40 t i o c).symm.trans e)
theorem p9{t:Tr}{i j n m:Nat}{f:Fz}(hb:i<=100000)(l:Sg.live ⟨Tr.put' 40 t i o,n,f⟩ j):j=i\/Sg.live ⟨t,m,f⟩ j:=
 l.elim λ o' q=>eg (P:=j=i\/Sg.live ⟨t,m,f⟩ j) hb q.1 (λ e J=>.inl e) λ J e=>.inr ⟨o',e,q.2⟩
theorem t9{l:List Addr}{a b:Addr}(e:(l++[a])[i]?=some b)(p:i<l.length->l[i]?=some b->P)(q:i=l.length->b=a->P):P:=by
 rcases Up i l.length with c|c
 ·exact p c (by rwa [OT c] at e)
 ·rw[OL c] at e;rcases d:i-l.length with _|m
  ·rw[d] at e;exact q (Ux (Nat.le_of_sub_eq_zero d) c) (Oy e).symm
  ·rw[d] at e;exact am e
theorem mo(l:List Addr)(a:Addr):(l++[a])[l.length]?=some a:=by
 rw[OL (OR _),Qm];rfl
structure St(X:Cx)(V:Va)(σ:Sg)(s:Shared):Prop where
 lenO:V.ρ.length=σ.n
 lenF:V.φ.length=σ.frz.l.length
 top:∀ i,σ.n<=i->σ.own.get i=none
 big:σ.n<=100000
 own:∀ (i:Nat) o,σ.own.get i=some o->o≠.dead->OwnAt X V s.heap i o
 nodup:∀ (i j:Nat) a,σ.live i->σ.live j->V.ρ[i]?=some a->V.ρ[j]?=some a->i=j
 nb:∀ (i:Nat) a,σ.live i->V.ρ[i]?=some a->∀ o,¬ V.K a o
 nout:∀ (i:Nat) a,σ.live i->V.ρ[i]?=some a->a∉X.out
 stays:∀ b o,V.K b o->s.heap.get? b=some o
 frz:∀ (j:Nat) o,σ.frz.l[j]?=some o->FrzAt X V j o
 soft:∀ L∈X.out,SoftAt X V s.heap L
 exc:∀ (i:Nat) c d a,σ.own.get i=some (.exc c d)->V.ρ[i]?=some a->Traced6 V σ s.heap a
 gens:s.gens=X.gens
 os:s.os=X.os
 lenD:V.ds.length=σ.frz.nd
 base:∀ b o,X.B.get? b=some o->V.K b o
 hi:∃ b o,1<=b/\X.B.get? b=some o
 low:∀ (i:Nat) a,σ.live i->V.ρ[i]?=some a->(a==Rg)=false
 dsok:∀ (i:Nat) (d:Desc),V.ds[i]?=some d->d.OK
 facts:∀ t i j b,(t,i,j,b)∈σ.frz.facts->∃ d e,V.ds[i]?=some d/\V.ds[j]?=some e/\Desc.ask t d e=b
section
variable {X:Cx} {V:Va} {σ:Sg} {s:Shared}
theorem St.bs(H:St X V σ s)(b:Addr)(o:Obj)(e:X.B.get? b=some o):s.heap.get? b=some o:=H.stays b o (H.base b o e)
theorem St.lt(H:St X V σ s)(e:σ.own.get i=some o):i<σ.n:=by
 apply Nat.lt_of_not_le;intro q;rw[H.top i q] at e;cases e
theorem St.there(H:St X V σ s)(l:σ.live i)(e:V.ρ[i]?=some a):a<s.heap.objs.size:=by
 obtain⟨o,e1,e2⟩:=l;obtain⟨b,ob,x,y,_⟩:=H.own i o e1 e2;rw[e] at x;cases x
 exact Pq y
theorem St.grow(H:St X V σ s)(k:∀ b o,s.heap.get? b=some o->h'.get? b=some o):St X V σ { s with heap:=h',toks:=t }:=
 ⟨H.lenO,H.lenF,H.top,H.big,λ i o e nd=>OwnAt.mono .rfl (λ a ob J=>k a ob) (H.own i o e nd),H.nodup,H.nb,H.nout,λ b o e=>k _ _ (H.stays b o e),H.frz,
  λ L hL=>SoftAt.mono (k L) (H.soft L hL),λ i c d a e x=>Traced6.mono (k a) (λ t ot q e=>⟨k t ot e,q⟩) (λ J J q=>q) (H.exc i c d a e x),H.gens,H.os,H.lenD,H.base,H.hi,H.low,H.dsok,H.facts⟩
theorem St.toks(H:St X V σ s):St X V σ { s with toks:=t }:=H.grow (h':=s.heap) λ J J e=>e
theorem ja{a b:Addr}(hb:σ.n<=100000)(hl:V.ρ.length=σ.n)(l:Sg.live ⟨Tr.put' 40 σ.own σ.n o,σ.n+1,σ.frz⟩ i)(e:(V.push a).ρ[i]?=some b)(p:V.ρ[i]?=some b->σ.live i->P)(q:i=σ.n->b=a->P):P:=
 t9 e (λ c e=>p e ((p9 (m:=σ.n) hb l).resolve_left (OX (hl▸c)))) λ c e=>q (hl▸c) e
theorem St.not1(H:St X V σ s)(hn:s.heap.objs.size<=a):(a==Rg)=false:=by
 obtain⟨b,o,h1,h2⟩:=H.hi;exact beq_eq_false_iff_ne.mpr λ q=>absurd (Pb (Pq (H.stays _ _ (H.base _ _ h2))) hn) (PQ.mpr (q▸h1))
theorem St.new(H:St X V σ s)(hs:s.heap.objs.size<=h'.objs.size)(k:∀ b o,s.heap.get? b=some o->h'.get? b=some o)(hn:s.heap.objs.size<=a)(ha:h'.get? a=some ob)
 (hx:∀ c d,o=.exc c d->∃ vs,ob.data=.fields vs/\Six vs/\vs[1]?=some .none) (hd:DenO X false (V.push a) ob o) (hb:σ.n<100000) :
 St X (V.push a) ⟨Tr.put' 40 σ.own σ.n o,σ.n+1,σ.frz⟩ { s with heap:=h',toks:=t }:=
 have hle:=V.le_push a;have G:=H.grow (t:=t) k;have ne:∀ {b o},s.heap.get? b=some o->b≠a:=λ e q=>absurd (Pq e) (q▸PQ.mpr hn);have hself:(V.push a).ρ[σ.n]?=some a:=H.lenO▸mo V.ρ a;have hb':=OU hb
 {
  lenO:=OW.trans (congrArg (·+1) H.lenO),lenF:=H.lenF
  top:=λ i q=>(Tr.put_ne 40 _ _ _ (Qn q)).trans (H.top i (QB q))
  big:=hb
  own:=λ i o' e nd=>eg hb' e (λ c d=>c▸d▸⟨a,ob,hself,ha,hd⟩) λ J e=>OwnAt.mono hle (λ a ob J=>id) (G.own i o' e nd)
  nodup:=λ i j b l1 l2 e1 e2=>ja hb' H.lenO l1 e1 (λ x xl=>ja hb' H.lenO l2 e2 (λ y yl=>H.nodup i j b xl yl x y) λ J q=>absurd (H.there xl x) (q▸PQ.mpr hn))
   λ c q=>ja hb' H.lenO l2 e2 (λ y yl=>absurd (H.there yl y) (q▸PQ.mpr hn)) λ d J=>c.trans d.symm
  nb:=λ i b l e=>ja hb' H.lenO l e (λ x xl=>H.nb i b xl x) λ J q o' r=>ne (H.stays _ _ r) q
  nout:=λ i b l e=>ja hb' H.lenO l e (λ x xl=>H.nout i b xl x) λ J q r=>(H.soft _ r).rec λ J J r=>ne r.4 q
  stays:=G.stays
  frz:=λ j o' e=>FrzAt.mono hle (H.frz j o' e)
  soft:=G.soft
  exc
   := λ i c d b e x=>eg hb' e (λ p q=>by
   obtain rfl:=Oy ((p▸x).symm.trans hself);exact(hx c d q).elim λ vs r=>⟨ob,vs,ha,r.1,r.2,.inl r.3⟩) λ p e=>t9 x
   (λ J x=>Traced6.mono (k b) (λ t ot q e=>⟨k t ot e,λ j l r=>ja hb' H.lenO l r (λ y yl=>q j yl y) λ J z=>ne e z⟩) (λ J J=>id) (H.exc i c d b e x)) λ q J=>absurd (H.lenO▸q) p
  gens:=H.gens,os:=H.os,lenD:=H.lenD,base:=H.base,hi:=H.hi
  low:=λ i b l e=>ja hb' H.lenO l e (λ x xl=>H.low i b xl x) λ J q=>q▸H.not1 hn
  dsok:=H.dsok,facts:=H.facts }
theorem St.turn(H:St X V σ s)(ho:σ.own.get i=some o)(hi:V.ρ[i]?=some a)(k:∀ b o,b≠a->s.heap.get? b=some o->h'.get? b=some o)(nd0:o≠.dead)
 (hn:o'≠.dead->∃ ob,h'.get? a=some ob/\DenO X false V ob o') (hx:∀ c d,o'=.exc c d->Traced6 V ⟨Tr.put' 40 σ.own i o',σ.n,σ.frz⟩ h' a):St X V ⟨Tr.put' 40 σ.own i o',σ.n,σ.frz⟩ { s with heap:=h',toks:=t }:=
 have hlt:=H.lt ho;have hb:=OU (Pb hlt H.big);have hli:σ.live i:=⟨o,ho,nd0⟩;have hlv:∀ {j:Nat},Sg.live ⟨Tr.put' 40 σ.own i o',σ.n,σ.frz⟩ j->σ.live j:=λ l=>(p9 hb l).elim (λ q=>q▸hli) id;have ne:∀ {j:Nat} {b},σ.live j->V.ρ[j]?=some b->j≠i->b≠a:=λ l e q r=>q (H.nodup _ i a l hli (r▸e) hi)
 {
  lenO:=H.lenO,lenF:=H.lenF
  top:=λ j q=>(Tr.put_ne 40 _ _ _ (Qn (Pb hlt q))).trans (H.top j q)
  big:=H.big
  own:=λ j oj e nd=>eg hb e (λ p q=>p▸q▸(hn (q▸nd)).elim λ ob r=>⟨a,ob,hi,r.1,r.2⟩) λ p e=>OwnAt.mono .rfl (λ b J x=>k b _ (ne ⟨oj,e,nd⟩ x p)) (H.own j oj e nd)
  nodup:=λ j j' b l l'=>H.nodup j j' b (hlv l) (hlv l')
  nb:=λ j b l=>H.nb j b (hlv l)
  nout:=λ j b l=>H.nout j b (hlv l)
  stays:=λ b o e=>k _ _ (λ q=>H.nb i _ hli hi _ (q▸e)) (H.stays b o e)
  frz:=H.frz
  soft:=λ L hL=>SoftAt.mono (λ o=>k L o λ q=>H.nout i _ hli hi (q▸hL)) (H.soft L hL)
  exc:=λ j c d b e x=>eg hb e (λ p q=>Oy ((p▸x).symm.trans hi)▸hx c d q) λ p e=>
   Traced6.mono (λ ob=>k b ob (ne ⟨_,e,nofun⟩ x p)) (λ t ot q e=>⟨k t ot (λ r=>q i hli (r▸hi)) e,λ j l=>q j (hlv l)⟩) (λ J J=>id) (H.exc j c d b e x)
  gens:=H.gens,os:=H.os,lenD:=H.lenD,base:=H.base,hi:=H.hi
  low:=λ j b l=>H.low j b (hlv l)
  dsok:=H.dsok,facts:=H.facts }
theorem St.updX(H:St X V σ s)(ho:σ.own.get i=some o)(hi:V.ρ[i]?=some a)(hs:s.heap.objs.size<=h'.objs.size)(k:∀ b o,b≠a->s.heap.get? b=some o->h'.get? b=some o)(ha:h'.get? a=some ob)
 (hne:∀ c d,o'=.exc c d->∃ vs,ob.data=.fields vs/\Six vs/\vs[1]?=some .none) (hd:DenO X false V ob o') (nd0:o≠.dead:=by intros;nofun):St X V ⟨Tr.put' 40 σ.own i o',σ.n,σ.frz⟩ { s with heap:=h',toks:=t }:=
 H.turn ho hi k nd0 (λ J=>⟨ob,ha,hd⟩) λ c d e=>(hne c d e).elim λ vs r=>⟨ob,vs,ha,r.1,r.2,.inl r.3⟩
theorem St.upd(H:St X V σ s)(ho:σ.own.get i=some o)(hi:V.ρ[i]?=some a)(hs:s.heap.objs.size<=h'.objs.size)(k:∀ b o,b≠a->s.heap.get? b=some o->h'.get? b=some o)(ha:h'.get? a=some ob)
 (hne:∀ c d,o'≠.exc c d) (hd:DenO X false V ob o') (nd0:o≠.dead:=by intros;nofun):St X V ⟨Tr.put' 40 σ.own i o',σ.n,σ.frz⟩ { s with heap:=h',toks:=t }:=
 H.updX ho hi hs k ha (λ c d e=>absurd e (hne c d)) hd nd0
theorem St.kill(H:St X V σ s)(ho:σ.own.get i=some o)(hi:V.ρ[i]?=some a)(k:∀ b o,b≠a->s.heap.get? b=some o->h'.get? b=some o)(nd0:o≠.dead:=by intros;nofun) :
 St X V ⟨Tr.put' 40 σ.own i .dead,σ.n,σ.frz⟩ { s with heap:=h',toks:=t }:=
 H.turn ho hi k nd0 (λ q=>absurd rfl q) nofun
end
end
section
universe u
open PySem PyProof.Rows
variable {kont:AV->Sg->R}
structure Keep(σ σ':Sg):Prop where
 ns:∀ (i:Nat) es,σ.own.get i=some (.ns es)->∃ es',σ'.own.get i=some (.ns es')
 ex:∀ (i:Nat) c d,σ.own.get i=some (.exc c d)->σ'.own.get i=some (.exc c d)
theorem Keep.rfl{σ:Sg}:Keep σ σ:=⟨λ J es e=>⟨es,e⟩,λ J J J e=>e⟩
theorem Keep.trans{σ σ' σ'':Sg}(h:Keep σ σ')(k:Keep σ' σ''):Keep σ σ'':=⟨λ i es e=>let ⟨_,e'⟩:=h.ns i es e;k.ns i _ e',λ i c d e=>k.ex i c d (h.ex i c d e)⟩
noncomputable def iR:NameKind->NameKind
 | .free=>.cell
 | k=>k
structure EnvOK(A:Around)(V:Va)(c:FC)(k:CC)(env:Env):Prop where
 kinds:∀ n kd,okS n=true->bA n k.sc.names=some kd->env.kindOf n=some (iR kd)
 kind:env.scope.kind=.function
 loc:V.ρ[c.fr]?=some env.locals
 glob:env.globals=Pj
 bt:env.builtins=Qh
 cells:∀ n,okS n=true->(∃ kd,bA n k.sc.names=some kd/\iR kd=.cell)->(∃ a,env.cells.lookup n=some a)/\∀ i,aX (nm n) c.cells=some i->∃ a,V.ρ[i]?=some a/\env.cells.lookup n=some a
 inF:∃ l,A.frames=some l/\∃ e∈l,e.frame=env.frame
theorem EnvOK.mono{A:Around}{V V':Va}(h:V.Le V'){c:FC}{k:CC}{env:Env}(H:EnvOK A V c k env):EnvOK A V' c k env:=
 ⟨H.kinds,H.kind,h.ρ H.loc,H.glob,H.bt,λ n hn hk=>⟨(H.cells n hn hk).1,λ i e=>let ⟨a,x,y⟩:=(H.cells n hn hk).2 i e;⟨a,h.ρ x,y⟩⟩,H.inF⟩
theorem EnvOK.mark{A:Around}{V:Va}{c:FC}{k:CC}{env:Env}(H:EnvOK A V c k env)(x:Option Value):EnvOK (A.mark x) V c k env:=
 ⟨H.kinds,H.kind,H.loc,H.glob,H.bt,H.cells,H.inF⟩
def FramesOK(X:Cx)(V:Va)(σ:Sg)(l:List Env):Prop:=
 ∀ e∈l,e.scope.kind≠.module/\∃ L,e.frame=some L/\(L∈X.out\/∃ (i:Nat) (es:bN),V.ρ[i]?=some L/\σ.own.get i=some (.ns es))
theorem FramesOK.mono{X:Cx}{V V':Va}{σ σ':Sg}(h:V.Le V')(k:Keep σ σ'){l:List Env}(H:FramesOK X V σ l):FramesOK X V' σ' l:=λ e he=>by
 obtain⟨a,L,b,c⟩:=H e he;refine⟨a,L,b,c.imp_right λ⟨i,es,x,y⟩=>?_⟩;obtain⟨es',y'⟩:=k.ns i es y;exact⟨i,es',h.ρ x,y'⟩
noncomputable def HandledIs(V:Va)(σ:Sg)(A:Around):Nat->Prop
 | 0=>A.handled=none
 | i+1=>∃ c d a,A.handled=some (.ref a)/\V.ρ[i]?=some a/\σ.own.get i=some (.exc c d)
theorem HandledIs.mono{V V':Va}{σ σ':Sg}(h:V.Le V')(k:Keep σ σ'){A:Around}{n:Nat}(H:HandledIs V σ A n):HandledIs V' σ' A n:=
 P2 (motive:=λ n=>HandledIs V σ A n->HandledIs V' σ' A n) n id (λ i H=>H.imp λ J J J q=>⟨q.1,h.ρ q.2,k.ex i _ _ q.3⟩) H
structure AOK(X:Cx)(V:Va)(σ:Sg)(A:Around)(d more:Nat):Prop where
 depth:A.depth<=310+4*(d%1000)+more
 units:A.units<=10+30*(d%1000)+10*more
 guards:A.guards=some []
 frames:∃ l,A.frames=some l/\FramesOK X V σ l
 dep:d%1000<=60
 hd:HandledIs V σ A (d/1000)
theorem AOK.mono{X:Cx}{V V':Va}{σ σ':Sg}(h:V.Le V')(k:Keep σ σ'){A:Around}{d m:Nat}(H:AOK X V σ A d m):AOK X V' σ' A d m:=
 ⟨H.depth,H.units,H.guards,let ⟨l,a,b⟩:=H.frames;⟨l,a,b.mono h k⟩,H.dep,H.hd.mono h k⟩
theorem lr(d i:Nat):(d%1000+1000*(i+1))%1000=d%1000:=(Nat.add_mul_mod_self_left ..).trans (Nat.mod_mod ..)
theorem yC(d i:Nat):(d%1000+1000*(i+1))/1000=i+1:=by
 rw[Nat.add_mul_div_left _ _ (by decide),Uk (Nat.mod_lt _ (by decide)),R6]
theorem AOK.up{X:Cx}{V:Va}{σ:Sg}{A:Around}{d m m':Nat}(H:AOK X V σ A d m)(h:m<=m'):AOK X V σ A d m':=
 ⟨OM H.depth (Pc h _),OM H.units (Pc (Ps _ h) _),H.guards,H.frames,H.dep,H.hd⟩
theorem AOK.in1{X:Cx}{V:Va}{σ:Sg}{A:Around}{d m:Nat}(H:AOK X V σ A d m):AOK X V σ A.in1 d (m+1):=
 ⟨QP H.depth,OM (Qw H.units 1) (Pc (by decide:1<=10) _),H.guards,H.frames,H.dep,P2 (motive:=λ n=>HandledIs V σ A n->HandledIs V σ A.in1 n) (d/1000) id (λ J=>id) H.hd⟩
theorem AOK.markX{X:Cx}{V:Va}{σ:Sg}{A:Around}{d m:Nat}(H:AOK X V σ A d m){i c d':Nat}{a:Addr}(hi:V.ρ[i]?=some a)(he:σ.own.get i=some (.exc c d')):AOK X V σ (A.mark (some (.ref a))) (d%1000+1000*(i+1)) m:=
 ⟨(lr d i).symm▸H.depth,(lr d i).symm▸H.units,H.guards,H.frames,(lr d i).symm▸H.dep,(yC d i).symm▸⟨c,d',a,rfl,hi,he⟩⟩
theorem EnvOK.atDep{A:Around}{V:Va}{c:FC}{k:CC}{env:Env}(H:EnvOK A V c k env)(d:Nat):EnvOK A V ⟨c.fr,c.cells,d⟩ k env:=⟨H.kinds,H.kind,H.loc,H.glob,H.bt,H.cells,H.inF⟩
theorem AOK.room{X:Cx}{V:Va}{σ:Sg}{A:Around}{d m:Nat}(H:AOK X V σ A d m)(hm:m<=100:=by first|decide|omega):A.depth<Sa:=
 OI (OM H.depth (QH (Pc (Ps 4 H.dep) 310) hm)) (by decide)
theorem AOK.line{X:Cx}{V:Va}{σ:Sg}{A:Around}{d m:Nat}(H:AOK X V σ A d m)(hm:m<=100:=by first|decide|omega):A.units<cLine:=
 OI (OM H.units (QH (Pc (Ps 30 H.dep) 10) (Ps 10 hm))) (by decide)
inductive PV(X:Cx)(V:Va)(σ:Sg)(Φ:Out×Sg->Prop)(v:Value)(s:Shared):Prop
 | mk (V':Va) (σ':Sg) (av:AV) (l:V.Le V') (k:Keep σ σ') (h:St X V' σ' s) (d:DenV V' av v) (f:Φ (.v av,σ'))
inductive PE(X:Cx)(V:Va)(σ:Sg)(Φ:Out×Sg->Prop)(x:Value)(s:Shared):Prop
 | mk (V':Va) (σ':Sg) (i:Nat) (a:Addr) (c d:Nat) (l:V.Le V') (k:Keep σ σ') (h:St X V' σ' s) (e:x=.ref a) (r:V'.ρ[i]?=some a) (o:σ'.own.get i=some (.exc c d)) (f:Φ (.ex i,σ'))
inductive PB(X:Cx)(V:Va)(σ:Sg)(Φ:Out×Sg->Prop)(b:Bool)(s:Shared):Prop
 | mk (V':Va) (σ':Sg) (l:V.Le V') (k:Keep σ σ') (h:St X V' σ' s) (f:Φ (.v (.bool b),σ'))
inductive PN(X:Cx)(V:Va)(σ:Sg)(Ψ:Sg->Prop)(s:Shared):Prop
 | mk (V':Va) (σ':Sg) (l:V.Le V') (k:Keep σ σ') (h:St X V' σ' s) (f:Ψ σ')
inductive PF(X:Cx)(V:Va)(σ:Sg)(Φ:Out×Sg->Prop)(f:Flow)(s:Shared):Prop
 |
  mk (V':Va) (σ':Sg) (l:V.Le V') (k:Keep σ σ') (h:St X V' σ' s) (q:match f with
  | .next=>Φ (.nx,σ')
  | .ret v=>∃ av,DenV V' av v/\Φ (.rt av,σ')
  | _=>False)
inductive PL(X:Cx)(V:Va)(σ:Sg)(Ψ:List AV->Sg->Prop)(l:List Value)(s:Shared):Prop
 | mk (V':Va) (σ':Sg) (avs:List AV) (le:V.Le V') (k:Keep σ σ') (h:St X V' σ' s) (d:All2 (DenV V') avs l) (f:Ψ avs σ')
def PR(X:Cx)(V:Va)(σ:Sg)(Φ:Out×Sg->Prop)(r:Qa)(s:Shared):Prop:=match r with
 | .ok (.ret v)=>PV X V σ Φ v s
 | .ok _=>False
 | .error e=>PE X V σ Φ e s
section
variable {X:Cx} {V V':Va} {σ σ':Sg} {Φ:Out×Sg->Prop} {s:Shared}
theorem PV.trans(h:V.Le V')(k:Keep σ σ'){v:Value}:PV X V' σ' Φ v s->PV X V σ Φ v s:=λ q=>q.rec λ V₂ σ₂ av a b r d f=>⟨V₂,σ₂,av,h.trans a,k.trans b,r,d,f⟩
theorem PE.trans(h:V.Le V')(k:Keep σ σ'){v:Value}:PE X V' σ' Φ v s->PE X V σ Φ v s:=λ q=>q.rec λ V₂ σ₂ i x c d a b r e o p f=>⟨V₂,σ₂,i,x,c,d,h.trans a,k.trans b,r,e,o,p,f⟩
theorem PB.trans(h:V.Le V')(k:Keep σ σ'){b:Bool}:PB X V' σ' Φ b s->PB X V σ Φ b s:=λ q=>q.rec λ V₂ σ₂ a b r f=>⟨V₂,σ₂,h.trans a,k.trans b,r,f⟩
theorem PF.trans(h:V.Le V')(k:Keep σ σ'){f:Flow}:PF X V' σ' Φ f s->PF X V σ Φ f s:=λ q=>q.rec λ V₂ σ₂ a b r f=>⟨V₂,σ₂,h.trans a,k.trans b,r,f⟩
theorem PL.trans(h:V.Le V')(k:Keep σ σ'){Ψ:List AV->Sg->Prop}{l:List Value}:PL X V' σ' Ψ l s->PL X V σ Ψ l s:=λ q=>q.rec λ V₂ σ₂ av a b r d f=>⟨V₂,σ₂,av,h.trans a,k.trans b,r,d,f⟩
theorem PN.trans(h:V.Le V')(k:Keep σ σ'){Ψ:Sg->Prop}:PN X V' σ' Ψ s->PN X V σ Ψ s:=λ q=>q.rec λ V₂ σ₂ a b r f=>⟨V₂,σ₂,h.trans a,k.trans b,r,f⟩
theorem PR.trans(h:V.Le V')(k:Keep σ σ'){r:Qa}:PR X V' σ' Φ r s->PR X V σ Φ r s:=by
 cases r with
 | error e=>exact PE.trans h k
 | ok f=>cases f<;>first|exact PV.trans h k|exact id
end
theorem PE.out{X:Cx}{V:Va}{σ:Sg}{s:Shared}{Φ:Out×Sg->Prop}{x:Value}(q:PE X V σ (λ r=>(ul kont r).Sat Φ) x s):PE X V σ Φ x s:=q.rec λ V' σ' i x c d a b r1 r2 r3 r4 r5=>⟨V',σ',i,x,c,d,a,b,r1,r2,r3,r4,r5⟩
theorem fB{α:Type}{X:Cx}{M:Model}{A:Around}{V:Va}{σ:Sg}{s:Shared}{m:Sem Value}{f:Value->Sem α}{Φ:Out×Sg->Prop}{Q:α->Shared->Prop}
 (h:wpAny M A m (PV X V σ λ r=>(ul kont r).Sat Φ) (PE X V σ λ r=>(ul kont r).Sat Φ) s)
 (hf:∀ V' σ' av v s',V.Le V'->Keep σ σ'->St X V' σ' s'->DenV V' av v->(kont av σ').Sat Φ->wpAny M A (f v) Q (PE X V' σ' Φ) s') :
 wpAny M A (m >>= f) Q (PE X V σ Φ) s:=
 Oz (OF h (λ v s' ⟨V',σ',av,a,b,c,d,e⟩=>OF (hf V' σ' av v s' a b c d e) (λ J J q=>q) λ J J=>PE.trans a b) λ J J q=>PE.out q)
noncomputable abbrev Mo(X:Cx):Model:=model X.prog X.w
def SE(X:Cx)(glb:List (Nat×AV))(r:Run):Prop:=∀ {c:FC} {k:CC} {n:Nat} {e:Expr} {x:E} {env:Env} {σ:Sg} {Φ:Out×Sg->Prop} {V:Va} {s:Shared} {A:Around},
 cE k n e=some x->k.glb=glb->EnvOK A V c k env->AOK X V σ A c.dep 0->St X V σ s->(r (.e c x) σ).Sat Φ->wpAny (Mo X) A (eval e env) (PV X V σ Φ) (PE X V σ Φ) s
def ST(X:Cx)(glb:List (Nat×AV))(r:Run):Prop:=∀ {c:FC} {k:CC} {n:Nat} {e:Expr} {x:E} {env:Env} {σ:Sg} {Φ:Out×Sg->Prop} {V:Va} {s:Shared} {A:Around},
 cE k n e=some x->k.glb=glb->EnvOK A V c k env->AOK X V σ A c.dep 0->St X V σ s->(r (.t c x) σ).Sat Φ->wpAny (Mo X) A (isTrue e env (eval e env)) (PB X V σ Φ) (PE X V σ Φ) s
def SS(X:Cx)(glb:List (Nat×AV))(r:Run):Prop:=∀ {c:FC} {k:CC} {n:Nat} {b:List Stmt} {x:List S} {env:Env} {σ:Sg} {Φ:Out×Sg->Prop} {V:Va} {s:Shared} {A:Around},
 bc (cS k n) b=some x->k.glb=glb->EnvOK A V c k env->AOK X V σ A c.dep 0->St X V σ s->(r (.ss c x) σ).Sat Φ->wpAny (Mo X) A (execs b env) (PF X V σ Φ) (PE X V σ Φ) s
def SC(X:Cx)(r:Run):Prop:=∀ {d:Nat} {f:AV} {as:List AV} {vf:Value} {vs:List Value} {σ:Sg} {Φ:Out×Sg->Prop} {V:Va} {s:Shared} {A:Around},
 DenV V f vf->All2 (DenV V) as vs->AOK X V σ A d 2->St X V σ s->(r (.call d f as) σ).Sat Φ->(∀ a,f=.glob a->Pd (Mo X) A (.call vf ⟨vs,[]⟩) (PR X V σ Φ) s)/\wpAny (Mo X) A (call vf vs) (PV X V σ Φ) (PE X V σ Φ) s
end
variable {X:Cx} {cfg:Cfg} {ih:Run} {env:Env} {pos:Pos} {σ:Sg} {Φ:Out×Sg->Prop} {V:Va} {A:Around}
section
universe u
open PySem PySem.W PyProof.Rows
variable {e:Expr} {g:Sg}
noncomputable def sD:BM->String
 | .append=>"list.append" | .pop=>"list.pop" | .extend=>"list.extend" | .get=>"dict.get" | .join=>"str.join"
def kG(mk:MK)(vx:Value)(p:Value×List Value):Prop:=match mk with
 | .fn f=>p=(.ref f,[vx])
 | .bm m=>p=(.builtin (sD m),[vx])
structure Prim(X:Cx)(cfg:Cfg)(glb:List (Nat×AV))(ih:Run):Prop where
 glob:∀ {n:Str} {v:AV} {env:Env} {s:Shared} {A:Around} {V:Va} {σ:Sg} {Q:VP} {E:VP},okS n=true->aX (nm n) glb=some v->env.globals=Pj->env.builtins=Qh->St X V σ s->
  (∀ y,DenV V v y->Q y s)->wpAny (Mo X) A (loadGlobal env n) Q E s
 keep:∀ {v:AV} {y:Value} {V:Va} {σ:Sg} {s:Shared} {args:List AV} {d:Nat} {Φ:Out×Sg->Prop},DenV V v y->St X V σ s->(ih (.call d v args) σ).Sat Φ->∃ k,(k=Keeper.frame\/k=Keeper.machine\/k=Keeper.boundFrame)/\Looks (Mo X) s.heap (Q3 y) k
 keepM:∀ {f:Nat} {V:Va} {σ:Sg} {s:Shared} {o:AV} {n:Nat},St X V σ s->rD cfg σ o n=some (.fn f)->∃ k,(k=Keeper.frame\/k=Keeper.machine\/k=Keeper.boundFrame)/\Looks (Mo X) X.B (Q3 (.ref f)) k
 bin:∀ {op:Operator} {x y:AV} {vx vy:Value} {V:Va} {σ:Sg} {s:Shared} {A:Around} {Φ:Out×Sg->Prop} {d:Nat},AOK X V σ A d 0->St X V σ s->DenV V x vx->DenV V y vy->
  (JY op x y σ).Sat Φ->wpAny (Mo X) A (Tl op vx vy) (PV X V σ Φ) (PE X V σ Φ) s
 cmp:∀ {op:CmpOp} {x y:AV} {vx vy:Value} {V:Va} {σ:Sg} {s:Shared} {A:Around} {Φ:Out×Sg->Prop} {d:Nat},AOK X V σ A d 0->St X V σ s->DenV V x vx->DenV V y vy->
  (JA (LQ cfg σ op x y) σ).Sat Φ->wpAny (Mo X) A (Tx op vx vy) (PV X V σ Φ) (PE X V σ Φ) s
 tru:∀ {x:AV} {vx:Value} {V:Va} {σ:Sg} {s:Shared} {A:Around} {Φ:Out×Sg->Prop} {k:Bool->R} {d:Nat} {E:VP},AOK X V σ A d 0->St X V σ s->DenV V x vx->
  (onT x cfg σ k).Sat Φ->wpAny (Mo X) A (Sx vx) (λ b s'=>St X V σ s'/\(k b).Sat Φ) E s
 neg:∀ {x:AV} {vx:Value} {V:Va} {σ:Sg} {s:Shared} {A:Around} {Φ:Out×Sg->Prop} {d:Nat},AOK X V σ A d 0->St X V σ s->DenV V x vx->
  (JG x σ).Sat Φ->wpAny (Mo X) A (unaryOp .USub vx) (PV X V σ Φ) (PE X V σ Φ) s
 dic:∀ {c:FC} {k:CC} {n:Nat} {kes:List (Option Expr)} {ks:List AV} {vs:List Expr} {xs:List E} {env:Env} {pos:Pos} {V:Va} {σ:Sg} {s:Shared} {A:Around} {Φ:Out×Sg->Prop},SE X glb ih->O0 vs.length 15=true->bc Bd kes=some ks->bc (cE k n) vs=some xs->k.glb=glb->EnvOK A V c k env->
  AOK X V σ A c.dep 0->St X V σ s->(LH ih c ks xs σ).Sat Φ->wpAny (Mo X) A (eval (.Dict kes vs pos) env) (PV X V σ Φ) (PE X V σ Φ) s
 att:∀ {x:AV} {vx:Value} {n:Str} {V:Va} {σ:Sg} {s:Shared} {A:Around} {Φ:Out×Sg->Prop} {d:Nat} {ex:Bool},SC X ih->okS n=true->AOK X V σ A d 0->St X V σ s->DenV V x vx->
  (iL cfg ih d σ x (nm n)).Sat Φ->wpAny (Mo X) A (Rs vx n ex) (PV X V σ Φ) (PE X V σ Φ) s
 meth:∀ {x:AV} {vx:Value} {n:Str} {mk:MK} {V:Va} {σ:Sg} {s:Shared} {A:Around} {d:Nat} {pl:Sem Bool} {E:VP},okS n=true->AOK X V σ A d 0->St X V σ s->DenV V x vx->
  rD cfg σ x (nm n)=some mk->wpAny (Mo X) A (Tv vx n pl) (λ p s'=>St X V σ s'/\kG mk vx p) E s
 bm:∀ {m:BM} {o:AV} {as:List AV} {vo:Value} {vs:List Value} {V:Va} {σ:Sg} {s:Shared} {A:Around} {d:Nat} {Φ:Out×Sg->Prop},DenV V o vo->All2 (DenV V) as vs->AOK X V σ A d 1->St X V σ s->(yB cfg m o as σ).Sat Φ->
  Pd (Mo X) A (.call (.builtin (sD m)) ⟨vo::vs,[]⟩) (PR X V σ Φ) s
 item:∀ {x i:AV} {vx vi:Value} {V:Va} {σ:Sg} {s:Shared} {A:Around} {Φ:Out×Sg->Prop} {d:Nat},AOK X V σ A d 0->St X V σ s->DenV V x vx->DenV V i vi->
  (oz cfg σ x i).Sat Φ->wpAny (Mo X) A (Ql vx vi) (PV X V σ Φ) (PE X V σ Φ) s
 notPy:∀ {x:AV} {vx:Value} {V:Va} {σ:Sg} {s:Shared} {A:Around} {i lo hi:AV} {Φ:Out×Sg->Prop} {Q:Bool->Shared->Prop} {E:VP},St X V σ s->DenV V x vx->((oz cfg σ x i).Sat Φ\/(iW cfg σ x lo hi).Sat Φ)->
  Q false s->wpAny (Mo X) A (Rf vx) Q E s
 slice:∀ {x lo hi:AV} {vx vlo vhi:Value} {V:Va} {σ:Sg} {s:Shared} {A:Around} {Φ:Out×Sg->Prop} {d:Nat} {b:Addr},AOK X V σ A d 0->St X V σ s->DenV V x vx->DenV V lo vlo->DenV V hi vhi->
  (∃ o,s.heap.get? b=some o/\o={ cls:=.type "slice",data:=.fields #[vlo,vhi,.none] })->
  (iW cfg σ x lo hi).Sat Φ->wpAny (Mo X) A (Ql vx (.ref b)) (PV X V σ Φ) (PE X V σ Φ) s
section
variable {M:Model} {s:Shared}
theorem PV.here{v:Value}{av:AV}(H:St X V σ s)(d:DenV V av v)(h:Φ (.v av,σ)):PV X V σ Φ v s:=⟨V,σ,av,.rfl,.rfl,H,d,h⟩
theorem bD(g:Sg)(i:Nat)(o:AO)(k:Sg->R):g.set i o k=k ⟨Tr.put' 40 g.own i o,g.n,g.frz⟩:=by
 unfold Sg.set;rw[Tr.put_eq]
theorem bk{o:AO}{k:Nat->Sg->R}(h:(g.new o k).Sat Φ):g.n<100000/\(k g.n ⟨Tr.put' 40 g.own g.n o,g.n+1,g.frz⟩).Sat Φ:=
 az h λ e h=>⟨OE e,(Tr.put_eq 40 g.own g.n o (g.newK k)▸h:(g.newK k (Tr.put' 40 g.own g.n o)).Sat Φ)⟩
theorem cq{o:AO}(H:St X V σ s)(hb:σ.n<100000):Keep σ ⟨Tr.put' 40 σ.own σ.n o,σ.n+1,σ.frz⟩:=
 ⟨λ i es e=>⟨es,(Tr.put_ne 40 _ _ _ (OX (H.lt e))).trans e⟩,λ i c d e=>(Tr.put_ne 40 _ _ _ (OX (H.lt e))).trans e⟩
theorem St.fit(H:St X V σ s){i:Nat}{o:AO}(ho:σ.own.get i=some o):i+1<2^40:=OI (Pm (Pb (H.lt ho) H.big)) (by decide)
theorem cH{i:Nat}{o o':AO}(H:St X V σ s)(ho:σ.own.get i=some o)(hns:∀ es,o=.ns es->∃ es',o'=.ns es')(hx:∀ c d,o≠.exc c d:=by intros;nofun):Keep σ ⟨Tr.put' 40 σ.own i o',σ.n,σ.frz⟩:=⟨λ j es e=>by
 by_cases q:j=i
 ·subst q;exact(hns es (Oy (ho.symm.trans e))).elim λ es' r=>⟨es',(Tr.put_self 40 σ.own j o' (H.fit ho)).trans (congrArg some r)⟩
 ·exact⟨es,(Tr.put_ne 40 σ.own i o' q).trans e⟩,λ j c d e=>(Tr.put_ne 40 σ.own i o' λ q=>hx c d (Oy (ho.symm.trans (q▸e)))).trans e⟩
theorem cb{a:Addr}(H:St X V σ s):(V.push a).ρ[σ.n]?=some a:=H.lenO▸mo V.ρ a
theorem cl{o:AO}(h:(fj g o).Sat Φ):Nk o=true/\(g.new o λ n g=>val (.own n) g).Sat Φ:=az h λ e h=>⟨e,h⟩
theorem All2.fits{xs:List AV}{vs:List Value}(h:All2 (DenV V) xs vs)(k:sz xs=true):vs.length<=P8:=by
 rw[<-h.length];exact OM (OU (OE k)) (by decide)
theorem eQ{o:AO}{ob:Obj}(H:St X V σ s)(hd:DenO X false (V.push s.heap.objs.size) ob o)(hf:ob.isFreed=false)(hx:∀ c d,o≠.exc c d)(h:(fj σ o).Sat Φ) :
 PV X V σ Φ (.ref s.heap.objs.size) { s with heap:=s.heap.push ob }:=by
 obtain⟨hb,h⟩:=bk (cl h).2;have H':=H.new (t:=s.toks) (a:=s.heap.objs.size) (ob:=ob) (o:=o) (h':=s.heap.push ob) (by rw[PK];exact QW _) (λ b o e=>OO _ e) (OR _) (Ph _ hf) (λ c d e=>absurd e (hx c d)) hd hb
 exact⟨_,_,.own σ.n,V.le_push _,cq H hb,H',.own (cb H),h⟩
end
theorem fF{α β:Type u}{o:Option α}{f:α->β}{x:β}{P:β->Prop}(h:o.map f=some x)(k:∀ a,o=some a->P (f a)):P x:=bG h λ a e q=>q▸k a e
theorem bL{α β:Type u}{o:Option α}{f:α->Option β}{x:β}{P:Prop}(h:o.bind f=some x)(k:∀ a,o=some a->f a=some x->P):P:=aw h k
inductive CE(k:CC)(n:Nat):Expr->E->Prop
 | cst {c kd p v}:cst c=some v->CE k n (.Constant c kd p) (.cst v)
 | name {m p x}:zH k m=some x->CE k n (.Name m p) x
 | bin {a o b p xa xb}:cE k n a=some xa->cE k n b=some xb->CE k n (.BinOp a o b p) (.bin o xa xb)
 | not {a p xa}:cE k n a=some xa->CE k n (.UnaryOp .Not a p) (.not xa)
 | neg {a p xa}:cE k n a=some xa->CE k n (.UnaryOp .USub a p) (.neg xa)
 | and {es p xs x}:bc (cE k n) es=some xs->eF .and xs=some x->CE k n (.BoolOp .And es p) x
 | or {es p xs x}:bc (cE k n) es=some xs->eF .or xs=some x->CE k n (.BoolOp .Or es p) x
 | ite {t a b p xt xa xb}:cE k n t=some xt->cE k n a=some xa->cE k n b=some xb->CE k n (.IfExp t a b p) (.ite xt xa xb)
 | cmp {a o b p xa xb}:cE k n a=some xa->cE k n b=some xb->CE k n (.Compare a [o] [b] p) (.cmp o xa xb)
 | tup {es cx p xs}:bc (cE k n) es=some xs->CE k n (.Tuple es cx p) (.tup xs)
 | lst {es p xs}:bc (cE k n) es=some xs->CE k n (.List es p) (.lst xs)
 | dic {ks vs p kx xs}:O0 vs.length 15=true->bc Bd ks=some kx->bc (cE k n) vs=some xs->CE k n (.Dict ks vs p) (.dic kx xs)
 | att {o a p xo}:iB o=true->cE k n o=some xo->okS a=true->CE k n (.Attribute o a p) (.att xo (nm a))
 | slc {o a b sp p xo xa xb}:cE k n o=some xo->su (cE k n) a=some xa->su (cE k n) b=some xb->CE k n (.Subscript o (.Slice a b none sp) p) (.slc xo xa xb)
 | sub {o i p xo xi}:Hl i=false->cE k n o=some xo->cE k n i=some xi->CE k n (.Subscript o i p) (.sub xo xi)
 | meth {o a ap as p xo xs}:iB o=true->ap.endLine=p.line->as.length<25->okS a=true->cE k n o=some xo->bc (cE k n) as=some xs->CE k n (.Call (.Attribute o a ap) as [] p) (.mcall xo (nm a) xs)
 | call {m q as p xf xs}:cE k n (.Name m q)=some xf->bc (cE k n) as=some xs->CE k n (.Call (.Name m q) as [] p) (.call xf xs)
 | comp {elt t it ifs sc p xe xt xi xs}:ku k sc=some ()->cE ⟨sc,k.glb⟩ n elt=some xe->tgT ⟨sc,k.glb⟩ t=some xt->cE k n it=some xi->bc (cE ⟨sc,k.glb⟩ n) ifs=some xs->CE k n (.ListComp elt [⟨t,it,ifs,0⟩] sc p) (.comp xe xt xi xs)
theorem hJ{n:Str}{x:Nat}{P:Nat->Prop}(h:zI n=some x)(k:okS n=true->P (nm n)):P x:=ay h λ e h=>Oy h▸k e
theorem i6{gs:List Comprehension}{g:Expr×Expr×List Expr}(h:uk gs=some g):[⟨g.1,g.2.1,g.2.2,0⟩]=gs:=
 aw h λ c e h=>ay h λ q h=>by
  obtain⟨t,it,ifs,a⟩:=c;obtain rfl:=Oy h;exact(congrArg (λ z=>[Comprehension.mk t it ifs z]) (of_decide_eq_true q:a=0).symm).trans (ch e).symm
theorem vm{i:Expr}(e:iN i=none):Hl i=false:=congrArg Option.isSome e
theorem Ix{k:CC}{n:Nat}{o i:Expr}{p:Pos}{x:E}(h:cE k (n+1) (.Subscript o i p)=some x):CE k n (.Subscript o i p) x:=by
 have h:(match iN i with
  | some p=>ifK p.2.2.1.isNone ((cE k n o).bind λ o=>(su (cE k n) p.1).bind λ a=>(su (cE k n) p.2.1).map λ b=>E.slc o a b)
  | none=>(cE k n o).bind λ o=>(cE k n i).map λ i=>.sub o i)=some x:=h
 rcases e:iN i with _|⟨a,b,s,q⟩
 ·rw[e] at h;exact bL h λ J ha h=>fF h λ J hb=>.sub (vm e) ha hb
 ·rw[e] at h;rw[xw e];exact ay h λ z h=>Px.mp z▸bL h λ J ho h=>bL h λ J ha h=>fF h λ J hb=>.slc ho ha hb
theorem Eb{k:CC}{n:Nat}{f:Expr}{as:List Expr}{kw:List Keyword}{p:Pos}{x:E}(h:cE k (n+1) (.Call f as kw p)=some x):CE k n (.Call f as kw p) x:=by
 refine ay (k:=(match cV f with
  | some q=>cMc (iB q.1&&OC q.2.2.endLine p.line&&O0 as.length 25) (cE k n q.1) q.2.1 (bc (cE k n) as)
  | none=>ifK (jE f).isSome ((cE k n f).bind λ f=>(bc (cE k n) as).map λ as=>E.call f as))) h λ z h=>?_
 rw[O8.mp z];rcases e:cV f with _|⟨o,a,ap⟩
 ·rw[e] at h;exact ay h λ z h=>bB z λ q e=>gG e▸bL (gG e▸h) λ J ha h=>fF h λ J hb=>.call ha hb
 ·rw[e] at h;rw[l6 e];exact ay h λ e h=>by
   rw[OA,OA] at e;exact bL h λ J ho h=>bL h λ J ha h=>fF h λ J hb=>hJ (P:=λ x=>CE k n _ (.mcall _ x _)) ha λ ha=>.meth e.1.1 (OB e.1.2) (OE e.2) ha ho hb
theorem gv{k:CC}{n:Nat}{x:E}(h:cE k (n+1) e=some x):CE k n e x:=
 (Expr.casesOn (motive_1:=λ e=>cE k (n+1) e=some x->CE k n e x) e (λ o es p=>BoolOp.casesOn (motive:=λ o=>cE k (n+1) (.BoolOp o es p)=some x->CE k n (.BoolOp o es p) x) o (λ h=>bL h λ J ha h=>.and ha h) (λ h=>bL h λ J ha h=>.or ha h)) ak (λ a o b p=>λ h=>bL h λ J ha h=>fF h λ J hb=>.bin ha hb) (λ o a p=>UnaryOp.casesOn (motive:=λ o=>cE k (n+1) (.UnaryOp o a p)=some x->CE k n (.UnaryOp o a p) x) o am (λ h=>fF h λ J ha=>.not ha) am (λ h=>fF h λ J ha=>.neg ha)) aj (λ t a b p=>λ h=>bL h λ J ht h=>bL h λ J ha h=>fF h λ J hb=>.ite ht ha hb) (λ ks vs p=>λ h=>ay h λ e h=>bL h λ J ha h=>fF h λ J hb=>.dic e ha hb) ak (λ elt gs sc p=>λ h=>bL h λ g e h=>i6 e▸bL h λ J h0 h=>bL h λ J h1 h=>bL h λ J h2 h=>bL h λ J h3 h=>fF h λ J h4=>.comp h0 h1 h2 h3 h4) aj (λ J J J J J=>am) aj af af af (λ a os bs p=>λ h=>bL h λ q e h=>bL h λ J ha h=>fF h λ J hb=>eG e λ e1 e2=>ch e1▸ch e2▸.cmp ha hb) (λ f as kw p=>Eb) aj af (λ c kd p=>λ h=>fF h λ v e=>.cst e) (λ o a p=>λ h=>ay h λ e h=>bL h λ J ha h=>fF h λ J hb=>hJ (P:=λ x=>CE k n _ (.att _ x)) hb λ hb=>.att e ha hb) (λ o i p=>Ix) af (λ m p=>.name) (λ es p=>λ h=>fF h λ J ha=>.lst ha) (λ es c p=>λ h=>fF h λ J ha=>.tup ha) aj) h
theorem bV{k:CC}{n:Nat}{x:E}(h:cE k n e=some x)(r:List Expr)(env:Env):Qk (e::r) env=(false,eval e env)::Qk r env:=by
 cases n with
 | zero=>cases h
 | succ n=>exact(gv h).rec (motive:=λ e J J=>Qk (e::r) env=(false,eval e env)::Qk r env) (λ J=>rfl) (λ J=>rfl) (λ J J=>rfl) (λ J=>rfl) (λ J=>rfl) (λ J J=>rfl) (λ J J=>rfl) (λ J J J=>rfl) (λ J J=>rfl) (λ J=>rfl) (λ J=>rfl) (λ J J J=>rfl) (λ J J J=>rfl) (λ J J J=>rfl) (λ J J J=>rfl) (λ J J J J J J=>rfl) (λ J J=>rfl) (λ J J J J J=>rfl)
theorem vX{X:Cx}{glb:List (Nat×AV)}{r:Run}(hE:SE X glb r){c:FC}{k:CC}{n:Nat}{env:Env}{A:Around}{pos:Pos}{Φ:Out×Sg->Prop}(hk:k.glb=glb)
 {es:List Expr} {xs:List E} {σ:Sg} {s:Shared} {kont:List AV->Sg->R} (ha:All2 (λ e x=>cE k n e=some x) es xs) (hv:EnvOK A V c k env) (hA:AOK X V σ A c.dep 0) (H:St X V σ s)
  (h:(evL r c xs σ kont).Sat Φ):wpAny (Mo X) A (spliced (RJ pos (Qk es env))) (PL X V σ λ l g=>(kont l g).Sat Φ) (PE X V σ Φ) s:=by
 induction ha generalizing σ V s kont with
 | nil=>exact OD ⟨V,σ,[],.rfl,.rfl,H,.nil,h⟩
 |
  cons he hr ih=>
  rw[bV he];refine fB (hE he hk hv hA H (T.sat_bind h)) λ V' σ' av v s' l1 l2 H' dv h'=>?_;refine Oz (m:=pure [v]) (OD (Oz (OQ (OF (ih (hv.mono l1) (hA.mono l1 l2) H' h') (λ vs s'' q=>?_) λ J J q=>q))));obtain⟨V₂,σ₂,avs,a,b,c',d,e'⟩:=q;exact OD ⟨V₂,σ₂,av::avs,l1.trans a,l2.trans b,c',.cons (dv.mono a) d,e'⟩
end
section
universe u
open PySem PySem.W PyProof.Rows
variable {v:AV} {x xa xb xo:E} {a b i o:Expr} {xs:List E} {es:List Expr} {n:Nat} {ap:Pos} {t:Sem Value} {σ':Sg} {s':Shared} {m:Str} {V':Va} {f:Value}
theorem aG{t:R}{k:AV->Sg->R}{Φ:Out×Sg->Prop}(h:(onV t k).Sat Φ):t.Sat λ r=>(ul k r).Sat Φ:=T.sat_bind h
theorem eN{n:Str}(h:okN n=true):okS n=true:=(OA _ _▸h:okS n=true/\_).1
theorem pR{n:Str}(h:okN n=true):(n==("__debug__":Str))=false:=by
 have h2:=(OA _ _▸h:okS n=true/\_).2;refine Bool.eq_false_iff.mpr λ e=>?_;rw[Pf e,Uq] at h2;exact OG h2
def SK(X:Cx)(glb:List (Nat×AV))(cfg:Cfg)(r:Run):Prop:=∀ {c:FC} {k:CC} {n:Nat} {elt it:Expr} {t:Expr} {ifs:List Expr} {sc:Scope} {pos:Pos} {xe xi:E} {xt:Tg} {xs:List E} {env:Env} {σ:Sg} {Φ:Out×Sg->Prop} {V:Va} {s:Shared} {A:Around},
 ku k sc=some ()->cE ⟨sc,k.glb⟩ n elt=some xe->tgT ⟨sc,k.glb⟩ t=some xt->cE k n it=some xi->bc (cE ⟨sc,k.glb⟩ n) ifs=some xs->k.glb=glb->EnvOK A V c k env->AOK X V σ A c.dep 0->St X V σ s->
 (onV (r (.e c xi) σ) λ iv g=>HU cfg r c xe xt xs iv g).Sat Φ->wpAny (Mo X) A (eval (.ListComp elt [⟨t,it,ifs,0⟩] sc pos) env) (PV X V σ Φ) (PE X V σ Φ) s
structure Hyp(X:Cx)(cfg:Cfg)(glb:List (Nat×AV))(ih:Run):Prop where
 E:SE X glb ih
 T:ST X glb ih
 C:SC X ih
 K:SK X glb cfg ih
 P:Prim X cfg glb ih
section
variable {glb:List (Nat×AV)} {c:FC} {k:CC} {n:Nat} {s:Shared}
theorem rs(H:St X V σ s){i:Nat}{L:Addr}{es:bN}(hi:V.ρ[i]?=some L)(hg:sv (σ.own.get i)=some es):∃ m,s.heap.Ns L m/\NsDen V es m:=by
 obtain⟨a,ob,x,y,ents,m,z1,z2,z3⟩:=H.own i _ (vw Cz hg) (by nofun)
 obtain rfl:=Oy (hi.symm.trans x);exact⟨Ru ents,⟨ob,ents,m,y,z1,z2,λ J=>rfl⟩,z3⟩
theorem ED{ct:Const}{kd:Nat}(hc:cst ct=some v)(H:St X V σ s)(h:(val v σ).Sat Φ):wpAny (Mo X) A (eval (.Constant ct kd pos) env) (PV X V σ Φ) (PE X V σ Φ) s:=by
 rcases ct with⟨⟩
 ·obtain rfl:=Oy hc;exact wpAny_Constant_none (PV.here H .none h)
 ·obtain rfl:=Oy hc;exact wpAny_Constant_bool (PV.here H (.bool _) h)
 ·obtain rfl:=Oy hc;exact wpAny_Constant_int (PV.here H.toks (.int _ _) h)
 ·exact am hc
 ·exact am hc
 ·obtain rfl:=Oy hc;exact wpAny_Constant_str (PV.here H.toks (.str _ rfl) h)
 ·obtain rfl:=Oy hc;exact λ J J J=>PV.here (H.toks (t:=s.toks+1)) (.byt s.toks (b:=List.toArray _) rfl) h
 ·exact am hc
theorem EB(ho:okN m=true)(hl:bA m k.sc.names=some .local)(hv:EnvOK A V c k env)(H:St X V σ s)(h:(M8 c σ (nm m)).Sat Φ) :
 wpAny (Mo X) A (eval (.Name m pos) env) (PV X V σ Φ) (PE X V σ Φ) s:=
 bn h λ es e h=>bn h λ v e2 h=>(rs H hv.loc e).elim λ mm q=>(q.2.some_ (eN ho) e2).elim λ y r=>
  wpAny_Name (wpAny_loadName_local hv.kind (hv.kinds m _ (eN ho) hl) q.1 r.1 (PV.here H r.2 h)) (pR ho)
theorem wS(ho:okN m=true){kd:NameKind}(hl:bA m k.sc.names=some kd)(hk:kd=.cell\/kd=.free)(hv:EnvOK A V c k env)(H:St X V σ s)(h:(Nw c σ (nm m)).Sat Φ) :
 wpAny (Mo X) A (eval (.Name m pos) env) (PV X V σ Φ) (PE X V σ Φ) s:=by
 have hkind:env.kindOf m=some .cell:=by rcases hk with rfl|rfl<;>exact hv.kinds m _ (eN ho) hl
 have hcl:=hv.cells m (eN ho) ⟨kd,hl,by rcases hk with rfl|rfl<;>rfl⟩
 refine bn h λ i e h=>bn h λ v e2 h=>az h λ ne h=>?_;obtain⟨a,ha,hc⟩:=hcl.2 i e;obtain⟨a',ob,x,y,w,z2,z3⟩:=H.own i _ (vw AA e2) (by nofun)
 obtain rfl:=Oy (ha.symm.trans x);obtain⟨y',rfl,d⟩:=z3 (AD (sx ne));exact wpAny_Name (wpAny_loadName_cell hv.kind hkind hc ⟨ob,y,z2⟩ (PV.here H d h)) (pR ho)
theorem zW(Y:Hyp X cfg glb ih)(ho:okN m=true)(hl:bA m k.sc.names=some .globalImplicit)(hk:k.glb=glb)(hg:aX (nm m) k.glb=some v)(hv:EnvOK A V c k env)(H:St X V σ s)(h:(val v σ).Sat Φ) :
 wpAny (Mo X) A (eval (.Name m pos) env) (PV X V σ Φ) (PE X V σ Φ) s:=by
 refine TC hv.kind (hv.kinds m _ (eN ho) hl) ?_ (pR ho);exact Y.P.glob (eN ho) (hk▸hg) hv.glob hv.bt H λ y d=>PV.here H d h
theorem zU(Y:Hyp X cfg glb ih)(hc:zH k m=some x)(hk:k.glb=glb)(hv:EnvOK A V c k env)(H:St X V σ s)(h:(iV cfg ih c x σ).Sat Φ) :
 wpAny (Mo X) A (eval (.Name m pos) env) (PV X V σ Φ) (PE X V σ Φ) s:=by
 refine ay hc λ ho hc=>aw hc λ q hl hc=>?_;rcases q with⟨⟩
 ·obtain rfl:=Oy hc;exact EB ho hl hv H h
 ·obtain rfl:=Oy hc;exact wS ho hl (.inl rfl) hv H h
 ·obtain rfl:=Oy hc;exact wS ho hl (.inr rfl) hv H h
 ·exact am hc
 ·exact fF (P:=λ x=>(iV cfg ih c x σ).Sat Φ->_) hc (λ v hv' h=>zW Y ho hl hk hv' hv H h) h
theorem EF(Y:Hyp X cfg glb ih){o:Operator}(ha:cE k n a=some xa)(hb:cE k n b=some xb)(hk:k.glb=glb)(hv:EnvOK A V c k env)(hA:AOK X V σ A c.dep 0)(H:St X V σ s)
 (h:(Nu ih c o xa xb σ).Sat Φ):wpAny (Mo X) A (eval (.BinOp a o b pos) env) (PV X V σ Φ) (PE X V σ Φ) s:=by
 rw[arm_eval_BinOp];refine fB (Y.E ha hk hv hA H (aG h)) λ V1 σ1 av va s1 l1 k1 H1 d1 h1=>?_;refine fB (OQ (Y.E hb hk (hv.mono l1) (hA.mono l1 k1) H1 (aG h1))) λ V2 σ2 bv vb s2 l2 k2 H2 d2 h2=>?_;exact Oz (OS (Th (OF (Y.P.bin ((hA.mono l1 k1).mono l2 k2) H2 (d1.mono l2) d2 h2) (λ J J q=>(q.trans l2 k2).trans l1 k1) λ J J q=>q)))
theorem back(h:wpAny (Mo X) A t (PV X V' σ' Φ) (PE X V' σ' Φ) s')(l:V.Le V')(k:Keep σ σ'):wpAny (Mo X) A t (PV X V σ Φ) (PE X V' σ' Φ) s':=OF h (λ J J q=>q.trans l k) λ J J q=>q
theorem IV(h:wpAny (Mo X) A t (PV X V' σ' Φ) (PE X V' σ' Φ) s')(l:V.Le V')(k:Keep σ σ'):wpAny (Mo X) A t (PV X V σ Φ) (PE X V σ Φ) s':=OF h (λ J J q=>q.trans l k) λ J J q=>q.trans l k
theorem Ey(Y:Hyp X cfg glb ih)(ha:cE k n a=some xa)(hk:k.glb=glb)(hv:EnvOK A V c k env)(hA:AOK X V σ A c.dep 0)(H:St X V σ s)
 (h:(Np cfg ih c xa σ).Sat Φ):wpAny (Mo X) A (eval (.UnaryOp .Not a pos) env) (PV X V σ Φ) (PE X V σ Φ) s:=by
 rw[arm_eval_UnaryOp];refine fB (Y.E ha hk hv hA H (aG h)) λ V1 σ1 av va s1 l1 k1 H1 d1 h1=>?_;refine Oz (OS (OQ ?_));unfold unaryOp;refine OQ ?_;show wpAny _ _ (Sx va >>= λ b=>pure (Value.bool !b)) _ _ _;exact Oz (OF (Y.P.tru (hA.mono l1 k1) H1 d1 h1) (λ b s2 q=>OD ((PV.here q.1 (.bool _) q.2).trans l1 k1)) λ J J q=>q)
theorem Ez(Y:Hyp X cfg glb ih)(ha:cE k n a=some xa)(hk:k.glb=glb)(hv:EnvOK A V c k env)(hA:AOK X V σ A c.dep 0)(H:St X V σ s)
 (h:(onV (ih (.e c xa) σ) JG).Sat Φ):wpAny (Mo X) A (eval (.UnaryOp .USub a pos) env) (PV X V σ Φ) (PE X V σ Φ) s:=by
 rw[arm_eval_UnaryOp];refine fB (Y.E ha hk hv hA H (aG h)) λ V1 σ1 av va s1 l1 k1 H1 d1 h1=>?_;exact Oz (OS (OQ (OF (Y.P.neg (hA.mono l1 k1) H1 d1 h1) (λ J J q=>q.trans l1 k1) λ J J q=>q)))
theorem EC(Y:Hyp X cfg glb ih){t a b:Expr}{xt xa xb:E}(ht:cE k n t=some xt)(ha:cE k n a=some xa)(hb:cE k n b=some xb)(hk:k.glb=glb)(hv:EnvOK A V c k env)(hA:AOK X V σ A c.dep 0)(H:St X V σ s)
 (h:(Nr ih c xt xa xb σ).Sat Φ):wpAny (Mo X) A (eval (.IfExp t a b pos) env) (PV X V σ Φ) (PE X V σ Φ) s:=by
 rw[arm_eval_IfExp];refine Oz (OF (Y.T ht hk hv hA H (aG h)) (λ bb s1 q=>q.rec λ V1 σ1 l1 k1 H1 h1=>?_) λ J J q=>PE.out q);cases bb with
 | true=>exact IV (Y.E ha hk (hv.mono l1) (hA.mono l1 k1) H1 h1) l1 k1
 | false=>exact IV (Y.E hb hk (hv.mono l1) (hA.mono l1 k1) H1 h1) l1 k1
theorem wG{op:CmpOp}(hb:cE k n b=some xb)(t:Sem Value):Sb op b t=t:=by
 cases n with
 | zero=>cases hb
 | succ n=>exact(gv hb).rec (motive:=λ b J J=>Sb op b t=t) (λ J=>rfl) (λ J=>rfl) (λ J J=>rfl) (λ J=>rfl) (λ J=>rfl) (λ J J=>rfl) (λ J J=>rfl) (λ J J J=>rfl) (λ J J=>rfl) (λ J=>rfl) (λ J=>rfl) (λ J J J=>rfl) (λ J J J=>rfl) (λ J J J=>rfl) (λ J J J=>rfl) (λ J J J J J J=>rfl) (λ J J=>rfl) (λ J J J J J=>rfl)
theorem np(left:Value)(op:CmpOp)(r:Sem Value):Um pos left [op] [r]=(Rr [left] r >>= λ rv=>standAt pos >>= λ J=>operate [left,rv] (Tx op left rv)):=rfl
theorem EE(Y:Hyp X cfg glb ih){o:CmpOp}(ha:cE k n a=some xa)(hb:cE k n b=some xb)(hk:k.glb=glb)(hv:EnvOK A V c k env)(hA:AOK X V σ A c.dep 0)(H:St X V σ s)
 (h:(Nt cfg ih c o xa xb σ).Sat Φ):wpAny (Mo X) A (eval (.Compare a [o] [b] pos) env) (PV X V σ Φ) (PE X V σ Φ) s:=by
 rw[arm_eval_Compare];refine fB (Y.E ha hk hv hA H (aG h)) λ V1 σ1 av va s1 l1 k1 H1 d1 h1=>?_;show wpAny _ _ (Um pos va [o] [Sb o b (eval b env)]) _ _ _;rw[wG hb,np];refine fB (OQ (Y.E hb hk (hv.mono l1) (hA.mono l1 k1) H1 (aG h1))) λ V2 σ2 bv vb s2 l2 k2 H2 d2 h2=>?_;exact Oz (OS (Th (OF (Y.P.cmp ((hA.mono l1 k1).mono l2 k2) H2 (d1.mono l2) d2 h2) (λ J J q=>(q.trans l2 k2).trans l1 k1) λ J J q=>q)))
theorem pN{α β:Type}{f:α->Option β}{l:List α}{r:List β}(h:bc f l=some r):All2 (λ x y=>f x=some y) l r:=bu h
theorem Ev(Y:Hyp X cfg glb ih){cx:Nat}(he:bc (cE k n) es=some xs)(hk:k.glb=glb)(hv:EnvOK A V c k env)(hA:AOK X V σ A c.dep 0)(H:St X V σ s)
 (h:(Nm ih c xs σ).Sat Φ):wpAny (Mo X) A (eval (.Tuple es cx pos) env) (PV X V σ Φ) (PE X V σ Φ) s:=by
 rw[arm_eval_Tuple];refine Oz (OS (Oz (OF (vX Y.E hk (pN he) hv hA H h) (λ vs s1 q=>?_) λ J J q=>q)));obtain⟨V1,σ1,avs,l1,k1,H1,d1,h1⟩:=q;have hf:sz avs=true:=(cl h1).1;exact wpAny_newTuple ((eQ (o:=.tup avs) (ob:={ cls:=.type "tuple",data:=.seq vs.toArray }) H1 ⟨vs.toArray,_,rfl,by simpa using d1.mono λ J J d=>d.mono (V1.le_push _)⟩ rfl (by intros;nofun) h1).trans l1 k1) (d1.fits hf)
theorem EA(Y:Hyp X cfg glb ih)(he:bc (cE k n) es=some xs)(hk:k.glb=glb)(hv:EnvOK A V c k env)(hA:AOK X V σ A c.dep 0)(H:St X V σ s)
 (h:(Nq ih c xs σ).Sat Φ):wpAny (Mo X) A (eval (.List es pos) env) (PV X V σ Φ) (PE X V σ Φ) s:=by
 rw[arm_eval_List];refine Oz (OS (Oz (OF (vX Y.E hk (pN he) hv hA H h) (λ vs s1 q=>?_) λ J J q=>q)));obtain⟨V1,σ1,avs,l1,k1,H1,d1,h1⟩:=q;have hf:sz avs=true:=(cl h1).1;exact wpAny_newList ((eQ (o:=.lst avs) (ob:={ cls:=.type "list",data:=.seq vs.toArray }) H1 ⟨vs.toArray,_,rfl,by simpa using d1.mono λ J J d=>d.mono (V1.le_push _)⟩ rfl (by intros;nofun) h1).trans l1 k1) (d1.fits hf)
theorem wH(ho:iB o=true)(whole:Sem Value):Sy o m env whole=whole:=
 (Expr.casesOn (motive_1:=λ o=>iB o=true->Sy o m env whole=whole) o (λ J J J=>λ J=>rfl) (λ J J J=>λ J=>rfl) (λ J J J J=>λ J=>rfl) (λ J J J=>λ J=>rfl) (λ J J J J=>λ J=>rfl) (λ J J J J=>λ J=>rfl) (λ J J J=>λ J=>rfl) (λ J J J=>λ J=>rfl) (λ J J J J=>λ J=>rfl) (λ J J J J=>λ J=>rfl) (λ J J J J J=>λ J=>rfl) (λ J J J J=>λ J=>rfl) (λ J J=>λ J=>rfl) (λ J J=>λ J=>rfl) (λ J J=>λ J=>rfl) (λ J J J J=>λ J=>rfl) (λ f as kw p=>(Expr.casesOn (motive_1:=λ f=>iB (.Call f as kw p)=true->Sy (.Call f as kw p) m env whole=whole) f (λ J J J=>λ J=>rfl) (λ J J J=>λ J=>rfl) (λ J J J J=>λ J=>rfl) (λ J J J=>λ J=>rfl) (λ J J J J=>λ J=>rfl) (λ J J J J=>λ J=>rfl) (λ J J J=>λ J=>rfl) (λ J J J=>λ J=>rfl) (λ J J J J=>λ J=>rfl) (λ J J J J=>λ J=>rfl) (λ J J J J J=>λ J=>rfl) (λ J J J J=>λ J=>rfl) (λ J J=>λ J=>rfl) (λ J J=>λ J=>rfl) (λ J J=>λ J=>rfl) (λ J J J J=>λ J=>rfl) (λ J J J J=>λ J=>rfl) (λ J J J J=>λ J=>rfl) (λ J J=>λ J=>rfl) (λ J J J=>λ J=>rfl) (λ J J J=>λ J=>rfl) (λ J J J=>λ J=>rfl) (λ J J=>λ J=>rfl) (λ a b=>Rq (motive:=λ as=>iB (.Call (.Name a b) as kw p)=true->Sy (.Call (.Name a b) as kw p) m env whole=whole) as (Rq (motive:=λ kw=>iB (.Call (.Name a b) [] kw p)=true->Sy (.Call (.Name a b) [] kw p) m env whole=whole) kw (λ h=>OG h) λ J J J=>rfl) λ J J J=>rfl) (λ J J=>λ J=>rfl) (λ J J J=>λ J=>rfl) (λ J J J J=>λ J=>rfl))) (λ J J J J=>λ J=>rfl) (λ J J=>λ J=>rfl) (λ J J J=>λ J=>rfl) (λ J J J=>λ J=>rfl) (λ J J J=>λ J=>rfl) (λ J J=>λ J=>rfl) (λ J J=>λ J=>rfl) (λ J J=>λ J=>rfl) (λ J J J=>λ J=>rfl) (λ J J J J=>λ J=>rfl)) ho
theorem EG(Y:Hyp X cfg glb ih)(hs:iB o=true)(ho:cE k n o=some xo)(hm:okS m=true)(hk:k.glb=glb)(hv:EnvOK A V c k env)(hA:AOK X V σ A c.dep 0)(H:St X V σ s)
 (h:(onV (ih (.e c xo) σ) λ ov g=>iL cfg ih c.dep g ov (nm m)).Sat Φ):wpAny (Mo X) A (eval (.Attribute o m pos) env) (PV X V σ Φ) (PE X V σ Φ) s:=by
 rw[arm_eval_Attribute,wH hs];refine fB (Y.E ho hk hv hA H (aG h)) λ V1 σ1 av va s1 l1 k1 H1 d1 h1=>?_;refine Oz (OS (Oz (OQ (OF (Y.P.att Y.C hm (hA.mono l1 k1) H1 d1 h1) (λ v s2 q=>?_) λ J J q=>q))));exact Oz (SU (OD (q.trans l1 k1)))
theorem tH(h:Hl i=false){va vb:Value}:subscripted i false va vb=operate [va,vb] (Ql va vb):=
 (Expr.casesOn (motive_1:=λ i=>Hl i=false->subscripted i false va vb=operate [va,vb] (Ql va vb)) i (λ J J J=>λ J=>rfl) (λ J J J=>λ J=>rfl) (λ J J J J=>λ J=>rfl) (λ J J J=>λ J=>rfl) (λ J J J J=>λ J=>rfl) (λ J J J J=>λ J=>rfl) (λ J J J=>λ J=>rfl) (λ J J J=>λ J=>rfl) (λ J J J J=>λ J=>rfl) (λ J J J J=>λ J=>rfl) (λ J J J J J=>λ J=>rfl) (λ J J J J=>λ J=>rfl) (λ J J=>λ J=>rfl) (λ J J=>λ J=>rfl) (λ J J=>λ J=>rfl) (λ J J J J=>λ J=>rfl) (λ J J J J=>λ J=>rfl) (λ J J J J=>λ J=>rfl) (λ J J=>λ J=>rfl) (λ J J J=>λ J=>rfl) (λ J J J=>λ J=>rfl) (λ J J J=>λ J=>rfl) (λ J J=>λ J=>rfl) (λ J J=>λ J=>rfl) (λ J J=>λ J=>rfl) (λ J J J=>λ J=>rfl) (λ a b c p=>λ h=>OG h)) h
theorem Ew(Y:Hyp X cfg glb ih){xo xi:E}(hsl:Hl i=false)(ho:cE k n o=some xo)(hi:cE k n i=some xi)(hk:k.glb=glb)(hv:EnvOK A V c k env)(hA:AOK X V σ A c.dep 0)(H:St X V σ s)
 (h:(Nn cfg ih c xo xi σ).Sat Φ):wpAny (Mo X) A (eval (.Subscript o i pos) env) (PV X V σ Φ) (PE X V σ Φ) s:=by
 rw[arm_eval_Subscript];refine fB (Y.E ho hk hv hA H (aG h)) λ V1 σ1 av va s1 l1 k1 H1 d1 h1=>?_;refine fB (OQ (Y.E hi hk (hv.mono l1) (hA.mono l1 k1) H1 (aG h1))) λ V2 σ2 bv vb s2 l2 k2 H2 d2 h2=>?_;refine Oz (OS (Oz (Y.P.notPy (lo:=.none) (hi:=.none) H2 (d1.mono l2) (.inl h2) ?_)));rw[tH hsl];refine Oz (Th (OF (Y.P.item ((hA.mono l1 k1).mono l2 k2) H2 (d1.mono l2) d2 h2) (λ v s3 q=>?_) λ J J q=>q));exact Oz (SU (OD ((q.trans l2 k2).trans l1 k1)))
theorem uf(Y:Hyp X cfg glb ih){a:Option Expr}(ha:su (cE k n) a=some xa)(hk:k.glb=glb)(hv:EnvOK A V c k env)(hA:AOK X V σ A c.dep 0)(H:St X V σ s)
 (h:(ih (.e c xa) σ).Sat Φ):wpAny (Mo X) A (valueOrNone (evalOpt a env)) (PV X V σ Φ) (PE X V σ Φ) s:=by
 cases a with
 | none=>cases ha;exact Y.E (k:=k) (n:=1) (e:=.Constant .none 0 ⟨0,0,0,0⟩) rfl hk hv hA H h
 | some e=>exact Y.E ha hk hv hA H h
theorem Ex(Y:Hyp X cfg glb ih){lo hi:Option Expr}{xo xl xh:E}{sp:Pos}(ho:cE k n o=some xo)(hl:su (cE k n) lo=some xl)(hh:su (cE k n) hi=some xh)(hk:k.glb=glb)(hv:EnvOK A V c k env)(hA:AOK X V σ A c.dep 0)(H:St X V σ s)
 (h:(No cfg ih c xo xl xh σ).Sat Φ):wpAny (Mo X) A (eval (.Subscript o (.Slice lo hi none sp) pos) env) (PV X V σ Φ) (PE X V σ Φ) s:=by
 rw[arm_eval_Subscript];refine fB (Y.E ho hk hv hA H (aG h)) λ V1 σ1 av va s1 l1 k1 H1 d1 h1=>?_;refine Oz (OQ ?_);rw[arm_eval_Slice];refine fB (uf Y hl hk (hv.mono l1) (hA.mono l1 k1) H1 (aG h1)) λ V2 σ2 bv vb s2 l2 k2 H2 d2 h2=>?_;have A2:=(hA.mono l1 k1).mono l2 k2;refine fB (OQ (uf Y hh hk ((hv.mono l1).mono l2) A2 H2 (aG h2))) λ V3 σ3 cv vc s3 l3 k3 H3 d3 h3=>?_;refine Oz (OQ (OD ?_));refine P7 ?_ (show(3:Nat)<=2^24+2 by decide)
 refine OS ?_ |> Oz
 have H4:St X V3 σ3 { s3 with heap:=s3.heap.push { cls:=.type "slice",data:=.fields #[vb,vc,.none] } }:=H3.grow (t:=s3.toks) λ J J e=>OO _ e
 have A3:=A2.mono l3 k3;refine Oz (Y.P.notPy (i:=.none) (lo:=bv) (hi:=cv) H4 ((d1.mono l2).mono l3) (.inr h3) ?_);show wpAny _ _ (operate [_,va] (Ql va _) >>= _) _ _ _;refine Oz (Th (OF (Y.P.slice A3 H4 ((d1.mono l2).mono l3) (d2.mono l3) d3 ⟨_,Ph _ rfl,rfl⟩ h3) (λ v s5 q=>?_) λ J J q=>(q.trans l3 k3).trans l2 k2));exact Oz (SU (OD (((q.trans l3 k3).trans l2 k2).trans l1 k1)))
theorem EI{Q:List Value->Shared->Prop}{E:VP}(hf:∀ e∈es,∃ x,cE k n e=some x)(h:wpAny (Mo X) A (spliced (RJ pos (Qk es env))) Q E s) :
 wpAny (Mo X) A (evalArgs f true (RJ pos (Qk es env)) []) (λ a s'=>∃ vs,a=⟨vs,[]⟩/\Q vs s') E s:=by
 rcases es with _|⟨e,r⟩
 ·show wpAny (Mo X) A (spliced [] >>= _) _ E s;exact Oz (OF h (λ vs s' q=>OQ (Oz (OD (Oz (OD (OD ⟨vs,rfl,q⟩)))))) λ J J q=>q)
 ·exact(hf e (.head _)).elim λ x hx=>by
   rw[bV hx] at h ⊢;exact Calls.evalArgs_plain (OF h (λ vs s' q=>⟨vs,rfl,q⟩) λ J J q=>q)
theorem noStar(hf:∀ e∈es,∃ x,cE k n e=some x):(RJ pos (Qk es env)).any (·.1)=false:=by
 induction es with
 | nil=>rfl
 |
  cons e r ih=>
  obtain⟨x,hx⟩:=hf e (OZ ..);rw[bV hx];show(false||(RJ pos (Qk r env)).any (·.1))=false
  rw[ih λ e he=>hf e (OY _ he)];rfl
theorem gF{α β:Type}{P:α->β->Prop}{xs:List α}{ys:List β}(h:All2 P xs ys):∀ x∈xs,∃ y,P x y:=by
 induction h with
 | nil=>exact λ x hx=>absurd hx Pl
 | cons a _ ih=>exact Py.mpr ⟨⟨_,a⟩,ih⟩
theorem qG(Y:Hyp X cfg glb ih){first:List Value}{kont:List AV->Sg->R}(he:All2 (λ e x=>cE k n e=some x) es xs)(hk:k.glb=glb)(hv:EnvOK A V c k env)(hA:AOK X V σ A c.dep 0)(H:St X V σ s)
 (h:(evL ih c xs σ kont).Sat Φ)
 (hcall:∀ V' σ' avs vs s',V.Le V'->Keep σ σ'->St X V' σ' s'->All2 (DenV V') avs vs->(kont avs σ').Sat Φ->(∃ kp,(kp=Keeper.frame\/kp=Keeper.machine\/kp=Keeper.boundFrame)/\Looks (Mo X) s'.heap (Q3 f) kp) /\
  wpAny (Mo X) A (call f (first++vs)) (PV X V' σ' Φ) (PE X V' σ' Φ) s') :
 wpAny (Mo X) A (Ut pos f first (RJ pos (Qk es env)) []) (PV X V σ Φ) (PE X V σ Φ) s:=by
 refine callWith_of (P:=λ h=>∃ kp,(kp=Keeper.frame\/kp=Keeper.machine\/kp=Keeper.boundFrame)/\Looks (Mo X) h (Q3 f) kp) (by rw[noStar (gF he)];rfl) (λ J q=>q) ?_
 refine OF (EI (gF he) (vX Y.E hk he hv hA H h)) (λ a s' q=>?_) λ J J q=>q;obtain⟨vs,rfl,V',σ',avs,l1,k1,H',d,h'⟩:=q;obtain⟨x,y⟩:=hcall V' σ' avs vs s' l1 k1 H' d h';exact⟨x,OF y (λ J J q=>q.trans l1 k1) λ J J q=>q.trans l1 k1⟩
theorem zX(Y:Hyp X cfg glb ih){f:Expr}{xf:E}(hf:cE k n f=some xf)(he:bc (cE k n) es=some xs)(hk:k.glb=glb)(hv:EnvOK A V c k env)(hA:AOK X V σ A c.dep 0)(H:St X V σ s)
 (h:(HV ih c xf xs σ).Sat Φ):wpAny (Mo X) A (do let v <-eval f env;Ut pos v [] (RJ pos (Qk es env)) []) (PV X V σ Φ) (PE X V σ Φ) s:=by
 refine fB (Y.E hf hk hv hA H (aG h)) λ V1 σ1 av va s1 l1 k1 H1 d1 h1=>?_;refine OF (qG Y (bu he) hk (hv.mono l1) (hA.mono l1 k1) H1 h1 λ V' σ' avs vs s' l2 k2 H2 d2 h2=>?_) (λ J J q=>q.trans l1 k1) λ J J q=>q;exact⟨Y.P.keep (d1.mono l2) H2 h2,(Y.C (d1.mono l2) d2 (((hA.mono l1 k1).mono l2 k2).up (by omega)) H2 h2).2⟩
theorem uK(hf:∀ e∈es,∃ x,cE k n e=some x)(hl:es.length<25):Tj (es.length+([]:List Keyword).length) (RJ pos (Qk es env)) (backToKw pos (keywordEach [] env))=true:=by
 refine(OA _ _).mpr ⟨(OA _ _).mpr ⟨OP.mpr λ x hx=>?_,rfl⟩,decide_eq_true (Pb hl (by decide))⟩
 have:=QQ.mp (noStar (pos:=pos) (env:=env) hf) x hx;rw[Bool.not_eq_true] at this;rw[this];rfl
theorem uL{ov:Value}{args:List (Bool×Sem Value)}{kws:List (Option Str×Sem Value)}(hl:ap.endLine=pos.line)(hf:Tj n args kws=true) :
 methodCall o m ap pos env ov n args kws=(Rr [ov] (calleeOf true o env ov m) >>= λ p=>pure pos >>= λ q=>Ut q p.1 p.2 args kws):=by
 have e:methodCallPos true o env ap pos=pure pos:=if_pos (by rw[hl,beq_self_eq_true];rfl)
 show(Rr [ov] (calleeOf (Tj n args kws) o env ov m) >>= λ p=>methodCallPos (Tj n args kws) o env ap pos >>= λ q=>Ut q p.1 p.2 args kws)=_;rw[hf,e]
theorem zV(Y:Hyp X cfg glb ih)(hs:iB o=true)(hln:ap.endLine=pos.line)(hlen:es.length<25)(hm:okS m=true)(ho:cE k n o=some xo)(he:bc (cE k n) es=some xs)(hk:k.glb=glb)(hv:EnvOK A V c k env)(hA:AOK X V σ A c.dep 0)(H:St X V σ s)
 (h:(HT cfg ih c xo (nm m) xs σ).Sat Φ):wpAny (Mo X) A (eval (.Call (.Attribute o m ap) es [] pos) env) (PV X V σ Φ) (PE X V σ Φ) s:=by
 rw[arm_eval_Call,wH hs];refine fB (Y.E ho hk hv hA H (aG h)) λ V1 σ1 av va s1 l1 k1 H1 d1 h1=>?_;refine Oz (OS ?_);rw[uL hln (uK (gF (bu he)) hlen)];refine bn h1 λ mk hmk h1=>Oz (OQ (OF (Y.P.meth hm (hA.mono l1 k1) H1 d1 hmk) (λ p s2 q=>?_) λ J J q=>q));refine Oz (OD (OF (qG Y (bu he) hk (hv.mono l1) (hA.mono l1 k1) q.1 h1 λ V' σ' avs vs s' l2 k2 H3 d2 h2=>?_) (λ J J q=>q.trans l1 k1) λ J J q=>q));have A3:=(hA.mono l1 k1).mono l2 k2;rcases mk with g|m
 ·obtain rfl:=q.2;exact(Y.P.keepM q.1 hmk).elim λ kp r=>⟨⟨kp,r.1,r.2.keeps H3.bs⟩,(Y.C (.glob g) (.cons (d1.mono l2) d2) (A3.up (by decide)) H3 h2).2⟩
 ·obtain rfl:=q.2;exact⟨⟨.machine,.inr (.inl rfl),Looks.of_pure rfl⟩,Rz (Y.P.bm (d1.mono l2) d2 (A3.up (by decide)) H3 h2)⟩
theorem E9{α:Type}{M:Model}{m:Sem Bool}{f:Bool->Sem α}{kont:Bool->Sg->R}{Q:α->Shared->Prop}(h0:wpAny M A m (PB X V σ λ r=>(ul (λ v g=>on (kL v) λ b=>kont b g) r).Sat Φ) (PE X V σ λ r=>(ul (λ v g=>on (kL v) λ b=>kont b g) r).Sat Φ) s)
 (hf:∀ V' σ' b s',V.Le V'->Keep σ σ'->St X V' σ' s'->(kont b σ').Sat Φ->wpAny M A (f b) Q (PE X V' σ' Φ) s'):wpAny M A (m >>= f) Q (PE X V σ Φ) s:=
 Oz (OF h0 (λ b s' q=>q.rec λ V' σ' a k c e=>OF (hf V' σ' b s' a k c e) (λ J J q=>q) λ J J q=>q.trans a k) λ J J q=>PE.out q)
theorem JB{α β:Type}{f:α->Option β}{e:α}{r:List α}{xs:List β}{P:List β->Prop}(h:bc f (e::r)=some xs)(k:∀ x l,f e=some x->bc f r=some l->P (x::l)):P xs:=
 aw h λ x e1 h=>aw h λ l e2 h=>Oy h▸k x l e1 e2
theorem lT{α:Type}{f:E->E->E}{g:α->Option E}{P:List α->E->Prop}(one:∀ e x,g e=some x->P [e] x)(more:∀ e b r xa y ys,g e=some xa->bc g (b::r)=some ys->eF f ys=some y->P (e::b::r) (f xa y))
 {es:List α} (he:bc g es=some xs) (hx:eF f xs=some x):P es x:=by
 rcases es with _|⟨e,_|⟨b,r⟩⟩
 ·obtain rfl:=Oy he;exact am hx
 ·refine JB (P:=λ xs=>eF f xs=some x->P [e] x) he (λ xa l ha hl hx=>?_) hx;obtain rfl:=Oy hl;exact Oy hx▸one _ _ ha
 ·refine JB (P:=λ xs=>eF f xs=some x->P (e::b::r) x) he (λ xa l ha hl hx=>?_) hx;exact JB (P:=λ l=>bc g (b::r)=some l->eF f (xa::l)=some x->P (e::b::r) x) hl (λ y q J J hl hx=>fF hx λ z hz=>more _ _ _ _ _ _ ha hl hz) hl hx
theorem EH(Y:Hyp X cfg glb ih)(one:∀ {e x},cE k n e=some x->(iV cfg ih c x σ).Sat Φ->wpAny (Mo X) A (eval e env) (PV X V σ Φ) (PE X V σ Φ) s)(he:bc (cE k n) es=some xs)(hx:eF .and xs=some x)(hk:k.glb=glb)(hv:EnvOK A V c k env)(hA:AOK X V σ A c.dep 0)(H:St X V σ s)
 (h:(iV cfg ih c x σ).Sat Φ):wpAny (Mo X) A (eval (.BoolOp .And es pos) env) (PV X V σ Φ) (PE X V σ Φ) s:=by
 refine lT (g:=cE k n) (P:=λ es x=>(iV cfg ih c x σ).Sat Φ->wpAny (Mo X) A (eval (.BoolOp .And es pos) env) (PV X V σ Φ) (PE X V σ Φ) s) (λ e x a h=>show wpAny (Mo X) A (eval e env) _ _ _ from one a h) (λ e b r xa y ys ha hl hy h=>?_) he hx h
 refine fB (m:=eval e env) (Y.E ha hk hv hA H (aG (show(Nv cfg ih c xa y σ).Sat Φ from h))) λ V1 σ1 av va s1 l1 k1 H1 d1 h1=>?_
 refine Oz (OS (Oz (OQ (OF (Y.P.tru (hA.mono l1 k1) H1 d1 h1) (λ t s2 q=>?_) λ J J q=>q))));cases t with
 | false=>exact OD ((PV.here q.1 d1 q.2).trans l1 k1)
 | true=>exact back (Y.E (k:=k) (n:=n+1) (e:=.BoolOp .And (b::r) pos) (x:=y) (by show(bc (cE k n) (b::r)).bind (eF .and)=some y;rw[hl];exact hy) hk (hv.mono l1) (hA.mono l1 k1) q.1 q.2) l1 k1
theorem I3(Y:Hyp X cfg glb ih)(one:∀ {e x},cE k n e=some x->(iV cfg ih c x σ).Sat Φ->wpAny (Mo X) A (eval e env) (PV X V σ Φ) (PE X V σ Φ) s)(he:bc (cE k n) es=some xs)(hx:eF .or xs=some x)(hk:k.glb=glb)(hv:EnvOK A V c k env)(hA:AOK X V σ A c.dep 0)(H:St X V σ s)
 (h:(iV cfg ih c x σ).Sat Φ):wpAny (Mo X) A (eval (.BoolOp .Or es pos) env) (PV X V σ Φ) (PE X V σ Φ) s:=by
 refine lT (g:=cE k n) (P:=λ es x=>(iV cfg ih c x σ).Sat Φ->wpAny (Mo X) A (eval (.BoolOp .Or es pos) env) (PV X V σ Φ) (PE X V σ Φ) s) (λ e x a h=>show wpAny (Mo X) A (eval e env) _ _ _ from one a h) (λ e b r xa y ys ha hl hy h=>?_) he hx h
 refine fB (m:=eval e env) (Y.E ha hk hv hA H (aG (show(eOr cfg ih c xa y σ).Sat Φ from h))) λ V1 σ1 av va s1 l1 k1 H1 d1 h1=>?_
 refine Oz (OS (Oz (OQ (OF (Y.P.tru (hA.mono l1 k1) H1 d1 h1) (λ t s2 q=>?_) λ J J q=>q))));cases t with
 | true=>exact OD ((PV.here q.1 d1 q.2).trans l1 k1)
 | false=>exact back (Y.E (k:=k) (n:=n+1) (e:=.BoolOp .Or (b::r) pos) (x:=y) (by show(bc (cE k n) (b::r)).bind (eF .or)=some y;rw[hl];exact hy) hk (hv.mono l1) (hA.mono l1 k1) q.1 q.2) l1 k1
theorem xU(Y:Hyp X cfg glb ih)(hk:k.glb=glb)(hv:EnvOK A V c k env)(hA:AOK X V σ A c.dep 0)(H:St X V σ s):∀ {e:Expr} {x:E},cE k n e=some x->(iV cfg ih c x σ).Sat Φ->wpAny (Mo X) A (eval e env) (PV X V σ Φ) (PE X V σ Φ) s:=by
 induction n with
 | zero=>exact λ he=>nomatch he
 | succ n IH=>
  exact λ he=>(gv he).rec (motive:=λ e x J=>(iV cfg ih c x σ).Sat Φ->wpAny (Mo X) A (eval e env) (PV X V σ Φ) (PE X V σ Φ) s)
   (λ e h=>ED e H h) (λ e h=>zU Y e hk hv H h) (λ a b h=>EF Y a b hk hv hA H h) (λ a h=>Ey Y a hk hv hA H h) (λ a h=>Ez Y a hk hv hA H h)
   (λ a b h=>EH Y IH a b hk hv hA H h) (λ a b h=>I3 Y IH a b hk hv hA H h) (λ t a b h=>EC Y t a b hk hv hA H h) (λ a b h=>EE Y a b hk hv hA H h) (λ a h=>Ev Y a hk hv hA H h) (λ a h=>EA Y a hk hv hA H h)
   (λ a b c h=>Y.P.dic Y.E a b c hk hv hA H h) (λ a b c h=>EG Y a b c hk hv hA H h) (λ a b c h=>Ex Y a b c hk hv hA H h) (λ a b c h=>Ew Y a b c hk hv hA H h) (λ a b c d e f h=>zV Y a b c d e f hk hv hA H h)
   (λ a b h=>zX Y a b hk hv hA H h) λ a b c d e h=>Y.K a b c d e hk hv hA H h
end
end
section
universe u
open PySem PySem.W PyProof.Rows
variable {Q:Bool->Shared->Prop} {x xa:E} {a b e:Expr} {xs:List E} {es:List Expr}
section
variable {glb:List (Nat×AV)} {c:FC} {k:CC} {n:Nat} {s:Shared}
theorem PB.here{b:Bool}(H:St X V σ s)(h:Φ (.v (.bool b),σ)):PB X V σ Φ b s:=⟨V,σ,.rfl,.rfl,H,h⟩
theorem tt(Y:Hyp X cfg glb ih)(he:cE k n e=some x)(hk:k.glb=glb)(hv:EnvOK A V c k env)(hA:AOK X V σ A c.dep 0)(H:St X V σ s)
 (h:(onV (ih (.e c x) σ) λ v g=>onT v cfg g λ b=>val (.bool b) g).Sat Φ) (hQ:∀ b s',PB X V σ Φ b s'->Q b s'):wpAny (Mo X) A (do let v <-eval e env;standAt e.pos;Rr [v] (Sx v)) Q (PE X V σ Φ) s:=by
 refine fB (Y.E he hk hv hA H (aG h)) λ V1 σ1 av va s1 l1 k1 H1 d1 h1=>?_;exact Oz (OS (OQ (OF (Y.P.tru (hA.mono l1 k1) H1 d1 h1) (λ t s2 q=>hQ _ _ ((PB.here q.1 q.2).trans l1 k1)) λ J J q=>q)))
theorem xQ(l:Value)(o:CmpOp)(r:Sem Value):testChain pos l [o] [r]=(Um pos l [o] [r] >>= λ v=>Rr [v] (Sx v)):=by
 show(Rr [l] r >>= λ rv=>standAt pos >>= λ J=>operate [l,rv] (Tx o l rv) >>= λ c=>Rr [c] (Sx c))=_;rw[np];simp only[S8]
theorem BF(Y:Hyp X cfg glb ih){o:CmpOp}(hx:cE k n (.Compare a [o] [b] pos)=some x)(hk:k.glb=glb)(hv:EnvOK A V c k env)(hA:AOK X V σ A c.dep 0)(H:St X V σ s)
 (h:(onV (ih (.e c x) σ) λ v g=>onT v cfg g λ b=>val (.bool b) g).Sat Φ):wpAny (Mo X) A (isTrue (.Compare a [o] [b] pos) env (eval (.Compare a [o] [b] pos) env)) (PB X V σ Φ) (PE X V σ Φ) s:=by
 have e:isTrue (.Compare a [o] [b] pos) env (eval (.Compare a [o] [b] pos) env)=(do let v <-eval (.Compare a [o] [b] pos) env;Rr [v] (Sx v)):=by
  rw[arm_isTrue_Compare,arm_eval_Compare];show(eval a env >>= λ l=>testChain pos l [o] [Sb o b (eval b env)])=(eval a env >>= λ l=>Um pos l [o] [Sb o b (eval b env)]) >>= _;rw[S8];exact congrArg (eval a env >>= ·) (funext λ l=>xQ l o _)
 rw[e];refine fB (Y.E hx hk hv hA H (aG h)) λ V1 σ1 av va s1 l1 k1 H1 d1 h1=>?_;exact OQ (OF (Y.P.tru (hA.mono l1 k1) H1 d1 h1) (λ t s2 q=>(PB.here q.1 q.2).trans l1 k1) λ J J q=>q)
theorem gQ{t:R}{kont:Bool->Sg->R}(h:(onB t kont).Sat Φ):t.Sat λ r=>(ul (λ v g=>on (kL v) λ b=>kont b g) r).Sat Φ:=T.sat_bind h
theorem BE(Y:Hyp X cfg glb ih){t a b:Expr}{xt xa xb:E}(ht:cE k n t=some xt)(ha:cE k n a=some xa)(hb:cE k n b=some xb)(hk:k.glb=glb)(hv:EnvOK A V c k env)(hA:AOK X V σ A c.dep 0)(H:St X V σ s)
 (h:(gL cfg ih c (.ite xt xa xb) σ).Sat Φ) (w:Sem Value):wpAny (Mo X) A (isTrue (.IfExp t a b pos) env w) (PB X V σ Φ) (PE X V σ Φ) s:=by
 rw[arm_isTrue_IfExp];refine E9 (Y.T ht hk hv hA H (gQ h)) λ V1 σ1 bb s1 l1 k1 H1 h1=>?_;cases bb with
 | true=>exact OF (Y.T ha hk (hv.mono l1) (hA.mono l1 k1) H1 h1) (λ J J q=>q.trans l1 k1) λ J J q=>q
 | false=>exact OF (Y.T hb hk (hv.mono l1) (hA.mono l1 k1) H1 h1) (λ J J q=>q.trans l1 k1) λ J J q=>q
theorem BD(Y:Hyp X cfg glb ih)(ha:cE k n a=some xa)(hk:k.glb=glb)(hv:EnvOK A V c k env)(hA:AOK X V σ A c.dep 0)(H:St X V σ s)
 (h:(gL cfg ih c (.not xa) σ).Sat Φ) (w:Sem Value):wpAny (Mo X) A (isTrue (.UnaryOp .Not a pos) env w) (PB X V σ Φ) (PE X V σ Φ) s:=by
 rw[arm_isTrue_UnaryOp];refine E9 (Y.T ha hk hv hA H (gQ h)) λ V1 σ1 bb s1 l1 k1 H1 h1=>?_;exact OD ((PB.here H1 h1).trans l1 k1)
theorem tr{op:BoolOp}{E:VP}(h:wpAny (Mo X) A (isTrue e env (eval e env)) Q E s):wpAny (Mo X) A (allTrue op [e] env) Q E s:=by
 rw[Ug];refine Oz (OF h (λ b s' q=>?_) λ J J q=>q);rcases op with⟨⟩<;>rcases b with⟨⟩<;>exact OD q
theorem BG(Y:Hyp X cfg glb ih)(one:∀ {e x},cE k n e=some x->(gL cfg ih c x σ).Sat Φ->wpAny (Mo X) A (isTrue e env (eval e env)) (PB X V σ Φ) (PE X V σ Φ) s)(he:bc (cE k n) es=some xs)(hx:eF .and xs=some x)(hk:k.glb=glb)(hv:EnvOK A V c k env)(hA:AOK X V σ A c.dep 0)(H:St X V σ s)
 (h:(gL cfg ih c x σ).Sat Φ):wpAny (Mo X) A (allTrue .And es env) (PB X V σ Φ) (PE X V σ Φ) s:=by
 refine lT (g:=cE k n) (P:=λ es x=>(gL cfg ih c x σ).Sat Φ->wpAny (Mo X) A (allTrue .And es env) (PB X V σ Φ) (PE X V σ Φ) s) (λ e x a h=>tr (one a h)) (λ e b r xa y ys ha hl hy h=>?_) he hx h;rw[Ug];refine E9 (Y.T ha hk hv hA H (gQ h)) λ V1 σ1 bb s1 l1 k1 H1 h1=>?_;cases bb with
 | false=>exact OD ((PB.here H1 h1).trans l1 k1)
 | true=>exact OF (Y.T (k:=k) (n:=n+1) (e:=.BoolOp .And (b::r) ⟨0,0,0,0⟩) (x:=y) (by show(bc (cE k n) (b::r)).bind (eF .and)=some y;rw[hl];exact hy) hk (hv.mono l1) (hA.mono l1 k1) H1 h1) (λ J J q=>q.trans l1 k1) λ J J q=>q
theorem FI(Y:Hyp X cfg glb ih)(one:∀ {e x},cE k n e=some x->(gL cfg ih c x σ).Sat Φ->wpAny (Mo X) A (isTrue e env (eval e env)) (PB X V σ Φ) (PE X V σ Φ) s)(he:bc (cE k n) es=some xs)(hx:eF .or xs=some x)(hk:k.glb=glb)(hv:EnvOK A V c k env)(hA:AOK X V σ A c.dep 0)(H:St X V σ s)
 (h:(gL cfg ih c x σ).Sat Φ):wpAny (Mo X) A (allTrue .Or es env) (PB X V σ Φ) (PE X V σ Φ) s:=by
 refine lT (g:=cE k n) (P:=λ es x=>(gL cfg ih c x σ).Sat Φ->wpAny (Mo X) A (allTrue .Or es env) (PB X V σ Φ) (PE X V σ Φ) s) (λ e x a h=>tr (one a h)) (λ e b r xa y ys ha hl hy h=>?_) he hx h;rw[Ug];refine E9 (Y.T ha hk hv hA H (gQ h)) λ V1 σ1 bb s1 l1 k1 H1 h1=>?_;cases bb with
 | true=>exact OD ((PB.here H1 h1).trans l1 k1)
 | false=>exact OF (Y.T (k:=k) (n:=n+1) (e:=.BoolOp .Or (b::r) ⟨0,0,0,0⟩) (x:=y) (by show(bc (cE k n) (b::r)).bind (eF .or)=some y;rw[hl];exact hy) hk (hv.mono l1) (hA.mono l1 k1) H1 h1) (λ J J q=>q.trans l1 k1) λ J J q=>q
theorem wn{m:Str}(hc:zH k m=some x):(gL cfg ih c x σ)=onV (ih (.e c x) σ) λ v g=>onT v cfg g λ b=>val (.bool b) g:=
 ay hc λ J hc=>aw hc λ q J hc=>by
  rcases q with⟨⟩
  ·exact Oy hc▸rfl
  ·exact Oy hc▸rfl
  ·exact Oy hc▸rfl
  ·exact am hc
  ·exact fF (P:=λ x=>gL cfg ih c x σ=onV (ih (.e c x) σ) λ v g=>onT v cfg g λ b=>val (.bool b) g) hc λ J J=>rfl
theorem xS(Y:Hyp X cfg glb ih)(hk:k.glb=glb)(hv:EnvOK A V c k env)(hA:AOK X V σ A c.dep 0)(H:St X V σ s){n:Nat}:∀ {e:Expr} {x:E},cE k n e=some x->(gL cfg ih c x σ).Sat Φ->wpAny (Mo X) A (isTrue e env (eval e env)) (PB X V σ Φ) (PE X V σ Φ) s:=by
 induction n with
 | zero=>exact λ he=>nomatch he
 |
  succ n IH=>
  intro e x he;have us:(onV (ih (.e c x) σ) λ v g=>onT v cfg g λ b=>val (.bool b) g).Sat Φ->wpAny (Mo X) A (do let v <-eval e env;standAt e.pos;Rr [v] (Sx v)) (PB X V σ Φ) (PE X V σ Φ) s:=λ h=>tt Y he hk hv hA H h λ J J q=>q
  have cm:∀ {a o b p},e=.Compare a [o] [b] p->(onV (ih (.e c x) σ) λ v g=>onT v cfg g λ b=>val (.bool b) g).Sat Φ->wpAny (Mo X) A (isTrue e env (eval e env)) (PB X V σ Φ) (PE X V σ Φ) s:=λ q h=>by subst q;exact BF Y he hk hv hA H h
  revert us cm
  exact(gv he).rec (motive:=λ e x J=>((onV (ih (.e c x) σ) λ v g=>onT v cfg g λ b=>val (.bool b) g).Sat Φ->wpAny (Mo X) A (do let v <-eval e env;standAt e.pos;Rr [v] (Sx v)) (PB X V σ Φ) (PE X V σ Φ) s)->(∀ {a o b p},e=.Compare a [o] [b] p->(onV (ih (.e c x) σ) λ v g=>onT v cfg g λ b=>val (.bool b) g).Sat Φ->wpAny (Mo X) A (isTrue e env (eval e env)) (PB X V σ Φ) (PE X V σ Φ) s)->(gL cfg ih c x σ).Sat Φ->wpAny (Mo X) A (isTrue e env (eval e env)) (PB X V σ Φ) (PE X V σ Φ) s)
   (λ J u J h=>u h) (λ e u J h=>u (by rw[<-wn e];exact h)) (λ J J u J h=>u h) (λ a J J h=>BD Y a hk hv hA H h _) (λ J u J h=>u h)
   (λ a b J J h=>arm_isTrue_BoolOp ..▸BG Y IH a b hk hv hA H h) (λ a b J J h=>arm_isTrue_BoolOp ..▸FI Y IH a b hk hv hA H h) (λ t a b J J h=>BE Y t a b hk hv hA H h _) (λ J J J c h=>c rfl h) (λ J u J h=>u h) (λ J u J h=>u h)
   (λ J J J u J h=>u h) (λ J J J u J h=>u h) (λ J J J u J h=>u h) (λ J J J u J h=>u h) (λ J J J J J J u J h=>u h) (λ J J u J h=>u h) λ J J J J J u J h=>u h
end
end
section
universe u
open PySem PySem.W PyProof.Rows
variable {L a:Addr} {h':Heap} {l:List Env} {cc d dp i m:Nat} {Q:Unit->Shared->Prop}
section
variable {glb:List (Nat×AV)} {c:FC} {k:CC} {n:Nat} {s:Shared}
theorem Traced6.re{V:Va}{σ:Sg}{h h':Heap}(k:∀ ob vs,h.get? a=some ob->ob.data=.fields vs->h'.get? a=some ob)(k2:∀ t ot ts,(∀ i:Nat,σ.live i->V.ρ[i]?≠some t)->h.get? t=some ot->ot.data=.fields ts->(∀ o,¬ V.K t o)->∃ ot' ts',h'.get? t=some ot'/\ot'.data=.fields ts'/\ts'.size=ts.size)(q:Traced6 V σ h a):Traced6 V σ h' a:=
 E2.imp (λ ob vs q=>⟨k ob vs q.1 q.2,q.2,q.3,q.4.imp_right λ r=>r.rec λ t ot ts r=>(k2 t ot ts r.2 r.3 r.4 r.6).rec λ ot' ts' z=>⟨t,ot',ts',r.1,r.2,z.1,z.2,z.3▸r.5,r.6⟩⟩) q
theorem St.re(H:St X V σ s)(own:∀ {i o a ob},σ.own.get i=some o->o≠.dead->V.ρ[i]?=some a->s.heap.get? a=some ob->DenO X false V ob o->∃ ob',h'.get? a=some ob'/\DenO X false V ob' o)
 (stays:∀ {b o},V.K b o->s.heap.get? b=some o->h'.get? b=some o) (soft:∀ {L},L∈X.out->SoftAt X V s.heap L->SoftAt X V h' L)
 (exc:∀ {i c d a},σ.own.get i=some (.exc c d)->V.ρ[i]?=some a->Traced6 V σ s.heap a->Traced6 V σ h' a):St X V σ { s with heap:=h' }:=
 ⟨H.lenO,H.lenF,H.top,H.big,λ i o e nd=>(H.own i o e nd).rec λ a J q=>(own e nd q.1 q.2 q.3).elim λ ob' r=>⟨a,ob',q.1,r.1,r.2⟩,H.nodup,H.nb,H.nout,λ b o e=>stays e (H.stays b o e),H.frz,λ L hL=>soft hL (H.soft L hL),λ i c d a e x=>exc e x (H.exc i c d a e x),H.gens,H.os,H.lenD,H.base,H.hi,H.low,H.dsok,H.facts⟩
theorem St.slots(H:St X V σ s){S:List Addr}(k:Heap.SlotsOnly S s.heap h')(hS:∀ b∈S,b∈X.out\/∃ (i:Nat) (es:bN),V.ρ[i]?=some b/\σ.own.get i=some (.ns es)):St X V σ { s with heap:=h' }:=by
 have key:∀ {i o a},σ.own.get i=some o->o≠.dead->V.ρ[i]?=some a->a∈S->∃ es,o=.ns es:=λ {i o a} e nd x q=>(hS a q).elim (λ q'=>absurd q' (H.nout i a ⟨o,e,nd⟩ x)) λ r=>r.rec λ j es r=>by
  obtain rfl:=H.nodup i j a ⟨o,e,nd⟩ ⟨_,r.2,nofun⟩ x r.1
  exact⟨es,Oy (e.symm.trans r.2)⟩
 refine H.re (λ {i o a ob} e nd x y z=>?_) (λ {b o} hb y=>(k.2.1 b λ q=>?_).trans y) (λ {L} J q=>q.rec λ o sl q=>(k.2.2 L _ q.4).elim λ sl' e'=>⟨o,sl',q.1,q.2,q.3,e'⟩) λ {i c d a} e x=>Traced6.re (λ ob vs y J=>(k.2.1 a λ q=>?_).trans y) λ t ot ts a2 a3 a4 J=>⟨ot,ts,(k.2.1 t λ q=>?_).trans a3,a4,rfl⟩
 ·by_cases q:a∈S
  ·obtain⟨es,rfl⟩:=key e nd x q;exact(k.2.2 a ob y).elim λ sl e'=>⟨_,e',z⟩
  ·exact⟨ob,(k.2.1 a q).trans y,z⟩
 ·exact(hS b q).elim (λ q=>(H.soft b q).rec λ J J r=>r.3 o hb) λ r=>r.rec λ i es r=>H.nb i b ⟨_,r.2,nofun⟩ r.1 o hb
 ·exact(key e nofun x q).elim λ J=>nofun
 ·exact(hS t q).elim (λ q=>(H.soft t q).rec λ o J r=>r.2 ts (congrArg Obj.data (Oy (a3.symm.trans r.4))▸a4)) λ r=>r.rec λ i es r=>a2 i ⟨_,r.2,nofun⟩ r.1
theorem St.noB(H:St X V σ s)(h:∀ o,¬ V.K L o):X.B.get? L=none:=Sq.mpr λ o q=>h o (H.base L o q)
theorem mP(H:St X V σ s)(h:FramesOK X V σ l):s.heap.FunFrames X.B l:=by
 induction l with
 | nil=>trivial
 |
  cons e l ih=>
  obtain⟨a,L,b,c⟩:=h e (OZ ..);refine⟨a,?_,ih λ e' he'=>h e' (OY _ he')⟩;rcases c with c|⟨i,es,x,y⟩
  ·obtain⟨o,sl,_,q,r,t⟩:=H.soft L c;exact⟨L,_,b,H.noB r,t,q⟩
  ·obtain⟨a',ob,x',y',ents,m,z,_⟩:=H.own i _ y (by nofun)
   obtain rfl:=Oy (x.symm.trans x');exact⟨L,ob,b,H.noB (H.nb i _ ⟨_,y,nofun⟩ x),y',λ vs=>by rw[z];nofun⟩
theorem rW(hl:FramesOK X V σ l)(b:Addr)(hb:b∈l.filterMap (·.frame)):b∈X.out\/∃ (i:Nat) (es:bN),V.ρ[i]?=some b/\σ.own.get i=some (.ns es):=
 (List.mem_filterMap.mp hb).elim λ e q=>(hl e q.1).2.elim λ L r=>Oy (r.1.symm.trans q.2)▸r.2
theorem DP{env:Env}(h:∃ e∈l,e.frame=env.frame):∃ e r,(l.dropWhile λ x=>x.frame != env.frame)=e::r/\e.frame=env.frame/\∀ x∈e::r,x∈l:=by
 induction l with
 | nil=>exact h.elim λ e q=>absurd q.1 Pl
 |
  cons a l ih=>
  rw[List.dropWhile_cons];by_cases q:a.frame=env.frame
  ·rw[if_neg (by rw[q];simp)]
   exact⟨a,l,rfl,q,λ x hx=>hx⟩
  ·rw[if_pos (bne_iff_ne.mpr q)];exact E2.imp (λ e r z=>⟨z.1,z.2,λ b hb=>.tail _ (z.3 b hb)⟩) (ih (h.elim λ e z=>⟨e,(Po.mp z.1).resolve_left λ r=>q (r▸z.2),z.2⟩))
theorem y8(hv:EnvOK A V c k env)(hA:AOK X V σ A d m):∃ L,env.frame=some L:=by
 obtain⟨l,hl,e,he,hf⟩:=hv.inF;obtain⟨l',hl',F⟩:=hA.frames;obtain rfl:=Oy (hl.symm.trans hl');exact(F e he).2.imp λ L q=>hf▸q.1
theorem rX(hv:EnvOK A V c k env)(hA:AOK X V σ A d m)(H:St X V σ s){Q:VP}{E:VP}(h:∀ h' L,St X V σ { s with heap:=h' }->Q (.ref L) { s with heap:=h' }):wpAny (Mo X) A (UM env) Q E s:=by
 obtain⟨l,hl,hx⟩:=hv.inF;obtain⟨l',hl',F⟩:=hA.frames;rw[hl] at hl';cases hl'
 obtain⟨e,r,h1,h2,h3⟩:=DP hx;have F':FramesOK X V σ (e::r):=λ x hx=>F x (h3 x hx);obtain⟨_,L,hL,_⟩:=F' e (OZ ..);unfold UM;refine Oz (wpAny_frameEnvs hl ?_);rw[h1];unfold frameObject;refine Oz (Oz (wpAny_readyFrames_fun (mP H F') λ h₁ hs₁=>OD ?_));rw[hL];exact OD (h h₁ L (H.slots hs₁ (rW F')))
theorem St.tb(H:St X V σ s){t:Addr}{ot:Obj}{ts ts':Array Value}(h1:∀ i:Nat,σ.live i->V.ρ[i]?≠some t)(h2:∀ o,¬ V.K t o)(h3:s.heap.get? t=some ot)(h4:ot.data=.fields ts)(h5:ts'.size=ts.size)(hs:s.heap.objs.size<=h'.objs.size)
 (k:∀ b,b≠t->h'.get? b=s.heap.get? b) (h6:∃ ot',h'.get? t=some ot'/\ot'.data=.fields ts'):St X V σ { s with heap:=h' }:=by
 refine H.re (λ {i o a ob} e nd x y z=>⟨ob,(k a λ q=>h1 i ⟨o,e,nd⟩ (q▸x)).trans y,z⟩) (λ {b o} hb y=>(k b λ q=>h2 o (q▸hb)).trans y) (λ {L} J=>E2.imp λ o sl q=>⟨q.1,q.2,q.3,(k L λ r=>?_).trans q.4⟩) λ {i c d a} e x=>Traced6.re (λ ob vs y J=>(k a λ r=>h1 i ⟨_,e,nofun⟩ (r▸x)).trans y) λ t' ot' ts0 a2 a3 a4 J=>?_
 ·subst r;exact q.2 ts (congrArg Obj.data (Oy (h3.symm.trans q.4))▸h4)
 ·by_cases q:t'=t
  ·subst q;obtain rfl:=Oy (h3.symm.trans a3);exact h6.elim λ o2 y=>⟨o2,ts',y.1,y.2,h5.trans (congrArg Array.size (RU (h4.symm.trans a4)))⟩
  ·exact⟨ot',ts0,(k t' q).trans a3,a4,rfl⟩
theorem St.mark1(H:St X V σ s){a T:Addr}{ob ob' oT:Obj}{vs ts:Array Value}(ho:σ.own.get i=some (.exc cc d))(hi:V.ρ[i]?=some a)(h1:s.heap.get? a=some ob)(h2:ob.data=.fields vs)(h3:∀ i:Nat,σ.live i->V.ρ[i]?≠some T)(h4:∀ o,¬ V.K T o)(hs:s.heap.objs.size<=h'.objs.size)
 (k:∀ b,b≠a->h'.get? b=s.heap.get? b) (h5:h'.get? a=some ob') (h6:ob'={ ob with data:=.fields (vs.setIfInBounds 1 (.ref T)) }) (h7:s.heap.get? T=some oT) (h8:oT.data=.fields ts) (h9:3<ts.size):St X V σ { s with heap:=h' }:=by
 have hl:σ.live i:=⟨_,ho,nofun⟩
 have hTa:T≠a:=λ q=>h3 i hl (q▸hi);refine H.re (λ {j o b obj} e nd x y z=>?_) (λ {b o} hb y=>(k b λ q=>H.nb i a hl hi o (q▸hb)).trans y) (λ {L} hL=>SoftAt.mono λ o q=>(k L λ r=>H.nout i a hl hi (r▸hL)).trans q) λ {j c d' b} e x q=>?_
 ·by_cases q:b=a
  ·subst q;obtain rfl:=H.nodup i j _ hl ⟨_,e,nd⟩ hi x;obtain rfl:=Oy (ho.symm.trans e);obtain rfl:=Oy (h1.symm.trans y);exact⟨ob',h5,h6▸⟨z.1,z.2.1.elim λ vs0 r=>⟨_,rfl,Q4.trans (RU (r.1.symm.trans h2)▸r.2)⟩,z.2.2⟩⟩
  ·exact⟨obj,(k b q).trans y,z⟩
 ·by_cases p:b=a
  ·subst p;refine q.rec λ obj vs0 r=>?_;obtain rfl:=Oy (h1.symm.trans r.1);obtain rfl:=RU (h2.symm.trans r.2);subst h6;refine⟨_,_,h5,rfl,⟨Q4.trans r.3.1,(Array.getElem?_setIfInBounds_ne (by decide)).trans r.3.2⟩,.inr ⟨T,oT,ts,?_,h3,(k T hTa).trans h7,h8,h9,h4⟩⟩
   exact Array.getElem?_setIfInBounds_self_of_lt (r.3.1▸(by decide:1<6))
  ·exact Traced6.re (λ ob vs y J=>(k b p).trans y) (λ t ot ts a2 a3 a4 J=>⟨ot,ts,(k t λ r=>a2 i hl (r▸hi)).trans a3,a4,rfl⟩) q
def Tb(h:Heap)(a:Addr):Prop:=∃ ob vs t,h.get? a=some ob/\ob.data=.fields vs/\vs[1]?=some (.ref t)
theorem bQ(H:St X V σ s)(ho:σ.own.get i=some (.exc cc d))(hi:V.ρ[i]?=some a){fl:Option Addr}{E:VP}
 (h:∀ h',St X V σ { s with heap:=h' }->(Tb s.heap a->Tb h' a)->Q () { s with heap:=h' }):wpAny (Mo X) A (setFlight (.ref a) fl) Q E s:=by
 obtain⟨ob,vs,h1,h2,h3,h4⟩:=H.exc i cc d a ho hi;unfold setFlight;rcases h4 with h4|⟨t,ot,ts,a1,a2,a3,a4,a5,a6⟩
 ·refine Oz (PI h1 h2 h4 ?_);rw[if_neg (by simp)]
  exact OD (h s.heap H id)
 ·refine Oz (PI h1 h2 a1 ?_);rw[if_pos (show(Value.ref t != Value.none)=true from by simp)]
  refine R9 a3 a4 a5 (h _ ?_ ?_)
  ·exact H.tb (ts':=ts.setIfInBounds 3 _) a2 a6 a3 a4 (by rw[Q4]) (by rw[Su];exact OR _) (λ b hb=>P0 _ _ (Sf hb)) ⟨_,PG _ a3 (Qb (Qc a4 _)),Qc a4 _⟩
  ·intro _;exact⟨ob,vs,t,(P0 _ _ (show t≠a from λ q=>a2 i ⟨_,ho,nofun⟩ (by rw[q];exact hi))).trans h1,h2,a1⟩
theorem p5(hv:EnvOK A V c k env)(hA:AOK X V σ A dp m)(H:St X V σ s)(ho:σ.own.get i=some (.exc cc d))(hi:V.ρ[i]?=some a){head:Value}{had:Bool}{E:VP}
 (h:∀ h',St X V σ { s with heap:=h' }->Tb h' a->Q () { s with heap:=h' }) :
 wpAny (Mo X) A (do let f <-UM env;let pl <-entryPlaceOf L had;let b <-UO head f .none (rawInt L) .none pl;setField (.ref a) 1 b) Q E s:=by
 refine Oz (rX hv hA H λ h₁ L' H₁=>?_);refine Oz (wpAny_entryPlaceOf λ pl hpl=>?_);unfold UO newFields;refine Oz (P7 ?_ (hpl.sizeOk5 _ _ _ _ _));have H₂:=H₁.grow (h':=h₁.push { cls:=.type "traceback",dict:=none,data:=.fields ([head,.ref L',.none,rawInt L,.none]++(if pl.isEmpty then Pz 6 Value.none else pl)).toArray }) (t:=s.toks) λ J J e=>OO _ e
 obtain⟨ob,vs,e1,e2,e3,e4⟩:=H₂.exc i cc d a ho hi;refine R9 e1 e2 (by have:=e3.1;omega) (h _ ?_ ?_)
 ·refine H₂.mark1 (T:=h₁.objs.size) (ob':={ ob with data:=.fields (vs.setIfInBounds 1 (.ref h₁.objs.size)) }) ho hi e1 e2 (λ j l q=>?_) ?_ (by rw[Su];exact OR _) (λ b hb=>P0 _ _ (Sf hb)) ?_ rfl (Ph h₁ rfl) rfl ?_
  ·exact absurd (H₁.there l q) (Ra _)
  ·exact λ o q=>absurd (Pq (H₁.stays _ _ q)) (Ra _)
  ·have:=PG (Obj.mapFields (·.setIfInBounds 1 (Value.ref h₁.objs.size))) e1 (Qb (Qc e2 _));rw[this];obtain⟨c0,d0,dt,sl⟩:=ob;cases e2
   rfl
  ·simp only[TP,OW,Q1,Uy];omega
 ·refine⟨_,_,h₁.objs.size,PG _ e1 (Qb (Qc e2 _)),Qc e2 _,?_⟩;rw[Array.getElem?_setIfInBounds];simp [e3.1]
theorem gR(hv:EnvOK A V c k env)(hA:AOK X V σ A dp m)(H:St X V σ s)(ho:σ.own.get i=some (.exc cc d))(hi:V.ρ[i]?=some a){E:VP}
 (h:∀ h',St X V σ { s with heap:=h' }->Tb h' a->Q () { s with heap:=h' }):wpAny (Mo X) A (noteFrame (.ref a) env) Q E s:=by
 obtain⟨L,hL⟩:=y8 hv hA;obtain⟨ob,vs,h1,h2,h3,h4⟩:=H.exc i cc d a ho hi;unfold noteFrame;simp only[hL];rcases h4 with h4|⟨t,ot,ts,a1,a2,a3,a4,a5,a6⟩
 ·refine Oz (PI h1 h2 h4 ?_);rw[if_neg (by simp)]
  exact p5 hv hA H ho hi h
 ·refine Oz (PI h1 h2 a1 ?_);rw[if_pos (show(Value.ref t != Value.none)=true from by simp)]
  refine Oz (PI a3 a4 (TY a5) ?_);split
  ·exact OD (h s.heap H ⟨ob,vs,t,h1,h2,a1⟩)
  ·refine Oz (R9 a3 a4 a5 ?_);refine p5 (s:={ s with heap:=_ }) hv hA ?_ ho hi h
   exact H.tb (ts':=ts.setIfInBounds 3 _) a2 a6 a3 a4 (by rw[Q4]) (by rw[Su];exact OR _) (λ b hb=>P0 _ _ (Sf hb)) ⟨_,PG _ a3 (Qb (Qc a4 _)),Qc a4 _⟩
theorem Ea(H:St X V σ s)(ho:σ.own.get i=some (.exc cc d))(hi:V.ρ[i]?=some a)(ht:Tb s.heap a){E:VP}(h:∀ h',St X V σ { s with heap:=h' }->E (.ref a) { s with heap:=h' }):RB (Mo X) A env E (.ref a) s:=by
 unfold RB;obtain⟨ob,vs,t,h1,h2,h3⟩:=ht;refine Oz (PI h1 h2 h3 ?_);rw[if_neg (by simp)]
 exact bQ H ho hi λ h' H' J=>h h' H'
theorem pY{A':Around}(hv:EnvOK A V c k env)(hA:AOK X V σ A dp m){x:Value}(h:PE X V σ Φ x s):notedBy (Mo X) A env (λ e s'=>RB (Mo X) A' env (PE X V σ Φ) e s') x s:=by
 obtain⟨V',σ',i,a,c',d,l1,k1,H,rfl,hi,ho,hΦ⟩:=h;refine gR (hv.mono l1) (hA.mono l1 k1) H ho hi λ h' H' ht=>?_;exact Ea (s:={ s with heap:=h' }) H' ho hi ht λ h'' H''=>⟨V',σ',i,a,c',d,l1,k1,H'',rfl,hi,ho,hΦ⟩
theorem nZ{α:Type}{what:String}(H:St X V σ s)(ho:σ.own.get i=some (.exc cc d))(hi:V.ρ[i]?=some a)(ht:Tb s.heap a){Q:α->Shared->Prop}{E:VP}(h:∀ h',St X V σ { s with heap:=h' }->Tb h' a->E (.ref a) { s with heap:=h' }):wpAny (Mo X) A (Uo what (.ref a) env:Sem α) Q E s:=by
 have ht0:=ht;obtain⟨ob,vs,t,h1,h2,h3⟩:=ht;unfold Uo;refine Oz (PI h1 h2 h3 ?_);rw[if_neg (by simp)]
 exact Oz (bQ H ho hi λ h' H' ht'=>wpAny_throw (h h' H' (ht' ht0)))
end
end
section
universe u
open PySem PySem.W PyProof.Rows
variable {o:AO} {av:AV} {a:Addr} {A':Around} {x xi:E} {es es':bN} {e it t:Expr} {h':Heap} {ts:List Expr} {xb:List S} {b:List Stmt} {xts:List Tg} {d i n':Nat} {hp:Pos} {kont:Sg->R} {b₀:Stmt} {m:Str} {xt:Tg} {v:Value}
section
variable {glb:List (Nat×AV)} {c:FC} {k:CC} {n:Nat} {s:Shared}
theorem eO{o:Option AO}(h:sv o=some es):o=some (.ns es):=vw Cz h
theorem gO(hv:EnvOK A V c k env):(env.scope.kind==.class||(env.scope.kind==.module&&env.locals != env.globals))=false:=by rw[hv.kind];rfl
theorem Ao(H:St X V σ s){L:Addr}{m':Str->Option Value}{t:Nat}(hi:V.ρ[i]?=some L)(ho:σ.own.get i=some (.ns es))(hn:h'.Ns L m')(hs:Rn L s.heap h')(hd:NsDen V es' m') :
 St X V ⟨Tr.put' 40 σ.own i (.ns es'),σ.n,σ.frz⟩ { s with heap:=h',toks:=t }/\Keep σ ⟨Tr.put' 40 σ.own i (.ns es'),σ.n,σ.frz⟩:=by
 obtain⟨o,ents,ep,e1,e2,e3,e4⟩:=hn;have e5:m'=Ru ents:=funext λ x=>(e4 x).symm;subst e5;exact⟨H.upd (t:=t) ho hi (Pp hs.1.symm) (λ b o hb e=>(hs.2 b hb).trans e) e1 (by intros;nofun) ⟨ents,ep,e2,e3,hd⟩,cH H ho λ J J=>⟨es',rfl⟩⟩
theorem iU(hv:EnvOK A V c k env)(ho:okS m=true)(hl:bA m k.sc.names=some .local)(H:St X V σ s)(d:DenV V av v)
 (h:(xW c σ (nm m) av kont).Sat Φ) {E:VP}:wpAny (Mo X) A (storeName env m v) (λ J=>PN X V σ λ g=>(kont g).Sat Φ) E s:=
 bn h λ es e h=>(rs H hv.loc e).elim λ mm q=>by
  rw[nX,bD] at h;refine wpAny_storeName_local (hv.kinds m _ ho hl) q.1 (λ h' hn' hs'=>?_) (gO hv);obtain⟨a,b⟩:=Ao (t:=s.toks+1) H hv.loc (eO e) hn' hs' (q.2.put ho d);exact⟨V,_,.rfl,b,a,h⟩
theorem tL(hv:EnvOK A V c k env)(ho:okS m=true)(hl:bA m k.sc.names=some .cell)(H:St X V σ s)(d:DenV V av v)
 (h:(FX c σ (nm m) av kont).Sat Φ) {E:VP}:wpAny (Mo X) A (storeName env m v) (λ J=>PN X V σ λ g=>(kont g).Sat Φ) E s:=by
 refine bn h λ i e h=>bn h λ w e2 h=>?_;obtain⟨a,ha,hc⟩:=(hv.cells m ho ⟨_,hl,rfl⟩).2 i e;have e2:=vw AA e2;obtain⟨a',ob,x,y,w',z2,z3⟩:=H.own i _ e2 (by nofun)
 obtain rfl:=Oy (ha.symm.trans x);rw[bD] at h;refine wpAny_storeName_cell hv.kind (hv.kinds m _ ho hl) hc ⟨ob,y,z2⟩ λ h' hc' hs'=>hc'.elim λ ob' r=>?_;exact⟨V,_,.rfl,cH H e2 (λ J q=>nomatch q),H.upd (t:=s.toks) (o':=.cel av) e2 ha (Pp hs'.1.symm) (λ b o hb q=>(hs'.2 b hb).trans q) r.1 nofun ⟨some v,r.2,λ J=>⟨v,rfl,d⟩⟩,h⟩
theorem xN{P:Expr->Tg->Prop}{x:Tg}(h:tgN k t=some x)(l:∀ m p,okS m=true->bA m k.sc.names=some .local->P (.Name m p) (.loc (nm m)))(c:∀ m p,okS m=true->bA m k.sc.names=some .cell->P (.Name m p) (.cel (nm m))):P t x:=
 aw h λ p e h=>ay h λ ho h=>aw h λ q hl h=>by
  rw[gG e];rcases q with⟨⟩
  ·exact Oy h▸l _ _ ho hl
  ·exact Oy h▸c _ _ ho hl
  ·exact am h
  ·exact am h
  ·exact am h
theorem pf(ht:tgN k t=some xt)(hv:EnvOK A V c k env)(H:St X V σ s)(d:DenV V av v)
 (h:(asgN c xt av σ kont).Sat Φ) {E:VP}:wpAny (Mo X) A (Qi t env v) (λ J=>PN X V σ λ g=>(kont g).Sat Φ) E s:=
 xN (P:=λ t xt=>(asgN c xt av σ kont).Sat Φ->wpAny (Mo X) A (Qi t env v) (λ J=>PN X V σ λ g=>(kont g).Sat Φ) E s) ht
  (λ J J ho hl h=>Oz (OS (Ti (iU hv ho hl H d h)))) (λ J J ho hl h=>Oz (OS (Ti (tL hv ho hl H d h)))) h
theorem Es{avs:List AV}{vs:List Value}{σ:Sg}{V:Va}{s:Shared}{E:VP}(ht:All2 (λ e x=>tgN k e=some x) ts xts)(dv:All2 (DenV V) avs vs)(hv:EnvOK A V c k env)(H:St X V σ s)
 (h:(xm c xts avs σ kont).Sat Φ):wpAny (Mo X) A (assignInOrder (ts.map λ t=>Qi t env) vs) (λ J=>PN X V σ λ g=>(kont g).Sat Φ) E s:=by
 induction ht generalizing avs vs σ V s with
 |
  nil=>
  rcases dv with _|⟨d,dr⟩
  ·exact OD ⟨V,σ,.rfl,.rfl,H,h⟩
  ·exact h.elim
 |
  cons ht hr ih=>
  rcases dv with _|⟨d,dr⟩
  ·exact h.elim
  ·refine Oz (OQ (OF (pf ht hv H d (kont:=λ g=>xm c _ _ g kont) h) (λ J s' q=>q.rec λ V1 σ1 l1 k1 H1 h1=>?_) λ J J q=>q));exact OF (ih (dr.mono λ J J d=>d.mono l1) (hv.mono l1) H1 h1) (λ J J q=>q.trans l1 k1) λ J J q=>q
structure PrimS(X:Cx)(cfg:Cfg):Prop where
 iter:∀ {v:AV} {y:Value} {V:Va} {σ:Sg} {s:Shared} {A:Around} {kont:Nat->Sg->R} {Φ:Out×Sg->Prop} {d:Nat} {E:VP},AOK X V σ A d 0->St X V σ s->DenV V v y->(vg cfg σ v kont).Sat Φ->
  wpAny (Mo X) A (Ta y) (λ it s'=>∃ V' σ' j a,it=.ref a/\V.Le V'/\Keep σ σ'/\St X V' σ' s'/\V'.ρ[j]?=some a/\(kont j σ').Sat Φ) E s
 iterSelf:∀ {j:Nat} {a:Addr} {V:Va} {σ:Sg} {s:Shared} {A:Around} {d:Nat} {Q:VP} {E:VP},AOK X V σ A d 0->St X V σ s->V.ρ[j]?=some a->Fi (σ.own.get j)=true->Q (.ref a) s->
  wpAny (Mo X) A (Ta (.ref a)) Q E s
 unp:∀ {v:AV} {y:Value} {xs:List AV} {V:Va} {σ:Sg} {s:Shared} {A:Around} {d:Nat} {E:VP},AOK X V σ A d 0->d/1000=0->St X V σ s->DenV V v y->dJ cfg σ v=some xs->
  wpAny (Mo X) A (unpackItems y xs.length none) (λ l s'=>St X V σ s'/\All2 (DenV V) xs l) E s
 satt:∀ {v w:AV} {y z:Value} {m:Str} {V:Va} {σ:Sg} {s:Shared} {A:Around} {kont:Sg->R} {Φ:Out×Sg->Prop} {d:Nat} {E:VP},AOK X V σ A d 0->St X V σ s->DenV V v y->DenV V w z->okS m=true->(fV cfg σ v (nm m) w kont).Sat Φ->
  wpAny (Mo X) A (setAttr y m z) (λ J=>PN X V σ λ g=>(kont g).Sat Φ) E s
 sitem:∀ {v i w:AV} {y yi z:Value} {V:Va} {σ:Sg} {s:Shared} {A:Around} {kont:Sg->R} {Φ:Out×Sg->Prop} {d:Nat} {E:VP},AOK X V σ A d 0->St X V σ s->DenV V v y->DenV V i yi->DenV V w z->(kT σ v i w kont).Sat Φ->
  wpAny (Mo X) A (setItem y yi z) (λ J=>PN X V σ λ g=>(kont g).Sat Φ) E s
 rai:∀ {i c d:Nat} {a:Addr} {env:Env} {V:Va} {σ:Sg} {s:Shared} {A:Around} {Φ:Out×Sg->Prop} {dp:Nat},AOK X V σ A dp 0->St X V σ s->(dL cfg c&&qs dp i)=true->V.ρ[i]?=some a->σ.own.get i=some (.exc c d)->Φ (.ex i,σ)->
  wpAny (Mo X) A (raiseStmt env (some (pure (.ref a))) none) (λ J J=>False) (PE X V σ Φ) s
 excM:∀ {i c d b:Nat} {a:Addr} {V:Va} {σ:Sg} {s:Shared} {A:Around} {Q:Bool->Shared->Prop} {E:VP},St X V σ s->V.ρ[i]?=some a->σ.own.get i=some (.exc c d)->(dL cfg b&&dL cfg c)=true->
  Q (jZ cfg c b) s->wpAny (Mo X) A (excMatches (.ref a) (.ref b)) Q E s
 next:∀ {j:Nat} {a:Addr} {xt:Tg} {V:Va} {σ:Sg} {s:Shared} {A:Around} {no:Sg->R} {yes:AV->Sg->R} {Φ:Out×Sg->Prop} {d:Nat} {E:VP},AOK X V σ A d 0->St X V σ s->V.ρ[j]?=some a->(uE cfg d σ j xt no yes).Sat Φ->
  wpAny (Mo X) A (Rt (.ref a)) (λ r s'=>match r with
   | none=>PN X V σ (λ g=>(no g).Sat Φ) s'
   | some v=>∀ t k,tgT k t=some xt->wpAny (Mo X) A (RP t (.ref a) v) (λ J s''=>∃ V' σ' av,V.Le V'/\Keep σ σ'/\St X V' σ' s''/\DenV V' av v/\(yes av σ').Sat Φ) E s') E s
theorem DN(h:All2 (λ e x=>tgN k e=some x) ts xts):TZ ts env=ts.map λ t=>(false,Qi t env):=by
 induction h with
 | nil=>rfl
 | cons a _ ih=>exact xN (P:=λ e J=>TZ (e::_) env=(false,Qi e env)::_) a (λ J J J J=>congrArg (_::·) ih) (λ J J J J=>congrArg (_::·) ih)
theorem sZ(P:PrimS X cfg){l:List AV}(hL:All2 (λ e x=>tgN k e=some x) ts xts)(hv:EnvOK A V c k env)(hA:AOK X V σ A d 0)(H:St X V σ s)(dv:DenV V av v)
 (e:dJ cfg σ av=some l) (hlen:l.length=ts.length) (hd:d/1000=0) (h:(xm c xts l σ kont).Sat Φ) {E:VP}:wpAny (Mo X) A (unpack v (TZ ts env)) (λ J=>PN X V σ λ g=>(kont g).Sat Φ) E s:=by
 unfold unpack;rw[DN hL];have e1:(ts.map λ t=>(false,Qi t env)).findIdx? (·.1)=none:=by
  rw[List.findIdx?_eq_none_iff];intro x hx
  obtain⟨t,_,rfl⟩:=Ro.mp hx;rfl
 have e2:(ts.map λ t=>(false,Qi t env)).map (·.2)=ts.map λ t=>Qi t env:=by rw[Qg];rfl
 rw[e1,e2,Pa,<-hlen];refine Oz (OQ (OF (P.unp hA hd H dv e) (λ vs s' q=>?_) λ J J q=>q));exact Es hL q.2 hv q.1 h
theorem lW(P:PrimS X cfg)(ht:tgT k t=some xt)(hv:EnvOK A V c k env)(hA:AOK X V σ A c.dep 0)(H:St X V σ s)(dv:DenV V av v)
 (h:(Bl cfg c xt av σ kont).Sat Φ) {E:VP}:wpAny (Mo X) A (Qi t env v) (λ J=>PN X V σ λ g=>(kont g).Sat Φ) E s:=by
 have ht:(match ic t with
  | some p=>(bc (tgN k) p.1).map .tup
  | none=>tgN k t)=some xt:=ht
 rcases e:ic t with _|p
 ·rw[e] at ht;refine pf ht hv H dv ?_;exact xN (P:=λ J xt=>(Bl cfg c xt av σ kont).Sat Φ->(asgN c xt av σ kont).Sat Φ) ht (λ J J J J h=>h) (λ J J J J h=>h) h
 ·rw[e] at ht;rw[kH e,arm_assign_Tuple];refine bG ht λ xs hx q=>?_;subst q;refine bn h λ l e h=>az h λ hlen h=>?_;have hL:=bu hx;rw[OA] at hlen;exact Oz (OS (sZ P hL hv hA H dv e ((OB hlen.1).trans hL.length.symm) (OB hlen.2) h))
def SKU(X:Cx)(glb:List (Nat×AV))(cfg:Cfg)(r:Run):Prop:=∀ {c:FC} {k:CC} {n:Nat} {elt it:Expr} {t:Expr} {ifs:List Expr} {sc:Scope} {pos tp:Pos} {m:Str} {xe xi:E} {xt:Tg} {xs:List E} {env:Env} {σ:Sg} {Φ:Out×Sg->Prop} {V:Va} {s:Shared} {A:Around},
 ku k sc=some ()->cE ⟨sc,k.glb⟩ n elt=some xe->tgT ⟨sc,k.glb⟩ t=some xt->cE k n it=some xi->bc (cE ⟨sc,k.glb⟩ n) ifs=some xs->k.glb=glb->okS m=true->bA m k.sc.names=some .local->EnvOK A V c k env->AOK X V σ A c.dep 0->St X V σ s->
 (onV (r (.e c xi) σ) λ iv g=>qy cfg r c xe xt xs (Ki c (nm m)) iv g).Sat Φ->
 wpAny (Mo X) A (evalThenUse (.ListComp elt [⟨t,it,ifs,0⟩] sc pos) env (Qi (.Name m tp) env)) (λ J s'=>PF X V σ Φ .next s') (PE X V σ Φ) s
def PRl(X:Cx)(A:Around)(env:Env)(V:Va)(σ:Sg)(Φ:Out×Sg->Prop)(r:Qa)(s':Shared):Prop:=match r with
 | .ok f=>PF X V σ Φ f s'
 | .error e=>RB (Mo X) A env (PE X V σ Φ) e s'
def SL(X:Cx)(glb:List (Nat×AV))(r:Run):Prop:=∀ {c:FC} {k:CC} {n:Nat} {t:Expr} {xt:Tg} {b:List Stmt} {xb:List S} {env:Env} {σ:Sg} {Φ:Out×Sg->Prop} {V:Va} {s:Shared} {A:Around} {j:Nat} {a:Addr},
 tgT k t=some xt->bc (cS k n) b=some xb->k.glb=glb->EnvOK A V c k env->AOK X V σ A c.dep 0->St X V σ s->V.ρ[j]?=some a->(r (.loop c xt (.own j) xb) σ).Sat Φ->
 Pd (Mo X) A (.forLoop t (.ref a) b [] env) (PRl X A env V σ Φ) s
structure HypS(X:Cx)(cfg:Cfg)(glb:List (Nat×AV))(ih:Run):Prop where
 Y:Hyp X cfg glb ih
 S:SS X glb ih
 P:PrimS X cfg
 U:SKU X glb cfg ih
 L:SL X glb ih
theorem PF.nx(H:St X V σ s)(h:Φ (.nx,σ)):PF X V σ Φ .next s:=⟨V,σ,.rfl,.rfl,H,h⟩
theorem PN.nx{Ψ:Out×Sg->Prop}(h:PN X V σ (λ g=>(done g).Sat Ψ) s):PF X V σ Ψ .next s:=let ⟨V',σ',a,b,c,d⟩:=h;⟨V',σ',a,b,c,d⟩
theorem yu(hv:EnvOK A V c k env):interactive env=false:=by
 unfold interactive;rw[hv.kind];rfl
theorem CI{value:Expr}{t:Option Expr}{l:Nat}(h:mL value=false):Qu value t l env=pure false:=
 (Expr.casesOn (motive_1:=λ e=>mL e=false->Qu e t l env=pure false) value (λ J J J=>λ J=>rfl) (λ J J J=>λ J=>rfl) (λ J J J J=>λ J=>rfl) (λ J J J=>λ J=>rfl) (λ J J J J=>λ J=>rfl) (λ J J J J=>λ J=>rfl) (λ J J J=>λ J=>rfl) (λ J J J=>λ J=>rfl) (λ J J J J=>λ h=>OG h) (λ J J J J=>λ h=>OG h) (λ J J J J J=>λ h=>OG h) (λ J J J J=>λ J=>rfl) (λ J J=>λ J=>rfl) (λ J J=>λ J=>rfl) (λ J J=>λ J=>rfl) (λ J J J J=>λ J=>rfl) (λ J J J J=>λ J=>rfl) (λ J J J J=>λ J=>rfl) (λ J J=>λ J=>rfl) (λ J J J=>λ J=>rfl) (λ J J J=>λ J=>rfl) (λ J J J=>λ J=>rfl) (λ J J=>λ J=>rfl) (λ J J=>λ J=>rfl) (λ J J=>λ J=>rfl) (λ J J J=>λ J=>rfl) (λ J J J J=>λ J=>rfl)) h
theorem zl{p:Pos}{Q:Flow->Shared->Prop}{E:VP}(h:Q .next s):wpAny (Mo X) A (dropValue e p v) Q E s:=by
 have k1:wpAny (Mo X) A (pure Flow.next) Q E s:=OD h;have k2:wpAny (Mo X) A (standAt p >>= λ J=>runValue (.builtin "proto.let_go" {}) >>= λ J=>pure Flow.next) Q E s:=Oz (OS (Oz (wpAny_runValue (codeAny_builtin entry_let_go (show wpAny _ _ (ret .none) _ _ s from OD (OD h))))))
 rcases e with⟨⟩<;>first|exact k1|(rcases v with⟨⟩<;>first|exact k1|exact k2)
theorem Kp(Z:HypS X cfg glb ih)(hc:mL e=false)(he:cE k n e=some x)(hk:k.glb=glb)(hv:EnvOK A V c k env)(hA:AOK X V σ A c.dep 0)(H:St X V σ s)(h:(dT cfg ih c (.ex x) σ).Sat Φ) :
 wpAny (Mo X) A (exec (.Expr e pos) env) (PF X V σ Φ) (PE X V σ Φ) s:=by
 rw[arm_exec_Expr,yu hv,CI hc];refine Oz (OS ?_);refine Oz (OD ?_);refine fB (Z.Y.E he hk hv hA H (aG h)) λ V1 σ1 av va s1 l1 k1 H1 d1 h1=>?_;exact zl ((PF.nx H1 h1).trans l1 k1)
theorem FT(Z:HypS X cfg glb ih){e:Option Expr}(he:su (cE k n) e=some x)(hk:k.glb=glb)(hv:EnvOK A V c k env)(hA:AOK X V σ A c.dep 0)(H:St X V σ s)(h:(dT cfg ih c (.ret x) σ).Sat Φ) :
 wpAny (Mo X) A (exec (.Return e pos) env) (PF X V σ Φ) (PE X V σ Φ) s:=by
 rw[arm_exec_Return];refine Oz (OS ?_);have go:=uf Z.Y he hk hv hA H (aG h);cases e with
 |
  none=>
  have e:(valueOrNone (evalOpt none env) >>= λ v=>(pure (Flow.ret v):Sem Flow))=pure (Flow.ret Value.none):=rfl;show wpAny _ _ (pure (Flow.ret Value.none)) _ _ _;rw[<-e];exact fB go λ V1 σ1 av va s1 l1 k1 H1 d1 h1=>OD ⟨V1,σ1,l1,k1,H1,av,d1,h1⟩
 |
  some e=>
  show wpAny _ _ (eval e env >>= λ v=>pure (Flow.ret v)) _ _ _;exact fB go λ V1 σ1 av va s1 l1 k1 H1 d1 h1=>OD ⟨V1,σ1,l1,k1,H1,av,d1,h1⟩
theorem Ko(Z:HypS X cfg glb ih){xt:E}{a b:List Stmt}{xa xb:List S}(ht:cE k n t=some xt)(ha:bc (cS k n') a=some xa)(hb:bc (cS k n') b=some xb)(hk:k.glb=glb)(hv:EnvOK A V c k env)(hA:AOK X V σ A c.dep 0)(H:St X V σ s)(h:(dT cfg ih c (.iff xt xa xb) σ).Sat Φ) :
 wpAny (Mo X) A (exec (.If t a b pos) env) (PF X V σ Φ) (PE X V σ Φ) s:=by
 rw[arm_exec_If];refine Oz (OS ?_);refine E9 (Z.Y.T ht hk hv hA H (gQ (show(sIf ih c xt xa xb σ).Sat Φ from h))) λ V1 σ1 bb s1 l1 k1 H1 h1=>?_
 cases bb with
 | true=>exact OF (Z.S ha hk (hv.mono l1) (hA.mono l1 k1) H1 h1) (λ J J q=>q.trans l1 k1) λ J J q=>q
 | false=>exact OF (Z.S hb hk (hv.mono l1) (hA.mono l1 k1) H1 h1) (λ J J q=>q.trans l1 k1) λ J J q=>q
theorem mT(hi:cE k n it=some xi):∀ x,TS it env x=pure x:=by
 cases n with
 | zero=>cases hi
 | succ n=>exact(gv hi).rec (motive:=λ e J J=>∀ x,TS e env x=pure x) (λ J J=>rfl) (λ J J=>rfl) (λ J J J=>rfl) (λ J J=>rfl) (λ J J=>rfl) (λ J J J=>rfl) (λ J J J=>rfl) (λ J J J J=>rfl) (λ J J J=>rfl) (λ J J=>rfl) (λ J J=>rfl) (λ J J J J=>rfl) (λ J J J J=>rfl) (λ J J J J=>rfl) (λ J J J J=>rfl) (λ J J J J J J J=>rfl) (λ J J J=>rfl) (λ J J J J J J=>rfl)
theorem FW(Z:HypS X cfg glb ih)(ht:tgT k t=some xt)(hi:cE k n it=some xi)(hb:bc (cS k n') b=some xb)(hk:k.glb=glb)(hv:EnvOK A V c k env)(hA:AOK X V σ A c.dep 0)(H:St X V σ s)(h:(dT cfg ih c (.for xt xi xb) σ).Sat Φ) :
 wpAny (Mo X) A (exec (.For t it b [] pos) env) (PF X V σ Φ) (PE X V σ Φ) s:=by
 have hs:=mT (env:=env) hi;refine wpAny_For ?_ hs;refine OF (Z.Y.E hi hk hv hA H (aG (show(MV cfg ih c xt xi xb σ).Sat Φ from h))) (λ v s1 q=>?_) λ J J ⟨V',σ',i,x,c,d,a,b,r1,r2,r3,r4,r5⟩=>⟨V',σ',i,x,c,d,a,b,r1,r2,r3,r4,r5⟩
 obtain⟨V1,σ1,av,l1,k1,H1,d1,h1⟩:=q;refine OF (Z.P.iter (hA.mono l1 k1) H1 d1 h1) (λ it' s2 q=>?_) λ J J q=>q;obtain⟨V2,σ2,j,a,rfl,l2,k2,H2,hj,h2⟩:=q;refine PD (Z.L ht hb hk ((hv.mono l1).mono l2) ((hA.mono l1 k1).mono l2 k2) H2 hj h2) λ r s3 q=>?_;cases r with
 | ok f=>exact(PF.trans l1 k1 (PF.trans l2 k2 q))
 | error e=>exact OF q (λ J J q=>PE.trans l1 k1 (PE.trans l2 k2 q)) λ J J q=>PE.trans l1 k1 (PE.trans l2 k2 q)
theorem Gb(x:Sem Value):raiseStmt env (some x) none=x >>= λ v=>raiseStmt env (some (pure v)) none:=rfl
theorem FU(Z:HypS X cfg glb ih)(he:cE k n e=some x)(hk:k.glb=glb)(hv:EnvOK A V c k env)(hA:AOK X V σ A c.dep 0)(H:St X V σ s)(h:(dT cfg ih c (.rai x) σ).Sat Φ) :
 wpAny (Mo X) A (exec (.Raise (some e) none pos) env) (PF X V σ Φ) (PE X V σ Φ) s:=by
 rw[arm_exec_Raise];refine Oz (OS ?_);show wpAny _ _ (raiseStmt env (some (eval e env >>= λ v=>standAt pos >>= λ J=>pure v)) none) _ _ _;rw[Gb,S8];refine fB (Z.Y.E he hk hv hA H (aG (show(onV (ih (.e c x) σ) (MY cfg c.dep)).Sat Φ from h))) λ V1 σ1 av va s1 l1 k1 H1 d1 h1=>?_
 refine Oz (Oz (OS (OD ?_)));refine bn h1 λ i e h1=>bn h1 λ p e0 h1=>az h1 λ hf h1=>?_;obtain⟨a,rfl,hi⟩:=eJ e d1;exact OF (Z.P.rai (hA.mono l1 k1) H1 hf hi (vw (c:=λ p=>AO.exc p.1 p.2) uB e0) h1) (λ J J q=>q.elim) λ J J q=>q
theorem vG(hv:EnvOK A V c k env)(ho:okS m=true)(hl:bA m k.sc.names=some .local)(H:St X V σ s)(he:sv (σ.own.get c.fr)=some es){Q:Unit->Shared->Prop}{E:VP}
 (h:∀ s',St X V ⟨Tr.put' 40 σ.own c.fr (.ns (eE (nm m) .hid es)),σ.n,σ.frz⟩ s'->Keep σ ⟨Tr.put' 40 σ.own c.fr (.ns (eE (nm m) .hid es)),σ.n,σ.frz⟩->(∀ b,b≠env.locals->s'.heap.get? b=s.heap.get? b)->Q () s') :
 wpAny (Mo X) A (do bindName env m .none;Rv env m pos) Q E s:=by
 obtain⟨mm,hn,hd⟩:=rs H hv.loc he;refine Oz (Ti (wpAny_storeName_local (hv.kinds m _ ho hl) hn (λ h₁ hn₁ hs₁=>?_) (gO hv)));unfold Rv;refine wpAny_onRaise (wpAny_unbindName_local (v:=.none) (hv.kinds m _ ho hl) hn₁ (by simp) (gO hv) λ h₂ u hn₂ hs₂=>?_)
 have e:(λ x=>if x=m then u else if x=m then some Value.none else mm x)=λ x=>if x=m then u else mm x:=by
  funext x;by_cases q:x=m<;>simp [q]
 rw[e] at hn₂;obtain⟨a,b⟩:=Ao (t:=s.toks+1) H hv.loc (eO he) hn₂ (hs₁.trans hs₂) (hd.hide ho u);exact h _ a b (hs₁.trans hs₂).2
theorem te{fr m:Nat}{r:Out×Sg}(h:(FH fr m r).Sat Φ):∃ es,sv (r.2.own.get fr)=some es/\Φ (r.1,⟨Tr.put' 40 r.2.own fr (.ns (eE m .hid es)),r.2.n,r.2.frz⟩):=
 bn h λ es e h=>⟨es,e,by rw[nX,bD] at h;exact h⟩
theorem Dz{i j:Nat}(H:St X V σ s)(hi:sv (σ.own.get i)=some es)(hj:σ.own.get j=some o)(ne:∀ e,o≠.ns e):(Tr.put' 40 σ.own i (.ns es')).get j=some o:=
 (Tr.put_ne 40 _ _ _ λ q=>ne _ (Oy (hj.symm.trans (q▸eO hi)))).trans hj
theorem Tb.at{h h':Heap}(t:Tb h a)(e:h'.get? a=h.get? a):Tb h' a:=let ⟨ob,vs,t,a,b,c⟩:=t;⟨ob,vs,t,e.trans a,b,c⟩
theorem CG(hv:EnvOK A V c k env)(H:St X V σ s)(hs:sv (σ.own.get c.fr)=some es)(hi:V.ρ[i]?=some a)(ho:σ.own.get i=some o)(ne:∀ e,o≠.ns e)(hnd:o≠.dead):a≠env.locals:=λ q=>
 have e:=H.nodup i c.fr a ⟨_,ho,hnd⟩ ⟨_,eO hs,nofun⟩ hi (q▸hv.loc)
 ne _ (Oy (ho.symm.trans (e▸eO hs)))
theorem mf{v:Option Value}(hv:EnvOK A V c k env)(ho:okS m=true)(hl:bA m k.sc.names=some .local){dp:Nat}(hA:AOK X V σ A dp 0){x:Value}(h:PE X V σ (λ r=>(FH c.fr (nm m) r).Sat Φ) x s) :
 wpAny (Mo X) A (noteFrame x env) (λ J s₃'=>
  wpAny (Mo X) A (do bindName env m .none;Rv env m hp)
   (λ J s₄=>wpAny (Mo X) A (Uo "try.except-as" x env:Sem Flow) (λ J J=>False) (notedBy (Mo X) A env λ x s'=>RB (Mo X) A' env (PE X V σ Φ) x s') s₄)
   (λ y s₄=>wpAny (Mo X) A (setFlight x none) (λ J s₅=>(notedBy (Mo X) A env λ x s'=>RB (Mo X) A' env (PE X V σ Φ) x s') y s₅) (notedBy (Mo X) A env λ x s'=>RB (Mo X) A' env (PE X V σ Φ) x s') s₄) s₃') (notedBy (Mo X) A env λ x s'=>RB (Mo X) A' env (PE X V σ Φ) x s') s:=by
 obtain⟨V1,σ1,i,a,c',d,l1,k1,H1,rfl,hi,he,hΦ⟩:=h;refine gR (hv.mono l1) (hA.mono l1 k1) H1 he hi λ h₂ H2 tb2=>?_;obtain⟨es,hes,h2⟩:=te hΦ;refine vG (hv.mono l1) ho hl H2 hes λ s3 H3 k3 eq3=>?_;have ne:∀ e,AO.exc c' d≠.ns e:=by intros;nofun
 have he3:=Dz H2 hes (es':=eE (nm m) .hid es) he ne;refine nZ H3 he3 hi (tb2.at (eq3 a (CG (hv.mono l1) H2 hes hi he ne nofun))) λ h4 H4 tb4=>?_
 refine pY (V:=V) (σ:=σ) hv hA ⟨V1,_,i,a,c',d,l1,k1.trans k3,H4,rfl,hi,he3,h2⟩
theorem zg(Z:HypS X cfg glb ih){cd:Nat}(ht:HJ k t=some cd)(hk:k.glb=glb)(hv:EnvOK A V c k env)(H:St X V σ s){Q:VP}{E:VP}(q:Q (.ref cd) s):wpAny (Mo X) A' (eval t env) Q E s:=by
 refine aw ht λ p e ht=>ay ht λ hn ht=>aw ht λ w hlk ht=>?_;rw[OA] at hn;rw[gG e];refine TC hv.kind (hv.kinds _ _ (eN hn.1) (Hp hn.2)) ?_ (pR hn.1);exact Z.Y.P.glob (eN hn.1) (hk▸hlk) hv.glob hv.bt H λ y dd=>fm ht dd▸q
theorem vF(Z:HypS X cfg glb ih){cd:Nat}{cc d:Nat}(ht:HJ k t=some cd)(hb:bc (cS k n') (b₀::b)=some xb)(ho:okS m=true)(hl:bA m k.sc.names=some .local)(hk:k.glb=glb)(hv:EnvOK A V c k env)(hA:AOK X V σ A c.dep 0)(H:St X V σ s)
 (hi:V.ρ[i]?=some a) (he:σ.own.get i=some (.exc cc d)) (htb:Tb s.heap a) (h:(Ng cfg ih c (nm m) xb i cd σ).Sat Φ) :
 wpAny (Mo X) A (handleBy (.ref a) env [.ExceptHandler (some t) (some m) (b₀::b) hp]) (PF X V σ Φ) (PE X V σ Φ) s:=by
 have hvm:=hv.mark (some (.ref a));have hAm:=hA.markX hi he;refine bn h λ cls e h=>az h λ hx h=>?_;obtain rfl:cc=cls:=bG e λ p e q=>(congrArg R7 (Oy ((congrArg (Option.bind · Az) he).symm.trans e):(cc,d)=p)).trans q;refine wpAny_handleBy_cons (codeAny_handlers_test (zg Z ht hk hv H (Z.P.excM (cfg:=cfg) H hi he hx ?_))) (by intro q;cases q)
 rcases hsub:jZ cfg cc cd with _|_
 ·rw[hsub] at h;exact wpAny_handleBy_nil (nZ H he hi htb λ h' H' J=>⟨V,σ,i,a,cc,d,.rfl,.rfl,H',rfl,hi,he,h⟩)
 ·rw[hsub] at h;refine codeAny_handlers_suite_as (bQ H he hi λ h' H' ht'=>?_);refine OF (iU (s:={ s with heap:=h' }) (kont:=λ g=>(ih (.ss ⟨c.fr,c.cells,c.dep%1000+1000*(i+1)⟩ xb) g).bind (FH c.fr (nm m))) hvm ho hl H' (.own hi) h) (λ J s2 q=>q.rec λ V1 σ1 l1 k1 H1 h1=>?_) λ J J q=>q
  refine OF (Z.S hb hk ((hvm.mono l1).atDep _) (hAm.mono l1 k1) H1 (T.sat_bind h1)) (λ f s3 q=>q.rec λ V2 σ2 l2 k2 H2 h2=>?_) λ x s3 q=>mf (v:=none) hvm ho hl hAm (q.trans l1 k1);have go:∀ {r:Out},(FH c.fr (nm m) (r,σ2)).Sat Φ->(∀ σ3 s4,Keep σ2 σ3->St X V2 σ3 s4->Φ (r,σ3)->PF X V σ Φ f s4)->wpAny (Mo X) A (do bindName env m .none;Rv env m hp) (λ J s₃=>PF X V σ Φ f s₃) (PE X V σ Φ) s3:=λ hr hQ=>
   (te hr).elim λ es q=>vG ((hv.mono l1).mono l2) ho hl H2 q.1 λ s4 H4 k4 J=>hQ _ _ k4 H4 q.2
  have kk:∀ {σ3},Keep σ2 σ3->Keep σ σ3:=λ k4=>(k1.trans k2).trans k4;rcases f with⟨⟩|v|_
  ·exact go h2 λ σ3 s4 k4 H4 h4=>⟨V2,σ3,l1.trans l2,kk k4,H4,h4⟩
  all_goals first|exact h2.elim|exact h2.elim λ av r=>go r.2 λ σ3 s4 k4 H4 h4=>⟨V2,σ3,l1.trans l2,kk k4,H4,av,r.1,h4⟩
set_option tactic.hygienic true in
theorem FS(Z:HypS X cfg glb ih){cd:Nat}{body:List Stmt}{xbody:List S}(hbody:bc (cS k n') body=some xbody)(ht:HJ k t=some cd)(hb:bc (cS k n') (b₀::b)=some xb)(ho:okS m=true)(hl:bA m k.sc.names=some .local)(hk:k.glb=glb)(hv:EnvOK A V c k env)(hA:AOK X V σ A c.dep 0)(H:St X V σ s)
 (h:(dT cfg ih c (.tri xbody cd (nm m) xb) σ).Sat Φ):wpAny (Mo X) A (exec (.Try body [.ExceptHandler (some t) (some m) (b₀::b) hp] [] [] pos) env) (PF X V σ Φ) (PE X V σ Φ) s:=by
 refine wpAny_Try_except (OF (Z.S hbody hk hv hA H (T.sat_bind (show((ih (.ss c xbody) σ).bind (MN cfg ih c cd (nm m) xb)).Sat Φ from h))) (λ f s1 q=>?_) λ x s1 q=>?_)
 ·obtain⟨V1,σ1,l1,k1,H1,h1⟩:=q;cases f with
  | next=>exact wpAny_execs_nil ⟨V1,σ1,l1,k1,H1,h1⟩
  |
   ret v=>
   obtain⟨av,dv,h1⟩:=h1;exact⟨V1,σ1,l1,k1,H1,av,dv,h1⟩
  | _=>exact h1.elim
 ·obtain⟨V1,σ1,i,a,c',d,l1,k1,H1,rfl,hi,he,h1⟩:=q;refine gR (hv.mono l1) (hA.mono l1 k1) H1 he hi λ h2 H2 tb2=>?_;refine bQ H2 he hi λ h3 H3 tb3=>?_;exact OF (vF Z ht hb ho hl hk (hv.mono l1) (hA.mono l1 k1) H3 hi he (tb3 tb2) h1) (λ J J q=>q.trans l1 k1) λ J J q=>q.trans l1 k1
end
end
section
universe u
open PySem PySem.W PyProof.Rows
variable {xs:List E} {hs:List ExceptHandler} {line ln:Nat} {st:Stmt}
section
variable {glb:List (Nat×AV)} {c:FC} {k:CC} {n:Nat} {s:Shared}
theorem jz{t e:Expr}(h1:Qu e (some t) pos.line env=pure false)(h2:PS [t] e env=pure none)(h3:∀ x p,t≠.Starred x p){Q:Flow->Shared->Prop}{E:VP}
 (h:wpAny (Mo X) A (eval e env >>= λ v=>Qi t env v) (λ J s'=>Q .next s') E s):wpAny (Mo X) A (exec (.Assign [t] e pos) env) Q E s:=by
 rw[SX];refine Oz (OS ?_);show wpAny _ _ (Qu e (some t) pos.line env >>= _) _ _ _;have e3:(TZ [t] env).map (·.2)=[Qi t env]:=by rcases t with⟨⟩<;>first|rfl|exact absurd rfl (h3 _ _)
 rw[h1,h2,e3];refine Oz (OD ?_);show wpAny _ _ (eval e env >>= λ v=>Qi t env v >>= λ J=>(pure Flow.next:Sem Flow)) _ _ _;rw[<-S8];exact Oz (OF h (λ J J q=>OD q) λ J J q=>q)
theorem BX(Z:HypS X cfg glb ih){o e:Expr}{xo xe:E}{m:Str}{p:Pos}(ho:cE k n o=some xo)(hm:okS m=true)(he:cE k n e=some xe)(hk:k.glb=glb)(hv:EnvOK A V c k env)(hA:AOK X V σ A c.dep 0)(H:St X V σ s)(h:(dT cfg ih c (.asgA xo (nm m) xe) σ).Sat Φ) :
 wpAny (Mo X) A (exec (.Assign [.Attribute o m p] e pos) env) (PF X V σ Φ) (PE X V σ Φ) s:=by
 refine jz (by cases e<;>rfl) rfl (by intros;nofun) ?_
 refine fB (Z.Y.E he hk hv hA H (aG h)) λ V1 σ1 av va s1 l1 k1 H1 d1 h1=>?_;rw[arm_assign_Attribute];refine fB (OQ (Z.Y.E ho hk (hv.mono l1) (hA.mono l1 k1) H1 (aG h1))) λ V2 σ2 bv vb s2 l2 k2 H2 d2 h2=>?_;refine Oz (OS (Oz (OQ (OF (Z.P.satt ((hA.mono l1 k1).mono l2 k2) H2 d2 (d1.mono l2) hm h2) (λ J s3 q=>?_) λ J J q=>q))));exact wpAny_release (((PN.nx q).trans l2 k2).trans l1 k1)
theorem BW(Z:HypS X cfg glb ih){o i e:Expr}{xo xi xe:E}{p:Pos}(ho:cE k n o=some xo)(hi:cE k n i=some xi)(he:cE k n e=some xe)(hk:k.glb=glb)(hv:EnvOK A V c k env)(hA:AOK X V σ A c.dep 0)(H:St X V σ s)(h:(dT cfg ih c (.asgI xo xi xe) σ).Sat Φ) :
 wpAny (Mo X) A (exec (.Assign [.Subscript o i p] e pos) env) (PF X V σ Φ) (PE X V σ Φ) s:=by
 refine jz (by cases e<;>rfl) rfl (by intros;nofun) ?_
 refine fB (Z.Y.E he hk hv hA H (aG h)) λ V1 σ1 av va s1 l1 k1 H1 d1 h1=>?_;rw[arm_assign_Subscript];refine fB (OQ (Z.Y.E ho hk (hv.mono l1) (hA.mono l1 k1) H1 (aG h1))) λ V2 σ2 bv vb s2 l2 k2 H2 d2 h2=>?_;have A2:=(hA.mono l1 k1).mono l2 k2;refine fB (OQ (Z.Y.E hi hk ((hv.mono l1).mono l2) A2 H2 (aG h2))) λ V3 σ3 cv vc s3 l3 k3 H3 d3 h3=>?_;refine Oz (OS (Oz (OQ (OF (Z.P.sitem (A2.mono l3 k3) H3 (d2.mono l3) d3 ((d1.mono l2).mono l3) h3) (λ J s4 q=>?_) λ J J q=>q))));exact wpAny_release ((((PN.nx q).trans l3 k3).trans l2 k2).trans l1 k1)
theorem pF(Z:HypS X cfg glb ih){t e:Expr}{xt:Tg}{xe:E}(h1:Qu e (some t) pos.line env=pure false)(h2:PS [t] e env=pure none)(ht:tgT k t=some xt)(he:cE k n e=some xe)(hk:k.glb=glb)(hv:EnvOK A V c k env)(hA:AOK X V σ A c.dep 0)(H:St X V σ s)
 (h:(dT cfg ih c (.asg xt xe) σ).Sat Φ):wpAny (Mo X) A (exec (.Assign [t] e pos) env) (PF X V σ Φ) (PE X V σ Φ) s:=by
 refine jz h1 h2 (by intro x p q;subst q;cases ht) ?_
 refine fB (Z.Y.E he hk hv hA H (aG h)) λ V1 σ1 av va s1 l1 k1 H1 d1 h1=>?_;exact OF (lW Z.P ht (hv.mono l1) (hA.mono l1 k1) H1 d1 h1) (λ J J q=>(PN.nx q).trans l1 k1) λ J J q=>q
theorem qO{ns:List Str}{avs:List AV}{vs:List Value}{σ:Sg}{V:Va}{s:Shared}{kont:Sg->R}{E:VP}(hn:∀ m∈ns,okS m=true/\bA m k.sc.names=some .local)(dv:All2 (DenV V) avs vs)(hv:EnvOK A V c k env)(H:St X V σ s)
 (h:(xm c (ns.map λ m=>.loc (nm m)) avs σ kont).Sat Φ):wpAny (Mo X) A (assignInOrder (ns.map λ m=>bindName env m) vs) (λ J=>PN X V σ λ g=>(kont g).Sat Φ) E s:=by
 induction ns generalizing avs vs σ V s with
 |
  nil=>
  rcases dv with _|⟨d,dr⟩
  ·exact OD ⟨V,σ,.rfl,.rfl,H,h⟩
  ·exact h.elim
 |
  cons m ns ih=>
  rcases dv with _|⟨d,dr⟩
  ·exact h.elim
  ·have hn:=Py.mp hn;refine Oz (OQ (Ti (OF (iU hv hn.1.1 hn.1.2 H d (kont:=λ g=>xm c _ _ g kont) h) (λ J s' q=>q.rec λ V1 σ1 l1 k1 H1 h1=>?_) λ J J q=>q)));exact OF (ih hn.2 (dr.mono λ J J d=>d.mono l1) (hv.mono l1) H1 h1) (λ J J q=>q.trans l1 k1) λ J J q=>q
theorem n5{e:Expr}{m:Str}(h:ft k line e=some m):∃ p,e=.Name m p/\okS m=true/\bA m k.sc.names=some .local/\p.line=line:=
 aw h λ q e h=>ay h λ hc h=>by
  obtain rfl:=Oy h;rw[OA,OA] at hc;exact⟨q.2,gG e,hc.1,oI hc.2.1,OB hc.2.2⟩
noncomputable def M3(env:Env)(line:Nat)(e:Expr):Option Str:=(Expr.casesOn e ai ai ah ai ah ah ai ai ah ah (λ J J J J J=>none) ah ae ae ae ah ah ah ae ai ai ai ae (λ id pos=>(if env.kindOf id==some .local&&pos.line==line then some id else none)) ae ai ah)
set_option tactic.hygienic true in
theorem ly(hv:EnvOK A V c k env){ts:List Expr}{ns:List Str}(h:All2 (λ e m=>ft k line e=some m) ts ns) :
 ts.filterMap (M3 env line)=ns/\(∀ m∈ns,okS m=true/\bA m k.sc.names=some .local)/\bc (tgN k) ts=some (ns.map λ m=>.loc (nm m)):=by
 induction h with
 | nil=>exact⟨rfl,(λ J hm=>absurd hm Pl),rfl⟩
 |
  cons a r ih=>
  rename_i t m l ns
  refine(n5 a).elim λ p q=>?_;have e:M3 env line t=some m:=by
   rw[q.1];exact if_pos (by rw[hv.kinds _ _ q.2 q.3,q.4];exact beq_self_eq_true line)
  have e2:tgN k t=some (.loc (nm m)):=by
   rw[q.1];show ifK (okS m) ((bA m k.sc.names).bind (tgK (nm m)))=_;rw[q.2,q.3];rfl
  refine⟨?_,Py.mpr ⟨⟨q.2,q.3⟩,ih.2.1⟩,?_⟩
  ·rw[Uc e,ih.1]
  ·show((tgN k t).bind λ y=>(bc (tgN k) l).bind λ l=>some (y::l))=_;rw[e2,ih.2.2];rfl
theorem ii{α β:Type}{P:α->β->Prop}{xs:List α}{ys:List β}(h:All2 P xs ys):All2 P xs.reverse ys.reverse:=by
 induction h with
 | nil=>exact .nil
 | cons a _ ih=>rw[Sm,Sm];exact ih.app (.cons a .nil)
theorem CJ{vs:List Expr}(h:bc (cE k n) vs=some xs){f:Expr->Bool}(hf:∀ {n e x},CE k n e x->f e=false):vs.any f=false:=by
 rw[QQ];intro e he;rw[Bool.not_eq_true];exact(gF (bu h) e he).elim λ x hx=>by
  rcases n with _|n
  ·exact am hx
  ·exact hf (gv hx)
theorem jY(hv:EnvOK A V c k env){ts vs:List Expr}{y z:Nat}{p q:Pos}(hs:bc (cE k n) vs=some xs)(h:ts.any (oO k)=true):PS [.Tuple ts y p] (.Tuple vs z q) env=pure none:=by
 obtain⟨t,ht,hc⟩:=T9.mp h;unfold PS;dsimp only;split
 ·rfl
 ·split
  ·rfl
  ·refine if_pos ((P9 _ _).mpr (.inl (bne_iff_ne.mpr λ q=>?_)));have:=List.filterMap_length_eq_length.mp q t ht;rcases e:jE t with _|w
   ·unfold oO at hc;rw[e] at hc;exact OG hc
   ·unfold oO at hc;rw[e] at hc
    have hc:=(OA _ _).mp hc;rw[gG e] at this;have:(if (env.kindOf w.1==some NameKind.local&&w.2.line==_)=true then some w.1 else none).isSome=true:=this
    rw[hv.kinds _ _ hc.1 (Hr hc.2)] at this;exact OG this
theorem iT(hv:EnvOK A V c k env){ts vs:List Expr}{ns:List Str}{y z:Nat}{p q:Pos}(hs:bc (cE k n) vs=some xs)(hn:bc (ft k (ip ts)) ts=some ns)
 (h:rb ns vs=true):PS [.Tuple ts y p] (.Tuple vs z q) env=pure (some ns):=by
 have h1:=(ly hv (bu hn)).1;have hl:=(bu hn).length;unfold rb at h;simp only[OA,P9,beq_iff_eq,So] at h;obtain⟨⟨⟨⟨g1,g2⟩,g3⟩,g4⟩,g5⟩:=h;have hbk:env.blockKind=.function:=by unfold Env.blockKind;rw[hv.kind];rfl
 unfold PS;dsimp only;rw[if_neg (by rw[hbk,hl,g2];rcases g1 with g|g<;>rw[g]<;>decide)]
 refine(if_neg (λ q=>absurd ((CJ hs λ h=>h.rec (λ J=>rfl) (λ J=>rfl) (λ J J=>rfl) (λ J=>rfl) (λ J=>rfl) (λ J J=>rfl) (λ J J=>rfl) (λ J J J=>rfl) (λ J J=>rfl) (λ J=>rfl) (λ J=>rfl) (λ J J J=>rfl) (λ J J J=>rfl) (λ J J J=>rfl) (λ J J J=>rfl) (λ J J J J J J=>rfl) (λ J J=>rfl) (λ J J J J J=>rfl)).symm.trans q) (by decide))).trans ?_
 generalize hN:List.filterMap _ ts=N;have e:N=ns:=hN.symm.trans ((congrArg (List.filterMap · ts) (funext λ e=>by rcases e with⟨⟩<;>rfl)).trans h1)
 subst e;rw[if_neg (by rw[g3,hl];simp),g4,g5,if_neg (by decide),if_neg (by decide)]
theorem BV(Z:HypS X cfg glb ih){ts vs:List Expr}{ns:List Str}{xts:List Tg}{xe:E}{y z:Nat}{p q:Pos}(hs:bc (cE k n) vs=some xs)(hn:bc (ft k (ip ts)) ts=some ns)
 (hsw:rb ns vs=true) (ht:bc (tgN k) ts=some xts)
 (he:cE k (n+1) (.Tuple vs z q)=some xe) (hk:k.glb=glb) (hv:EnvOK A V c k env) (hA:AOK X V σ A c.dep 0) (H:St X V σ s)
 (h:(dT cfg ih c (.asgR xts xe) σ).Sat Φ):wpAny (Mo X) A (exec (.Assign [.Tuple ts y p] (.Tuple vs z q) pos) env) (PF X V σ Φ) (PE X V σ Φ) s:=by
 have h2:=(ly hv (bu hn)).2;obtain rfl:=Oy (ht.symm.trans h2.2);rw[SX];refine Oz (OS ?_);show wpAny _ _ (eval (.Tuple vs z q) env >>= λ v=>PS [.Tuple ts y p] (.Tuple vs z q) env >>= λ w=>Un env v w _) _ _ _;rw[iT hv hs hn hsw];refine fB (Z.Y.E he hk hv hA H (aG h)) λ V1 σ1 av va s1 l1 k1 H1 d1 h1=>?_;refine Oz (OD (Oz (Sc (bn h1 λ l e h1=>az h1 λ hlen h1=>?_))));rw[OA] at hlen;refine Oz (OF ((OB hlen.1).trans (Pa _)▸Z.P.unp (hA.mono l1 k1) (OB hlen.2) H1 d1 e) (λ vs' s2 r=>?_) λ J J r=>r);rw[<-List.map_reverse] at h1;exact Oz (OF (qO (λ m hm=>h2.1 m (Sz.mp hm)) (ii r.2) (hv.mono l1) r.1 h1) (λ J s3 r=>OD ((PN.nx r).trans l1 k1)) λ J J r=>r)
theorem zt{elt:Expr}{gs:List Comprehension}{sc:Scope}{q:Pos}{xe xi:E}{xt:Tg}{x:E}{P:List Comprehension->Prop}(hx:x=.comp xe xt xi xs)(h:cE k (n+1) (.ListComp elt gs sc q)=some x)
 (p:∀ t it ifs,ku k sc=some ()->cE ⟨sc,k.glb⟩ n elt=some xe->tgT ⟨sc,k.glb⟩ t=some xt->cE k n it=some xi->bc (cE ⟨sc,k.glb⟩ n) ifs=some xs->P [⟨t,it,ifs,0⟩]):P gs:=
 bL (show(uk gs).bind _=some x from h) λ g e h=>i6 e▸bL h λ J h0 h=>bL h λ J h1 h=>bL h λ J h2 h=>bL h λ J h3 h=>fF (P:=λ x=>x=E.comp xe xt xi xs->P _) h (λ J h4 q=>by injection q with q1 q2 q3 q4;subst q1 q2 q3 q4;exact p _ _ _ h0 h1 h2 h3 h4) hx
theorem DO{e:E}{p:E×Tg×E×List E}(h:v7 e=some p):e=.comp p.1 p.2.1 p.2.2.1 p.2.2.2:=
 (E.casesOn (motive_1:=λ e=>v7 e=some p->e=.comp p.1 p.2.1 p.2.2.1 p.2.2.2) e ac ac ac ak ac ac af af ak ak ac ac af af af ak af ak (λ a b c d=>λ h=>Oy h▸rfl)) h
theorem BU(Z:HypS X cfg glb ih){m:Str}{p q:Pos}{elt:Expr}{gs:List Comprehension}{sc:Scope}{xe:E}{x:S}(he:cE k (n+1) (.ListComp elt gs sc q)=some xe)(hx:qR k m p.line q.line sc xe=some x)(hk:k.glb=glb)(hv:EnvOK A V c k env)(hA:AOK X V σ A c.dep 0)(H:St X V σ s)
 (h:(dT cfg ih c x σ).Sat Φ):wpAny (Mo X) A (exec (.Assign [.Name m p] (.ListComp elt gs sc q) pos) env) (PF X V σ Φ) (PE X V σ Φ) s:=by
 have hbk:env.blockKind=.function:=by unfold Env.blockKind;rw[hv.kind];rfl
 refine ay hx λ ho hx=>aw hx λ w hl hx=>?_;rcases w with⟨⟩
 ·refine ay hx λ hc hx=>bG hx λ w e hx=>?_;subst hx;rw[OA] at hc;refine zt (P:=λ gs=>wpAny (Mo X) A (exec (.Assign [.Name m p] (.ListComp elt gs sc q) pos) env) (PF X V σ Φ) (PE X V σ Φ) s) (DO e) he λ t it ifs h0 h1 h2 h3 h4=>?_;have hsw:Qu (.ListComp elt [⟨t,it,ifs,0⟩] sc q) (some (.Name m p)) pos.line env=pure true:=by
   show(pure (env.blockKind==.function&&env.kindOf m==some .local&&p.line==q.line&&noName sc m):Sem Bool)=_;rw[hbk,hv.kinds _ _ ho hl,OB hc.1,hc.2,beq_self_eq_true q.line];rfl
  rw[exec_Assign_Name_used _ _ _ _ hsw];exact Oz (OS (Oz (OF (Z.U h0 h1 h2 h3 h4 hk ho hl hv hA H h) (λ J s1 r=>OD r) λ J J r=>r)))
 ·obtain rfl:=Oy hx;refine pF Z ?_ rfl (xt:=.cel (nm m)) ?_ he hk hv hA H h
  ·show(pure (_&&env.kindOf m==some .local&&_&&_):Sem Bool)=_;rw[hv.kinds _ _ ho hl,hbk];rfl
  ·show ifK (okS m) ((bA m k.sc.names).bind (tgK (nm m)))=_;rw[ho,hl];rfl
 all_goals exact am hx
theorem BQ{e:Expr}{x:E}(h:CE k n e x){m:Str}{q:Pos}(hn:Et e=none):Qu e (some (.Name m q)) ln env=pure false:=
 h.rec (motive:=λ e J J=>Et e=none->Qu e (some (.Name m q)) ln env=pure false) (λ J J=>rfl) (λ J J=>rfl) (λ J J J=>rfl) (λ J J=>rfl) (λ J J=>rfl) (λ J J J=>rfl) (λ J J J=>rfl) (λ J J J J=>rfl) (λ J J J=>rfl) (λ J J=>rfl) (λ J J=>rfl) (λ J J J J=>rfl) (λ J J J J=>rfl) (λ J J J J=>rfl) (λ J J J J=>rfl) (λ J J J J J J J=>rfl) (λ J J J=>rfl) (λ J J J J J h=>nomatch h) hn
theorem FP{e:Expr}{x:E}(h:CE k n e x){ts:List Expr}{cx:Nat}{q:Pos}(hn:pg e=none):PS [.Tuple ts cx q] e env=pure none:=
 h.rec (motive:=λ e J J=>pg e=none->PS [.Tuple ts cx q] e env=pure none) (λ J J=>rfl) (λ J J=>rfl) (λ J J J=>rfl) (λ J J=>rfl) (λ J J=>rfl) (λ J J J=>rfl) (λ J J J=>rfl) (λ J J J J=>rfl) (λ J J J=>rfl) (λ J h=>nomatch h) (λ J J=>rfl) (λ J J J J=>rfl) (λ J J J J=>rfl) (λ J J J J=>rfl) (λ J J J J=>rfl) (λ J J J J J J J=>rfl) (λ J J J=>rfl) (λ J J J J J J=>rfl) hn
theorem BR{e:Expr}{x:E}(h:CE k n e x){ts:List Expr}{cx:Nat}{q:Pos}:Qu e (some (.Tuple ts cx q)) ln env=pure false:=
 h.rec (motive:=λ e J J=>Qu e (some (.Tuple ts cx q)) ln env=pure false) (λ J=>rfl) (λ J=>rfl) (λ J J=>rfl) (λ J=>rfl) (λ J=>rfl) (λ J J=>rfl) (λ J J=>rfl) (λ J J J=>rfl) (λ J J=>rfl) (λ J=>rfl) (λ J=>rfl) (λ J J J=>rfl) (λ J J J=>rfl) (λ J J J=>rfl) (λ J J J=>rfl) (λ J J J J J J=>rfl) (λ J J=>rfl) (λ J J J J J=>rfl)
inductive CS(k:CC)(n:Nat):Stmt->S->Prop
 | ex {e p x}:mL e=false->cE k 50 e=some x->CS k n (.Expr e p) (.ex x)
 | asgA {o a q e p xo xe}:cE k 50 o=some xo->okS a=true->cE k 50 e=some xe->CS k n (.Assign [.Attribute o a q] e p) (.asgA xo (nm a) xe)
 | asgI {o i q e p xo xi xe}:cE k 50 o=some xo->cE k 50 i=some xi->cE k 50 e=some xe->CS k n (.Assign [.Subscript o i q] e p) (.asgI xo xi xe)
 | asgR {ts cx q vs z r p xe ns xts}:bc (ft k (ip ts)) ts=some ns->rb ns vs=true->bc (tgN k) ts=some xts->cE k 50 (.Tuple vs z r)=some xe->CS k n (.Assign [.Tuple ts cx q] (.Tuple vs z r) p) (.asgR xts xe)
 | asgC {ts cx q vs z r p xe xts}:ts.any (oO k)=true->bc (tgN k) ts=some xts->cE k 50 (.Tuple vs z r)=some xe->CS k n (.Assign [.Tuple ts cx q] (.Tuple vs z r) p) (.asg (.tup xts) xe)
 | asgP {ts cx q e p xe xts}:pg e=none->bc (tgN k) ts=some xts->cE k 50 e=some xe->CS k n (.Assign [.Tuple ts cx q] e p) (.asg (.tup xts) xe)
 | asgU {m q elt gs sc r p xe x}:cE k 50 (.ListComp elt gs sc r)=some xe->qR k m q.line r.line sc xe=some x->CS k n (.Assign [.Name m q] (.ListComp elt gs sc r) p) x
 | asgN {m q e p xt xe}:Et e=none->tgN k (.Name m q)=some xt->cE k 50 e=some xe->CS k n (.Assign [.Name m q] e p) (.asg xt xe)
 | ret {e p xe}:su (cE k 50) e=some xe->CS k n (.Return e p) (.ret xe)
 | pass {p}:CS k n (.Pass p) .pass
 | iff {t a b p xt xa xb}:cE k 50 t=some xt->bc (cS k n) a=some xa->bc (cS k n) b=some xb->CS k n (.If t a b p) (.iff xt xa xb)
 | for {t it b p xt xi xb}:tgT k t=some xt->cE k 50 it=some xi->bc (cS k n) b=some xb->CS k n (.For t it b [] p) (.for xt xi xb)
 | rai {e p xe}:cE k 50 e=some xe->CS k n (.Raise (some e) none p) (.rai xe)
 | tri {b c m h0 h hp p xb d xh}:bc (cS k n) b=some xb->HJ k c=some d->bc (cS k n) (h0::h)=some xh->okS m=true->bA m k.sc.names=some .local->CS k n (.Try b [.ExceptHandler (some c) (some m) (h0::h) hp] [] [] p) (.tri xb d (nm m) xh)
theorem tj{vs:List Expr}{z:Nat}{r:Pos}{x:E}{P:Prop}(h:cE k (n+1) (.Tuple vs z r)=some x)(p:∀ xs,bc (cE k n) vs=some xs->P):P:=fF (P:=λ J=>P) (show(bc (cE k n) vs).map E.tup=some x from h) p
theorem sm{e:Expr}{vs:List Expr}(h:pg e=some vs):∃ z r,e=.Tuple vs z r:=bG h λ p e q=>⟨p.2.1,p.2.2,q▸kH e⟩
theorem wR{e:Expr}{g:Scope×Nat}(h:Et e=some g):∃ elt gs r,e=.ListComp elt gs g.1 r/\g.2=r.line:=bG h λ p e q=>⟨p.1,p.2.1,p.2.2.2,q▸nM e,q▸rfl⟩
theorem sk{ts vs:List Expr}{xe:E}{x:S}{P:S->Prop}(h:qQ k ts vs xe=some x)
 (p:∀ ns xts,bc (ft k (ip ts)) ts=some ns->rb ns vs=true->bc (tgN k) ts=some xts->P (.asgR xts xe))
 (q:∀ xts,ts.any (oO k)=true->bc (tgN k) ts=some xts->P (.asg (.tup xts) xe)):P x:=by
 unfold qQ at h;rcases e:bc (ft k (ip ts)) ts with _|ns
 ·rw[e] at h;exact ay h λ e2 h=>fF h λ xts ht=>q xts e2 ht
 ·rw[e] at h;exact ay h λ e2 h=>fF h λ xts ht=>p ns xts e e2 ht
theorem zJ{ts:List Expr}{cc:Nat}{q:Pos}{e:Expr}{p:Pos}{x:S}(h:(match pg e with|some vs=>(cE k 50 e).bind λ e=>qQ k ts vs e|none=>(bc (tgN k) ts).bind λ t=>(cE k 50 e).map λ e=>.asg (.tup t) e)=some x):CS k n (.Assign [.Tuple ts cc q] e p) x:=by
 rcases hn:pg e with _|vs
 ·rw[hn] at h;exact bL h λ J ht h=>fF h λ J he=>.asgP hn ht he
 ·rw[hn] at h;obtain⟨z,r,rfl⟩:=sm hn;exact bL h λ J he h=>sk h (λ J J h1 h2 h3=>.asgR h1 h2 h3 he) λ J h1 h2=>.asgC h1 h2 he
theorem wv{m:Str}{q:Pos}{e:Expr}{p:Pos}{x:S}(h:(match Et e with|some s=>(cE k 50 e).bind λ e=>qR k m q.line s.2 s.1 e|none=>(tgN k (.Name m q)).bind λ t=>(cE k 50 e).map λ e=>.asg t e)=some x):CS k n (.Assign [.Name m q] e p) x:=by
 rcases hn:Et e with _|g
 ·rw[hn] at h;exact bL h λ J ht h=>fF h λ J he=>.asgN hn ht he
 ·rw[hn] at h;obtain⟨elt,gs,r,rfl,e2⟩:=wR hn;exact bL h λ J he h=>.asgU he (e2▸h)
theorem zK{t e:Expr}{p:Pos}{x:S}(h:LZ k t e (cE k 50 e)=some x):CS k n (.Assign [t] e p) x:=
 (Expr.casesOn (motive_1:=λ t=>LZ k t e (cE k 50 e)=some x->CS k n (.Assign [t] e p) x) t ak ak aj ak aj aj ak ak aj aj (λ J J J J J=>am) aj af af af aj aj aj af ak (λ o a q=>λ h=>bL h λ J ho h=>bL h λ J ha h=>fF h λ J he=>hJ (P:=λ m=>CS k n _ (.asgA _ m _)) ha λ ha=>.asgA ho ha he) (λ o i q=>λ h=>bL h λ J ho h=>bL h λ J hi h=>fF h λ J he=>.asgI ho hi he) af (λ m q=>wv) af (λ ts c q=>zJ) aj) h
theorem HD{hd:ExceptHandler}{c:Expr}{m:Str}{h0:Stmt}{l:List Stmt}(ec:Ni hd=some c)(em:Nh hd=some m)(eb:JM hd=h0::l):∃ p,hd=.ExceptHandler (some c) (some m) (h0::l) p:=by
 obtain⟨c',m',l',p⟩:=hd;exact⟨p,by rw[show c'=some c from ec,show m'=some m from em,show l'=h0::l from eb]⟩
theorem zG{b:List Stmt}{p:Pos}{x:S}(h:Ny k (bc (cS k n) b) (bc (cS k n)) hs=some x):CS k n (.Try b hs [] [] p) x:=
 aw h λ hd e h=>ch e▸aw h λ c ec h=>aw h λ m em h=>aw h λ b hb h=>aw h λ d he h=>aw h λ l hh h=>ay h λ q hz=>by
  have q1:=(OA _ _).mp q;have q2:=(OA _ _).mp q1.1;rcases eb:JM hd with _|⟨h0,l'⟩
  ·rw[eb] at q1;exact OG q1.2
  ·rw[eb] at hh;obtain⟨p,ep⟩:=HD ec em eb;exact ep▸Oy hz▸.tri hb he hh q2.1 (oI q2.2)
theorem Iv{b:List Stmt}{o f:List Stmt}{p:Pos}{x:S}(h:cS k (n+1) (.Try b hs o f p)=some x):CS k n (.Try b hs o f p) x:=ay h λ z h=>by
 rw[OA] at z;rw[O8.mp z.1,O8.mp z.2];exact zG h
theorem Iw{x:S}(h:cS k (n+1) st=some x):CS k n st x:=
 (Stmt.casesOn (motive_2:=λ st=>cS k (n+1) st=some x->CS k n st x) st (λ J J J J J J J J J J=>am) (λ J J J J J J J J J J=>am) (λ J J J J J J J J J J J=>am) (λ e p=>λ h=>fF h λ J he=>.ret he) af (λ ts e p=>λ h=>aw h λ t e h=>ch e▸zK h) (λ J J J J J J J=>am) aj (λ J J J J J=>am) (λ t it b o p=>λ h=>ay h λ z h=>O8.mp z▸bL h λ J ht h=>bL h λ J hi h=>fF h λ J hb=>.for ht hi hb) (λ J J J J J=>am) aj (λ t a b p=>λ h=>bL h λ J ht h=>bL h λ J ha h=>fF h λ J hb=>.iff ht ha hb) ak ak ak (λ e c p=>λ h=>ay h λ z h=>aw h λ e q h=>Px.mp z▸q▸fF h λ J he=>.rai he) (λ b hs o f p=>Iv) (λ J J J J J=>am) ak af aj af af (λ e p=>λ h=>ay h λ hc h=>fF h λ J he=>.ex (sx hc) he) (λ p=>λ h=>Oy h▸.pass) ac ac) h
theorem pE(Z:HypS X cfg glb ih)(hk:k.glb=glb)(hv:EnvOK A V c k env)(hA:AOK X V σ A c.dep 0)(H:St X V σ s){n:Nat}{x:S}(he:cS k n st=some x)(h:(dT cfg ih c x σ).Sat Φ):wpAny (Mo X) A (exec st env) (PF X V σ Φ) (PE X V σ Φ) s:=by
 cases n with
 | zero=>cases he
 |
  succ n=>
  exact(Iw he).rec (motive:=λ st x J=>(dT cfg ih c x σ).Sat Φ->wpAny (Mo X) A (exec st env) (PF X V σ Φ) (PE X V σ Φ) s)
   (λ a b h=>Kp Z a b hk hv hA H h) (λ a b d h=>BX Z a b d hk hv hA H h) (λ a b d h=>BW Z a b d hk hv hA H h)
   (λ a b d he h=>tj he λ xs hs=>BV Z hs a b d he hk hv hA H h)
   (λ a b he h=>tj he λ xs hs=>pF Z rfl (jY hv hs a) (show(bc (tgN k) _).map Tg.tup=_ from b▸rfl) he hk hv hA H h)
   (λ a b he h=>pF Z (BR (gv he)) (FP (gv he) a) (show(bc (tgN k) _).map Tg.tup=_ from b▸rfl) he hk hv hA H h)
   (λ a b h=>BU Z a b hk hv hA H h) (λ a b he h=>pF Z (BQ (gv he) a) rfl b he hk hv hA H h) (λ a h=>FT Z a hk hv hA H h)
   (λ h=>arm_exec_Pass ..▸Oz (OS (OD (PF.nx H h)))) (λ a b d h=>Ko Z a b d hk hv hA H h) (λ a b d h=>FW Z a b d hk hv hA H h) (λ a h=>FU Z a hk hv hA H h)
   (λ a b d e f h=>FS Z a b d e f hk hv hA H h) h
theorem tM(Z:HypS X cfg glb ih)(hk:k.glb=glb)(hv:EnvOK A V c k env)(hA:AOK X V σ A c.dep 0)(H:St X V σ s){n:Nat}{b:List Stmt}{x:List S}(he:bc (cS k n) b=some x)(h:(tO cfg ih c x σ).Sat Φ):wpAny (Mo X) A (execs b env) (PF X V σ Φ) (PE X V σ Φ) s:=by
 rcases b with _|⟨st,b⟩
 ·obtain rfl:=Oy he;exact wpAny_execs_nil (PF.nx H h)
 ·refine JB (P:=λ x=>(tO cfg ih c x σ).Sat Φ->wpAny (Mo X) A (execs (st::b) env) (PF X V σ Φ) (PE X V σ Φ) s) he (λ y l hy hl h=>?_) h;refine wpAny_execs_cons (OF (pE Z hk hv hA H hy (T.sat_bind (show((dT cfg ih c y σ).bind (MS ih c l)).Sat Φ from h))) (λ f s1 q=>q.rec λ V1 σ1 l1 k1 H1 h1=>?_) λ J J q=>q.rec λ V' σ' i x c d a b r1 r2 r3 r4 r5=>⟨V',σ',i,x,c,d,a,b,r1,r2,r3,r4,r5⟩)
  rcases f with⟨⟩|v
  ·exact OF (Z.S hl hk (hv.mono l1) (hA.mono l1 k1) H1 h1) (λ J J q=>q.trans l1 k1) λ J J q=>q.trans l1 k1
  all_goals first|exact h1.elim|exact h1.elim λ av r=>⟨V1,σ1,l1,k1,H1,av,r.1,r.2⟩
end
end
section
universe u
open PySem PySem.W PyProof.Rows
variable {a b:Addr} {xe:E} {elt it t:Expr} {xs:List E} {ifs:List Expr} {N acc j:Nat} {r:Run} {sc:Scope} {xt:Tg} {x:Value}
section
variable {glb:List (Nat×AV)} {c:FC} {k:CC} {n:Nat} {s:Shared}
theorem tg(P:PrimS X cfg)(hS:SS X glb r){b:List Stmt}{xb:List S}{kk:Out×Sg->R}(ht:tgT k t=some xt)(hb:bc (cS k n) b=some xb)(hk:k.glb=glb)(hv:EnvOK A V c k env)(hA:AOK X V σ A c.dep 0){QF:Flow->Shared->Prop}{E0 E1:VP}{v:Value}
 (q:wpAny (Mo X) A (RP t (.ref a) v) (λ J s''=>∃ V' σ' av,V.Le V'/\Keep σ σ'/\St X V' σ' s''/\DenV V' av v/\(Bl cfg c xt av σ' λ g=>(r (.ss c xb) g).bind kk).Sat Φ) E0 s)
 (kf:∀ f s,PF X V σ (λ r=>(kk r).Sat Φ) f s->QF f s) (ke:∀ x s,PE X V σ (λ r=>(kk r).Sat Φ) x s->E1 x s) :
 wpAny (Mo X) A (RP t (.ref a) v) (λ J s₁'=>wpAny (Mo X) A (Qi t env v) (λ J s₂=>wpAny (Mo X) A (execs b env) QF E1 s₂) E0 s₁') E0 s:=
 OF q (λ J s3 q=>q.rec λ V2 σ2 av q=>OF (lW P ht (hv.mono q.1) (hA.mono q.1 q.2) q.3 q.4 q.5) (λ J s4 p=>p.rec λ V3 σ3 l3 k3 H3 h3=>
  OF (hS hb hk (hv.mono (q.1.trans l3)) (hA.mono (q.1.trans l3) (q.2.trans k3)) H3 (T.sat_bind h3)) (λ f s5 p=>kf f s5 (p.trans (q.1.trans l3) (q.2.trans k3))) λ x s5 p=>ke x s5 (p.trans (q.1.trans l3) (q.2.trans k3))) λ J J q=>q) λ J J q=>q
set_option tactic.hygienic true in
theorem uS(P:PrimS X cfg)(hS:∀ m,m<N->SS X glb (run cfg m)):SL X glb (run cfg N):=by
 intro c k n t xt b xb env σ Φ V s A j a ht hb hk hv hA H hj h;refine codeAny_forLoop_any (λ m s=>m<=N/\∃ V' σ',V.Le V'/\Keep σ σ'/\St X V' σ' s/\(run cfg m (.loop c xt (.own j) xb) σ').Sat Φ) (λ m s hI=>hI.2.rec λ V1 σ1 hI'=>?_) N ⟨OR _,V,σ,.rfl,.rfl,H,h⟩;rcases m with _|m
 ·exact hI'.4.elim
 ·have hl:m<N:=hI.1;refine OF (P.next (hA.mono hI'.1 hI'.2) hI'.3 (hI'.1.ρ hj) hI'.4) (λ r s2 q=>?_) λ J J q=>q;rcases r with _|v
  ·exact wpAny_execs_nil ((PN.nx q).trans hI'.1 hI'.2)
  ·refine tg P (hS m hl) ht hb hk (hv.mono hI'.1) (hA.mono hI'.1 hI'.2) (q t _ ht) (λ f s5 q=>?_) λ e s5 q=>pY hv hA (Φ:=Φ) ((q.trans hI'.1 hI'.2).rec λ V' σ' i x c' d a1 b1 r1 r2 r3 r4 r5=>⟨V',σ',i,x,c',d,a1,b1,r1,r2,r3,r4,r5⟩);refine(q.trans hI'.1 hI'.2).rec λ V4 σ4 l4 k4 H4 h4=>?_;rcases f with⟨⟩|v
   ·exact⟨m,SG _,OU hl,V4,σ4,l4,k4,H4,h4⟩
   all_goals first|exact h4.elim|exact h4.elim λ av r=>⟨V4,σ4,l4,k4,H4,av,r.1,r.2⟩
theorem xP(l:List Expr):(forIn l false λ c r=>if r=true then do let ok <-isTrue c env (eval c env);pure (ForInStep.yield ok) else pure (ForInStep.yield r))=(pure false:Sem Bool):=by
 induction l with
 | nil=>rfl
 | cons x l ih=>rw[Uz];exact ih
theorem xO(hT:ST X glb r)(hk:k.glb=glb){kont:Bool->Sg->R}{es:List Expr}{σ:Sg}{V:Va}{s:Shared}(he:All2 (λ e x=>cE k n e=some x) es xs)(hv:EnvOK A V c k env)(hA:AOK X V σ A c.dep 0)(H:St X V σ s)(h:(J1 r c xs σ kont).Sat Φ) :
 wpAny (Mo X) A (forIn es true λ c r=>if r=true then do let ok <-isTrue c env (eval c env);pure (ForInStep.yield ok) else pure (ForInStep.yield r)) (λ b s'=>PN X V σ (λ g=>(kont b g).Sat Φ) s') (PE X V σ Φ) s:=by
 induction he generalizing σ V s with
 | nil=>exact OD ⟨V,σ,.rfl,.rfl,H,h⟩
 |
  cons he hr ih=>
  rw[Uz,if_pos rfl,S8];refine E9 (hT he hk hv hA H (gQ (show(onB (r (.t c _) σ) λ t g=>match t with|true=>J1 r c _ g kont|false=>kont false g).Sat Φ from h))) λ V1 σ1 b s1 l1 k1 H1 h1=>Oz (OD ?_)
  rcases b with _|_
  ·show wpAny _ _ (forIn _ false _) _ _ _;rw[xP];exact OD ⟨V1,σ1,l1,k1,H1,h1⟩
  ·exact OF (ih (hv.mono l1) (hA.mono l1 k1) H1 h1) (λ J J q=>q.trans l1 k1) λ J J q=>q
def PKl(X:Cx)(V:Va)(σ:Sg)(Φ:Out×Sg->Prop)(r:Qa)(s':Shared):Prop:=match r with
 | .ok _=>∃ V' σ',V.Le V'/\Keep σ σ'/\St X V' σ' s'/\Φ (.nx,σ')
 | .error x=>∃ V' σ' i a c d,V.Le V'/\Keep σ σ'/\St X V' σ' s'/\x=.ref a/\V'.ρ[i]?=some a/\σ'.own.get i=some (.exc c d)/\Tb s'.heap a/\Φ (.ex i,σ')
theorem CF(hv:EnvOK A V c k env){dp m:Nat}(hA:AOK X V σ A dp m)(h:PE X V σ Φ x s):notedBy (Mo X) A env (λ e s'=>PKl X V σ Φ (.error e) s') x s:=by
 obtain⟨V',σ',i,a,c',d,l1,k1,H,rfl,hi,ho,hΦ⟩:=h;exact gR (hv.mono l1) (hA.mono l1 k1) H ho hi λ h' H' ht=>⟨V',σ',i,a,c',d,l1,k1,H',rfl,hi,ho,ht,hΦ⟩
theorem Je(hP:Prim X cfg glb (run cfg N)){av:AV}{it:AV}(hA:AOK X V σ A c.dep 0)(H:St X V σ s)(hacc:V.ρ[acc]?=some b)(d:DenV V av x)
 (h:(NF (run cfg N) c xt it xs xe acc av σ).Sat Φ) {Q:VP} {E:VP} (hQ:∀ v s',PN X V σ (λ g=>(run cfg N (.comp c xt it xs xe acc) g).Sat Φ) s'->Q v s') :
 wpAny (Mo X) A (call (.builtin "list.append") [.ref b,x]) Q E s:=by
 refine bn h λ ys e h=>az (b:=sz (ys++[av])) (t:=σ.set acc (.lst (ys++[av])) λ g=>run cfg N (.comp c xt it xs xe acc) g) (dQ ys [av] (λ l=>kS σ acc l λ g=>run cfg N (.comp c xt it xs xe acc) g)▸h) λ hf h=>?_;rw[bD] at h;have hb:(yB cfg .append (.own acc) [av] σ).Sat λ r=>r.1=.v .none/\(run cfg N (.comp c xt it xs xe acc) r.2).Sat Φ:=by
  show(G8 cfg acc .append [av] σ (σ.own.get acc)).Sat _;unfold G8;rw[e];show(app ys [av] λ l=>kS σ acc l (val .none)).Sat _;rw[dQ];unfold kS;rw[hf];show(σ.set acc _ _).Sat _;rw[bD];exact⟨rfl,h⟩
 refine Rz (PD (hP.bm (m:=.append) (vo:=.ref b) (vs:=[x]) (.own hacc) (.cons d .nil) (hA.up (by decide)) H hb) λ r s' q=>?_)
 rcases r with e|f
 ·exact q.rec λ J J J J J J J J J J J J r=>nomatch r.1
 ·rcases f with⟨⟩|v
  all_goals first|exact q.elim|exact hQ _ _ (q.rec λ V' σ' av'' a1 b1 r1 r2 r3=>⟨V',σ',a1,b1,r1,r3.2⟩)
set_option tactic.hygienic true in
theorem Kl(P:PrimS X cfg)(hE:SE X glb (run cfg N))(hT:ST X glb (run cfg N))(hP:Prim X cfg glb (run cfg N))
 (h1:cE k n elt=some xe) (h2:tgT k t=some xt) (h4:bc (cE k n) ifs=some xs) (hk:k.glb=glb) (hv:EnvOK A V c k env) (hA:AOK X V σ A c.dep 0) (H:St X V σ s) (hj:V.ρ[j]?=some a) (hacc:V.ρ[acc]?=some b)
 (h:(run cfg (N+1) (.comp c xt (.own j) xs xe acc) σ).Sat Φ) {Q:PySem.Fin->Shared->Prop} {E:VP} (kd:∀ s',PN X V σ (λ g=>Φ (.nx,g)) s'->Q (.done .next) s') (kn:∀ s',PN X V σ (λ g=>(run cfg N (.comp c xt (.own j) xs xe acc) g).Sat Φ) s'->Q (.again (.compLoop (.ListComp elt [⟨t,it,ifs,0⟩] sc pos) 0 (.ref a) (.ref b) env)) s')
 (ke:∀ Ψ x s',(∀ i g,Ψ (.ex i,g)->Φ (.ex i,g))->PE X V σ Ψ x s'->E x s'):wpAny (Mo X) A (compTurn (.ListComp elt [⟨t,it,ifs,0⟩] sc pos) 0 (.ref a) (.ref b) env) Q E s:=by
 rw[compTurn_list];refine Oz (OS (Oz (OF (P.next hA H hj h) (λ r s2 q=>?_) λ J J q=>q)));rcases r with _|v
 ·exact OD (kd _ (q.rec λ V2 σ2 l2 k2 H2 h2=>⟨V2,σ2,l2,k2,H2,h2⟩))
 ·refine Oz (OF (q t _ h2) (λ J s3 q=>q.rec λ V2 σ2 av q=>?_) λ J J q=>q);refine Oz (OF (lW P h2 (hv.mono q.1) (hA.mono q.1 q.2) q.3 q.4 q.5) (λ J s4 p=>p.rec λ V3 σ3 l3 k3 H3 h3=>?_) λ J J q=>q);have L:=q.1.trans l3;have K:=q.2.trans k3;refine Oz (OF (xO hT hk (bu h4) (hv.mono L) (hA.mono L K) H3 h3) (λ bb s5 q=>q.rec λ V4 σ4 l4 k4 H4 h4'=>?_) λ J J q=>ke _ _ _ (λ J J q=>q) (q.trans L K));have L4:=L.trans l4;have K4:=K.trans k4;rcases bb with _|_
  ·exact OD (kn _ ⟨V4,σ4,L4,K4,H4,h4'⟩)
  ·refine Oz (Oz (OF (hE h1 hk (hv.mono L4) (hA.mono L4 K4) H4 (aG h4')) (λ x s6 q=>q.rec λ V5 σ5 av' l5 k5 H5 d5 h5=>?_) λ J J q=>ke _ _ _ (λ J J q=>q) ((PE.out q).trans L4 K4)));have L5:=L4.trans l5;have K5:=K4.trans k5;exact Oz (Je hP (hA.mono L5 K5) H5 (L5.ρ hacc) d5 h5 λ J s7 q=>OD (OD (kn _ (q.trans L5 K5))))
theorem yJ(P:PrimS X cfg)(hE:∀ m,m<N->SE X glb (run cfg m))(hT:∀ m,m<N->ST X glb (run cfg m))(hP:∀ m,m<N->Prim X cfg glb (run cfg m))
 (h1:cE k n elt=some xe) (h2:tgT k t=some xt) (h4:bc (cE k n) ifs=some xs) (hk:k.glb=glb) (hv:EnvOK A V c k env) (hA:AOK X V σ A c.dep 0) (H:St X V σ s) (hj:V.ρ[j]?=some a) (hacc:V.ρ[acc]?=some b)
 (h:(run cfg N (.comp c xt (.own j) xs xe acc) σ).Sat Φ):Pd (Mo X) A (.compLoop (.ListComp elt [⟨t,it,ifs,0⟩] sc pos) 0 (.ref a) (.ref b) env) (PKl X V σ Φ) s:=by
 refine codeAny_loop rfl (λ m s=>m<=N/\∃ V' σ',V.Le V'/\Keep σ σ'/\St X V' σ' s/\(run cfg m (.comp c xt (.own j) xs xe acc) σ').Sat Φ) (λ m s hI=>hI.2.rec λ V1 σ1 hI'=>?_) N ⟨OR _,V,σ,.rfl,.rfl,H,h⟩;show wpAny _ A ((compTurn (.ListComp elt [⟨t,it,ifs,0⟩] sc pos) 0 (.ref a) (.ref b) env).onRaise (λ x=>do noteFrame x env;theTreesLotGoes x)) _ _ s
 refine wpAny_noted ?_;rcases m with _|m
 ·exact hI'.4.elim
 ·exact Kl P (hE m hI.1) (hT m hI.1) (hP m hI.1) h1 h2 h4 hk (hv.mono hI'.1) (hA.mono hI'.1 hI'.2) hI'.3 (hI'.1.ρ hj) (hI'.1.ρ hacc) hI'.4 (λ J q=>(q.trans hI'.1 hI'.2).rec λ V2 σ2 l2 k2 H2 h2=>⟨V2,σ2,l2,k2,H2,h2⟩)
   (λ J q=>(q.trans hI'.1 hI'.2).rec λ V2 σ2 l2 k2 H2 h2=>⟨rfl,m,SG _,OU hI.1,V2,σ2,l2,k2,H2,h2⟩) λ Ψ x s' hΨ q=>(q.trans hI'.1 hI'.2).rec λ V' σ' i x c' d a1 b1 r1 r2 r3 r4 r5=>CF hv hA ⟨V',σ',i,x,c',d,a1,b1,r1,r2,r3,r4,hΨ _ _ r5⟩
end
end
section
universe u
open PySem PySem.W PyProof.Rows
variable {C a:Addr} {es:bN} {it:Expr} {h':Heap} {l:List (Str×NameKind)} {kd:NameKind} {N cc dd fr i j:Nat} {σ':Sg} {s':Shared} {V':Va}
section
variable {glb:List (Nat×AV)} {c:FC} {k:CC} {n:Nat} {s:Shared}
theorem ki(n:Str)(p:Str×NameKind)(r:List (Str×NameKind)):bA n (p::r)=if nm p.1=nm n then some p.2 else bA n r:=by
 show(match OC (nm p.1) (nm n) with|true=>some p.2|false=>bA n r)=_
 cases h:OC (nm p.1) (nm n) with
 | true=>rw[if_pos (OB h)]
 | false=>rw[if_neg (OV h)]
theorem mE{f:Str×NameKind->Str×NameKind}(hf:∀ p,(f p).1=p.1){n:Str}(hn:okS n=true)(ho:∀ p∈l,okS p.1=true)(h:bA n l=some kd):(l.map f).lookup n=some (f (n,kd)).2:=by
 induction l with
 | nil=>exact am h
 |
  cons p r ih=>
  have ho:=Py.mp ho;rw[ki] at h;rw[O2,show f p=((f p).1,(f p).2) from rfl,hf p,O4]
  by_cases q:nm p.1=nm n
  ·rw[if_pos q] at h;rw[<-eP ho.1 hn q,beq_self_eq_true,<-Oy h]
  ·rw[if_neg q] at h;rw[beq_eq_false_iff_ne.mpr λ e=>q (congrArg nm e.symm)];exact ih ho.2 h
theorem cL{n:Str}(hn:okS n=true)(ho:∀ p∈l,okS p.1=true)(h:bA n l=some kd):l.lookup n=some kd:=by
 have:=mE (f:=id) (λ J=>rfl) hn ho h;rw[List.map_id] at this;exact this
theorem cK{n:Str}(hn:okS n=true)(ho:∀ p∈l,okS p.1=true)(h:bA n l=some kd):(n,kd)∈l:=by
 induction l with
 | nil=>exact am h
 |
  cons p r ih=>
  have ho:=Py.mp ho;rw[ki] at h;by_cases q:nm p.1=nm n
  ·rw[if_pos q] at h;rw[<-eP ho.1 hn q,<-Oy h];exact .head _
  ·rw[if_neg q] at h;exact .tail _ (ih ho.2 h)
structure CompOK(k:CC)(sc:Scope):Prop where
 kind:sc.kind=.function
 ok:∀ p∈sc.names,okS p.1=true
 loc:∀ p∈sc.names,p.2=.local->bA p.1 sc.names=some .local
 free:∀ p∈sc.names,p.2=.free->∃ kd,bA p.1 k.sc.names=some kd/\iR kd=.cell
 cell:∀ p∈sc.names,p.2≠.cell
theorem Hs{o:Option NameKind}(h:Ln o=true):∃ kd,o=some kd/\iR kd=.cell:=by
 rcases o with _|q
 ·exact OG h
 ·rcases q with⟨⟩<;>first|exact⟨_,rfl,rfl⟩|exact OG h
theorem ni{sc:Scope}(h:ku k sc=some ()):CompOK k sc:=ay h λ e J=>by
 rw[OA] at e;have hk:∀ p∈sc.names,okS p.1=true/\Qf p.2 (vq (bA p.1 sc.names)) false (Ln (bA p.1 k.sc.names)) true true=true:=λ p hp=>(OA _ _).mp (OP.mp e.2 p hp);refine⟨Pf e.1,λ p hp=>(hk p hp).1,λ p hp q=>?_,λ p hp q=>?_,λ p hp q=>?_⟩<;>(have h2:=(hk p hp).2;rw[q] at h2)
 ·exact oI h2
 ·exact Hs h2
 ·exact OG h2
noncomputable def clS(env:Env)(p:Str×NameKind)(cs:List (Str×Addr)):List (Str×Addr):=match p.2==.free with
 | true=>(match env.cells.lookup p.1 with|some a=>(p.1,a)::cs|none=>cs)
 | false=>cs
noncomputable def clF(env:Env):List (Str×NameKind)->List (Str×Addr)->List (Str×Addr)
 | [],cs=>cs
 | p::r,cs=>clF env r (clS env p cs)
theorem r8(l:List (Str×NameKind))(cs:List (Str×Addr))(h:∀ p∈l,p.2=.free->∃ a,env.cells.lookup p.1=some a) :
 (forIn l cs λ x r=>if x.2==.free then do let a <-cellOf env x.1;pure (ForInStep.yield ((x.1,a)::r)) else pure (ForInStep.yield r))=(pure (clF env l cs):Sem _):=by
 induction l generalizing cs with
 | nil=>rfl
 |
  cons p r ih=>
  have h:=Py.mp h;rw[Uz];by_cases q:p.2=.free
  ·obtain⟨a,ha⟩:=h.1 q;have hb:(p.2==NameKind.free)=true:=by rw[q];rfl
   have hc:cellOf env p.1=pure a:=by unfold cellOf;rw[ha]
   have e:clS env p cs=(p.1,a)::cs:=by unfold clS;rw[hb,ha]
   rw[if_pos hb,hc];show(forIn r ((p.1,a)::cs) _:Sem _)=pure (clF env r (clS env p cs));rw[e];exact ih _ h.2
  ·have hb:(p.2==NameKind.free)=false:=beq_eq_false_iff_ne.mpr q;have e:clS env p cs=cs:=by unfold clS;rw[hb]
   rw[if_neg (by rw[hb];exact O7)]
   show(forIn r cs _:Sem _)=pure (clF env r (clS env p cs));rw[e];exact ih _ h.2
theorem ky{sc:Scope}(h:∀ p∈sc.names,p.2=.free->∃ a,env.cells.lookup p.1=some a):closureFor sc env=pure (clF env sc.names []):=by
 unfold closureFor;rw[<-r8 sc.names [] h,bind_pure]
theorem kC{n:Str}(ha:env.cells.lookup n=some a)(l:List (Str×NameKind))(cs:List (Str×Addr))(h:(n,NameKind.free)∈l\/cs.lookup n=some a):(clF env l cs).lookup n=some a:=by
 induction l generalizing cs with
 | nil=>exact h.resolve_left Pl
 |
  cons p r ih=>
  refine ih _ ?_;by_cases q:(n,NameKind.free)∈r
  ·exact .inl q
  refine .inr ?_;unfold clS;by_cases e:p=(n,.free)
  ·subst e;show(match env.cells.lookup n with|some a=>(n,a)::cs|none=>cs).lookup n=_
   rw[ha];exact(O4).trans (by rw[beq_self_eq_true])
  ·have hcs:cs.lookup n=some a:=h.elim (λ h=>(Po.mp h).elim (λ h=>absurd h.symm e) λ h=>absurd h q) id;rcases p.2==NameKind.free with _|_
   ·exact hcs
   ·rcases e2:env.cells.lookup p.1 with _|a'
    ·exact hcs
    ·refine(O4).trans ?_;by_cases q2:n=p.1
     ·rw[q2,beq_self_eq_true,<-e2,<-q2];exact ha
     ·rw[beq_eq_false_iff_ne.mpr q2];exact hcs
theorem zu{sc:Scope}(hc:CompOK k sc)(hv:EnvOK A V c k env)(hfr:V.ρ[fr]?=some C) :
 EnvOK A V ⟨fr,c.cells,c.dep⟩ ⟨sc,k.glb⟩ { newEnv sc C env.globals (clF env sc.names []) env.qual none .none (some env) Qh with scope:=relabel sc env }:=by
 have hfree:∀ n kd,okS n=true->bA n sc.names=some kd->kd=.free->∃ kd',bA n k.sc.names=some kd'/\iR kd'=.cell:=λ n kd hn hl e=>by
  subst e;exact hc.free (n,.free) (cK hn hc.ok hl) rfl
 refine⟨λ n kd hn hl=>?_,hc.kind,hfr,hv.glob,hv.bt,λ n hn ⟨kd,hl,hu⟩=>?_,hv.inF⟩
 ·have:=mE (f:=λ(n,k)=>if (k==.free&&env.scope.kind==.function&&env.kindOf n==some .cell) then(n,.cell) else(n,k)) (λ p=>by obtain⟨a,b⟩:=p;dsimp only;split<;>rfl) hn hc.ok hl
  show(relabel sc env).names.lookup n=_;refine this.trans ?_;by_cases e:kd=.free
  ·obtain⟨kd',h1,h2⟩:=hfree n kd hn hl e;have h3:=hv.kinds n _ hn h1;rw[h2] at h3;subst e;dsimp only;rw[h3,hv.kind];rfl
  ·have hb:(kd==NameKind.free)=false:=by simpa using e
   dsimp only;rw[hb];cases kd<;>first|rfl|exact absurd rfl e
 ·have e:kd=.free:=by
   cases kd<;>first|rfl|(exfalso;exact hc.cell _ (cK hn hc.ok hl) rfl)|cases hu
  obtain⟨h1,h2⟩:=hv.cells n hn (hfree n kd hn hl e);subst e;have hm:=cK hn hc.ok hl;refine⟨?_,λ i hi=>?_⟩
  ·obtain⟨a,ha⟩:=h1;exact⟨a,kC ha _ _ (.inl hm)⟩
  ·obtain⟨a,hr,ha⟩:=h2 i hi;exact⟨a,hr,kC ha _ _ (.inl hm)⟩
theorem km{sc:Scope}(hc:CompOK k sc)(hv:EnvOK A V c k env):∀ p∈sc.names,p.2=.free->∃ a,env.cells.lookup p.1=some a:=λ p hp q=>
 (hv.cells p.1 (hc.ok p hp) (hc.free p hp q)).1
theorem B0{g:Tr}{o:AO}(h:i+1<2^40)(hne:j≠i):(Tr.put' 40 g i o).get j=g.get j:=Tr.put_ne 40 g i o hne
theorem gV(hn:σ.n<=fr)(H:St X V σ s)(k1:Keep σ σ')(H':St X V' σ' s')(ho:σ'.own.get fr=some (.ns es))(hi:V'.ρ[fr]?=some C)(hs:Rn C s'.heap h') :
 St X V' ⟨Tr.put' 40 σ'.own fr .dead,σ'.n,σ'.frz⟩ { s' with heap:=h' }/\Keep σ ⟨Tr.put' 40 σ'.own fr .dead,σ'.n,σ'.frz⟩:=
 have ne:∀ {i o},σ.own.get i=some o->i≠fr:=λ e=>OX (Pb (H.lt e) hn)
 ⟨H'.kill (t:=s'.toks) ho hi λ b o hb e=>(hs.2 b hb).trans e,⟨λ i es' e=>(k1.ns i es' e).imp λ es'' e'=>(Tr.put_ne 40 _ _ _ (ne e)).trans e',λ i c d e=>(Tr.put_ne 40 _ _ _ (ne e)).trans (k1.ex i c d e)⟩⟩
theorem He{V V':Va}(l:V.Le V'):V.ρ.length<=V'.ρ.length:=by
 rcases q:V.ρ.length with _|m
 ·exact Pk _
 ·exact(OJ.mp (l.ρ (PT (q▸SG m:m<V.ρ.length)))).1
theorem Dm(H:St X V σ s)(h:Fi (σ.own.get j)=true):j<σ.n:=by
 rcases e:σ.own.get j with _|o
 ·rw[e] at h;exact OG h
 ·exact H.lt e
theorem ng(P:PrimS X cfg)(hE:∀ m,m<N->SE X glb (run cfg m))(hT:∀ m,m<N->ST X glb (run cfg m))(hP:∀ m,m<N->Prim X cfg glb (run cfg m)){elt it t:Expr}{ifs:List Expr}{sc:Scope}{xe:E}{xt:Tg}{xs:List E}{iv:AV}{xv:Value}{kont:Nat->Nat->Sg->R}
 (hc:CompOK k sc) (h1:cE ⟨sc,k.glb⟩ n elt=some xe) (h2:tgT ⟨sc,k.glb⟩ t=some xt) (h4:bc (cE ⟨sc,k.glb⟩ n) ifs=some xs) (hk:k.glb=glb) (hv:EnvOK A V c k env) (hA:AOK X V σ A c.dep 0) (H:St X V σ s) (d:DenV V iv xv)
 (h:(qy cfg (run cfg N) c xe xt xs kont iv σ).Sat Φ) {RR:Value->Addr->Qa->Shared->Prop} {E:VP}
 (hok:∀ V' σ' s' acc fr D C es f,V.Le V'->Keep σ σ'->St X V' σ' s'->V'.ρ[acc]?=some D->V'.ρ[fr]?=some C->σ'.own.get fr=some (.ns es)->σ.n<=fr->(kont acc fr σ').Sat Φ->RR (.ref D) C (.ok f) s')
 (her:∀ V' σ' s' fr D C es i a cc dd,V.Le V'->Keep σ σ'->St X V' σ' s'->V'.ρ[fr]?=some C->σ'.own.get fr=some (.ns es)->σ.n<=fr->V'.ρ[i]?=some a->σ'.own.get i=some (.exc cc dd)->Tb s'.heap a->Φ (.ex i,⟨Tr.put' 40 σ'.own fr .dead,σ'.n,σ'.frz⟩)->RR (.ref D) C (.error (.ref a)) s') :
 wpAny (Mo X) A (Ta xv) (λ itv s₂=>wpAny (Mo X) A (newList []) (λ acc s₃=>
  wpAny (Mo X) A (newFunctionEnv sc env.globals (clF env sc.names []) [] env.qual none .none (some env)) (λ cenv s₄=>
   Pd (Mo X) A (.compStart (.ListComp elt [⟨t,it,ifs,0⟩] sc pos) 0 itv acc { cenv with scope:=relabel sc env }) (RR acc cenv.locals) s₄) E s₃) E s₂) E s:=by
 refine OF (P.iter hA H d h) (λ itv s2 q=>?_) λ J J q=>q;obtain⟨V1,σ1,j,I,rfl,l1,k1,H1,hj,h1'⟩:=q;refine az h1' λ hit h1'=>?_;obtain⟨b1,h1'⟩:=bk h1';obtain⟨b2,h1'⟩:=bk h1';have h5:=T.sat_bind h1';have H2:=H1.new (t:=s2.toks) (a:=s2.heap.objs.size) (ob:={ cls:=.type "list",data:=.seq ([]:List Value).toArray }) (o:=.lst []) (h':=s2.heap.push { cls:=.type "list",data:=.seq ([]:List Value).toArray }) (by rw[PK];exact QW _) (λ b o e=>OO _ e) (OR _) (Ph _ rfl) (by intros;contradiction) ⟨_,_,rfl,.nil⟩ b1
 have K2:=cq (o:=.lst []) H1 b1;refine wpAny_newList (wpAny_newFunctionEnv hc.cell (by intro x hx;cases hx) (λ h' hn hs=>?_) hc.kind) (by decide)
 generalize hh2:s2.heap.push { cls:=.type "list",data:=.seq ([]:List Value).toArray }=hp2 at hn hs H2 ⊢;dsimp only at hn hs ⊢;obtain⟨o3,ents,ep,e1,e2,e3,e4⟩:=hn;have old:∀ b o,hp2.get? b=some o->h'.get? b=some o:=λ b o e=>by
  have nb:b≠hp2.objs.size:=OX (Pq e);exact(hs.2 b nb).trans (OO _ e)
 have hsz:hp2.objs.size<=h'.objs.size:=by rw[hs.1,PK];exact QW _
 have H3:=H2.new (t:=s2.toks+0) (a:=hp2.objs.size) (ob:=o3) (o:=.ns []) (h':=h') hsz old (OR _) e1 (by intros;contradiction) ⟨ents,ep,e2,e3,by
  rw[show Ru ents=λ x=>none from funext λ x=>e4 x];exact .nil⟩ b2
 have K3:=cq (o:=.ns []) H2 b2;have L2:=V1.le_push s2.heap.objs.size;have L3:=(V1.push s2.heap.objs.size).le_push hp2.objs.size;have hfr:=cb (a:=hp2.objs.size) H2;have hacc:=L3.ρ (cb (a:=s2.heap.objs.size) H1);have hv3:=zu hc (((hv.mono l1).mono L2).mono L3) hfr;have A3:=((hA.mono l1 k1).mono L2 K2).mono L3 K3;have hn0:σ.n<=σ1.n+1:=QP (H.lenO▸H1.lenO▸He l1);have hfr0:(Tr.put' 40 (Tr.put' 40 σ1.own σ1.n (.lst [])) (σ1.n+1) (.ns [])).get (σ1.n+1)=some (.ns []):=Tr.put_self 40 _ _ _ (OI (Pm b2) (by decide))
 have jlt:j<σ1.n:=Dm H1 hit;have hit3:Fi ((Tr.put' 40 (Tr.put' 40 σ1.own σ1.n (.lst [])) (σ1.n+1) (.ns [])).get j)=true:=by
  rw[Tr.put_ne 40 _ _ _ (OX (Sl jlt)),Tr.put_ne 40 _ _ _ (OX jlt)];exact hit
 have hj3:=L3.ρ (L2.ρ hj);have loop:=yJ (sc:=sc) (pos:=pos) (it:=it) P hE hT hP h1 h2 h4 hk hv3 A3 H3 hj3 hacc h5;have fin:∀ r s',PKl X ((V1.push s2.heap.objs.size).push hp2.objs.size) ⟨Tr.put' 40 (Tr.put' 40 σ1.own σ1.n (.lst [])) (σ1.n+1) (.ns []),σ1.n+1+1,σ1.frz⟩ (λ r=>(Im σ1.n (σ1.n+1) kont r).Sat Φ) r s'->RR (.ref s2.heap.objs.size) hp2.objs.size r s':=by
  intro r s' q;have LL:=(l1.trans L2).trans L3;have KK:=(k1.trans K2).trans K3;cases r with
  |
   ok f=>
   obtain⟨V',σ',l4,k4,H4,h6⟩:=q;obtain⟨es,hes⟩:=k4.ns _ _ hfr0;exact hok V' σ' s' _ _ _ _ es f (LL.trans l4) (KK.trans k4) H4 (l4.ρ hacc) (l4.ρ hfr) hes hn0 h6
  |
   error x=>
   obtain⟨V',σ',i,a,cc,dd,l4,k4,H4,rfl,hi,ho,ht,h6⟩:=q;obtain⟨es,hes⟩:=k4.ns _ _ hfr0;have h6:((σ'.set (σ1.n+1) .dead λ g=>T.leaf (Out.ex i,g)):R).Sat Φ:=h6;rw[bD] at h6;exact her V' σ' s' _ _ _ es i a cc dd (LL.trans l4) (KK.trans k4) H4 (l4.ρ hfr) hes hn0 hi ho ht h6
 exact codeAny_compStart_list (PD loop fin) (P.iterSelf A3 H3 hj3 hit3 (PD loop fin))
theorem SameBut.get{h h':Heap}(hs:Rn C h h'){b:Addr}(ne:b≠C):h'.get? b=h.get? b:=hs.2 b ne
theorem vV(H:St X V' σ' s')(hf:V'.ρ[fr]?=some C)(ho:σ'.own.get fr=some (.ns es))(hi:V'.ρ[i]?=some a)(he:σ'.own.get i=some (.exc cc dd)):i≠fr/\a≠C:=by
 have:i≠fr:=λ q=>by subst q;rw[he] at ho;cases ho
 exact⟨this,λ q=>this (H.nodup _ _ _ ⟨_,he,nofun⟩ ⟨_,ho,nofun⟩ hi (q▸hf))⟩
theorem jp(H:St X V σ s)(l:V.Le V')(k1:Keep σ σ')(H':St X V' σ' s')(hf:V'.ρ[fr]?=some C)(ho:σ'.own.get fr=some (.ns es))(hn:σ.n<=fr)(hi:V'.ρ[i]?=some a)(he:σ'.own.get i=some (.exc cc dd))
 (ht:Tb s'.heap a) (hΦ:Φ (.ex i,⟨Tr.put' 40 σ'.own fr .dead,σ'.n,σ'.frz⟩)):∃ m,s'.heap.Ns C m/\∀ h',Rn C s'.heap h'->∀ cenv:Env,cenv.locals=C->wpAny (Mo X) A (Uo "comprehension.variables-let-go" (.ref a) cenv:Sem Value) (λ J J=>False) (PE X V σ Φ) { s' with heap:=h' }:=by
 obtain⟨m,hm,_⟩:=rs H' hf (show sv (σ'.own.get fr)=some es by rw[ho];rfl)
 refine⟨m,hm,λ h' hs cenv J=>?_⟩;obtain⟨H2,k2⟩:=gV hn H k1 H' ho hf hs;obtain⟨n1,n2⟩:=vV H' hf ho hi he;have he2:(Tr.put' 40 σ'.own fr .dead).get i=some (.exc cc dd):=by rw[B0 (H'.fit ho) n1];exact he
 exact nZ H2 he2 hi (ht.at (hs.2 a n2)) λ h3 H3 J=>⟨V',_,i,a,cc,dd,l,k2,H3,rfl,hi,he2,hΦ⟩
theorem AC{xi:E}(h:cE k n it=some xi)(x:Value):TS it env x=pure x:=by
 exact mT h x
theorem wh(P:PrimS X cfg)(hE:∀ m,m<=N->SE X glb (run cfg m))(hT:∀ m,m<N->ST X glb (run cfg m))(hP:∀ m,m<N->Prim X cfg glb (run cfg m)):SK X glb cfg (run cfg N):=by
 intro c k n elt it t ifs sc pos xe xi xt xs env σ Φ V s A hc h1 h2 h3 h4 hk hv hA H h;have hc:=ni hc;rw[eval_ListComp];refine wpAny_comprehension_free (use:=none) rfl ?_ (ky (km hc hv)) hc.kind (λ x hx q=>cL (hc.ok x hx) hc.ok (hc.loc x hx q)) ?_
 ·exact AC h3
 ·refine OF (hE N (OR _) h3 hk hv hA H (aG h)) (λ xv s1 q=>?_) λ J J q=>PE.out q;obtain⟨V1,σ1,iv,l1,k1,H1,d1,h5⟩:=q;refine ng P (λ m q=>hE m (OU q)) hT hP hc h1 h2 h4 hk (hv.mono l1) (hA.mono l1 k1) H1 d1 (kont:=D3) h5 (RR:=λ acc C=>compPost (Mo X) A (PE X V σ Φ) none (PV X V σ Φ) acc C) ?_ ?_
  ·intro V' σ' s' acc fr D C es f l2 k2 H2 hD hC hes hn hΦ;obtain⟨m,hm,_⟩:=rs H2 hC (show sv (σ'.own.get fr)=some es by rw[hes];rfl)
   refine⟨m,hm,λ h' hs=>?_⟩;obtain⟨H3,k3⟩:=gV hn H1 k2 H2 hes hC hs;unfold D3 at hΦ;rw[bD] at hΦ;exact(PV.trans l2 k3 (PV.here H3 (.own hD) hΦ)).trans l1 k1
  ·intro V' σ' s' fr D C es i a cc dd l2 k2 H2 hC hes hn hi ho ht hΦ;obtain⟨m,hm,q⟩:=jp (A:=A) H1 l2 k2 H2 hC hes hn hi ho ht hΦ;exact⟨m,hm,λ h' hs cenv hcl=>OF (q h' hs cenv hcl) (λ J J q=>q) λ J J q=>q.trans l1 k1⟩
theorem qE(P:PrimS X cfg)(hE:∀ m,m<=N->SE X glb (run cfg m))(hT:∀ m,m<N->ST X glb (run cfg m))(hP:∀ m,m<N->Prim X cfg glb (run cfg m)):SKU X glb cfg (run cfg N):=by
 intro c k n elt it t ifs sc pos tp m xe xi xt xs env σ Φ V s A hc h1 h2 h3 h4 hk hm hl hv hA H h;have hc:=ni hc;show wpAny (Mo X) A (do let _ <-comprehension (.ListComp elt [⟨t,it,ifs,0⟩] sc pos) sc env _ (newList []) false (eval it env) (some (Qi (.Name m tp) env))) _ _ s
 refine Oz (OF (wpAny_comprehension_free (use:=some (Qi (.Name m tp) env)) (Q:=λ J s'=>PF X V σ Φ .next s') (E:=PE X V σ Φ) rfl ?_ (ky (km hc hv)) hc.kind (λ x hx q=>cL (hc.ok x hx) hc.ok (hc.loc x hx q)) ?_) (λ J s' hq=>OD hq) λ J J q=>q)
 ·exact AC h3
 ·refine OF (hE N (OR _) h3 hk hv hA H (aG h)) (λ xv s1 q=>?_) λ J J q=>PE.out q;obtain⟨V1,σ1,iv,l1,k1,H1,d1,h5⟩:=q;refine ng P (λ m q=>hE m (OU q)) hT hP hc h1 h2 h4 hk (hv.mono l1) (hA.mono l1 k1) H1 d1 (kont:=Ki c (nm m)) h5 (RR:=λ acc C=>compPost (Mo X) A (PE X V σ Φ) (some (Qi (.Name m tp) env)) (λ J s'=>PF X V σ Φ .next s') acc C) ?_ ?_
  ·intro V' σ' s' acc fr D C es f l2 k2 H2 hD hC hes hn hΦ;have h6:(asgN c (.loc (nm m)) (.own acc) σ' λ g=>g.set fr .dead done).Sat Φ:=hΦ;have ht:tgN k (.Name m tp)=some (.loc (nm m)):=by
    show ifK (okS m) ((bA m k.sc.names).bind (tgK (nm m)))=_;rw[hm,hl];rfl
   show wpAny _ A (Qi (.Name m tp) env (.ref D)) _ _ _;refine OF (pf (E:=PE X V σ Φ) ht ((hv.mono l1).mono l2) H2 (.own hD) h6) (λ J s3 q=>?_) λ J J q=>q;obtain⟨V3,σ3,l3,k3,H3,h7⟩:=q;obtain⟨es3,hes3⟩:=k3.ns _ _ hes;have hC3:=l3.ρ hC;obtain⟨mm,hmm,_⟩:=rs H3 hC3 (show sv (σ3.own.get fr)=some es3 by rw[hes3];rfl)
   refine⟨mm,hmm,λ h' hs=>?_⟩;obtain⟨H4,k4⟩:=gV hn H1 (k2.trans k3) H3 hes3 hC3 hs;rw[bD] at h7;exact⟨V3,_,(l1.trans l2).trans l3,k1.trans k4,H4,h7⟩
  ·intro V' σ' s' fr D C es i a cc dd l2 k2 H2 hC hes hn hi ho ht hΦ;obtain⟨m,hm,q⟩:=jp (A:=A) H1 l2 k2 H2 hC hes hn hi ho ht hΦ;exact⟨m,hm,λ h' hs cenv hcl=>OF (q h' hs cenv hcl) (λ J J q=>q) λ J J q=>q.trans l1 k1⟩
end
end
section
universe u
open PySem PySem.W PyProof.Rows
variable {x y:AV} {vs:Array Value} {b l:Bool} {i j:Int} {xs:List AV} {m:Nat} {op:Operator} {t u:Tok} {v vx vy:Value}
section
variable {glb:List (Nat×AV)} {c:FC} {k:CC} {n:Nat} {s:Shared}
theorem bl(e:bI x=some (i,l))(d:DenV V x v):∃ t,v=.int i t:=
 (AV.casesOn (motive_1:=λ x=>bI x=some (i,l)->DenV V x v->∃ t,v=.int i t) x aP aq aq (λ j=>λ e d=>(show j=i from congrArg R7 (Oy e))▸d.inv) (λ j=>λ e d=>(show j=i from congrArg R7 (Oy e))▸d.inv) aq aq aq aq aq aq aq aq aP aP aq aP aP fP aq) e d
theorem d9(e:kF x=true)(d:DenV V x v):∃ i t,v=.int i t:=
 d.rec (motive:=λ x v J=>kF x=true->∃ i t,v=.int i t) nof (λ J=>nof) (λ J=>nof) (λ J J J=>⟨_,_,rfl⟩) (λ J J J=>⟨_,_,rfl⟩) (λ J J=>nof) (λ J J=>nof) (λ J J=>nof) (λ J=>nof) (λ J=>nof) (λ J=>nof) (λ J=>nof) (λ J J=>nof) (λ J=>nof) (λ J J J J=>⟨_,_,rfl⟩) (λ J J J=>⟨_,_,rfl⟩) (λ J=>nof) (λ J J J=>nof) (λ J J J J J=>nof) e
theorem fH(l:Bool)(i:Int)(t:Tok):DenV V (mkI l i) (.int i t):=Qx (motive:=λ l=>DenV V (mkI l i) (.int i t)) l (.si i t) (.int i t)
theorem gT(l:Bool)(b:Bool):DenV V (mkB l b) (.bool b):=Qx (motive:=λ l=>DenV V (mkB l b) (.bool b)) l (.sb b) (.bool b)
theorem PV.int(H:St X V σ s)(h:(val (mkI l i) σ).Sat Φ):PV X V σ Φ (.int i s.toks) { s with toks:=s.toks+1 }:=PV.here H.toks (fH l i _) h
theorem PV.boolk(H:St X V σ s)(h:(val (mkB l b) σ).Sat Φ):PV X V σ Φ (.bool b) s:=PV.here H (gT l b) h
theorem bR{t:R}(h:(jJ l b t).Sat Φ):b=true/\t.Sat Φ:=by
 rcases l with⟨⟩
 ·exact h
 ·rcases b with⟨⟩
  ·exact O1 h
  ·exact⟨rfl,h⟩
theorem dN(h:bP i=true):i.natAbs<2^64:=OE h
theorem mU(h:(bP i||bP j)=true):IntMulOk i j:=
 ((P9 _ _).mp h).elim (λ h=>.of_left (intBits_le (dN h))) λ h=>.of_right (intBits_le (dN h))
theorem M4(h:bP j=true):Builtin.divisionGoesByPylong i j=false:=by
 refine PyProof.noPylong_of_log2 ?_;by_cases q:j.natAbs=0
 ·rw[q];decide
 ·exact Pb ((Nat.log2_lt q).mpr (dN h)) (by decide)
theorem qp(h:(!(bJ i 0))=true):i≠0:=of_decide_eq_false (sx h)
theorem Na(h:bY j 64=true):j<=64:=of_decide_eq_true h
theorem Ek{E:VP}(H:St X V σ s)(h:(NB op l i j σ).Sat Φ):wpAny (Mo X) A (Tl op (.int i t) (.int j u)) (PV X V σ Φ) E s:=by
 rcases op with⟨⟩
 ·exact add_int (PV.int H h)
 ·exact sub_int (PV.int H h)
 ·have h:=bR h;exact mul_int (PV.int H h.2) (mU h.1)
 ·exact O1 h
 ·exact O1 h
 ·have h:=bR h;exact mod_int' (qp h.1) (PV.int H h.2)
 ·have h:=bR h;have h1:=(OA _ _).mp h.1;have h2:=(OA _ _).mp h1.1;exact pow_int_small (of_decide_eq_true h2.1) (Qz (Na h2.2) (by decide)) (dN h1.2) (PV.int H h.2)
 ·have h:=bR h;have h1:=(OA _ _).mp h.1;have h2:=(OA _ _).mp h1.1;exact lshift_int_small (of_decide_eq_true h2.1) (Qz (Na h2.2) (by decide)) (dN h1.2) (PV.int H h.2)
 ·have h:=bR h;exact rshift_int (of_decide_eq_true h.1) (PV.int H h.2)
 ·exact or_int (PV.int H h)
 ·exact xor_int (PV.int H h)
 ·exact and_int (PV.int H h)
 ·have h:=bR h;have h1:=(OA _ _).mp h.1;exact floordiv_int (qp h1.1) (PV.int H h.2) (.inl (M4 h1.2))
theorem mq(e:Fb y=some m)(d:DenV V y v):0<m/\∃ t,v=.int (m:Int) t:=⟨(Aq e).1,((Aq e).2▸d:DenV V (.int m) v).inv⟩
theorem vT(h:0<m):0<=i.fmod (m:Int)/\i.fmod (m:Int)<m:=⟨Int.fmod_nonneg_of_pos _ (Rc.mpr h),Int.fmod_lt_of_pos _ (Rc.mpr h)⟩
theorem BS{E:VP}(H:St X V σ s)(dx:DenV V x (.int i t))(dy:DenV V y (.int j u))(h:(MP x y σ).Sat Φ):wpAny (Mo X) A (Tl .Sub (.int i t) (.int j u)) (PV X V σ Φ) E s:=
 bn h λ m e h=>bn h λ c e2 h=>by
  obtain⟨i',t',q,h1,h2⟩:=pI e dx;obtain⟨u',q'⟩:=jj e2 dy;injection q with q;injection q' with q'
  subst q q';exact sub_int (PV.here H.toks (.si _ _) (h i ((OA _ _).mpr ⟨decide_eq_true h1,decide_eq_true h2⟩)))
theorem El{E:VP}(H:St X V σ s)(dx:DenV V x (.int i t))(dy:DenV V y (.int j u))(h:(NC op x y σ).Sat Φ):wpAny (Mo X) A (Tl op (.int i t) (.int j u)) (PV X V σ Φ) E s:=by
 have pos:∀ {m:Nat},Fb y=some m->0<m/\j=m:=λ e=>⟨(mq e dy).1,(mq e dy).2.elim λ J q=>(TM q).1⟩;rcases op with⟨⟩
 ·exact add_int (PV.here H.toks (.an _ _) h)
 ·exact BS H dx dy h
 ·exact bn h λ c e h=>(jj e dy).elim λ J q=>mul_int (PV.here H.toks (.an _ _) (bR h).2) (mU (by rw[(TM q).1,(bR h).1,S7]))
 ·exact O1 h
 ·exact O1 h
 ·exact bn h λ m e h=>by
   obtain⟨h1,rfl⟩:=pos e;exact mod_int' (Int.ne_of_gt (Rc.mpr h1)) (PV.here H.toks (.rg _ (vT h1).1 (vT h1).2) h)
 ·exact O1 h
 ·exact O1 h
 ·exact O1 h
 ·exact O1 h
 ·exact O1 h
 ·exact O1 h
 ·exact bn h λ m e h=>by
   obtain⟨h1,rfl⟩:=pos e;exact floordiv_int (Int.ne_of_gt (Rc.mpr h1)) (PV.here H.toks (.an _ _) (bR h).2) (.inl (M4 (bR h).1))
theorem ma{i:Nat}(e:Js y=some i)(d:DenV V y v):∃ D t,V.ds[i]?=some D/\v=.int D.num t:=
 tu e λ i' j q h=>by
  subst q;obtain⟨D,_,t,hv,h1,_⟩:=d.inv;exact⟨D,t,Oy h▸h1,hv⟩
theorem Ei{E:VP}(H:St X V σ s)(dx:DenV V x vx)(dy:DenV V y vy)(h:(Nz op x y σ).Sat Φ):wpAny (Mo X) A (Tl op vx vy) (PV X V σ Φ) E s:=by
 refine bn h λ j ey h=>?_;obtain⟨D,t,hD,rfl⟩:=ma ey dy;rcases ex:Js x with _|i
 ·rw[ex] at h;refine az h λ e h=>?_;obtain⟨u,rfl⟩:=gX e dx;rcases op with⟨⟩
  case Sub=>exact sub_int (PV.here H.toks (.ti (t:=5) _ hD hD) h)
  all_goals exact O1 h
 ·rw[ex] at h;obtain⟨C,u,hC,rfl⟩:=ma ex dx;rcases op with⟨⟩
  case BitAnd=>exact and_int (PV.here H.toks (.ti (t:=1) _ hC hD) h)
  case BitOr=>exact or_int (PV.here H.toks (.ti (t:=2) _ hC hD) h)
  case BitXor=>exact xor_int (PV.here H.toks (.ti (t:=3) _ hC hD) h)
  all_goals exact O1 h
theorem i5(H:St X V σ s)(e:ud σ x=some xs)(d:DenV V x v):∃ a vs n,v=.ref a/\s.heap.get? a=some (bT vs n)/\All2 (DenV V) xs vs.toList:=
 aw e λ i ei e=>(eJ ei d).elim λ a r=>(H.own _ _ (vw ge e) nofun).rec λ a' ob q=>q.3.rec λ vs n p=>⟨a,vs,n,r.1,by
  obtain rfl:=Oy (r.2.symm.trans q.1);exact p.1▸q.2,p.2⟩
theorem mS(items:Array Value)(n:Nat)(acc:Array Value):(List.foldl (λ x1 x2=>x1++x2) acc (Pz n items)).toList=acc.toList++(Pz n items.toList).flatten:=by
 induction n generalizing acc with
 | zero=>exact(Pn _).symm
 | succ n ih=>rw[Q6,UA,ih,Q6,QA,Q7,PH]
theorem Cg(n:Nat)(xs:List AV)(k:List AV->R):Jw n xs k=k (Pz n xs).flatten:=by
 induction n generalizing k with
 | zero=>rfl
 |
  succ n ih=>
  show(Jw n xs λ l=>app xs l k)=_;rw[ih,dQ,Q6,QA]
theorem All2.rep{α β:Type}{P:α->β->Prop}{xs:List α}{ys:List β}(h:All2 P xs ys)(n:Nat):All2 P (Pz n xs).flatten (Pz n ys).flatten:=by
 induction n with
 | zero=>exact .nil
 |
  succ n ih=>
  rw[Q6,Q6,QA,QA];exact h.app ih
theorem dX{V:Va}(h:All2 (DenV V) xs vs.toList)(k:sz xs=true):vs.size<100000:=(h.length.trans OH:xs.length=vs.size)▸OE k
theorem gS{n:Nat}{t:Nat}(H:St X V σ s)(d:All2 (DenV V) xs vs.toList)(h:(fj σ (.lst xs)).Sat Φ):PV X V σ Φ (.ref s.heap.objs.size) { s with heap:=s.heap.push (bT vs n) }:=
 eQ (o:=.lst xs) (ob:=bT vs n) H ⟨vs,n,rfl,d.mono λ J J d=>d.mono (V.le_push _)⟩ rfl (by intros;nofun) h
theorem Cf(da:All2 (DenV V) xs vs.toList)(j:Nat):All2 (DenV V) (Pz j xs).flatten (List.foldl (λ x1 x2=>x1++x2) #[] (Pz (if vs.isEmpty=true then 0 else j) vs)).toList:=by
 rw[mS];by_cases q:vs.isEmpty=true
 ·rw[if_pos q];have q2:vs.toList=[]:=by rw[Array.isEmpty_iff] at q;rw[q]
  rw[q2] at da;rcases da with _|_
  rw[List.flatten_replicate_nil];exact .nil
 ·rw[if_neg q];exact da.rep _
theorem yc(vs:Array Value)(j:Nat):(List.foldl (λ x1 x2=>x1++x2) #[] (Pz (if vs.isEmpty=true then 0 else j) vs)).size=j*vs.size:=by
 rw[<-OH,mS];by_cases q:vs.isEmpty=true
 ·rw[if_pos q,Array.isEmpty_iff.mp q];rfl
 ·rw[if_neg q];show(List.flatten _).length=_;rw[List.length_flatten,List.map_replicate,List.sum_replicate_nat];rfl
theorem Ej{E:VP}(H:St X V σ s)(dx:DenV V x vx)(dy:DenV V y vy)(h:(NA op x y σ).Sat Φ):wpAny (Mo X) A (Tl op vx vy) (PV X V σ Φ) E s:=by
 refine bn h λ xs ex h=>?_;obtain⟨a,vs,n,rfl,ha,da⟩:=i5 H ex dx;rcases op with⟨⟩
 case Add=>
  refine bn h λ ys ey h=>?_;obtain⟨b,ws,m,rfl,hb,db⟩:=i5 H ey dy;rw[dQ] at h;have hd:All2 (DenV V) (xs++ys) (vs++ws).toList:=by rw[Q7];exact da.app db
  have hz:=dX hd (cl h).1;rw[Array.size_append] at hz;exact P.add_list ha hb (gS (t:=s.toks) H hd h) (OM (OU hz) (by decide))
 case Mult=>
  refine bn h λ j ej h=>?_;obtain⟨u,rfl⟩:=jj ej dy;have h:=bR h;have hj:j.natAbs<1000000:=OE h.1;have h:=h.2;rw[Cg] at h;have hd:=Cf da j.toNat;have hz:=dX hd (cl h).1;rw[yc] at hz;exact wpAny_binaryOp_repeat_ref (T:="list") (U:="int") (by decide) ⟨_,ha,rfl⟩ (λ s'=>RA s' j u) noFill_list_mul F.fills_int_mul F.slot_int_rmul repeat_list F.slot_int_index.lookup
   (call_meets F.slot_int_rmul (RA s j u) F.entry_int_rmul (F.args_int_rmul_2 _ _) (int___rmul___int_list j u a vs n)
    ⟨ha,rfl,⟨_,ha,rfl⟩,call_meets F.slot_list_mul ⟨_,ha,rfl⟩ F.entry_list_mul (F.args_list_mul_2 _ _)
     (AutoListH.list___mul___list_int_3 a vs n j u (by simp [Builtin.List.listFitsIndex];omega) (by rw[R3];omega) (by rw[R3] at hz;simp [Ud,P8];omega))
     ⟨ha,gS (t:=s.toks) H hd h⟩⟩)
 all_goals exact O1 h
theorem IL{d:Nat}{E:VP}(hA:AOK X V σ A d 0)(H:St X V σ s)(dx:DenV V x vx)(dy:DenV V y vy)(h:(JY op x y σ).Sat Φ):wpAny (Mo X) A (Tl op vx vy) (PV X V σ Φ) E s:=by
 unfold JY at h;rcases e:two (bI x) (bI y) with _|p
 ·rw[e] at h;rcases e2:kF x&&kF y with _|_
  ·rw[e2] at h;rcases e3:Hk y with _|_
   ·rw[e3] at h;exact Ej H dx dy h
   ·rw[e3] at h;exact Ei H dx dy h
  ·rw[e2] at h;rw[OA] at e2;obtain⟨i,t,rfl⟩:=d9 e2.1 dx;obtain⟨j,u,rfl⟩:=d9 e2.2 dy;exact El H dx dy h
 ·rw[e] at h;refine eG e λ e1 e2=>?_;obtain⟨t,rfl⟩:=bl e1 dx;obtain⟨u,rfl⟩:=bl e2 dy;exact Ek H h
end
end
section
universe u
open PySem PySem.W PyProof.Rows PySem.SeqAt
theorem dS:Tu (.type "int") (.type "bytes")=pure false:=by rw[P1];kernel_rfl
theorem kO:Tu (.type "bytes") (.type "int")=pure false:=by rw[P1];kernel_rfl
theorem dn:Tu (.type "NoneType") (.type "bytes")=pure false:=by rw[P1];kernel_rfl
theorem jF:Tu (.type "bytes") (.type "NoneType")=pure false:=by rw[P1];kernel_rfl
theorem bO:Slot "bytes" (cmpInfo .Eq).2.2 "bytes.__eq__":=Ry
theorem eV(b:Array UInt8)(i:Int)(t u:Tok):Gives (P6.«bytes.__eq__» ⟨[.bytes b t,.int i u],[]⟩) (.val .notImplemented):=by
 refine .of_wp λ M A E s Q hq=>?_;show wpAny M A (QI (.int i u) (.type "bytes") >>= λ r=>_) _ E s;refine Oz (Qd (RA s i u) dS ?_);refine Oz (Qd (RA s i u) dS ?_);exact Oz (Sc (OD ⟨_,rfl,hq⟩))
theorem eB(b:Array UInt8)(t:Tok):Gives (P6.«bytes.__eq__» ⟨[.bytes b t,.none],[]⟩) (.val .notImplemented):=by
 refine .of_wp λ M A E s Q hq=>?_;show wpAny M A (QI .none (.type "bytes") >>= λ r=>_) _ E s;refine Oz (Qd rfl dn ?_);refine Oz (Qd rfl dn ?_);exact Oz (Sc (OD ⟨_,rfl,hq⟩))
theorem eU(b:Array UInt8)(i:Int)(t u:Tok):Gives (P6.«int.__eq__» ⟨[.int i u,.bytes b t],[]⟩) (.val .notImplemented):=
 .of_wp λ M A E s Q h=>by obtain⟨hp,g,d,tk,os⟩:=s;wp_walk;exact⟨_,rfl,h⟩
theorem eu(b:Array UInt8)(t:Tok):Gives (P6.«NoneType.__eq__» ⟨[.none,.bytes b t],[]⟩) (.val .notImplemented):=
 .of_wp λ M A E s Q h=>by obtain⟨hp,g,d,tk,os⟩:=s;wp_walk;exact⟨_,rfl,h⟩
section
variable {s:Shared}
theorem mn(b:Array UInt8)(t:Tok)(i:Int)(u:Tok):RcAt A s (.bytes b t) (.int i u) false:=λ prog w E Q h=>
 SA (k:=false) (PU s b t) (RA s i u) (by decide) dS Ry F.slot_int_eq_refl
  (λ J hq=>RC Ry (PU s b t) Sn (R0 _ _) (eV b i t u) hq)
  (λ J hq=>RC F.slot_int_eq_refl (RA s i u) F.entry_int_eq (F.args_int_eq_2 _ _) (eU b i t u) hq)
  (λ J hq=>Pi (rfl:isSame (.bytes b t) (.int i u)=pure false) hq) (.inl rfl) h
theorem ml(b:Array UInt8)(t:Tok)(i:Int)(u:Tok):RcAt A s (.int i u) (.bytes b t) false:=λ prog w E Q h=>
 SA (k:=false) (RA s i u) (PU s b t) (by decide) kO F.slot_int_eq bO
  (λ J hq=>RC F.slot_int_eq (RA s i u) F.entry_int_eq (F.args_int_eq_2 _ _) (eU b i t u) hq)
  (λ J hq=>RC bO (PU s b t) Sn (R0 _ _) (eV b i t u) hq)
  (λ J hq=>Pi (rfl:isSame (.int i u) (.bytes b t)=pure false) hq) (.inl rfl) h
theorem kW(b:Array UInt8)(t:Tok):RcAt A s (.bytes b t) .none false:=λ prog w E Q h=>
 SA (k:=false) (PU s b t) rfl (by decide) dn Ry F.slot_NoneType_eq_refl
  (λ J hq=>RC Ry (PU s b t) Sn (R0 _ _) (eB b t) hq)
  (λ J hq=>RC F.slot_NoneType_eq_refl rfl F.entry_NoneType_eq (F.args_NoneType_eq_2 _ _) (eu b t) hq)
  (λ J hq=>Pi (rfl:isSame (.bytes b t) .none=pure false) hq) (.inl rfl) h
theorem kU(b:Array UInt8)(t:Tok):RcAt A s .none (.bytes b t) false:=λ prog w E Q h=>
 SA (k:=false) rfl (PU s b t) (by decide) jF F.slot_NoneType_eq bO
  (λ J hq=>RC F.slot_NoneType_eq rfl F.entry_NoneType_eq (F.args_NoneType_eq_2 _ _) (eu b t) hq)
  (λ J hq=>RC bO (PU s b t) Sn (R0 _ _) (eB b t) hq)
  (λ J hq=>Pi (rfl:isSame .none (.bytes b t)=pure false) hq) (.inl rfl) h
theorem DJ{a b:Value}{k:Bool}(ne:(a==b)=false)(nf:∀ x t,a≠.float x t)(h:RcAt A s a b k):EqAt A s a b k:=λ prog w E Q hq=>by
 unfold eqBool;refine OQ ?_;refine wpAny_ite_split (λ hab=>absurd (ne.symm.trans hab) (by decide)) (λ J=>?_)
 have go:=Oz (f:=truthOfDropped) (h prog w E _ (TQ hq));cases a<;>first|exact absurd rfl (nf _ _)|exact go
end
end
section
universe u
open PySem PySem.W PyProof.Rows PySem.SeqAt
variable {r x y:AV} {a:Addr} {b:Array UInt8} {vs ws:Array Value} {l:Bool} {i:Int} {xs ys:List AV} {m n:Nat} {o:Option AO} {d e:PyData} {t u:Tok} {v vx vy:Value}
section
variable {glb:List (Nat×AV)} {c:FC} {k:CC} {n:Nat} {s:Shared}
theorem bo{a b:List Nat}:au a b=decide (a=b):=by
 induction a generalizing b with
 | nil=>rcases b with _|⟨y,ys⟩<;>rfl
 | cons x xs ih=>
  rcases b with _|⟨y,ys⟩
  ·rfl
  ·show(match OC x y with|true=>au xs ys|false=>false)=_
   rw[ih,wF];by_cases h:x=y
   ·rw[decide_eq_true h,h];exact decide_eq_decide.mpr ⟨λ e=>e▸rfl,λ e=>(Rb e).2⟩
   ·rw[decide_eq_false h];exact(decide_eq_false λ e=>h (Rb e).1).symm
theorem Hy{a b:Int}:bJ a b=(a==b):=rfl
theorem tK{a b:Str}:(a==b)=decide (a.cps.toList=b.cps.toList):=by
 by_cases h:a=b
 ·rw[h,beq_self_eq_true,decide_eq_true rfl]
 ·rw[decide_eq_false λ q=>h (kP q),beq_eq_false_iff_ne.mpr h]
theorem Eu{a b:Array UInt8}:(a.toList==b.toList)=decide (a.toList.map (·.toNat)=b.toList.map (·.toNat)):=by
 by_cases h:a.toList=b.toList
 ·rw[h,beq_self_eq_true,decide_eq_true rfl]
 ·rw[decide_eq_false λ q=>h ((Re (λ J J q=>Uv.mp q)).mp q),beq_eq_false_iff_ne.mpr h]
noncomputable def sX(v:Value):Nat:=(Qp v 0 0 0 (λ J=>2) (λ J J=>3) (λ J J=>0) (λ J J=>1) (λ J J=>0) (λ J=>0) (λ J=>0) (λ J=>4))
noncomputable def neV(a b:Value):Bool:=OC (sX a) (sX b)&&!(OC (sX a) 0)
def EqR(A:Around)(s:Shared)(V:Va)(r:AV)(vx vy:Value):Prop:=∃ b,DenV V r (.bool b)/\RcAt A s vx vy b/\EqAt A s vx vy b/\(vx=vy->b=true)/\(neV vx vy=true->RcNeAt A s vx vy (!b))
theorem jx{a b:Value}(h:a≠b):(a==b)=false:=beq_eq_false_iff_ne.mpr h
theorem EqR.mk'{b:Bool}(d:DenV V r (.bool b))(h:RcAt A s vx vy b)(nf:∀ x t,vx≠.float x t)(same:vx=vy->b=true)(hn:neV vx vy=true->RcNeAt A s vx vy (!b):=by exact nof):EqR A s V r vx vy:=by
 by_cases q:vx=vy
 ·obtain rfl:=same q;exact⟨true,d,h,q▸.same vx,λ J=>rfl,hn⟩
 ·exact⟨b,d,h,DJ (jx q) nf h,same,hn⟩
theorem vZ{i j:Int}:EqR A s V (mkB l (bJ i j)) (.int i t) (.int j u):=
 .mk' (b:=i==j) (gT _ _) (.int_int i t j u) (λ J J=>nofun) (λ e=>beq_iff_eq.mpr (TM e).1) λ J=>.int_int i t j u
theorem yd(b c:Array UInt8)(t u:Tok):RcAt A s (.bytes b t) (.bytes c u) (b.toList==c.toList):=λ prog w E Q h=>eq_bytes h
theorem mW{a b:Array UInt8}{x y:List Nat}(hx:a.toList.map (·.toNat)=x)(hy:b.toList.map (·.toNat)=y):EqR A s V (mkB l (au x y)) (.bytes a t) (.bytes b u):=by
 refine .mk' (b:=a.toList==b.toList) ?_ (yd a b t u) (λ J J=>nofun) λ e=>beq_iff_eq.mpr (congrArg Array.toList (Value.bytes.inj e).1)
 rw[Eu,bo,hx,hy];exact gT _ _
theorem lL{a b:Str}{x y:List Nat}(hx:a.cps.toList=x)(hy:b.cps.toList=y)(d:DenV V r (.bool (au x y))):EqR A s V r (.str a t) (.str b u):=by
 refine .mk' (b:=a==b) ?_ (.str_str a t b u) (λ J J=>nofun) (λ e=>beq_iff_eq.mpr (Value.str.inj e).1) λ J=>.str_str a t b u
 rw[tK,hx,hy,<-bo];exact d
theorem JW{y:List Nat}(d:DenV V (.byt y) v):∃ b t,v=.bytes b t/\b.toList.map (·.toNat)=y:=d.inv
theorem tF{y:List UInt8}(d:DenV V (.sy y) v):∃ b t,v=.bytes b t/\b.toList.map (·.toNat)=y.map (·.toNat):=E2.imp (λ J J q=>⟨q.1,congrArg _ q.2⟩) d.inv
theorem cw:DenV V (.bool false) (.bool false):=.bool false
theorem AM:EqR A s V (.bool false) (.int i t) (.bytes b u):=.mk' cw (ml b u i t) (λ J J=>nofun) nofun
theorem Be:EqR A s V (.bool false) (.bytes b u) (.int i t):=.mk' cw (mn b u i t) (λ J J=>nofun) nofun
theorem pZ:EqR A s V (.bool false) .none (.bytes b u):=.mk' cw (kU b u) (λ J J=>nofun) nofun
theorem none_int:EqR A s V (.bool false) .none (.int i t):=.mk' cw (.none_int _ _) (λ J J=>nofun) nofun
theorem none_none:EqR A s V (.bool true) .none .none:=.mk' (.bool true) .none_none (λ J J=>nofun) λ J=>rfl
theorem qu{i j:Bool}:EqR A s V (mkB l (i==j)) (.bool i) (.bool j):=.mk' (gT _ _) (.bool_bool _ _) (λ J J=>nofun) (λ e=>beq_iff_eq.mpr (Rp e)) λ J=>.bool_bool _ _
theorem AX(e:eqI i l y=some r)(dy:DenV V y vy):EqR A s V r (.int i t) vy:=
 (AV.casesOn (motive_1:=λ y=>eqI i l y=some r->DenV V y vy->EqR A s V r (.int i t) vy) y (λ e d=>Oy e▸(d.inv:vy=.none)▸.mk' cw (.int_none i t) (λ J J=>nofun) nofun) aq aq (λ j=>λ e d=>Oy e▸d.inv.elim λ J q=>q▸vZ) (λ j=>λ e d=>Oy e▸d.inv.elim λ J q=>q▸vZ (l:=false)) aq (λ j=>λ e d=>Oy e▸d.inv.rec λ J J q=>q.1▸AM) (λ j=>λ e d=>Oy e▸d.inv.rec λ J J q=>q.1▸AM) aq aq aq aq aq aP aP aq aP aP fP aq) e dy
theorem AY{i:Bool}(e:eqB i l y=some r)(dy:DenV V y vy):EqR A s V r (.bool i) vy:=
 (AV.casesOn (motive_1:=λ y=>eqB i l y=some r->DenV V y vy->EqR A s V r (.bool i) vy) y aP (λ j=>λ e d=>Oy e▸(d.inv:vy=.bool j)▸qu) (λ j=>λ e d=>Oy e▸(d.inv:vy=.bool j)▸qu (l:=false)) aq aq aq aq aq aq aq aq aq aq aP aP aq aP aP fP aq) e dy
theorem AT{a:Array UInt8}{x:List Nat}(hx:a.toList.map (·.toNat)=x)(e:eqY x l y=some r)(dy:DenV V y vy):EqR A s V r (.bytes a t) vy:=
 (AV.casesOn (motive_1:=λ y=>eqY x l y=some r->DenV V y vy->EqR A s V r (.bytes a t) vy) y (λ e d=>Oy e▸(d.inv:vy=.none)▸.mk' cw (kW a t) (λ J J=>nofun) nofun) aq aq (λ j=>λ e d=>Oy e▸d.inv.elim λ J q=>q▸Be) (λ j=>λ e d=>Oy e▸d.inv.elim λ J q=>q▸Be) aq (λ j=>λ e d=>Oy e▸d.inv.rec λ J J q=>q.1▸mW hx q.2) (λ j=>λ e d=>Oy e▸(tF d).rec λ J J q=>q.1▸mW (l:=false) hx q.2) aq aq aq aq aq aP aP aq aP aP fP aq) e dy
theorem HQ(e:eqN y=some r)(dy:DenV V y vy):EqR A s V r .none vy:=
 (AV.casesOn (motive_1:=λ y=>eqN y=some r->DenV V y vy->EqR A s V r .none vy) y (λ e d=>by rw[show vy=.none from d.inv];exact Oy e▸none_none) aq aq (λ j=>λ e d=>Oy e▸d.inv.elim λ J q=>q▸none_int) (λ j=>λ e d=>Oy e▸d.inv.elim λ J q=>q▸none_int) (λ l=>λ e d=>Oy e▸d.inv.rec λ J J q=>q.1▸.mk' cw (.none_str _ _) (λ J J=>nofun) nofun) (λ l=>λ e d=>Oy e▸d.inv.rec λ J J q=>q.1▸pZ) (λ l=>λ e d=>Oy e▸d.inv.rec λ J J q=>q.1▸pZ) aq aq aq aq aq aP aP aq aP aP fP aq) e dy
theorem Cj(i:Int)(t u:Tok):RcAt A s (.int i t) (.int i u) true:=by
 have:=RcAt.int_int (A:=A) (s:=s) i t i u
 rwa [beq_self_eq_true] at this
theorem CQ(i:Int)(t u:Tok):RcNeAt A s (.int i t) (.int i u) (!true):=by
 have:=RcNeAt.int_int (A:=A) (s:=s) i t i u
 rwa [beq_self_eq_true] at this
theorem HN{t i j:Nat}(e:eqT t i j y=some r)(dx:DenV V (.ti t i j) vx)(dy:DenV V y vy):EqR A s V r vx vy:=
 FM e λ t' i' j' ey h=>ay h λ q hz=>by
  have q:=(OA _ _).mp q;have q':=(OA _ _).mp q.1;obtain rfl:=OB q'.1;obtain rfl:=OB q'.2;obtain rfl:=OB q.2;subst ey;obtain rfl:=Oy hz;obtain⟨D,E,k1,rfl,a,b⟩:=dx.inv;obtain⟨D',E',k2,rfl,c,e⟩:=dy.inv;rw[<-Oy (a.symm.trans c),<-Oy (b.symm.trans e)];exact .mk' (b:=true) (.bool true) (Cj _ k1 k2) (λ J J=>nofun) (λ J=>rfl) λ J=>CQ _ k1 k2
set_option tactic.hygienic true in
theorem u9{D:Desc}(b:D.isI=false)(c:D.isB=false):D.kind≠bp/\D.kind≠bq:=by
 rcases D with⟨⟩
 case int=>exact nof b.symm
 case bool=>exact nof c.symm
 case row p _ _ _=>rcases p with⟨⟩<;>exact⟨λ h=>absurd (Rb h).1 (by decide),λ h=>absurd (Rb h).1 (by decide)⟩
 all_goals exact⟨λ h=>absurd (Rb h).1 (by decide),λ h=>absurd (Rb h).1 (by decide)⟩
theorem qf{i:Nat}(d:DenV V (.kd i) v):∃ x t,v=.str x t/\x.cps.toList≠bp/\x.cps.toList≠bq:=by
 obtain⟨D,x,t,rfl,a,b,c,e⟩:=d.inv;exact⟨x,t,rfl,e▸(u9 b c).1,e▸(u9 b c).2⟩
theorem lB{x z:List Nat}(h:(au x bp||au x bq)=true)(h1:z≠bp)(h2:z≠bq):au z x=false/\au x z=false:=by
 rw[P9,bo,bo,decide_eq_true_eq,decide_eq_true_eq] at h;rw[bo,bo];have:z≠x:=λ e=>h.elim (λ q=>h1 (e.trans q)) λ q=>h2 (e.trans q);exact⟨decide_eq_false this,decide_eq_false (Sf this)⟩
theorem HR{i:Nat}(e:eqK y=some r)(dx:DenV V (.kd i) vx)(dy:DenV V y vy):EqR A s V r vx vy:=by
 obtain⟨x,t,rfl,h1,h2⟩:=qf dx;exact(AV.casesOn (motive_1:=λ y=>eqK y=some r->DenV V y vy->EqR A s V r (.str x t) vy) y aP aq aq aq aq (λ l=>λ e d=>ay e λ h hz=>Oy hz▸d.inv.rec λ J J q=>q.1▸lL rfl q.2 (by rw[(lB h h1 h2).1];exact .bool false)) aq aq aq aq aq aq aq aP aP aq aP aP fP (λ j=>λ e d=>Oy e▸(qf d).rec λ J J q=>q.1▸lL rfl rfl (.ub _))) e dy
theorem HO{a:Str}{x:List Nat}(hx:a.cps.toList=x)(e:eqS x y=some r)(dy:DenV V y vy):EqR A s V r (.str a t) vy:=
 (AV.casesOn (motive_1:=λ y=>eqS x y=some r->DenV V y vy->EqR A s V r (.str a t) vy) y aP aq aq aq aq (λ l=>λ e d=>Oy e▸d.inv.rec λ J J q=>q.1▸lL hx q.2 (.bool _)) aq aq aq aq aq aq aq aP aP aq aP aP fP (λ j=>λ e d=>ay e λ h hz=>Oy hz▸(qf d).rec λ z u q=>q.1▸lL hx rfl (by rw[(lB h q.2 q.3).2];exact .bool false))) e dy
theorem Kv{t i j t' i' j':Nat}(q:(OC t t'&&OC i i'&&OC j j')=true)(dx:RpV V (.ti t i j) d)(dy:RpV V (.ti t' i' j') e):d=e:=by
 have q:=(OA _ _).mp q;have q':=(OA _ _).mp q.1;obtain rfl:=OB q'.1;obtain rfl:=OB q'.2;obtain rfl:=OB q.2;obtain⟨D,E,rfl,a,b⟩:=dx.inv;obtain⟨D',E',rfl,c,e⟩:=dy.inv;rw[Oy (a.symm.trans c),Oy (b.symm.trans e)]
theorem x9{f:List AV->List AV->Bool}(hf:∀ (xs ys:List AV) (ds es:List PyData),f xs ys=true->All2 (RpV V) xs ds->All2 (RpV V) ys es->ds=es)(h:MX f x y=true)(dx:RpV V x d)(dy:RpV V y e):d=e:=
 bB h λ u h=>(AV.casesOn (motive_1:=λ x=>rpQ f x y=some u->RpV V x d->d=e) x (λ h J=>am h) (λ a=>λ h dx=>pa h λ b ey h=>ay h λ q J=>(dx.inv:d=.bool a).trans ((congrArg PyData.bool (Pf q)).trans (ey▸dy:RpV V (.bool b) e).inv.symm)) (λ J=>λ h J=>am h) (λ a=>λ h dx=>qo h λ b ey h=>ay h λ q J=>(dx.inv:d=.int a).trans ((congrArg PyData.int (of_decide_eq_true q)).trans (ey▸dy:RpV V (.int b) e).inv.symm)) (λ J=>λ h J=>am h) (λ a=>λ h dx=>fU h λ b ey h=>ay h λ q J=>dx.inv.elim λ x1 p1=>(ey▸dy:RpV V (.str b) e).inv.elim λ x2 p2=>p1.1.trans ((congrArg PyData.str (kP (p1.2.trans ((of_decide_eq_true (bo▸q):a=b).trans p2.2.symm)))).trans p2.1.symm)) (λ J=>λ h J=>am h) (λ J=>λ h J=>am h) (λ J=>λ h J=>am h) (λ J=>λ h J=>am h) (λ J=>λ h J=>am h) (λ J=>λ h J=>am h) (λ a=>λ h dx=>F6 h λ b ey h=>ay h λ q J=>dx.inv.elim λ ds p1=>(ey▸dy:RpV V (.rp b) e).inv.elim λ es p2=>p1.1.trans ((congrArg PyData.tuple (hf _ _ _ _ q p1.2 p2.2)).trans p2.1.symm)) (λ h J=>am h) (λ h J=>am h) (λ J=>λ h J=>am h) (λ h J=>am h) (λ h J=>am h) (λ t i j=>λ h dx=>FM (v:=y) (k:=λ t' i' j'=>ifK (OC t t'&&OC i i'&&OC j j') (some ())) h λ t' i' j' ey h=>ay h λ q J=>Kv q dx (ey▸dy)) (λ J=>λ h J=>am h)) h dx
theorem Cc(n:Nat)(xs ys:List AV)(ds es:List PyData)(h:t4 n xs ys=true)(dx:All2 (RpV V) xs ds)(dy:All2 (RpV V) ys es):ds=es:=by
 induction n generalizing xs ys ds es with
 |
  zero=>
  have h:=(OA _ _).mp h;obtain rfl:=O8.mp h.1;obtain rfl:=O8.mp h.2;rcases dx;rcases dy;rfl
 |
  succ n ih=>
  rcases xs with _|⟨x,xs⟩
  ·obtain rfl:=O8.mp h;rcases dx;rcases dy;rfl
  ·rcases ys with _|⟨y,ys⟩
   ·exact nof h
   ·have h:=(OA _ _).mp h;obtain⟨d,r,rfl,a1,a2⟩:=dx.cons_inv;obtain⟨e,q,rfl,b1,b2⟩:=dy.cons_inv;rw[x9 ih h.1 a1 b1,ih _ _ _ _ h.2 a2 b2]
theorem wL{p:Bool×Bool}{a:Bool}(e:bOf x=some p)(d:DenV V x (.bool a)):p.1=a:=
 (AV.casesOn (motive_1:=λ x=>bOf x=some p->DenV V x (.bool a)->p.1=a) x aP (λ b=>λ e d=>(congrArg R7 (Oy e)).symm.trans (Rp d.inv).symm) (λ b=>λ e d=>(congrArg R7 (Oy e)).symm.trans (Rp d.inv).symm) aq aq aq aq aq aq aq aq aq aq aP aP aq aP aP fP aq) e d
theorem EL{a b:Bool}(e:NE x y=some r)(dx:DenV V x (.bool a))(dy:DenV V y (.bool b)):DenV V r (.bool (a&&b)):=by
 refine aw e λ p ep h=>?_;obtain⟨p1,p2⟩:=p;obtain rfl:p1=a:=wL ep dx;rcases p2 with⟨⟩
 ·refine aw h λ q eq h=>?_;obtain⟨q1,q2⟩:=q;obtain rfl:q1=b:=wL eq dy;rcases q2 with⟨⟩
  ·exact Oy h▸.sb _
  ·rcases q1 with⟨⟩
   ·rw[Tk];exact Oy h▸.bool _
   ·rw[TL];exact Oy h▸.sb _
 ·rcases p1 with⟨⟩
  ·exact Oy h▸.bool false
  ·exact Oy h▸dy
theorem mF:yM xs ys=decide (xs.length=ys.length):=by
 induction xs generalizing ys with
 | nil=>rcases ys with _|⟨y,ys⟩<;>rfl
 | cons x xs ih=>
  rcases ys with _|⟨y,ys⟩
  ·rfl
  ·exact(ih (ys:=ys)).trans (decide_eq_decide.mpr Nat.succ_inj.symm)
theorem range_all(n:Nat)(e:Nat->Bool):(Sd (n+1)).all e=(e 0&&(Sd n).all λ j=>e (j+1)):=by
 rw[List.range_succ_eq_map,RH,List.all_map];rfl
theorem AW{eq:AV->AV->Option AV}(he:∀ {x y r vx vy},eq x y=some r->DenV V x vx->DenV V y vy->EqR A s V r vx vy){vs ws:List Value}(h:eqL eq xs ys=some r)(dx:All2 (DenV V) xs vs)(dy:All2 (DenV V) ys ws) :
 ∃ e:Nat->Bool,(∀ j (h1:j<vs.length) (h2:j<ws.length),EqAt A s vs[j] ws[j] (e j)/\(vs[j]=ws[j]->e j=true))/\DenV V r (.bool ((Sd (min vs.length ws.length)).all e)):=by
 induction dx generalizing ys ws r with
 | nil=>exact⟨λ J=>true,(λ j h1=>absurd h1 (SY _)),Oy h▸(by rw[Uy,Nat.zero_min];exact .bool true)⟩
 | cons dx dxs ih=>
  rcases dy with _|⟨dy,dys⟩
  ·exact⟨λ J=>true,(λ j J h1=>absurd h1 (SY _)),Oy h▸(by rw[Uy,Nat.min_zero];exact .bool true)⟩
  ·refine aw h λ a ea h=>aw h λ b eb h=>?_;obtain⟨c,d1,_,d3,d4,_⟩:=he ea dx dy;obtain⟨e,h1,h2⟩:=ih eb dys;refine⟨λ j=>P2 j c e,λ j=>?_,?_⟩
   ·exact P2 j (λ J J=>⟨d3,d4⟩) λ j j1 j2=>h1 j (Rj j1) (Rj j2)
   ·rw[Q1,Q1,Nat.succ_min_succ,range_all];exact EL h d1 h2
theorem aJ{o:AO}(H:St X V σ s)(e:σ.get x=some o)(nd:o≠.dead)(d:DenV V x v):∃ fz a ob,v=.ref a/\s.heap.get? a=some ob/\DenO X fz V ob o:=
 (AV.casesOn (motive_1:=λ x=>σ.get x=some o->DenV V x v->∃ fz a ob,v=.ref a/\s.heap.get? a=some ob/\DenO X fz V ob o) x aP aq aq aq aq aq aq aq (λ i=>λ e d=>d.inv.elim λ a q=>(H.own _ _ e nd).rec λ b ob r=>⟨_,a,ob,q.1,(Oy (r.1.symm.trans q.2):b=a)▸r.2,r.3⟩) (λ j=>λ e d=>d.inv.elim λ a q=>(H.frz _ _ e).rec λ b ob r=>⟨_,a,ob,q.1,(Oy (r.1.symm.trans q.2):b=a)▸H.stays _ _ r.2,r.3⟩) aq aq aq aP aP aq aP aP fP aq) e d
theorem aF(h:s.heap.get? a=some (bT vs n)):s.heap.IsList a vs:=⟨_,h,rfl,n,rfl⟩
theorem bE(h:s.heap.get? a=some (qY vs n)):s.heap.IsTuple a vs:=⟨_,h,rfl,n,rfl⟩
theorem fk(h:bz o=some xs):o=some (.lst xs):=vw ge h
theorem gH(h:dR o=some xs):o=some (.tup xs):=vw ik h
theorem mJ(h:jh o=true):o=some .ilaN:=bB h λ J e=>vw uA e
theorem DH{eq:AV->AV->Option AV}{a b:Option AO}(h:eqO eq a b=some r):(∃ xs ys,a=some (.lst xs)/\b=some (.lst ys)/\DI eq xs ys=some r)\/(∃ xs ys,a=some (.tup xs)/\b=some (.tup ys)/\DG eq xs ys=some r)\/(a=some .ilaN/\b=some (.lst [])/\.bool false=r):=by
 unfold eqO at h;rcases e:bz a with _|xs
 ·rw[e] at h;rcases e':dR a with _|xs
  ·rw[e'] at h;exact ay h λ q h=>aw h λ ys e2 h=>ay h λ q2 h=>.inr (.inr ⟨mJ q,(fk e2).trans (congrArg (some∘AO.lst) (O8.mp q2)),Oy h⟩)
  ·rw[e'] at h;exact aw h λ ys e2 h=>.inr (.inl ⟨xs,ys,gH e',gH e2,h⟩)
 ·rw[e] at h;exact aw h λ ys e2 h=>.inl ⟨xs,ys,fk e,fk e2,h⟩
theorem qb{a b:Addr}(ga:s.heap.get? a=some (bT vs n))(gb:s.heap.get? b=some (bT ws m))(e:Value.ref a=.ref b):vs=ws:=by
 obtain rfl:=Qo e;exact(Data.seq.inj (congrArg Obj.data (Oy (ga.symm.trans gb)))).1
theorem BB{a b:Addr}(ga:s.heap.get? a=some (qY vs n))(gb:s.heap.get? b=some (qY ws m))(e:Value.ref a=.ref b):vs=ws:=by
 obtain rfl:=Qo e;exact(Data.seq.inj (congrArg Obj.data (Oy (ga.symm.trans gb)))).1
theorem qa(hu:A.units<cLine){a b:Addr}(ga:s.heap.get? a=some (bT vs n))(gb:s.heap.get? b=some (bT ws m))(hne:vs.size≠ws.size):EqR A s V (.bool false) (.ref a) (.ref b):=
 have hsz:(vs.size != ws.size)=true:=bne_iff_ne.mpr hne
 .mk' cw (.lists_lengths (aF ga) (aF gb) hsz hu) (λ J J=>nofun) (λ e=>absurd (congrArg Array.size (qb ga gb e)) hne) λ J=>.lists_lengths (aF ga) (aF gb) hsz hu
theorem HP{eq:AV->AV->Option AV}(H:St X V σ s)(hu:A.units<cLine)(he:∀ {x y r vx vy},eq x y=some r->DenV V x vx->DenV V y vy->EqR A.in1 s V r vx vy)(h:eqO eq (σ.get x) (σ.get y)=some r)(dx:DenV V x vx)(dy:DenV V y vy) :
 EqR A s V r vx vy:=by
 rcases DH h with⟨xs,ys,e1,e2,h⟩|⟨xs,ys,e1,e2,h⟩|⟨e1,e2,h⟩
 ·obtain⟨f1,a,oa,rfl,ga,vs,n,rfl,da⟩:=aJ H e1 nofun dx
  obtain⟨f2,b,ob,rfl,gb,ws,m,rfl,db⟩:=aJ H e2 nofun dy
  have la:xs.length=vs.size:=da.length.trans OH;have lb:ys.length=ws.size:=db.length.trans OH;unfold DI at h;rw[mF,la,lb] at h;by_cases hl:vs.size=ws.size
  ·rw[decide_eq_true hl] at h;obtain⟨e,h1,h2⟩:=AW he h da db;rw[OH,OH,<-hl,Nat.min_self] at h2;have h1':∀ j (j1:j<vs.size) (j2:j<ws.size),EqAt A.in1 s vs[j] ws[j] (e j):=λ j j1 j2=>(h1 j j1 j2).1;refine .mk' h2 (.lists (aF ga) (aF gb) hl hu h1') (λ J J=>nofun) (λ q=>OP.mpr λ j hj=>?_) λ J=>.lists (aF ga) (aF gb) hl hu h1'
   have hj:=UF.mp hj;obtain rfl:=qb ga gb q;exact(h1 j hj hj).2 rfl
  ·rw[decide_eq_false hl] at h;exact Oy h▸qa hu ga gb hl
 ·obtain⟨f1,a,oa,rfl,ga,vs,n,rfl,da⟩:=aJ H e1 nofun dx
  obtain⟨f2,b,ob,rfl,gb,ws,m,rfl,db⟩:=aJ H e2 nofun dy
  have la:xs.length=vs.size:=da.length.trans OH;have lb:ys.length=ws.size:=db.length.trans OH;unfold DG at h;rcases er:eqL eq xs ys with _|r'
  ·rw[er] at h;exact am h
  ·rw[er] at h;obtain⟨e,h1,h2⟩:=AW he er da db;rw[OH,OH] at h2;have h1':∀ j (j1:j<vs.size) (j2:j<ws.size),EqAt A.in1 s vs[j] ws[j] (e j):=λ j j1 j2=>(h1 j j1 j2).1;have hd:DenV V r (.bool ((Sd (min vs.size ws.size)).all e&&vs.size==ws.size)):=by
    rw[mF,la,lb] at h;by_cases q:vs.size=ws.size
    ·rw[decide_eq_true q] at h;rw[beq_iff_eq.mpr q,TL];exact Oy h▸h2
    ·rw[decide_eq_false q] at h;rw[beq_eq_false_iff_ne.mpr q,Tk];exact Oy h▸.bool false
   refine .mk' hd (.tuples (bE ga) (bE gb) hu h1') (λ J J=>nofun) (λ q=>?_) λ J=>.tuples (bE ga) (bE gb) hu h1'
   obtain rfl:=BB ga gb q;rw[beq_self_eq_true,TL,Nat.min_self];exact OP.mpr λ j hj=>(h1 j (UF.mp hj) (UF.mp hj)).2 rfl
 ·obtain⟨f1,a,oa,rfl,ga,vs,n,rfl,q1,q2,da⟩:=aJ H e1 nofun dx
  obtain⟨f2,b,ob,rfl,gb,ws,m,rfl,db⟩:=aJ H e2 nofun dy
  have lb:0=ws.size:=db.length.trans OH;exact h▸qa hu ga gb (lb▸Qn q1)
theorem HL{ds es:List PyData}{t1 t2:Tok}(e:t4 30 xs ys=true)(a:All2 (RpV V) xs ds)(b:All2 (RpV V) ys es):EqR A s V (.bool true) (.str (PyData.list ds).shown t1) (.str (PyData.list es).shown t2):=by
 obtain rfl:=Cc (V:=V) 30 _ _ _ _ e a b;refine .mk' (b:=true) (.bool true) ?_ (λ J J=>nofun) (λ J=>rfl) λ J=>?_
 ·have:=RcAt.str_str (A:=A) (s:=s) (PyData.list ds).shown t1 (PyData.list ds).shown t2
  rwa [beq_self_eq_true] at this
 ·have:=RcNeAt.str_str (A:=A) (s:=s) (PyData.list ds).shown t1 (PyData.list ds).shown t2
  rwa [beq_self_eq_true] at this
theorem AU(H:St X V σ s)(n:Nat){A:Around}(hu:A.units+n<cLine)(h:eqV σ n x y=some r)(dx:DenV V x vx)(dy:DenV V y vy):EqR A s V r vx vy:=by
 induction n generalizing A x y r vx vy with
 | zero=>exact am h
 |
  succ n ih=>
  have obj:eqO (eqV σ n) (σ.get x) (σ.get y)=some r->EqR A s V r vx vy:=λ h=>HP H (OI (Pu _ _) hu) (λ e d1 d2=>ih (A:=A.in1) (by rw[show A.in1.units+n=A.units+(n+1) from Qs _ _ _];exact hu) e d1 d2) h dx dy
  exact(AV.casesOn (motive_1:=λ x=>(eqO (eqV σ n) (σ.get x) (σ.get y)=some r->EqR A s V r vx vy)->eqV σ (n+1) x y=some r->DenV V x vx->EqR A s V r vx vy) x (λ J h d=>(d.inv:vx=.none)▸HQ h dy) (λ b=>λ J h d=>(d.inv:vx=.bool b)▸AY h dy) (λ b=>λ J h d=>(d.inv:vx=.bool b)▸AY h dy) (λ i=>λ J h d=>d.inv.elim λ J q=>q▸AX h dy) (λ i=>λ J h d=>d.inv.elim λ J q=>q▸AX h dy) (λ l=>λ J h d=>d.inv.rec λ J J q=>q.1▸HO q.2 h dy) (λ l=>λ J h d=>d.inv.rec λ J J q=>q.1▸AT q.2 h dy) (λ l=>λ J h d=>(tF d).rec λ J J q=>q.1▸AT q.2 h dy) (λ J=>λ k h J=>k h) (λ J=>λ k h J=>k h) (λ J=>λ k h J=>k h) (λ J=>λ k h J=>k h) (λ l=>λ J h d=>F6 h λ l' ey h=>ay h λ e hz=>Oy hz▸d.inv.rec λ ds t1 a=>(ey▸dy:DenV V (.rp l') vy).inv.rec λ es t2 b=>a.1▸b.1▸HL e a.2 b.2) (λ k h J=>k h) (λ k h J=>k h) (λ J=>λ k h J=>k h) (λ k h J=>k h) (λ k h J=>k h) (λ J J J=>λ J h d=>HN h d dy) (λ J=>λ J h d=>HR h d dy)) obj h dx
end
end
section
universe u
open PySem PySem.W PyProof.Rows PySem.SeqAt
variable {r x y:AV} {fi:Int->Int->Bool} {b:List Nat} {prog:Program} {t u:Tok} {Q:VP} {v vx vy:Value} {w:World}
theorem Bf{a b:Nat}(h:¬ a<b):O0 a b=false:=Bool.eq_false_iff.mpr λ q=>h (OE q)
theorem uO{x y:Nat}{a b:List Nat}:cZ (x::a) (y::b)=if x=y then cZ a b else O0 x y:=by
 show(match OC x y with|true=>cZ a b|false=>O0 x y)=_
 rw[wF];by_cases h:x=y
 ·rw[decide_eq_true h,if_pos h]
 ·rw[decide_eq_false h,if_neg h]
theorem j7(x y:UInt8)(a b:List UInt8):RL (x::a) (y::b)=if x<y then .lt else if x>y then .gt else RL a b:=rfl
theorem yk(a b:List UInt8):(RL a b==.lt)=cZ (a.map (·.toNat)) (b.map (·.toNat)):=by
 induction a generalizing b with
 | nil=>rcases b<;>rfl
 | cons x a ih=>
  rcases b with _|⟨y,b⟩
  ·rfl
  ·rw[j7,O2,O2,uO];by_cases h1:x<y
   ·rw[if_pos h1,if_neg (show ¬ x.toNat=y.toNat from OX h1)];exact(SI h1).symm
   ·rw[if_neg h1];by_cases h2:x>y
    ·rw[if_pos h2,if_neg (show ¬ x.toNat=y.toNat from Qn h2)];exact(Bf h1).symm
    ·rw[if_neg h2,if_pos (show x.toNat=y.toNat from Ux (PQ.mp h2) (PQ.mp h1))];exact ih b
theorem ym(a b:List UInt8):(RL a b==.gt)=cZ (b.map (·.toNat)) (a.map (·.toNat)):=by
 induction a generalizing b with
 | nil=>rcases b<;>rfl
 | cons x a ih=>
  rcases b with _|⟨y,b⟩
  ·rfl
  ·rw[j7,O2,O2,uO];by_cases h1:x<y
   ·rw[if_pos h1,if_neg (show ¬ y.toNat=x.toNat from Qn h1)];exact(Bf (PQ.mpr (OU h1))).symm
   ·rw[if_neg h1];by_cases h2:x>y
    ·rw[if_pos h2,if_neg (show ¬ y.toNat=x.toNat from OX h2)];exact(SI h2).symm
    ·rw[if_neg h2,if_pos (show y.toNat=x.toNat from Ux (PQ.mp h1) (PQ.mp h2))];exact ih b
theorem kQ:Slot "bytes" (cmpInfo .Lt).2.1 "bytes.__lt__":=
 .of (owner:="bytes") (n:="__lt__") (by rw[PO,Pg];kernel_rfl) (by decide +kernel) (by decide +kernel) (by decide +kernel)
  (by first|exact .inl (by decide +kernel)|exact .inr (by decide +kernel)) (by rw[P1];kernel_rfl)
theorem jQ:RD table "bytes.__lt__"=some P6.«bytes.__lt__»:=SB (by kernel_rfl)
theorem jB(a b:Value):Tc "bytes.__lt__" ⟨[a,b],[]⟩:=by
 unfold Tc;rw[signature?_of (id:="bytes.__lt__") (n:=['_','_','t','l','_','_']) (o:=['s','e','t','y','b']) (by kernel_rfl) FB.owner_bytes];kernel_rfl
theorem kR:Slot "bytes" (cmpInfo .Gt).2.1 "bytes.__gt__":=
 .of (owner:="bytes") (n:="__gt__") (by rw[PO,Pg];kernel_rfl) (by decide +kernel) (by decide +kernel) (by decide +kernel)
  (by first|exact .inl (by decide +kernel)|exact .inr (by decide +kernel)) (by rw[P1];kernel_rfl)
theorem jR:RD table "bytes.__gt__"=some P6.«bytes.__gt__»:=SB (by kernel_rfl)
theorem jC(a b:Value):Tc "bytes.__gt__" ⟨[a,b],[]⟩:=by
 unfold Tc;rw[signature?_of (id:="bytes.__gt__") (n:=['_','_','t','g','_','_']) (o:=['s','e','t','y','b']) (by kernel_rfl) FB.owner_bytes];kernel_rfl
theorem jN(b c:Array UInt8)(t u:Tok):Gives (P6.«bytes.__lt__» ⟨[.bytes b t,.bytes c u],[]⟩) (.val (.bool (cZ (b.toList.map (·.toNat)) (c.toList.map (·.toNat))))):=by
 refine .of_wp λ M A E s Q hq=>?_;show wpAny M A (QI (.bytes c u) (.type "bytes") >>= λ r=>_) _ E s;refine Oz (Qd (PU s c u) F.sub_bytes_bytes ?_);exact OD ⟨_,rfl,by rw[<-yk] at hq;exact hq⟩
theorem jO(b c:Array UInt8)(t u:Tok):Gives (P6.«bytes.__gt__» ⟨[.bytes b t,.bytes c u],[]⟩) (.val (.bool (cZ (c.toList.map (·.toNat)) (b.toList.map (·.toNat))))):=by
 refine .of_wp λ M A E s Q hq=>?_;show wpAny M A (QI (.bytes c u) (.type "bytes") >>= λ r=>_) _ E s;refine Oz (Qd (PU s c u) F.sub_bytes_bytes ?_);exact OD ⟨_,rfl,by rw[<-ym] at hq;exact hq⟩
section
variable {glb:List (Nat×AV)} {c:FC} {k:CC} {n:Nat} {s:Shared}
theorem yI{b c:Array UInt8}{E:VP}(h:Q (.bool (cZ (b.toList.map (·.toNat)) (c.toList.map (·.toNat)))) s):wpAny (model prog w) A (Tx .Lt (.bytes b t) (.bytes c u)) Q E s:=
 compareOp_gives (op:=.Lt) (PU s b t) (PU s c u) kQ jQ (jB _ _) (jN b c t u) (λ e=>nomatch e) h
theorem zc{b c:Array UInt8}{E:VP}(h:Q (.bool (cZ (c.toList.map (·.toNat)) (b.toList.map (·.toNat)))) s):wpAny (model prog w) A (Tx .Gt (.bytes b t) (.bytes c u)) Q E s:=
 compareOp_gives (op:=.Gt) (PU s b t) (PU s c u) kR jR (jC _ _) (jO b c t u) (λ e=>nomatch e) h
theorem nE{l:Bool}(e:lS x=some (b,l))(d:DenV V x v):∃ a t,v=.bytes a t/\a.toList.map (·.toNat)=b:=
 (AV.casesOn (motive_1:=λ x=>lS x=some (b,l)->DenV V x v->∃ a t,v=.bytes a t/\a.toList.map (·.toNat)=b) x aP aq aq aq aq aq (λ j=>λ e d=>(show j=b from congrArg R7 (Oy e))▸d.inv) (λ j=>λ e d=>(show _=b from congrArg R7 (Oy e))▸tF d) aq aq aq aq aq aP aP aq aP aP fP aq) e d
theorem i8{b:Bool}(e:GG x=some r)(d:DenV V x (.bool b)):DenV V r (.bool (!b)):=
 (AV.casesOn (motive_1:=λ x=>GG x=some r->DenV V x (.bool b)->DenV V r (.bool (!b))) x aP (λ j=>λ e d=>Oy e▸Rp d.inv▸.bool _) (λ j=>λ e d=>Oy e▸Rp d.inv▸.sb _) aq aq aq aq aq aq aq aq aq aq aP aP aq aP (λ e d=>Oy e▸.ub _) fP aq) e d
theorem Jz{o:Option AV}(h:(JA o σ).Sat Φ):∃ r,o=some r/\Φ (.v r,σ):=bn h λ r e h=>⟨r,e,h⟩
theorem tB(e:kl x=true)(d:DenV V x v):sX v=1:=
 d.rec (motive:=λ x v J=>kl x=true->sX v=1) nof (λ J=>nof) (λ J=>nof) (λ J J=>nof) (λ J J=>nof) (λ J J J=>rfl) (λ J J=>nof) (λ J J=>nof) (λ J=>nof) (λ J=>nof) (λ J=>nof) (λ J=>nof) (λ J J J=>rfl) (λ J=>nof) (λ J J J=>nof) (λ J J=>nof) (λ J=>nof) (λ J J J=>nof) (λ J J J J J J=>rfl) e
theorem pC(e:gY x=true)(d:DenV V x v):sX v=2:=
 d.rec (motive:=λ x v J=>gY x=true->sX v=2) nof (λ J J=>rfl) (λ J J=>rfl) (λ J J=>nof) (λ J J=>nof) (λ J J=>nof) (λ J J=>nof) (λ J J=>nof) (λ J=>nof) (λ J=>nof) (λ J=>nof) (λ J=>nof) (λ J J=>nof) (λ J=>nof) (λ J J J=>nof) (λ J J=>nof) (λ J=>nof) (λ J J J=>nof) (λ J J J J J=>nof) e
theorem tC(e:lE x=true)(d:DenV V x v):sX v=4:=bB e λ J e=>(eJ e d).elim λ J q=>q.1▸rfl
theorem tD(e:oJ x=true)(d:DenV V x v):sX v=3:=bB e λ p e=>(bl (i:=p.1) (l:=p.2) e d).elim λ J q=>q▸rfl
theorem GN(H:St X V σ s)(e:neK x y=true)(dx:DenV V x vx)(dy:DenV V y vy):neV vx vy=true:=by
 have go:∀ {t},sX vx=t+1->sX vy=t+1->neV vx vy=true:=λ {t} a b=>by
  unfold neV;rw[a,b,Uq];rfl
 unfold neK at e;rcases q:kl x&&kl y with _|_
 ·rw[q] at e;rcases q:gY x&&gY y with _|_
  ·rw[q] at e;rcases q:lE x&&lE y with _|_
   ·rw[q] at e;have q:=(OA _ _).mp e;exact go (tD q.1 dx) (tD q.2 dy)
   ·have q:=(OA _ _).mp q;exact go (tC q.1 dx) (tC q.2 dy)
  ·have q:=(OA _ _).mp q;exact go (pC q.1 dx) (pC q.2 dy)
 ·have q:=(OA _ _).mp q;exact go (tB q.1 dx) (tB q.2 dy)
theorem k7(e:Gi fi x y=some r)(dx:DenV V x vx)(dy:DenV V y vy):∃ i t j u,vx=.int i t/\vy=.int j u/\DenV V r (.bool (fi i j)):=by
 unfold Gi at e;rcases q:two (bI x) (bI y) with _|p
 ·rw[q] at e;refine ay e λ q e=>?_;have q:=(OA _ _).mp q;obtain⟨i,t,hx⟩:=d9 q.1 dx;obtain⟨j,u,hy⟩:=d9 q.2 dy;exact⟨_,_,_,_,hx,hy,Oy e▸.ub _⟩
 ·rw[q] at e;refine eG q λ e1 e2=>?_;obtain⟨t,hx⟩:=bl e1 dx;obtain⟨u,hy⟩:=bl e2 dy;exact⟨_,_,_,_,hx,hy,Oy e▸gT _ _⟩
theorem pM{fb:List Nat->List Nat->Bool}(e:Jy fi fb x y=some r)(dx:DenV V x vx)(dy:DenV V y vy):(∃ i t j u,vx=.int i t/\vy=.int j u/\DenV V r (.bool (fi i j))) \/
 (∃ a t b u,vx=.bytes a t/\vy=.bytes b u/\DenV V r (.bool (fb (a.toList.map (·.toNat)) (b.toList.map (·.toNat))))):=by
 unfold Jy at e;rcases q:two (lS x) (lS y) with _|p
 ·rw[q] at e;exact .inl (k7 e dx dy)
 ·rw[q] at e;refine eG q λ e1 e2=>.inr ?_;obtain⟨a,t,hx,h1⟩:=nE e1 dx;obtain⟨b,u,hy,h2⟩:=nE e2 dy;exact⟨_,_,_,_,hx,hy,by rw[h1,h2];exact Oy e▸gT _ _⟩
theorem mI{v:AV}(h:oF v=true):v=.none:=qh h
theorem yr(h:CH x=true)(d:DenV V x v):(v==.none)=false:=
 (AV.casesOn (motive_1:=λ x=>CH x=true->DenV V x v->(v==.none)=false) x (λ h J=>nof h) (λ J=>λ h J=>nof h) (λ J=>λ h J=>nof h) (λ J=>λ h J=>nof h) (λ J=>λ h J=>nof h) (λ J=>λ J d=>d.inv.rec λ J J q=>q.1▸rfl) (λ J=>λ J d=>d.inv.rec λ J J q=>q.1▸rfl) (λ J=>λ h J=>nof h) (λ J=>λ J d=>d.inv.elim λ J q=>q.1▸rfl) (λ J=>λ J d=>d.inv.elim λ J q=>q.1▸rfl) (λ a=>λ J d=>(d.inv:v=.ref a)▸rfl) (λ J=>λ h J=>nof h) (λ J=>λ h J=>nof h) (λ h J=>nof h) (λ h J=>nof h) (λ J=>λ h J=>nof h) (λ h J=>nof h) (λ h J=>nof h) (λ J J J=>λ h J=>nof h) (λ J=>λ h J=>nof h)) h d
theorem AL(e:isV x y=some r)(dx:DenV V x vx)(dy:DenV V y vy):∃ b,DenV V r (.bool b)/\((vy=.none/\b=(vx==.none))\/∃ a,vx=.ref a/\vy=.ref a/\b=true):=by
 unfold isV at e;rcases q:oF y with _|_
 ·rw[q] at e;rcases q2:jW x with _|i
  ·rw[q2] at e;refine dj e λ i ex e=>dj e λ j ey e=>ay e λ q ez=>?_;obtain rfl:=OB q;subst ex ey;obtain⟨a,hx,h1⟩:=dx.inv;obtain⟨b,hy,h2⟩:=dy.inv;obtain rfl:=Oy (h1.symm.trans h2);exact⟨true,Oy ez▸.bool true,.inr ⟨_,hx,hy,rfl⟩⟩
  ·rw[q2] at e;refine cj e λ j ey e=>ay e λ q ez=>?_;obtain rfl:=OB q;subst ey;obtain⟨a,hx,h1⟩:=eJ q2 dx;obtain⟨b,hy,h2⟩:=dy.inv;obtain rfl:=Oy (h1.symm.trans h2);exact⟨true,Oy ez▸.bool true,.inr ⟨_,hx,hy,rfl⟩⟩
 ·rw[q] at e;have hy:=my q dy;rcases q2:oF x with _|_
  ·rw[q2] at e;exact ay e λ q e=>⟨false,Oy e▸cw,.inl ⟨hy,(yr q dx).symm⟩⟩
  ·rw[q2] at e;exact⟨true,Oy e▸.bool true,.inl ⟨hy,by rw[my q2 dx];rfl⟩⟩
end
end
section
universe u
open PySem PySem.W PyProof.Rows PySem.SeqAt
variable {x y:AV} {ss:List (List Nat)} {xs:List AV} {vs:List Value} {o:Option AO} {a:Str} {vx:Value}
def cy(X:Cx)(cfg:Cfg):Prop:=∀ a xs,aX a cfg.gobs=some xs->∃ vs n,X.B.get? a=some (qY vs n)/\∀ V:Va,All2 (DenV V) xs vs.toList
section
variable {glb:List (Nat×AV)} {c:FC} {k:CC} {n:Nat} {s:Shared}
theorem mj(e:Fa o=some xs):o=some (.lst xs)\/o=some (.tup xs):=by
 unfold Fa at e;rcases q:o.bind jI with _|ys
 ·rw[q] at e;exact .inr (vw ik e)
 ·rw[q] at e;exact .inl (Oy e▸vw ge q)
theorem y4(e:o=some (.tup xs)):oC y o=true:=by
 unfold oC;rw[e];exact S7 _
theorem eH(G:cy X cfg)(H:St X V σ s){v:Value}(e:dJ cfg σ y=some xs)(d:DenV V y v):∃ a vs n,v=.ref a/\All2 (DenV V) xs vs.toList/\((s.heap.get? a=some (bT vs n)/\σ.get y=some (.lst xs))\/(s.heap.get? a=some (qY vs n)/\oC y (σ.get y)=true)):=by
 unfold dJ at e;rcases q:dc y with _|b
 ·rw[q] at e;rcases mj e with e|e
  ·obtain⟨f,a,ob,hv,g,vs,n,rfl,dd⟩:=aJ H e nofun d
   exact⟨a,vs,n,hv,dd,.inl ⟨g,e⟩⟩
  ·obtain⟨f,a,ob,hv,g,vs,n,rfl,dd⟩:=aJ H e nofun d
   exact⟨a,vs,n,hv,dd,.inr ⟨g,y4 e⟩⟩
 ·rw[q] at e;obtain⟨vs,n,h1,h2⟩:=G _ _ e;exact⟨_,vs,n,fm q d,h2 V,.inr ⟨H.bs _ _ h1,by unfold oC;rw[q];rfl⟩⟩
theorem rc(e:tJ xs=some ss)(d:All2 (DenV V) xs vs):All2 (λ l v=>∃ z t,v=Value.str z t/\z.cps.toList=l) ss vs:=by
 induction d generalizing ss with
 | nil=>obtain rfl:=Oy e;exact .nil
 | cons d dr ih=>exact fU e λ l q e=>aw e λ r q2 e=>Oy e▸.cons (q▸d:DenV V (.str l) _).inv (ih q2)
noncomputable def isS(a:Str)(v:Value):Bool:=(Qp v false false false ag ax ax (λ z J=>z==a) ax ag ag ag)
theorem EK{x:List Nat}(hx:a.cps.toList=x)(h:All2 (λ l v=>∃ z t,v=Value.str z t/\z.cps.toList=l) ss vs):vs.any (isS a)=wU x ss:=by
 induction h with
 | nil=>rfl
 |
  cons p r ih=>
  rw[List.any_cons,ih];refine p.rec λ z t q=>?_;show _=(au _ x||wU x _)
  rw[q.1,<-q.2,bo,<-hx,<-tK];rfl
theorem EM{t:Tok}(h:All2 (λ l v=>∃ z t,v=Value.str z t/\z.cps.toList=l) ss vs):∀ y∈vs,EqAt A s y (.str a t) (isS a y):=by
 induction h with
 | nil=>exact λ J h=>absurd h Pl
 | cons p r ih=>exact Py.mpr ⟨p.rec λ z u q=>q.1▸.str_str z u a t,ih⟩
theorem EO{x:List Nat}(hk:J2 ss=true)(n1:x≠bp)(n2:x≠bq):wU x ss=false:=by
 induction ss with
 | nil=>rfl
 |
  cons l r ih=>
  have hk:((au l bp||au l bq)&&J2 r)=true:=hk
  rw[OA] at hk;show(au l x||wU x r)=false
  rw[ih hk.2,(lB hk.1 n1 n2).2];rfl
theorem AI{x r:AV}{vs:Array Value}(e:K6 x xs=some r)(dx:DenV V x vx)(ds:All2 (DenV V) xs vs.toList):∃ a t,vx=.str a t/\(∀ A s,∀ y,y∈vs->EqAt A s y vx (isS a y))/\DenV V r (.bool (vs.any (isS a))):=by
 refine aw e λ ss es e=>?_;have h1:=rc es ds;have fin:∀ {a:Str} {t:Tok} {b:Bool},vx=.str a t->wU a.cps.toList ss=b->r=.bool b->∃ a t,vx=.str a t/\(∀ A s,∀ y,y∈vs->EqAt A s y vx (isS a y))/\DenV V r (.bool (vs.any (isS a))):=λ {a t b} hx hb hr=>
  ⟨a,t,hx,λ A s y hy=>hx▸EM h1 y (Array.mem_toList_iff.mpr hy),by rw[<-Array.any_toList,EK rfl h1,hb,hr];exact .bool b⟩
 exact(AV.casesOn (motive_1:=λ x=>GZ x ss=some r->DenV V x vx->∃ a t,vx=.str a t/\(∀ A s,∀ y,y∈vs->EqAt A s y vx (isS a y))/\DenV V r (.bool (vs.any (isS a)))) x aP aq aq aq aq (λ l=>λ e d=>d.inv.rec λ a t q=>fin q.1 (by rw[q.2]) (Oy e).symm) aq aq aq aq aq aq aq aP aP aq aP aP fP (λ i=>λ e d=>ay e λ hk hz=>(qf d).rec λ z t q=>fin q.1 (EO hk q.2 q.3) (Oy hz).symm)) e dx
theorem Io(G:cy X cfg){op:CmpOp}{vx vy:Value}{d:Nat}{E:VP}(hA:AOK X V σ A d 0)(H:St X V σ s)(dx:DenV V x vx)(dy:DenV V y vy)(h:(JA (LQ cfg σ op x y) σ).Sat Φ):wpAny (Mo X) A (Tx op vx vy) (PV X V σ Φ) E s:=by
 refine bn h λ r e h=>?_;have hu:A.units+12<cLine:=OI (Qw (OM hA.units (Pc (Ps 30 hA.dep) 10)) 12) (by decide)
 have fin:∀ {b},DenV V r (.bool b)->PV X V σ Φ (.bool b) s:=λ d=>PV.here H d h;rcases op with⟨⟩
 ·obtain⟨b,d1,d2,_⟩:=AU H 12 hu e dx dy;exact EqBoolInt.of_rc d2 (fin d1)
 ·exact ay e λ hk e=>aw e λ r0 e1 e2=>(AU H 12 hu e1 dx dy).elim λ b q=>EqBoolInt.of_rcne (q.5 (GN H hk dx dy)) (fin (i8 e2 q.1))
 ·rcases pM e dx dy with⟨i,t,j,u,rfl,rfl,dd⟩|⟨a,t,b,u,rfl,rfl,dd⟩
  ·exact lt_int (fin dd)
  ·exact yI (fin dd)
 ·obtain⟨i,t,j,u,rfl,rfl,dd⟩:=k7 e dx dy;exact le_int (fin dd)
 ·rcases pM (fi:=λ a b=>dW b a) (fb:=λ a b=>cZ b a) e dx dy with⟨i,t,j,u,rfl,rfl,dd⟩|⟨a,t,b,u,rfl,rfl,dd⟩
  ·exact gt_int (fin dd)
  ·exact zc (fin dd)
 ·obtain⟨i,t,j,u,rfl,rfl,dd⟩:=k7 (fi:=λ a b=>bY b a) e dx dy;exact ge_int (fin dd)
 ·obtain⟨b,d1,h1⟩:=AL e dx dy;rcases h1 with⟨rfl,rfl⟩|⟨a,rfl,rfl,rfl⟩
  ·exact is_none_gen (fin d1)
  ·exact wpAny_is_ref_self (fin d1)
 ·refine aw e λ r0 e1 e2=>?_;obtain⟨b,d1,h1⟩:=AL e1 dx dy;rcases h1 with⟨rfl,rfl⟩|⟨a,rfl,rfl,rfl⟩
  ·exact isnot_none_gen (fin (i8 e2 d1))
  ·exact wpAny_isNot_ref_self (fin (i8 e2 d1))
 ·refine aw e λ xs e1 e2=>?_;obtain⟨a,vs,n,rfl,ds,h1⟩:=eH G H e1 dy;obtain⟨z,t,rfl,he,dd⟩:=AI e2 dx ds;exact h1.elim (λ h1=>in_listAt _ (aF h1.1) (he _ _) (fin dd)) λ h1=>in_tupleAt _ (bE h1.1) (he _ _) (fin dd)
 ·refine aw e λ r0 e0 e3=>aw e0 λ xs e1 e2=>?_;obtain⟨a,vs,n,rfl,ds,h1⟩:=eH G H e1 dy;obtain⟨z,t,rfl,he,dd⟩:=AI e2 dx ds;exact h1.elim (λ h1=>notIn_listAt _ (aF h1.1) (he _ _) (fin (i8 e3 dd))) λ h1=>notIn_tupleAt _ (bE h1.1) (he _ _) (fin (i8 e3 dd))
theorem FJ{k:Bool->R}{E:VP}(H:St X V σ s)(dx:DenV V x vx)(h:(onT x cfg σ k).Sat Φ):wpAny (Mo X) A (Sx vx) (λ b s'=>St X V σ s'/\(k b).Sat Φ) E s:=by
 have fin:∀ {b},vx=.bool b->(k b).Sat Φ->wpAny (Mo X) A (Sx vx) (λ b s'=>St X V σ s'/\(k b).Sat Φ) E s:=λ e h=>e▸TQ ⟨H,h⟩;exact(AV.casesOn (motive_1:=λ x=>(onT x cfg σ k).Sat Φ->DenV V x vx->wpAny (Mo X) A (Sx vx) (λ b s'=>St X V σ s'/\(k b).Sat Φ) E s) x (λ h J=>h.elim) (λ b=>λ h d=>fin d.inv h) (λ b=>λ h d=>fin d.inv (Qx (motive:=λ c=>b=c->(k c).Sat Φ) b h.2 h.1 rfl)) (λ J=>λ h J=>h.elim) (λ J=>λ h J=>h.elim) (λ J=>λ h J=>h.elim) (λ J=>λ h J=>h.elim) (λ J=>λ h J=>h.elim) (λ J=>λ h J=>h.elim) (λ J=>λ h J=>h.elim) (λ J=>λ h J=>h.elim) (λ J=>λ h J=>h.elim) (λ J=>λ h J=>h.elim) (λ h J=>h.elim) (λ h J=>h.elim) (λ J=>λ h J=>h.elim) (λ h J=>h.elim) (λ h d=>d.inv.elim λ b q=>fin q (Qx (motive:=λ b=>(k b).Sat Φ) b h.2 h.1)) (λ J J J=>λ h J=>h.elim) (λ J=>λ h J=>h.elim)) h dx
theorem GL{E:VP}(H:St X V σ s)(dx:DenV V x vx)(h:(JG x σ).Sat Φ):wpAny (Mo X) A (unaryOp .USub vx) (PV X V σ Φ) E s:=
 bn h λ p e h=>(bl (i:=p.1) (l:=p.2) e dx).elim λ t q=>q▸neg_int (PV.int H h)
end
end
section
universe u
open PySem PySem.W PyProof.Rows PySem.SeqAt
variable {i x:AV} {a t th:Addr} {vs:Array Value} {d:Desc} {j:Int} {es:List (List Nat×AV)} {xs:List AV} {l:List Nat} {N m n:Nat} {v vi:Value}
section
variable {glb:List (Nat×AV)} {c:FC} {k:CC} {n:Nat} {s:Shared}
theorem Dt(h:0<=j)(e:SP j N=some n):n=j.toNat:=by
 unfold SP at e;rw[if_neg (QV.mpr h)] at e;by_cases q:(decide (0<=j)&&decide (j<(N:Int)))=true
 ·exact(Oy ((if_pos q).symm.trans e)).symm
 ·exact am ((if_neg q).symm.trans e)
theorem Ds(h:j<0)(e:SP j N=some n):-(N:Int)<=j/\(j+N).toNat=n:=by
 unfold SP at e;rw[if_pos h] at e;by_cases q:(decide (0<=j+(N:Int))&&decide (j+(N:Int)<(N:Int)))=true
 ·exact⟨Int.neg_le_of_neg_le (by have:=of_decide_eq_true ((OA _ _).mp q).1;omega),Oy ((if_pos q).symm.trans e)⟩
 ·exact am ((if_neg q).symm.trans e)
theorem I0(h:s.heap.get? a=some (bT vs m)\/s.heap.get? a=some (qY vs m)){u:Tok}(hn:SP j vs.size=some n)(hlo:-(2^63)<=j)(hhi:j<2^63)(hv:vs[n]?=some v){Q:VP}{E:VP}(q:Q v s) :
 wpAny (Mo X) A (Ql (.ref a) (.int j u)) Q E s:=by
 rcases h with h|h
 ·by_cases hj:j<0
  ·have r:=Ds hj hn;exact wpAny_getItem_list_neg (aF h) hj r.1 hlo (r.2.symm▸hv) q
  ·exact wpAny_getItem_list (aF h) (QV.mp hj) hhi (Dt (QV.mp hj) hn▸hv) q
 ·exact getItem_tuple ⟨_,h,rfl,_,rfl⟩ hlo hhi hn hv q
theorem HC(e:idx N j=some n):SP j N=some n/\-(2^63)<=j/\j<2^63:=by
 refine ay e λ hN e=>?_;have hN:N<1000000:=OE hN;rcases j with m|m
 ·refine ay e λ h e=>?_;have h:m<N:=OE h;obtain rfl:=Oy e;exact⟨To (Qt m) (Qv.mpr h),Qz (by decide) (Qt m),R5 (Qv.mpr (S4 h hN)) (by decide)⟩
 ·refine ay e λ h e=>?_;have h:m<N:=OE h;obtain rfl:=Oy e;have e1:Int.negSucc m+(N:Int)=((N-1-m:Nat):Int):=by omega
  refine⟨?_,by omega,R5 (Int.negSucc_lt_zero m) (by decide)⟩
  unfold SP;rw[if_pos (Int.negSucc_lt_zero m),e1];exact if_pos ((OA _ _).mpr ⟨decide_eq_true (Qt _),decide_eq_true (Qv.mpr (OI (S9 _ _) (Nat.sub_lt (OI (Pk _) h) (by decide))))⟩)
theorem HS{x y:AV}(h:Nl (two (iG x) (iG y))=true):y=x:=by
 rcases e:two (iG x) (iG y) with _|p
 ·rw[e] at h;exact nof h
 ·rw[e] at h;exact eG e λ e1 e2=>by rw[ie e1,ie e2,of_decide_eq_true h]
theorem zk{l:List AV}(h:v6 x l=true):x∈l:=by
 induction l with
 | nil=>exact nof h
 | cons y r ih=>exact((P9 _ _).mp h).elim (λ h=>HS h▸.head _) λ h=>.tail _ (ih h)
theorem yh{g:Sg}{xs seen:List AV}(h:(rk g m xs seen).Sat Φ)(hs:∀ y∈seen,(val y g).Sat Φ):∀ j<m,∃ x,xs[j]?=some x/\(val x g).Sat Φ:=by
 induction m generalizing xs seen with
 | zero=>exact λ j h=>absurd h (SY _)
 |
  succ m ih=>
  rcases xs with _|⟨x,r⟩
  ·exact h.elim
  ·have h:(match v6 x seen with|true=>rk g m r seen|false=>.both (val x g) (rk g m r (x::seen))).Sat Φ:=h
   have fin:(val x g).Sat Φ->(∀ j<m,∃ x,r[j]?=some x/\(val x g).Sat Φ)->∀ j<m+1,∃ y,(x::r)[j]?=some y/\(val y g).Sat Φ:=λ hx k j hj=>
    P2 (motive:=λ j=>j<m+1->∃ y,(x::r)[j]?=some y/\(val y g).Sat Φ) j (λ J=>⟨x,rfl,hx⟩) (λ j hj=>k j (Rj hj)) hj
   rcases e:v6 x seen with _|_
   ·rw[e] at h;exact fin h.1 (ih h.2 (Py.mpr ⟨h.1,hs⟩))
   ·rw[e] at h;exact fin (hs _ (zk e)) (ih h hs)
theorem wT{α:Type}{l m:List α}{i:Nat}{c:α}{P:Prop}(e:(l++m)[i]?=some c)(p:l[i]?=some c->P)(q:∀ k,i=l.length+k->m[k]?=some c->P):P:=by
 rcases Up i l.length with h|h
 ·exact p (by rwa [OT h] at e)
 ·exact q (i-l.length) (Tf h).symm (by rwa [OL h] at e)
theorem zZ{α:Type}(l m:List α)(k:Nat):(l++m)[l.length+k]?=m[k]?:=by
 rw[OL (Pu _ _),PY]
theorem I4{α:Type}{l m:List α}{i:Nat}{c:α}(e:l[i]?=some c):(l++m)[i]?=some c:=by
 rw[OT (OJ.mp e).1];exact e
theorem H7(d:Desc):∃ r,(aZ d 0)[0]?=some (.tup (.frz 1::r)):=by rcases d with⟨⟩<;>exact⟨_,rfl⟩
theorem LM(d:Desc):∃ o,(aZ d 0)[1]?=some o:=by rcases d with⟨⟩<;>exact⟨_,rfl⟩
theorem KE(h:OpdAt X V.K d t th):(∃ ob,V.K t ob)/\∃ ob,V.K th ob:=
 h.2.elim λ φ' p=>⟨(H7 d).elim λ r hh=>(p.4 0 _ hh).rec λ a ob q=>⟨ob,(Oy (q.1.symm.trans p.1):a=t)▸q.2⟩,(LM d).elim λ o hh=>(p.4 1 _ hh).rec λ a ob q=>⟨ob,(Oy (q.1.symm.trans p.2):a=th)▸q.2⟩⟩
theorem St.draw(H:St X V σ s)(h:OpdAt X V.K d t th):V.Le ⟨V.ρ,V.φ++[t,th],V.K,V.ds++[d]⟩/\St X ⟨V.ρ,V.φ++[t,th],V.K,V.ds++[d]⟩ ⟨σ.own,σ.n,⟨σ.frz.l++[.otp σ.frz.nd (σ.frz.l.length+1),.oth σ.frz.nd],σ.frz.nd+1,σ.frz.facts⟩⟩ s:=by
 have hle:V.Le ⟨V.ρ,V.φ++[t,th],V.K,V.ds++[d]⟩:=⟨id,I4,id,I4⟩;have hd:(V.ds++[d])[σ.frz.nd]?=some d:=H.lenD▸zZ V.ds [d] 0;have h0:(V.φ++[t,th])[σ.frz.l.length]?=some t:=H.lenF▸zZ V.φ [t,th] 0;have h1:(V.φ++[t,th])[σ.frz.l.length+1]?=some th:=H.lenF▸zZ V.φ [t,th] 1;have kk:=KE (V:=V) h;refine⟨hle,{ H with lenF:=?_,own:=λ i o e nd=>OwnAt.mono hle (λ J J J=>id) (H.own i o e nd),frz:=λ j o e=>wT e (λ e=>FrzAt.mono hle (H.frz j o e)) λ k q e2=>?_,lenD:=?_,dsok:=λ i d' e=>wT e (H.dsok i d') λ k q e2=>?_,facts:=λ a b c e hf=>E2.imp (λ J J q=>⟨hle.ds q.1,hle.ds q.2,q.3⟩) (H.facts a b c e hf) }⟩
 ·show(V.φ++[t,th]).length=(σ.frz.l++[_,_]).length;rw[OW,OW,H.lenF];rfl
 ·subst q;rcases k with _|_|k
  ·obtain rfl:=Oy e2;exact kk.1.elim λ ob k0=>⟨t,ob,h0,k0,trivial,d,th,hd,h1,h⟩
  ·obtain rfl:=Oy e2;exact kk.2.elim λ ob k1=>⟨th,ob,h1,k1,trivial,d,t,hd,h⟩
  ·exact am e2
 ·exact OW.trans (congrArg (·+1) H.lenD)
 ·rcases k with _|k
  ·exact Oy e2▸h.1
  ·exact am e2
theorem kZ(H:St X V σ s)(h:OpdAt X V.K d t th)(hs:(ri σ).Sat Φ):PV X V σ Φ (.ref t) s:=by
 unfold ri at hs;rw[dQ] at hs;exact⟨_,⟨σ.own,σ.n,⟨σ.frz.l++[AO.otp σ.frz.nd (σ.frz.l.length+1),AO.oth σ.frz.nd],σ.frz.nd+1,σ.frz.facts⟩⟩,.frz σ.frz.l.length,(H.draw h).1,⟨λ i es e=>⟨es,e⟩,λ i c d e=>e⟩,(H.draw h).2,.frz (H.lenF▸zZ V.φ [t,th] 0),hs⟩
theorem rK(l:List Nat)(p:List Nat×AV)(r:List (List Nat×AV)):jK l (p::r)=if p.1=l then some p.2 else jK l r:=by
 show(match au p.1 l with|true=>some p.2|false=>jK l r)=_
 rw[bo];by_cases h:p.1=l
 ·rw[decide_eq_true h,if_pos h]
 ·rw[decide_eq_false h,if_neg h]
set_option tactic.hygienic true in
theorem lw{K:Type}[DecidableEq K]{enc:K->List Nat}(inj:∀ a b,enc a=enc b->a=b)(k:K){kvs:List (K×Value)}(h:All2 (KvDen enc V) es kvs):match jK (enc k) es with
 | some v=>∃ y,valueAt kvs k=some y/\DenV V v y
 | none=>valueAt kvs k=none:=by
 induction h with
 | nil=>rfl
 |
  cons e hr ih=>
  rw[rK,<-e.1]
  rename_i p q r kr
  by_cases h:q.1=k
  ·rw[if_pos (congrArg enc h)];exact⟨q.2,by simp [valueAt,h],e.2⟩
  ·rw[if_neg λ x=>h (inj _ _ x),show valueAt (q::kr) k=valueAt kr k from by simp [valueAt,h]]
   exact ih
theorem qw(a b:Str)(h:DL a=DL b):a=b:=kP h
theorem qx(a b:List UInt8)(h:DM a=DM b):a=b:=(Re (λ J J q=>Uv.mp q)).mp h
theorem gW(e:ow false x=some l)(d:DenV V x v):∃ z t,v=.str z t/\DL z=l:=
 (AV.casesOn (motive_1:=λ x=>ow false x=some l->DenV V x v->∃ z t,v=.str z t/\DL z=l) x aP aq aq aq aq (λ j=>λ e d=>Oy e▸d.inv) aq aq aq aq aq aq aq aP aP aq aP aP fP aq) e d
theorem jd(e:ow true x=some l)(d:DenV V x v):∃ z t,v=.bytes z t/\DM z.toList=l:=
 (AV.casesOn (motive_1:=λ x=>ow true x=some l->DenV V x v->∃ z t,v=.bytes z t/\DM z.toList=l) x aP aq aq aq aq aq (λ j=>λ e d=>Oy e▸d.inv) aq aq aq aq aq aq aP aP aq aP aP fP aq) e d
theorem iK(z:Str)(t:Tok):(strKind X.prog X.w).is z (.str z t)=true:=strKind_is _ _ _ _
theorem lF(z:Array UInt8)(t:Tok):(Tq X.prog X.w).is z.toList (.bytes z t)=true:=by simp [Tq,W.isBytes]
theorem HE{b:Bool}{fz:Bool}{ob:Obj}(g:s.heap.get? a=some ob)(dd:DenO X fz V ob (.dct b es)){i v:AV}(el:ow b i=some l)(di:DenV V i vi)(ev:jK l es=some v)(H:St X V σ s){E:VP}(h:(val v σ).Sat Φ):wpAny (Mo X) A (Ql (.ref a) vi) (PV X V σ Φ) E s:=by
 rcases b with⟨⟩
 ·obtain⟨kvs,hk,hd⟩:=dd;obtain⟨z,t,rfl,rfl⟩:=gW el di;have:=lw qw z hd;rw[ev] at this;exact this.elim λ y q=>wpAny_getItem_of (iK z t) (QO.mpr ⟨ob,g,hk⟩).mapOf q.1 (PV.here H.toks q.2 h)
 ·obtain⟨kvs,hk,hd⟩:=dd;obtain⟨z,t,rfl,rfl⟩:=jd el di;have:=lw qx z.toList hd;rw[ev] at this;exact this.elim λ y q=>wpAny_getItem_of (lF z t) (QO.mpr ⟨ob,g,hk⟩).mapOf q.1 (PV.here H.toks q.2 h)
theorem yX{E:VP}(H:St X V σ s)(h1:s.heap.get? a=some (bT vs n)\/s.heap.get? a=some (qY vs n))(ds:All2 (DenV V) xs vs.toList)(di:DenV V i vi)(h:(Dj σ xs i).Sat Φ):wpAny (Mo X) A (Ql (.ref a) vi) (PV X V σ Φ) E s:=by
 have hl:xs.length=vs.size:=ds.length.trans OH;unfold Dj at h;rcases e:iG i with _|j
 ·rw[e] at h;refine bn h λ m em h=>az h λ hm h=>?_;obtain⟨k,t,rfl,h2,h3⟩:=pI em di;have hm:m<1000000:=OE hm;obtain⟨z,e,hz⟩:=yh h (λ J hy=>absurd hy Pl) k.toNat ((Int.toNat_lt h2).mpr h3);obtain⟨y,ey,dy⟩:=ds.at_ e;have hk:k<2^63:=R5 h3 (R5 (Qv.mpr hm) (by decide))
  exact I0 h1 (To h2 ((Int.toNat_lt h2).mp (hl▸(OJ.mp e).1))) (Qz (by decide) h2) hk (O5▸ey) (PV.here H dy hz)
 ·rw[e] at h;refine bn h λ m em h=>bn h λ v ev h=>?_;obtain⟨t,rfl⟩:=jj e di;obtain⟨y,ey,dy⟩:=ds.at_ ev;obtain⟨e1,e2,e3⟩:=HC (hl▸em);exact I0 h1 e1 e2 e3 (O5▸ey) (PV.here H dy h)
theorem yW{k:Nat}{E:VP}(H:St X V σ s)(hf:FzOK X V a (.wld k))(di:DenV V i vi)(h:(on (vRg i) λ m=>aR (P5 m k&&O0 m 1000000) (ri σ)).Sat Φ):wpAny (Mo X) A (Ql (.ref a) vi) (PV X V σ Φ) E s:=by
 refine bn h λ m em h=>az h λ hm h=>?_;have hm:=(OA _ _).mp hm;obtain⟨j,t,rfl,h2,h3⟩:=pI em di;obtain⟨vs,n,x4,x5,x6⟩:=hf;have hlt:j.toNat<vs.size:=Pb ((Int.toNat_lt h2).mpr h3) (x5▸OE hm.1);obtain⟨t',th,d,e1,e2⟩:=x6 vs[j.toNat] (Array.mem_toList_iff.mpr (Array.getElem_mem hlt));have hj:j<2^63:=R5 h3 (R5 (Qv.mpr (OE hm.2)) (by decide))
 exact wpAny_getItem_list (aF (H.stays _ _ x4)) h2 hj ((TY hlt).trans (congrArg some e1)) (kZ H e2 h)
theorem As(H:St X V σ s)(h:OpdAt X V.K d t th):∃ vs n,s.heap.get? t=some (qY vs n)/\vs[0]?=some (.ref th):=by
 obtain⟨_,φ',p0,p1,p2,p3⟩:=h;obtain⟨r,hr⟩:=H7 d;obtain⟨a',ob',q1,q2,vs,n,rfl,q4⟩:=p3 0 _ hr;obtain rfl:=Oy (p0.symm.trans q1);refine⟨vs,n,H.stays _ _ q2,?_⟩;obtain⟨y,ey,dy⟩:=q4.at_ (i:=0) rfl;obtain⟨b,rfl,z⟩:=dy.inv;rw[O5] at ey;exact ey.trans (congrArg (some∘Value.ref) (Oy (z.symm.trans p1)))
theorem yY{k j:Nat}{E:VP}(H:St X V σ s)(hf:FzOK X V a (.otp k j))(di:DenV V i vi)(h:(aR (isI 0 i) (val (.frz j) σ)).Sat Φ):wpAny (Mo X) A (Ql (.ref a) vi) (PV X V σ Φ) E s:=by
 refine az h λ e h=>?_;obtain⟨t,rfl⟩:=gX e di;obtain⟨d,th,x4,x5,x6⟩:=hf;obtain⟨vs,n,g,hv⟩:=As H x6;exact getItem_tuple (j:=0) ⟨_,g,rfl,_,rfl⟩ (by decide) (by decide) (To (Int.le_refl 0) (Rc.mpr (Tz.mp hv).1)) hv (PV.here H (.frz x5) h)
theorem Di(G:cy X cfg){vx vi:Value}{E:VP}(H:St X V σ s)(dx:DenV V x vx)(di:DenV V i vi)(h:(oz cfg σ x i).Sat Φ):wpAny (Mo X) A (Ql vx vi) (PV X V σ Φ) E s:=by
 unfold oz at h;rcases exs:dJ cfg σ x with _|xs
 ·rw[exs] at h;unfold yZ at h;rcases eo:(σ.get x).bind nI with _|p
  ·rw[eo] at h;refine bn h λ j ej h=>?_;obtain⟨a,rfl,ha⟩:=lI ej dx;unfold Dk at h;rcases ew:(σ.frz.l[j]?).bind Aw with _|k
   ·rw[ew] at h;refine bn h λ p ep h=>?_;obtain⟨b,ob,x1,x2,x3,x4⟩:=H.frz j _ (vw (c:=λ p=>AO.otp p.1 p.2) uy ep);obtain rfl:=Oy (ha.symm.trans x1);exact yY H x4 di h
   ·rw[ew] at h;obtain⟨b,ob,x1,x2,x3,x4⟩:=H.frz j _ (vw pU ew);obtain rfl:=Oy (ha.symm.trans x1);exact yW H x4 di h
  ·rw[eo] at h;refine bn h λ l el h=>bn h λ v ev h=>?_;obtain⟨fz,a,ob,rfl,g,dd⟩:=aJ H (vw (c:=λ p=>AO.dct p.1 p.2) il eo) nofun dx
   exact HE g dd el di ev H h
 ·rw[exs] at h;obtain⟨a,vs,n,rfl,ds,h1⟩:=eH G H exs dx;exact yX H (h1.imp And.left And.left) ds di h
end
end
section
universe u
open PySem PySem.W PyProof.Rows PySem.SeqAt
variable {hi lo x:AV} {a b sl:Addr} {vs:Array Value} {xs:List AV} {n:Nat} {prog:Program} {u:Tok} {Q:VP} {vh vl vx:Value} {w:World}
section
variable {glb:List (Nat×AV)} {c:FC} {k:CC} {n:Nat} {s:Shared}
theorem pi(b n:Nat)(hb:b<=n):TX none (some (b:Int)) 1 (n:Int)=(0,(b:Int)):=by
 show((0:Int),if (b:Int)<0 then _ else min (b:Int) n)=_
 rw[if_neg (QV.mpr (Qt b)),Int.min_eq_left (Int.ofNat_le.mpr hb)]
theorem nY(b:Nat):RO 0 (b:Int) 1=b:=by
 show(if (0:Int)<b then((b:Int)-0-1)/1+1 else 0).toNat=b
 rcases b with _|b
 ·rfl
 ·rw[if_pos (Rc.mpr (Q2 b)),Ur,Int.sub_zero,Int.sub_add_cancel];rfl
theorem gM{E:VP}{b n:Nat}{Q:Int×Int×Nat->Shared->Prop}(hs:s.heap.IsSliceOf sl .none (.int b u) .none)(hb:b<=n)(h:Q (0,1,b) s) :
 wpAny (model prog w) A (TG (.ref sl) (pure (n:Int))) Q E s:=by
 obtain⟨os,hos,hcs,hds⟩:=id hs;unfold TG Builtin.Slice.sliceFields;refine Oz (Oz (PI hos hds (x:=.none) rfl (Oz (PI hos hds (x:=.int b u) rfl (Oz (PI hos hds (x:=.none) rfl (OD ?_)))))));refine Oz (slicePart_none ?_);show wpAny _ _ (if ((1:Int)==0)=true then _ else _) _ _ s
 rw[if_neg (by decide)]
 refine Oz (slicePart_none (Oz (slicePart_int (Oz (OD ?_)))));show wpAny _ _ (match TX none (some (b:Int)) 1 (n:Int) with|(lo,hi)=>pure (lo,(1:Int),RO lo hi 1)) _ _ s
 rw[pi b n hb];show wpAny _ _ (pure ((0:Int),(1:Int),RO (0:Int) (b:Int) 1)) _ _ s;rw[nY b];exact OD h
theorem ua(xs:Array Value)(b:Nat)(_hb:b<=xs.size):((Sd b).filterMap λ(k:Nat)=>xs[((0:Int)+(k:Int)*1).toNat]?).toArray=(xs.toList.take b).toArray:=by
 have e:(λ(k:Nat)=>xs[((0:Int)+(k:Int)*1).toNat]?)=((λ x=>xs[x]?)∘λ x=>0+x):=funext λ k=>by
  rw[Int.mul_one,Int.zero_add];exact congrArg (xs[·]?) (R6 k).symm
 rw[e,<-List.filterMap_map];exact congrArg List.toArray ((pick_run xs 0 b).trans (by rw[List.drop_zero]))
theorem gk{E:VP}{t sl:Addr}{items:Array Value}{b:Nat}(ht:IsTup s.heap t items)(hs:s.heap.IsSliceOf sl .none (.int b u) .none)(hb:b<items.size)
 (h:Q (.ref s.heap.objs.size) { s with heap:=s.heap.push { cls:=.type "tuple",data:=.seq (items.toList.take b).toArray } })
 (hsz:items.size<=P8):wpAny (model prog w) A (Ql (.ref t) (.ref sl)) Q E s:=by
 have hdrop:sizeOk (.seq (items.toList.take b).toArray):=by
  show(items.toList.take b).toArray.size<=P8;rw[TP,SH,OH];omega
 obtain⟨os,hos,hcs,hds⟩:=id hs;have hTs:s.TypeIs (.ref sl) "slice":=⟨os,hos,hcs⟩;unfold Ql
 try with_reducible refine OQ ?_
 first|refine Oz (OD ?_)|skip
 refine Oz (wpAny_sequenceKey ht.typeIs (by decide) ?_)
 refine Oz (wpAny_callSpecial?_slot (name:=Rm "__getitem__") ht.typeIs RZ
  (wpAny_call_entry RZ ht.typeIs entry_tuple_getitem ?_ (args_tuple_getitem _ _)))
 show wpAny _ _ (Builtin.Tuple.tupleItemsOf (.ref t) >>= _) _ _ s;refine Oz (tupleItemsOf_ ht ?_);refine Oz (wpAny_typeOf hTs ?_);rw[if_pos (by decide)]
 refine Oz (gM hs (OU hb) ?_);have hno:¬ (((0:Int)==0&&(1:Int)==1&&b==items.size)=true):=by
  have:(b==items.size)=false:=by rw[beq_eq_false_iff_ne];omega
  rw[this];simp
 show wpAny _ _ (if ((0:Int)==0&&(1:Int)==1&&b==items.size)=true then _ else _) _ _ s
 rw[if_neg hno,ua items b (OU hb)]
 first
  | exact Oz (m:=QY _) (P7 (OD ⟨_,rfl,OD h⟩) hdrop)
  | exact Oz (m:=QY _) (P7 (Oz (OD (OD ⟨_,rfl,OD h⟩))) hdrop)
  | exact Oz (Oz (m:=QY _) (P7 (OD (OD ⟨_,rfl,OD h⟩)) hdrop))
  | exact Oz (Oz (m:=QY _) (P7 (OD ⟨_,rfl,OD h⟩) hdrop))
theorem fp{n d a:Nat}{v:Value}(e:kz n d x=some a)(hd:DenV V x v):∃ o:Option Int,IsPart v o/\o.elim d (Ri n)=a/\(oJ x=true->o≠none):=by
 have key:∀ i:Int,Ri n i=clI n i:=λ i=>by
  rcases i with m|m
  ·exact clipAt_nat n m
  ·exact(clipAt_neg n (m+1) (PA (Pk m))).trans (by rw[S5,<-Nat.sub_sub];rfl)
 exact(AV.casesOn (motive_1:=λ x=>kz n d x=some a->DenV V x v->∃ o:Option Int,IsPart v o/\o.elim d (Ri n)=a/\(oJ x=true->o≠none)) x (λ e hd=>⟨none,(hd.inv:v=.none)▸.none,Oy e,nof⟩) aq aq (λ i=>λ e hd=>hd.inv.elim λ t q=>⟨some i,q▸.int i t,(key i).trans (Oy e),λ J=>nofun⟩) aq aq aq aq aq aq aq aq aq aP aP aq aP aP fP aq) e hd
theorem wc{α:Type}(l:List α)(a b:Nat):lZ l a b=(l.drop a).take (b-a):=by
 unfold lZ;rw[List.drop_take]
theorem All2.tk{α β:Type}{P:α->β->Prop}{xs:List α}{ys:List β}(h:All2 P xs ys)(n:Nat):All2 P (xs.take n) (ys.take n):=by
 induction h generalizing n with
 | nil=>rw[List.take_nil,List.take_nil];exact .nil
 | cons x _ ih=>exact P2 n .nil λ n=>.cons x (ih n)
theorem All2.dr{α β:Type}{P:α->β->Prop}{xs:List α}{ys:List β}(h:All2 P xs ys)(n:Nat):All2 P (xs.drop n) (ys.drop n):=by
 induction h generalizing n with
 | nil=>rw[UN,UN];exact .nil
 | cons x r ih=>exact P2 n (.cons x r) ih
theorem All2.cut{α β:Type}{P:α->β->Prop}{xs:List α}{ys:List β}(h:All2 P xs ys)(a b:Nat):All2 P (lZ xs a b) (lZ ys a b):=(h.tk b).dr a
theorem All2.take'{α β:Type}{P:α->β->Prop}{xs:List α}{ys:List β}(h:All2 P xs ys)(n:Nat):All2 P (xs.take n) (ys.take n):=h.tk n
theorem All2.map_eq{α β:Type}{f:β->α}{xs:List α}{ys:List β}(h:All2 (λ x y=>x=f y) xs ys):xs=ys.map f:=
 h.rec (motive:=λ xs ys J=>xs=ys.map f) rfl λ a J ih=>by rw[O2,a,ih]
theorem DX{α β:Type}(f:α->β)(l:List α)(a b:Nat):(lZ l a b).map f=lZ (l.map f) a b:=List.map_drop.trans (congrArg (List.drop a) List.map_take)
theorem cz:Slot "bytearray" "__getitem__" "bytearray.__getitem__":=
 .of (owner:="bytearray") (n:="__getitem__") (by rw[PO,Pg];kernel_rfl) (by decide +kernel) (by decide +kernel) (by decide +kernel)
  (by first|exact .inl (by decide +kernel)|exact .inr (by decide +kernel)) (by rw[P1];kernel_rfl)
theorem dY:RD table "bytearray.__getitem__"=some P6.«bytearray.__getitem__»:=SB (by kernel_rfl)
theorem i4:Manifest.owners.lookup (String.ofList ['y','a','r','r','a','e','t','y','b'].reverse)=some Manifest.sig_bytearray:=by kernel_rfl
theorem dP(a b:Value):Tc "bytearray.__getitem__" ⟨[a,b],[]⟩:=by
 unfold Tc;rw[signature?_of (id:="bytearray.__getitem__") (n:=['_','_','m','e','t','i','t','e','g','_','_']) (o:=['y','a','r','r','a','e','t','y','b']) (by kernel_rfl) i4];kernel_rfl
theorem iC{E:VP}{x a:Addr}{bs:Array UInt8}{i j:Int}{t u:Tok}(hx:s.heap.get? x=some { cls:=.type "bytearray",dict:=none,data:=.bytearray bs 0,slots:=#[] })(hs:s.heap.IsSliceOf a (.int i t) (.int j u) .none)(hz:bs.size<=P8)
 (h:Q (.ref s.heap.objs.size) { s with heap:=s.heap.push { cls:=.type "bytearray",data:=.bytearray (((bs.toList.drop (Ri bs.size i)).take (Ri bs.size j-Ri bs.size i)).toArray) 0 } }):wpAny (model prog w) A (Ql (.ref x) (.ref a)) Q E s:=by
 obtain⟨o,ho,hc,hd⟩:=id hs;have hT:s.TypeIs (.ref a) "slice":=⟨o,ho,hc⟩;have hX:s.TypeIs (.ref x) "bytearray":=⟨_,hx,rfl⟩;have e1:UK bs (sliceBounds (some i) (some j) none bs.size).1 (sliceBounds (some i) (some j) none bs.size).2.1 (sliceBounds (some i) (some j) none bs.size).2.2=(((bs.toList.drop (Ri bs.size i)).take (Ri bs.size j-Ri bs.size i)).toArray):=by
  unfold UK;rw[sliceBounds_plain];simp only[sliceRange_one,pick_run];rfl
 refine getItem_meets hX (by decide) cz dY (dP _ _) (S:=λ J R s'=>s'=s/\R (.ok (.ret (.ref s.heap.objs.size))) { s with heap:=s.heap.push { cls:=.type "bytearray",data:=.bytearray (((bs.toList.drop (Ri bs.size i)).take (Ri bs.size j-Ri bs.size i)).toArray) 0 } }) ?_ ⟨rfl,h⟩
 refine .of_wp λ prog w A R s' hS=>?_;obtain⟨rfl,h⟩:=hS;show wpAny _ _ (Ue (.ref a) >>= λ r=>_) _ _ s';refine Oz ?_;unfold Ue;refine Oz (PX hT slice_no_index (OD ?_));refine Oz (wpAny_typeOf hT ?_);show wpAny _ _ (Uf (.ref a) >>= λ r=>_) _ _ s';refine Oz ?_;unfold Uf;refine Oz (PI (x:=.none) ho hd rfl ?_)
 kby_none
 refine wpAny_ite (KBy.ite_no (show ¬ ((Value.none==rawInt 0)=true) from O7) ?_)
 refine Oz (PI (x:=.int i t) ho hd rfl ?_)
 kby_int
 refine Oz (PI (x:=.int j u) ho hd rfl ?_)
 kby_int
 refine OD ?_;show wpAny _ _ (QN (.ref x) >>= λ r=>_) _ _ s';refine Oz ?_;unfold QN Rk;refine Oz (Oz (QT hx (OD ?_)));refine OD ?_;refine Oz (Pi (a:=sliceBounds (some i) (some j) none bs.size) (sliceIndices_raw (some i) (some j) none bs.size (λ e=>nomatch e)) ?_)
 dsimp only;rw[e1];unfold Builtin.Bytes.newBytearray;refine Oz (P7 (OD ⟨_,rfl,h⟩) ?_);show(_:Array UInt8).size<=P8;rw[TP,SH,Rx,OH];omega
theorem tn{E:VP}(H:St X V σ s)(g:s.heap.get? a=some (qY vs n))(ds:All2 (DenV V) xs vs.toList)(hz:vs.size<=P8)(dl:DenV V lo vl)(dh:DenV V hi vh)(hb:s.heap.IsSliceOf b vl vh .none)(h:(Al σ xs lo hi).Sat Φ) :
 wpAny (Mo X) A (Ql (.ref a) (.ref b)) (PV X V σ Φ) E s:=
 az h λ e1 h=>bn h λ m em h=>az h λ hm h=>by
  obtain rfl:=my e1 dl;obtain⟨t,rfl⟩:=yx em dh;rw[dQ,Pn] at h;refine gk (b:=m) ⟨_,g,rfl,_,rfl⟩ hb ((ds.length.trans OH:xs.length=vs.size)▸OE hm) ?_ hz;exact eQ (o:=.tup (xs.take m)) (ob:=qY (vs.toList.take m).toArray 0) H ⟨_,0,rfl,(ds.take' m).mono λ J J d=>d.mono (V.le_push _)⟩ rfl (λ J J=>nofun) h
theorem uR{E:VP}(H:St X V σ s)(g:s.heap.get? a=some (bT vs n))(ds:All2 (DenV V) xs vs.toList)(hz:vs.size<=P8)(dl:DenV V lo vl)(dh:DenV V hi vh)(hb:s.heap.IsSliceOf b vl vh .none)(h:(AK σ xs lo hi).Sat Φ) :
 wpAny (Mo X) A (Ql (.ref a) (.ref b)) (PV X V σ Φ) E s:=
 bn h λ p e h=>eG e λ ep eq'=>by
  rw[dQ,Pn] at h;rw[(ds.length.trans OH:xs.length=vs.size)] at ep eq';obtain⟨o1,k1,k2,_⟩:=fp ep dl;obtain⟨o2,k3,k4,_⟩:=fp eq' dh;refine RW (aF g) hb k1 k3 .none nofun ?_ hz
  rw[slicePick_plain,k2,k4];refine gS (t:=s.toks) (n:=0) H (vs:=((vs.toList.drop p.1).take (p.2-p.1)).toArray) ?_ h;show All2 _ _ ((vs.toList.drop p.1).take (p.2-p.1));rw[<-wc];exact ds.cut p.1 p.2
theorem wJ{arr:Array UInt8}{bs:List Nat}{E:VP}(H:St X V σ s)(g:s.heap.get? a=some { cls:=.type "bytearray",dict:=none,data:=.bytearray arr 0,slots:=#[] })(hbs:arr.toList.map (·.toNat)=bs)(dl:DenV V lo vl)(dh:DenV V hi vh)(hb:s.heap.IsSliceOf b vl vh .none)(h:(Bj σ bs lo hi).Sat Φ) :
 wpAny (Mo X) A (Ql (.ref a) (.ref b)) (PV X V σ Φ) E s:=
 az h λ hf h=>az h λ hi' h=>bn h λ p e h=>eG e λ ep eq'=>by
  have hi':=(OA _ _).mp hi';have hf:bs.length<100000:=OE hf;have hl:bs.length=arr.size:=by rw[<-hbs,Pa,OH]
  rw[dQ,Pn] at h;rw[hl] at ep eq' hf;obtain⟨o1,k1,k2,k5⟩:=fp ep dl;obtain⟨o2,k3,k4,k6⟩:=fp eq' dh;rcases k1 with _|⟨i,t⟩
  ·exact absurd rfl (k5 hi'.1)
  ·rcases k3 with _|⟨j,u⟩
   ·exact absurd rfl (k6 hi'.2)
   ·refine iC g hb (OM (OU hf) (by decide)) ?_
    rw[show Ri arr.size i=p.1 from k2,show Ri arr.size j=p.2 from k4]
    refine eQ (o:=.bar (lZ bs p.1 p.2)) (ob:={ cls:=.type "bytearray",dict:=none,data:=.bytearray (((arr.toList.drop p.1).take (p.2-p.1)).toArray) 0,slots:=#[] }) H ⟨_,rfl,?_⟩ rfl (λ J J=>nofun) h
    rw[List.toList_toArray,<-wc,DX,hbs]
theorem DY(H:St X V σ s)(N:Nat)(h:(LP σ N).Sat Φ)(ws:List Value)(hw:ws.length<=N)(hv:∀ v∈ws,∃ i t,v=Value.int i t):PV X V σ Φ (.ref s.heap.objs.size) { s with heap:=s.heap.push (bT ws.toArray 0) }:=by
 induction N generalizing ws with
 |
  zero=>
  obtain rfl:=QE (Nat.le_zero.mp hw);exact gS (t:=s.toks) (n:=0) H .nil h
 |
  succ N ih=>
  by_cases q:ws.length=N+1
  ·refine gS (t:=s.toks) (n:=0) (xs:=Pz (N+1) .an) H ?_ h.1;rw[<-q];show All2 _ _ ws;clear q hw ih h
   induction ws with
   | nil=>exact .nil
   | cons w ws ih=>exact .cons ((Py.mp hv).1.rec λ i t q=>q▸.an i t) (ih (Py.mp hv).2)
  ·exact ih h.2 ws (Nat.le_of_lt_succ (Nat.lt_of_le_of_ne hw q)) hv
theorem tT{E:VP}(H:St X V σ s)(dx:DenV V x vx)(dl:DenV V lo vl)(dh:DenV V hi vh)(hb:s.heap.IsSliceOf b vl vh .none)(h:(mh σ (σ.get x) lo hi).Sat Φ) :
 wpAny (Mo X) A (Ql vx (.ref b)) (PV X V σ Φ) E s:=by
 unfold mh at h;rcases eo:(σ.get x).bind pV with _|bs
 ·rw[eo] at h;rcases eo:(σ.get x).bind Ff with _|u
  ·rw[eo] at h;refine bn h λ u eo h=>az h λ e h=>?_;have e:=(OA _ _).mp e;obtain⟨fz,a,ob,rfl,g,vs,n,hc,hd,hz,hi⟩:=aJ H (vw (c:=λ J=>AO.scr) ux eo) nofun dx
   obtain rfl:=my e.1 dl;obtain⟨t,rfl⟩:=gX e.2 dh;refine RW ⟨ob,g,hc,n,hd⟩ hb .none (.int 40 _) .none nofun ?_ (OM hz (by decide))
   rw[slicePick_plain];refine DY H 40 h _ ?_ λ v hv=>hi v (List.mem_of_mem_drop (List.mem_of_mem_take hv));exact OM (List.length_take_le _ _) (OM (S9 _ _) (OM (Pp (clipAt_nat vs.size 40)) (Nat.min_le_left _ _)))
  ·rw[eo] at h;refine az h λ e h=>?_;have e:=(OA _ _).mp e;obtain⟨fz,a,ob,rfl,g,vs,n,rfl,hz⟩:=aJ H (vw (c:=λ J=>AO.lsA) uz eo) nofun dx
   obtain rfl:=my e.1 dl;obtain⟨t,rfl⟩:=gX e.2 dh;refine RW (aF g) hb .none (.int 0 _) .none nofun ?_ (OM hz (by decide))
   rw[slicePick_plain];refine gS (t:=s.toks) (n:=0) H ?_ h;show All2 _ [] ((vs.toList.drop 0).take (Ri vs.size ((0:Nat):Int)-0));rw[clipAt_nat,Nat.zero_min,List.take_zero];exact .nil
 ·rw[eo] at h;obtain⟨fz,a,ob,rfl,g,arr,rfl,hbs⟩:=aJ H (vw kb eo) nofun dx
  exact wJ H g hbs dl dh hb h
theorem xX(G:cy X cfg){E:VP}(H:St X V σ s)(dx:DenV V x vx)(dl:DenV V lo vl)(dh:DenV V hi vh)(hb:s.heap.IsSliceOf b vl vh .none)(h:(iW cfg σ x lo hi).Sat Φ) :
 wpAny (Mo X) A (Ql vx (.ref b)) (PV X V σ Φ) E s:=by
 unfold iW at h;rcases exs:dJ cfg σ x with _|xs
 ·rw[exs] at h;exact tT H dx dl dh hb h
 ·rw[exs] at h;obtain⟨a,vs,n,rfl,ds,h1⟩:=eH G H exs dx;refine az h λ hf h=>?_;have hz:vs.size<=P8:=OM (OU (dX ds hf)) (by decide)
  rcases hT:oC x (σ.get x) with _|_
  ·rw[hT] at h;exact h1.elim (λ h1=>uR H h1.1 ds hz dl dh hb h) λ h1=>nof (hT.symm.trans h1.2)
  ·rw[hT] at h;exact h1.elim (λ h1=>by
    have e:=h1.2;unfold oC at hT;rw[e] at hT;have hT:((dc x).isSome||false)=true:=hT
    rw[Bool.or_false] at hT;exact bB hT λ i q=>am ((congrArg σ.get (kJ q)).symm.trans e)) λ h1=>tn H h1.1 ds hz dl dh hb h
end
end
section
universe u
open PySem PySem.W PyProof.Rows PySem.SeqAt
variable {hi i lo x:AV} {Q:Bool->Shared->Prop} {k:CC} {ct:Const} {c:FC} {ls:List (List Nat)} {kes:List (Option Expr)} {ks vs:List AV} {xs:List E} {l:List Nat} {n:Nat} {s:Shared} {vx:Value}
section
variable {glb:List (Nat×AV)} {c:FC} {k:CC} {n:Nat} {s:Shared}
theorem dg{T id:String}{a:Addr}{o:Obj}(g:s.heap.get? a=some o)(hc:o.cls=.type T)(sl:Slot T "__getitem__" id){E:VP}(q:Q false s):wpAny (Mo X) A (Rf (.ref a)) Q E s:=by
 unfold Rf;exact Oz (PX (show s.TypeIs (.ref a) T from⟨o,g,hc⟩) sl.lookup (OD q))
theorem DU{fz:Bool}{ob:Obj}{b:Bool}{es:List (List Nat×AV)}(h:DenO X fz V ob (.dct b es)):ob.cls=.type "dict":=by
 rcases b with⟨⟩
 ·exact h.elim λ J q=>q.1.elim λ J q=>q.elim λ J q=>q.1.1
 ·exact h.elim λ J q=>q.1.elim λ J q=>q.elim λ J q=>q.1.1
theorem ru{E:VP}(H:St X V σ s)(dx:DenV V x vx)(h:(yZ σ x i (σ.get x)).Sat Φ)(q:Q false s):wpAny (Mo X) A (Rf vx) Q E s:=by
 unfold yZ at h;rcases eo:(σ.get x).bind nI with _|p
 ·rw[eo] at h;refine bn h λ j ej h=>?_;obtain⟨a,rfl,ha⟩:=lI ej dx;unfold Dk at h;rcases ew:(σ.frz.l[j]?).bind Aw with _|k
  ·rw[ew] at h;refine bn h λ p ep h=>?_;obtain⟨b,ob,x1,x2,x3,d,th,x4,x5,x6⟩:=H.frz j _ (vw (c:=λ p=>AO.otp p.1 p.2) uy ep);obtain rfl:=Oy (ha.symm.trans x1);obtain⟨vs,n,g,_⟩:=As H x6;exact dg g rfl RZ q
  ·rw[ew] at h;obtain⟨b,ob,x1,x2,x3,vs,n,x4,x5,x6⟩:=H.frz j _ (vw pU ew);obtain rfl:=Oy (ha.symm.trans x1);exact dg (H.stays _ _ x4) rfl Si q
 ·obtain⟨fz,a,ob,rfl,g,dd⟩:=aJ H (vw (c:=λ p=>AO.dct p.1 p.2) il eo) nofun dx
  exact dg g (DU dd) slot_dict_getitem q
theorem n7{E:VP}(H:St X V σ s)(dx:DenV V x vx)(h:(mh σ (σ.get x) lo hi).Sat Φ)(q:Q false s):wpAny (Mo X) A (Rf vx) Q E s:=by
 unfold mh at h;rcases eo:(σ.get x).bind pV with _|bs
 ·rw[eo] at h;rcases eo:(σ.get x).bind Ff with _|u
  ·rw[eo] at h;refine bn h λ u eo h=>?_;obtain⟨fz,a,ob,rfl,g,vs,n,hc,_⟩:=aJ H (vw (c:=λ J=>AO.scr) ux eo) nofun dx
   exact dg g hc Si q
  ·obtain⟨fz,a,ob,rfl,g,vs,n,rfl,_⟩:=aJ H (vw (c:=λ J=>AO.lsA) uz eo) nofun dx
   exact dg g rfl Si q
 ·obtain⟨fz,a,ob,rfl,g,arr,rfl,hbs⟩:=aJ H (vw kb eo) nofun dx
  exact dg g rfl cz q
theorem yq(G:cy X cfg){E:VP}(H:St X V σ s)(dx:DenV V x vx)(h:(oz cfg σ x i).Sat Φ\/(iW cfg σ x lo hi).Sat Φ)(q:Q false s):wpAny (Mo X) A (Rf vx) Q E s:=by
 unfold oz iW at h;rcases e:dJ cfg σ x with _|xs
 ·rw[e] at h;exact h.elim (λ h=>ru H dx h q) λ h=>n7 H dx h q
 ·obtain⟨a,vs,n,rfl,_,h1⟩:=eH G H e dx;exact h1.elim (λ h1=>dg h1.1 rfl Si q) λ h1=>dg h1.1 rfl RZ q
theorem nA{ke:Option Expr}(h:Bd ke=some x):∃ ct kd p,ke=some (.Constant ct kd p)/\cst ct=some x:=
 aw h λ e q h=>aw h λ p ep h=>⟨p.1,p.2.1,p.2.2,q.trans (congrArg some (nN ep)),h⟩
theorem yR(e:ow false x=some l):x=.str l:=
 (AV.casesOn (motive_1:=λ x=>ow false x=some l->x=.str l) x am ac ac ac ac (λ j=>λ e=>congrArg AV.str (Oy e)) ac ac ac ac ac ac ac am am ac am am ak ac) e
theorem yS(e:ow true x=some l):x=.byt l:=
 (AV.casesOn (motive_1:=λ x=>ow true x=some l->x=.byt l) x am ac ac ac ac ac (λ j=>λ e=>congrArg AV.byt (Oy e)) ac ac ac ac ac ac am am ac am am ak ac) e
structure KindK(X:Cx)(b:Bool)(K:Type)[DecidableEq K](knd:KeyKind X.prog X.w K)(enc:K->List Nat):Prop where
 inj:∀ a b,enc a=enc b->a=b
 ev:∀ {ct:Const} {kd:Nat} {p:Pos} {env:Env} {A:Around} {s:Shared} {l:List Nat} {x:AV} {Q:VP} {E:VP},cst ct=some x->ow b x=some l->(∀ k v t,knd.is k v=true->enc k=l->Q v { s with toks:=t })->wpAny (Mo X) A (eval (.Constant ct kd p) env) Q E s
 den:∀ {fz V ob es},DenO X fz V ob (.dct b es) ↔ ∃ kvs,ob.IsDictOf knd kvs/\All2 (KvDen enc V) es kvs
theorem DZ(h:cst ct=some (.str l)):∃ z:Str,ct=.str z/\DL z=l:=by
 rcases ct with⟨⟩<;>first|exact am h|exact⟨_,rfl,Oy (congrArg iF (Oy h))⟩|exact(nomatch Oy h)
theorem D0(h:cst ct=some (.byt l)):∃ z,ct=.bytes z/\DM z=l:=by
 rcases ct with⟨⟩<;>first|exact am h|exact⟨_,rfl,Oy (congrArg qX (Oy h))⟩|exact(nomatch Oy h)
theorem om:KindK X false Str (strKind X.prog X.w) DL where
 inj:=qw
 ev:=λ {ct kd p env A s l x Q E} hc hl hq=>(DZ (hc.trans (congrArg some (yR hl)))).elim λ z q=>q.1▸wpAny_Constant_str (hq z _ _ (iK z _) q.2)
 den:=Iff.rfl
theorem ou:KindK X true (List UInt8) (Tq X.prog X.w) DM where
 inj:=qx
 ev:=λ {ct kd p env A s l x Q E} hc hl hq=>(D0 (hc.trans (congrArg some (yS hl)))).elim λ z q=>q.1▸λ J J J=>hq z _ _ (by simp [Tq,W.isBytes]) q.2
 den:=Iff.rfl
theorem anyS_iff{x:List Nat}{l:List (List Nat)}:wU x l=true ↔ x∈l:=by
 induction l with
 | nil=>exact⟨nof,λ h=>absurd h Pl⟩
 |
  cons y r ih=>
  show(au y x||wU x r)=true ↔ _
  rw[P9,bo,decide_eq_true_eq,ih,Po];exact⟨λ h=>h.imp_left Eq.symm,λ h=>h.imp_left Eq.symm⟩
theorem jS{l:List (List Nat)}(h:gm l=true):l.Nodup:=by
 induction l with
 | nil=>exact .nil
 |
  cons x r ih=>
  have h:=(OA _ _).mp (show(!(wU x r)&&gm r)=true from h)
  exact O6.mpr ⟨λ q=>nof ((sx h.1).symm.trans (anyS_iff.mpr q)),ih h.2⟩
theorem KvDen.keys{K:Type}{enc:K->List Nat}{es:List (List Nat×AV)}{kvs:List (K×Value)}(h:All2 (KvDen enc V) es kvs):kvs.map (λ q=>enc q.1)=es.map (·.1):=
 h.rec (motive:=λ es kvs J=>kvs.map (λ q=>enc q.1)=es.map (·.1)) rfl λ a J ih=>by rw[O2,O2,a.1,ih]
theorem im{α β:Type}(f:α->β){l:List α}(h:(l.map f).Nodup):l.Nodup:=by
 induction l with
 | nil=>exact .nil
 |
  cons x r ih=>
  rw[O2,O6] at h;exact O6.mpr ⟨λ q=>h.1 (PP q),ih h.2⟩
theorem vd{b:Bool}{r:List AV}{P:List (List Nat)->Prop}(h:jL b (x::r)=some ls)(p:∀ l ls',ow b x=some l->jL b r=some ls'->P (l::ls')):P ls:=
 aw h λ l e h=>aw h λ ls' e' h=>Oy h▸p l ls' e e'
theorem yj{b:Bool}{K:Type}[DecidableEq K]{knd:KeyKind X.prog X.w K}{enc:K->List Nat}(hk:KindK X b K knd enc){r:Run}(hE:SE X glb r)(hg:k.glb=glb){es:List Expr}{V:Va}{kont:List AV->Sg->R}(hks:All2 (λ e x=>Bd e=some x) kes ks)(hl:jL b ks=some ls)(hx:All2 (λ e x=>cE k n e=some x) es xs)(hn:ls.length=xs.length)(hv:EnvOK A V c k env)(hA:AOK X V σ A c.dep 0)(H:St X V σ s)
 (h:(evL r c xs σ kont).Sat Φ):wpAny (Mo X) A (evalPairs (pairTrees kes es env pos)) (λ l s'=>∃ V' σ' avs kvs,V.Le V'/\Keep σ σ'/\St X V' σ' s'/\Carries knd l kvs/\(∀ es',E7 ls avs=some es'->All2 (KvDen enc V') es' kvs)/\avs.length=ls.length/\(kont avs σ').Sat Φ) (PE X V σ Φ) s:=by
 induction hks generalizing ls es xs σ V s kont with
 |
  nil=>
  obtain rfl:=Oy hl;obtain rfl:=QE hn.symm;rcases hx;exact pairTrees_nil_walk ⟨V,σ,[],[],.rfl,.rfl,H,trivial,(λ es' e=>Oy e▸.nil),rfl,h⟩
 |
  cons ck cr ih=>
  obtain⟨ct,kd,p,rfl,hc⟩:=nA ck;refine vd (P:=λ ls=>ls.length=xs.length->wpAny (Mo X) A (evalPairs (pairTrees _ es env pos)) (λ l s'=>∃ V' σ' avs kvs,V.Le V'/\Keep σ σ'/\St X V' σ' s'/\Carries knd l kvs/\(∀ es',E7 ls avs=some es'->All2 (KvDen enc V') es' kvs)/\avs.length=ls.length/\(kont avs σ').Sat Φ) (PE X V σ Φ) s) hl (λ l ls' el els hn=>?_) hn;rcases hx with _|⟨he,hr⟩
  ·exact nomatch hn
  ·refine pairTrees_cons_walk (hk.ev hc el λ kk v t hkk hen=>OF (hE he hg hv hA (H.toks (t:=t)) (T.sat_bind h)) (λ vv s1 q=>q.rec λ V1 σ1 av l1 k1 H1 d1 h1=>?_) λ J J q=>PE.out q);refine OF (ih els hr (S0 hn) (hv.mono l1) (hA.mono l1 k1) H1 h1) (λ lv s2 q=>q.rec λ V2 σ2 avs kvs q=>?_) λ J J q=>q.trans l1 k1;exact⟨V2,σ2,av::avs,(kk,vv)::kvs,l1.trans q.1,k1.trans q.2,q.3,⟨hkk,rfl,q.4⟩,(λ es' e=>bG e λ es2 e2 e3=>e3▸.cons ⟨hen,d1.mono q.1⟩ (q.5 es2 e2)),congrArg (·+1) q.6,q.7⟩
theorem ph(h:All2 (λ e x=>Bd e=some x) kes ks):kes.all (·.isSome)=true:=by
 induction h with
 | nil=>rfl
 |
  cons a _ ih=>
  obtain⟨_,_,_,rfl,_⟩:=nA a;rw[RH,ih];rfl
theorem sP{l:List (List Nat×AV)}(h:E7 ls vs=some l):l.map (·.1)=ls:=by
 induction ls generalizing vs l with
 | nil=>exact ay h λ J h=>Oy h▸rfl
 | cons x xs ih=>
  rcases vs with _|⟨y,ys⟩
  ·exact am h
  ·exact bG h λ r e q=>q▸congrArg (x::·) (ih e)
theorem mH{b:Bool}(h:jL b ks=some ls):ks.length=ls.length:=by
 induction ks generalizing ls with
 | nil=>exact Oy h▸rfl
 | cons k r ih=>exact vd (P:=λ ls=>(k::r).length=ls.length) h λ J J J e=>congrArg (·+1) (ih e)
theorem AZ{b:Bool}{g:Sg}{P:Prop}(h:(LI b ls n vs g).Sat Φ)(p:∀ es,g.own.get n=some (.dct b [])->E7 ls vs=some es->Φ (.v (.own n),⟨Tr.put' 40 g.own n (.dct b es),g.n,g.frz⟩)->P):P:=
 bn h λ q e h=>az h λ hb h=>bn h λ es ez h=>by
  have hb:=(OA _ _).mp hb;rw[bD] at h;exact p es ((vw (c:=λ p=>AO.dct p.1 p.2) il e).trans (by rw[Pf hb.1,O8.mp hb.2])) ez h
theorem qz{b:Bool}{K:Type}[DecidableEq K]{knd:KeyKind X.prog X.w K}{enc:K->List Nat}(hk:KindK X b K knd enc){vs:List Expr}{V:Va}
 (hE:SE X glb ih) (hl15:vs.length<15) (hks:All2 (λ e x=>Bd e=some x) kes ks) (hx:All2 (λ e x=>cE k n e=some x) vs xs) (hg:k.glb=glb) (hv:EnvOK A V c k env) (hA:AOK X V σ A c.dep 0) (H:St X V σ s)
 (hls:jL b ks=some ls) (hd:gm ls=true) (hn:ls.length=xs.length) (h:(σ.new (.dct b []) λ n g=>evL ih c xs g (LI b ls n)).Sat Φ) :
 wpAny (Mo X) A (eval (.Dict kes vs pos) env) (PV X V σ Φ) (PE X V σ Φ) s:=by
 obtain⟨hb,h⟩:=bk h;have hnew:∀ {V:Va},DenO X false V { cls:=.type "dict",data:=.dict #[] } (.dct b []):=hk.den.mpr ⟨[],⟨#[],0,⟨rfl,rfl,rfl⟩,rfl,λ e he=>absurd he (Array.not_mem_empty e),.nil,.nil⟩,.nil⟩;have H1:=H.new (t:=s.toks) (a:=s.heap.objs.size) (ob:={ cls:=.type "dict",data:=.dict #[] }) (o:=.dct b []) (h':=s.heap.push { cls:=.type "dict",data:=.dict #[] }) (by rw[PK];exact QW _) (λ b o e=>OO _ e) (OR _) (Ph _ rfl) nofun hnew hb
 have K1:=cq (o:=.dct b []) H hb;have L1:=V.le_push s.heap.objs.size;have hself:=cb (a:=s.heap.objs.size) H;have ll:=mH hls;rcases kes with _|⟨ke,kr⟩
 ·rcases hks;obtain rfl:=Oy hls;obtain rfl:=QE hn.symm;rcases hx;refine wpAny_Dict_empty (AZ h λ es ho ez h=>?_);obtain rfl:=Oy ez;have H2:=H1.upd (o':=.dct b []) (t:=s.toks) (h':=s.heap.push { cls:=.type "dict",data:=.dict #[] }) ho hself (OR _) (λ b o J e=>e) (Ph _ rfl) nofun hnew
  exact⟨_,_,.own σ.n,L1,K1.trans (cH H1 ho nofun),H2,.own hself,h⟩
 ·have hlen:(ke::kr).length=vs.length:=hks.length.trans (ll.trans (hn.trans hx.length.symm));refine wpAny_Dict_walk (knd:=knd) (ph hks) hlen nofun (OU (hlen▸hl15)) ?_
  refine OF (yj hk hE hg hks hls hx hn (hv.mono L1) (hA.mono L1 K1) H1 h) (λ l s1 q=>q.rec λ V2 σ2 avs kvs q=>AZ q.7 λ es' eo ez h2=>?_) λ J J q=>q.trans L1 K1;obtain⟨l2,k2,H2,c2,d2,n2,_⟩:=q;have ha:=l2.ρ hself;obtain⟨a,ob,x1,x2,x3⟩:=H2.own _ _ eo nofun
  obtain rfl:=Oy (ha.symm.trans x1);obtain⟨kv0,y1,y2⟩:=hk.den.mp x3;rcases y2;have hnd:(kvs.map (·.1)).Nodup:=im enc (by
   rw[Qg];exact((KvDen.keys (d2 _ ez)).trans (sP ez)).symm▸jS hd)
  refine⟨kvs,c2,QO.mpr ⟨ob,x2,y1⟩,λ h' hm hs=>?_⟩;rw[merged_nil_of_nodup _ hnd] at hm;obtain⟨ob',z1,z2⟩:=QO.mp hm;exact⟨_,_,.own σ.n,L1.trans l2,(K1.trans k2).trans (cH H2 eo nofun),H2.upd (o':=.dct b es') (t:=s1.toks+l.length) (h':=h') eo ha (Pp hs.1.symm) (λ b o hb e=>(hs.2 b hb).trans e) z1 nofun (hk.den.mpr ⟨kvs,z2,d2 _ ez⟩),.own ha,h2⟩
theorem HY{vs:List Expr}{V:Va}
 (hE:SE X glb ih) (hl15:O0 vs.length 15=true) (hks:bc Bd kes=some ks) (hx:bc (cE k n) vs=some xs) (hg:k.glb=glb) (hv:EnvOK A V c k env) (hA:AOK X V σ A c.dep 0) (H:St X V σ s) (h:(LH ih c ks xs σ).Sat Φ) :
 wpAny (Mo X) A (eval (.Dict kes vs pos) env) (PV X V σ Φ) (PE X V σ Φ) s:=by
 refine bn h λ p eb h=>az h λ hd h=>?_;have hd:=(OA _ _).mp hd;have hn:=OB hd.2;have hl15:vs.length<15:=OE hl15;unfold Hg at eb;rcases e:jL false ks with _|ls
 ·rw[e] at eb;rcases e:jL true ks with _|ls
  ·rw[e] at eb;exact am eb
  ·rw[e] at eb;obtain rfl:=Oy eb;exact qz ou hE hl15 (bu hks) (bu hx) hg hv hA H e hd.1 hn h
 ·rw[e] at eb;obtain rfl:=Oy eb;exact qz om hE hl15 (bu hks) (bu hx) hg hv hA H e hd.1 hn h
end
end
section
universe u
open PySem PySem.W PyProof.Rows PySem.SeqAt
variable {o:AV} {a t:Addr} {ex:Bool} {i j n:Nat} {P:Prop} {m:Str} {Q:VP} {vx:Value}
noncomputable def unL:Nat->Nat->List Nat->List Nat
 | 0,_,a=>a
 |
  f+1,n,a=>match OC n 0 with
  | true=>a
  | false=>unL f (n/2097152) ((n%2097152-1)::a)
noncomputable def unS(n:Nat):Str:=⟨(unL 60 n []).toArray⟩
noncomputable def Dl(n:Nat):Bool:=OC (nm (unS n)) n&&okS (unS n)
theorem jX(h:Dl n=true)(hm:okS m=true)(e:nm m=n):m=unS n:=by
 unfold Dl at h;rw[OA] at h;exact eP hm h.2 (e.trans (OB h.1).symm)
noncomputable def xg(v:Value):Option Addr:=(Qp v none none none aa ae ae ae ae aa aa (λ a=>some a))
theorem t5{v:Value}(h:xg v=some a):v=.ref a:=(Qp (motive:=λ v=>xg v=some a->v=.ref a) v am am am ac af af af af ac ac (λ b=>λ h=>congrArg Value.ref (Oy h))) h
noncomputable def xD(v:Value):Option Int:=(Qp v none none none aa (λ i J=>some i) ae ae ae aa aa aa)
theorem sW{v:Value}{i:Int}(h:xD v=some i):∃ t,v=.int i t:=(Qp (motive:=λ v=>xD v=some i->∃ t,v=.int i t) v am am am ac (λ j t=>λ h=>⟨t,congrArg (Value.int · t) (Oy h)⟩) af af af ac ac ac) h
noncomputable def oo{α:Type}(f:Value->Option α)(o:Option (Option Value)):Option α:=o.bind λ v=>v.bind f
theorem M1{α:Type}{f:Value->Option α}{o:Option (Option Value)}{a:α}(h:oo f o=some a)(p:∀ v,o=some (some v)->f v=some a->P):P:=aw h λ v e h=>aw h λ w e' h=>p w (e.trans (congrArg some e')) h
noncomputable def Gd(K:Frag)(p:Addr):Option Addr:=(recIn K p "property").bind λ l=>l.head?.bind xg
noncomputable def De(K:Frag)(a:Addr)(o:Option Obj):Bool:=match o with
 | none=>false
 | some o=>(QM o.data false ag ax ax aO ax ag (λ J=>true) (λ J=>Ts K (.ref a) "__call__"==some (some (.builtin "type.__call__"))) ag false)
noncomputable def cO(K:Frag)(a:Addr):Bool:=De K a (K.lookup a)
noncomputable def JL(o:Option Int)(i:Int):Bool:=match o with
 | some j=>bJ i j
 | none=>false
noncomputable def Lz(K:Frag)(m:Str)(v:AV):Bool:=(AV.casesOn v false ag ag (λ i=>JL (oo xD (nsIn K Pj m)) i) ag ag ag ag ag ag (λ a=>nsIn K Pj m==some (some (.ref a))) (λ b=>nsIn K Pj m==some none&&(SZ m==some (jw b)&&!(m==("__name__":Str)))) ag false false ag false false aO ag)
noncomputable def LA(K:Frag)(p:Nat×AV):Bool:=Dl p.1&&Lz K (unS p.1) p.2
noncomputable def MZ(K:Frag)(f:Nat)(o:Option Addr):Bool:=match o with
 | some q=>Ts K (.ref q) "__get__"==some (some (.builtin "property.__get__"))&&takesIn K (.ref q)==some true&&Gd K q==some f
 | none=>false
noncomputable def zT(K:Frag)(C:Nat)(p:Nat×CA):Bool:=Dl p.1&&(CA.casesOn p.2 (PW K (.ref C) (unS p.1)==some none) (λ f=>PW K (.ref C) (unS p.1)==some (some (.ref f))&&typeIn K (.ref f)==some (.type "function")&&cO K f) (λ f=>MZ K f (oo xg (PW K (.ref C) (unS p.1)))))
noncomputable def JU(K:Frag)(C:Nat)(ci:ClsI):Bool:=(clsIn K C).any (·.hasDict)&&PW K (.ref C) "__getattribute__"==some (some (.builtin "object.__getattribute__"))&&PW K (.ref C) "__getattr__"==some none &&
 PW K (.ref C) "__setattr__"==some (some (.builtin "object.__setattr__"))&&plainOver K C&&makesIn K C&&PW K (.ref C) "__init__"==some (some (.ref ci.init))&&typeIn K (.ref ci.init)==some (.type "function")&&ci.attrs.all (zT K C)
structure ClsOK(K:Frag)(C:Nat)(ci:ClsI):Prop where
 cd:∃ cd,clsIn K C=some cd/\cd.hasDict=true
 ga:PW K (.ref C) "__getattribute__"=some (some (.builtin "object.__getattribute__"))
 gt:PW K (.ref C) "__getattr__"=some none
 sa:PW K (.ref C) "__setattr__"=some (some (.builtin "object.__setattr__"))
 over:plainOver K C=true
 mks:makesIn K C=true
 ini:PW K (.ref C) "__init__"=some (some (.ref ci.init))
 inif:typeIn K (.ref ci.init)=some (.type "function")
 attrs:∀ p∈ci.attrs,zT K C p=true
theorem zx{K:Frag}{C:Nat}{ci:ClsI}(h:JU K C ci=true):ClsOK K C ci:=by
 unfold JU at h;simp only[OA,beq_iff_eq] at h;obtain⟨⟨⟨⟨⟨⟨⟨⟨h1,h2⟩,h3⟩,h4⟩,h5⟩,h7⟩,h8⟩,h9⟩,h6⟩:=h;exact⟨any_some h1,h2,h3,h4,h5,h7,h8,h9,OP.mp h6⟩
noncomputable def JO(K:Frag)(C:Nat)(ci:ClsI):Bool:=(clsIn K C).any (·.hasDict)&&PW K (.ref C) "__getattribute__"==some (some (.builtin "BaseException.__getattribute__"))&&PW K (.ref C) "__getattr__"==some none &&
 subIn K (.ref C) (.type "BaseException")==some true&&typeIn K (.ref C)==some (.type "type")&&ci.attrs.all λ p=>Dl p.1&&(PW K (.ref C) (unS p.1)==some none)
structure XOK(K:Frag)(C:Nat)(ci:ClsI):Prop where
 cd:∃ cd,clsIn K C=some cd/\cd.hasDict=true
 ga:PW K (.ref C) "__getattribute__"=some (some (.builtin "BaseException.__getattribute__"))
 gt:PW K (.ref C) "__getattr__"=some none
 sub:subIn K (.ref C) (.type "BaseException")=some true
 ty:typeIn K (.ref C)=some (.type "type")
 attrs:∀ p∈ci.attrs,Dl p.1=true/\PW K (.ref C) (unS p.1)=some none
theorem Jn{K:Frag}{C:Nat}{ci:ClsI}(h:JO K C ci=true):XOK K C ci:=by
 unfold JO at h;simp only[OA,beq_iff_eq] at h;obtain⟨⟨⟨⟨⟨h1,h2⟩,h3⟩,h4⟩,h5⟩,h6⟩:=h;exact⟨any_some h1,h2,h3,h4,h5,λ p hp=>by have:=OP.mp h6 p hp;simpa only [OA,beq_iff_eq] using this⟩
noncomputable def gj(v:Value):Bool:=(xg v).isSome
structure XMk(K:Frag)(C:Nat)(ci:ClsI):Prop where
 obj:∃ nm q N bs pre sn sub ab col dd k0 k1 k2 k3 k5,K.lookup C=some (excClassObj nm q C N bs (pre++[.type "Exception",.type "BaseException",.type "object"]) true sn sub ab col dd k0 k1 k2 k3 k5 "Exception.__new__")/\pre.all gj=true
 ini:PW K (.ref C) "__init__"=some (some (.ref ci.init))
 inif:typeIn K (.ref ci.init)=some (.type "function")
 sa:PW K (.ref C) "__setattr__"=some (some (.builtin "object.__setattr__"))
 call:Ts K (.ref C) "__call__"=some (some (.builtin "type.__call__"))
 typ:instIn K (.ref C) (.type "type")=some true
structure TopF(X:Cx)(K:Frag)(cfg:Cfg)(glb:List (Nat×AV)):Prop where
 inB:K.In X.B
 bui:∃ mb,X.B.Ns Qh mb/\∀ x:Str,x≠"__name__"->mb x=SZ x
 glb:∀ p∈glb,LA K p=true
 keep:∀ a,(aX a cfg.fns).isSome=true\/(aX a cfg.cls).isSome=true\/(aX a cfg.con).isSome=true->cO K a=true
 gobs:cy X cfg
 cls:∀ C ci,aX C cfg.cls=some ci->ci.isExc=false->ClsOK K C ci
 exc:∀ C ci,aX C cfg.cls=some ci->ci.isExc=true->XOK K C ci
 xmk:∀ C ci,aX C cfg.cls=some ci->ci.isExc=true->XMk K C ci
 excS:∀ C D,dL cfg D=true->dL cfg C=true->exmOne K (.ref C) (.ref D)=some (jZ cfg C D)
theorem bC{α:Type u}{x:α}{l:List (Nat×α)}(h:aX n l=some x):(n,x)∈l:=by
 induction l with
 | nil=>exact am h
 |
  cons p r ih=>
  rw[aK] at h;by_cases q:p.1=n
  ·rw[if_pos q] at h;rw[<-q,<-Oy h];exact .head _
  ·rw[if_neg q] at h;exact .tail _ (ih h)
section
variable {glb:List (Nat×AV)} {c:FC} {k:CC} {n:Nat} {s:Shared} {K:Frag}
structure InstIs(X:Cx)(V:Va)(s:Shared)(v:Value)(C:Nat)(es:bN)(x dx:Addr)(ox od:Obj):Prop where
 v:v=.ref x
 hx:s.heap.get? x=some ox
 hd:s.heap.get? dx=some od
 cls:ox.cls=.ref C
 data:ox.data=.plain
 dict:ox.dict=some dx
 den:DenO X false V od (.atd es)
theorem rQ(H:St X V σ s){i C d:Nat}{es:bN}{v:Value}(eo:σ.own.get i=some (.inst C d))(ed:σ.own.get d=some (.atd es))(dv:DenV V (.own i) v):∃ x dx ox od,InstIs X V s v C es x dx ox od/\V.ρ[d]?=some dx:=by
 obtain⟨x,ox,h1,h2,h3,h4,a,h5,h6⟩:=H.own _ _ eo nofun
 obtain⟨dx,od,k1,k2,k3⟩:=H.own _ _ ed nofun
 obtain rfl:=Oy (k1.symm.trans (show V.ρ[d]?=some a from h5))
 obtain⟨y,hv,hy⟩:=dv.inv;obtain rfl:=Oy (h1.symm.trans hy);exact⟨x,_,ox,od,⟨hv,h2,k2,h3,h4,h6,k3⟩,k1⟩
theorem rR(H:St X V σ s){i C d:Nat}{es:bN}{v:Value}(eo:σ.frz.l[i]?=some (.inst C d))(ed:σ.frz.l[d]?=some (.atd es))(dv:DenV V (.frz i) v):∃ x dx ox od,InstIs X V s v C es x dx ox od:=by
 obtain⟨x,ox,h1,h2,⟨h3,h4,a,h5,h6⟩,_⟩:=H.frz _ _ eo;obtain⟨dx,od,k1,k2,k3,_⟩:=H.frz _ _ ed;obtain rfl:=Oy (k1.symm.trans (show V.φ[d]?=some a from h5))
 obtain⟨y,hv,hy⟩:=dv.inv;obtain rfl:=Oy (h1.symm.trans hy);exact⟨x,_,ox,od,⟨hv,H.stays _ _ h2,H.stays _ _ k2,h3,h4,h6,k3⟩⟩
theorem vC{c d C d':Nat}{es:bN}(h:Dp σ o c d=some (C,d',es))(p:c=C->d=d'->(match lE o with|true=>σ.own.get d|false=>σ.frz.l[d]?)=some (.atd es)->P):P:=
 bG h λ es' e q=>by
  injection q with q1 q;injection q with q2 q3
  exact p q1 q2 (q3▸vw mu e)
theorem gZ(H:St X V σ s){C d:Nat}{es:bN}{v:Value}(e:fu σ o=some (C,d,es))(dv:DenV V o v):∃ x dx ox od,InstIs X V s v C es x dx ox od/\(∀ i,o=.own i->V.ρ[d]?=some dx/\σ.own.get d=some (.atd es)):=
 aw e λ p eo e=>vC e λ q1 q2 ed=>by
  have eo:=vw (c:=λ p=>AO.inst p.1 p.2) lh eo;rw[q1,q2] at eo;rw[q2] at ed;exact(AV.casesOn (motive_1:=λ o=>σ.get o=some (.inst C d)->(match lE o with|true=>σ.own.get d|false=>σ.frz.l[d]?)=some (.atd es)->DenV V o v->∃ x dx ox od,InstIs X V s v C es x dx ox od/\(∀ i,o=.own i->V.ρ[d]?=some dx/\σ.own.get d=some (.atd es))) o (λ eo J J=>am eo) (λ J=>λ eo J J=>am eo) (λ J=>λ eo J J=>am eo) (λ J=>λ eo J J=>am eo) (λ J=>λ eo J J=>am eo) (λ J=>λ eo J J=>am eo) (λ J=>λ eo J J=>am eo) (λ J=>λ eo J J=>am eo) (λ i=>λ eo ed dv=>(rQ H eo ed dv).rec λ x dx ox od q=>⟨x,dx,ox,od,q.1,λ J J=>⟨q.2,ed⟩⟩) (λ i=>λ eo ed dv=>(rR H eo ed dv).rec λ x dx ox od q=>⟨x,dx,ox,od,q,λ J=>nofun⟩) (λ J=>λ eo J J=>am eo) (λ J=>λ eo J J=>am eo) (λ J=>λ eo J J=>am eo) (λ eo J J=>am eo) (λ eo J J=>am eo) (λ J=>λ eo J J=>am eo) (λ eo J J=>am eo) (λ eo J J=>am eo) (λ J J J=>λ eo J J=>am eo) (λ J=>λ eo J J=>am eo)) eo ed dv
theorem InstIs.at_{v:Value}{C:Nat}{es:bN}{x dx:Addr}{ox od:Obj}(I:InstIs X V s v C es x dx ox od):W.InstAt s.heap x ox C (some od):=
 ⟨I.hx,I.cls,by unfold notCls;rw[I.data],by rw[I.dict];exact I.hd⟩
theorem jc{od:Obj}{ents:Array DictEntry}(hd:od.data=.dict ents n)(hk:StrKeys ents):lookIn m od=some (Ru ents m):=by
 unfold lookIn Ru findBy;rw[hd];dsimp only;rw[<-Array.find?_toList];have:ents.toList.any (·.refKey)=false:=QQ.mpr λ e he=>by
  obtain⟨n,t,h⟩:=hk e (Array.mem_toList_iff.mp he);unfold DictEntry.refKey;rw[h];exact O7
 rw[this];rcases ents.toList.find? _ with _|e<;>rfl
theorem jl{v:AV}{y:Value}(h:ij v=true)(d:DenV V v y):handedIn y=true:=
 d.rec (motive:=λ v y J=>ij v=true->handedIn y=true) (λ J=>rfl) (λ J J=>rfl) (λ J J=>rfl) (λ J J J=>rfl) (λ J J J=>rfl) (λ J J J=>rfl) (λ J J J=>rfl) (λ J J J=>rfl) (λ J J=>rfl) (λ J J=>rfl) (λ J J=>rfl) (λ J=>nof) (λ J J J=>rfl) (λ J=>nof) (λ J J J J=>rfl) (λ J J J=>rfl) (λ J J=>rfl) (λ J J J J=>rfl) (λ J J J J J J=>rfl) h
theorem wN{C:Nat}{ci:ClsI}(hm:okS m=true)(Y:ClsOK K C ci)(e:aX (nm m) ci.attrs=some .no):PW K (.ref C) m=some none:=by
 have:=Y.attrs _ (bC e);unfold zT at this;rw[OA] at this;rw[jX this.1 hm rfl];exact beq_iff_eq.mp this.2
theorem wO{C f:Nat}{ci:ClsI}(hm:okS m=true)(Y:ClsOK K C ci)(e:aX (nm m) ci.attrs=some (.meth f)):PW K (.ref C) m=some (some (.ref f))/\typeIn K (.ref f)=some (.type "function"):=by
 have:=Y.attrs _ (bC e);unfold zT at this;rw[OA] at this;rw[jX this.1 hm rfl];have h:=this.2;simp only[OA,beq_iff_eq] at h;exact h.1
theorem wM{C f:Nat}{ci:ClsI}(hm:okS m=true)(Y:ClsOK K C ci)(e:aX (nm m) ci.attrs=some (.prop f)):∃ q rest,PW K (.ref C) m=some (some (.ref q))/\Ts K (.ref q) "__get__"=some (some (.builtin "property.__get__"))/\takesIn K (.ref q)=some true/\recIn K q "property"=some (.ref f::rest):=by
 have this:(Dl (nm m)&&MZ K f (oo xg (PW K (.ref C) (unS (nm m)))))=true:=Y.attrs _ (bC e);rw[OA] at this;have e0:=jX this.1 hm rfl;have h:=this.2;rw[<-e0] at h;rcases e1:oo xg (PW K (.ref C) m) with _|q
 ·rw[e1] at h;exact nof h
 ·rw[e1] at h;have h:=(OA _ _).mp h;have h1:=(OA _ _).mp h.1;refine M1 e1 λ v ev er=>aw (beq_iff_eq.mp h.2) λ l el h=>aw h λ w ew h=>?_;rcases l with _|⟨w',r⟩
  ·exact am ew
  ·obtain rfl:=Oy ew;exact⟨q,r,t5 er▸ev,beq_iff_eq.mp h1.1,beq_iff_eq.mp h1.2,t5 h▸el⟩
theorem vJ{C:Nat}{ci:ClsI}{v:Value}{es:bN}{x dx:Addr}{ox od:Obj}{V':Va}{a:AV}(T:K.In X.B)(hb:∀ b o,X.B.get? b=some o->s.heap.get? b=some o)(hm:okS m=true)(Y:ClsOK K C ci)(I:InstIs X V' s v C es x dx ox od)(e:aX (nm m) ci.attrs=some .no)(hl:lx (nm m) es=some a)(hp:ij a=true) :
 ∃ y,DenV V' a y/\∀ {ex:Bool} {A:Around} {Q:VP} {E:VP},Q y { s with toks:=s.toks+1 }->wpAny (Mo X) A (Rs v m ex) Q E s:=by
 obtain⟨ents,nn,ns,h1,h2,h3,h4,h5⟩:=I.den;obtain⟨y,hy,dy⟩:=h4.some_ hm hl;refine⟨y,dy,λ {ex A Q E} q=>?_⟩;rw[I.v];obtain⟨cd,hcd,hdict⟩:=Y.cd;refine get_value (K:=K) (T.keeps hb) I.at_ Y.ga ?_ (jl hp dy) q;unfold findObj;rw[hcd,wN hm Y e];show(W.ownOf cd (some od) m).bind _=_;unfold W.ownOf;rw[hdict,if_pos rfl];dsimp only;rw[jc h1 h2,hy];rfl
theorem lC:okS "kind"=true:=by decide +kernel
theorem iE:okS "value"=true:=by decide +kernel
theorem B6{β:Type u}(l:List AO)(j:Nat)(o:AO)(k:List AO->β):Ks l j o k=k (l.set j o):=by
 induction l generalizing j k with
 | nil=>rfl
 | cons x r ih=>
  rcases j with _|j
  ·rfl
  ·exact ih _ _
theorem iY{g:Sg}{o:AO}{k:Sg->R}:B7 g j o k=k ⟨g.own,g.n,⟨g.frz.l.set j o,g.frz.nd,g.frz.facts⟩⟩:=by
 unfold B7;rw[B6]
theorem St.closer(H:St X V σ s){o o':AO}(e:σ.frz.l[j]?=some o)(hd:∀ ob,DenO X true V ob o')(hz:∀ a,V.φ[j]?=some a->FzOK X V a o'):St X V ⟨σ.own,σ.n,⟨σ.frz.l.set j o',σ.frz.nd,σ.frz.facts⟩⟩ s:=
 {
  H with
  lenF:=H.lenF.trans List.length_set.symm
  frz:=λ i o2 e2=>by
   have e2:(σ.frz.l.set j o')[i]?=some o2:=e2;by_cases q:j=i
   ·subst q;rw[Ss (OJ.mp e).1] at e2;obtain rfl:=Oy e2;exact(H.frz j o e).rec λ a ob r=>⟨a,ob,r.1,r.2,hd ob,hz a r.1⟩
   ·rw[List.getElem?_set_ne q] at e2;exact H.frz i o2 e2 }
theorem yo(H:St X V σ s){k:Option AO->Sg->R}(ha:V.φ[j]?=some a)(h:(lf σ j k).Sat Φ):∃ σ' o,Keep σ σ'/\St X V σ' s/\σ'.frz.l[j]?=o/\(k o σ').Sat Φ:=by
 unfold lf at h;rcases e:(σ.frz.l[j]?).bind JD with _|m
 ·rw[e] at h;exact⟨σ,_,.rfl,H,rfl,h⟩
 ·rw[e] at h;have e:=vw Ax e;obtain⟨a',ob,h1,h2,_,d,t,h3,h4⟩:=H.frz j _ e;have go:∀ {o'},(∀ ob,DenO X true V ob o')->FzOK X V a' o'->(B7 σ j o' (k (some o'))).Sat Φ->∃ σ' o,Keep σ σ'/\St X V σ' s/\σ'.frz.l[j]?=o/\(k o σ').Sat Φ:=λ {o'} hd hz hk=>
   ⟨⟨σ.own,σ.n,⟨σ.frz.l.set j o',σ.frz.nd,σ.frz.facts⟩⟩,some o',⟨λ i es e=>⟨es,e⟩,λ i c d e=>e⟩,H.closer e hd (λ a2 h5=>Oy (h1.symm.trans h5)▸hz),Ss (OJ.mp e).1,by rw[iY] at hk;exact hk⟩
  rcases hI:d.isI with _|_
  ·rcases hB:d.isB with _|_
   ·exact go (o':=.otx m) (λ J=>trivial) ⟨d,t,h3,h4,hI,hB⟩ h.2.2.2
   ·rcases hT:d.truth with _|_
    ·exact go (o':=.otb m false) (λ J=>trivial) ⟨d,t,h3,h4,hB,hT⟩ h.2.2.1
    ·exact go (o':=.otb m true) (λ J=>trivial) ⟨d,t,h3,h4,hB,hT⟩ h.2.1
  ·exact go (o':=.oti m) (λ J=>trivial) ⟨d,t,h3,h4,hI⟩ h.1
theorem H6(d:Desc):(aZ d 0)[1]?=some (.inst cC 2):=by rcases d with⟨⟩<;>rfl
theorem LK(d:Desc):∃ v acc,(aZ d 0)[2]?=some (bK d v acc):=by rcases d with⟨⟩<;>exact⟨_,_,rfl⟩
theorem fY{d:Desc}{t th:Addr}(hs:∀ b o,V.K b o->s.heap.get? b=some o)(h:OpdAt X V.K d t th):∃ φ' v acc dx ox od,InstIs X ⟨[],φ',V.K,[]⟩ s (.ref th) cC [(dC,.str d.kind),(cQ,v),(nm "is_exec",.any),(nm "access",acc)] th dx ox od/\(aZ d 0)[2]?=some (bK d v acc):=by
 obtain⟨_,φ',p0,p1,p2,p3⟩:=h;obtain⟨v,acc,e2⟩:=LK d;obtain⟨a1,o1,q1,q2,q3,q4,dx,q5,q6⟩:=p3 1 _ (H6 d);obtain⟨a2,o2,r1,r2,r3⟩:=p3 2 _ e2;obtain rfl:=Oy (p1.symm.trans q1);obtain rfl:=Oy (r1.symm.trans (show φ'[2]?=some dx from q5))
 exact⟨φ',v,acc,_,_,_,⟨rfl,hs _ _ q2,hs _ _ r2,q3,q4,q6,r3⟩,e2⟩
theorem GI:dC≠cQ:=by decide +kernel
theorem px{v:AV}(h:v≠.hid):td v=some v:=by
 rcases e:isHid v with _|_
 ·unfold td;rw[e]
 ·exact absurd ((AV.casesOn (motive_1:=λ v=>isHid v=true->v=.hid) v nof (λ J=>nof) (λ J=>nof) (λ J=>nof) (λ J=>nof) (λ J=>nof) (λ J=>nof) (λ J=>nof) (λ J=>nof) (λ J=>nof) (λ J=>nof) (λ J=>nof) (λ J=>nof) (λ J=>rfl) nof (λ J=>nof) nof nof (λ J J J=>nof) (λ J=>nof)) e) h
theorem gJ(T:TopF X K cfg glb){ci:ClsI}(hc:aX cC cfg.cls=some ci)(hx:ci.isExc=false)(hk:aX dC ci.attrs=some .no)(H:St X V σ s){d:Desc}(h:OpdAt X V.K d t a){E:VP}
 (q:∀ z tk,z.cps.toList=d.kind->Q (.str z tk) { s with toks:=s.toks+1 }):wpAny (Mo X) A (Rs (.ref a) "kind" ex) Q E s:=by
 obtain⟨φ',v,acc,dx,ox,od,I,_⟩:=fY H.stays h;obtain⟨y,dy,go⟩:=vJ T.inB H.bs lC (T.cls _ _ hc hx) I hk (a:=.str d.kind) (by unfold lx;rw[aK,if_pos (show dC=nm "kind" from rfl)];rfl) rfl
 obtain⟨z,tk,rfl,e⟩:=dy.inv;exact go (q _ _ e)
theorem iS(T:TopF X K cfg glb){ci:ClsI}(hc:aX cC cfg.cls=some ci)(hx:ci.isExc=false)(hk:aX cQ ci.attrs=some .no)(H:St X V σ s){d:Desc}(h:OpdAt X V.K d t a){E:VP}{n:AV}
 (hv:∀ v acc,(aZ d 0)[2]?=some (bK d v acc)->v=n) (hp:ij n=true) (hh:n≠.hid) (q:∀ φ' y,DenV ⟨[],φ',V.K,[]⟩ n y->Q y { s with toks:=s.toks+1 }):wpAny (Mo X) A (Rs (.ref a) "value" ex) Q E s:=by
 obtain⟨φ',v,acc,dx,ox,od,I,e2⟩:=fY H.stays h;obtain rfl:=hv v acc e2;obtain⟨y,dy,go⟩:=vJ T.inB H.bs iE (T.cls _ _ hc hx) I hk (a:=v) (by
  unfold lx;rw[aK,if_neg (show ¬ dC=nm "value" from GI),aK,if_pos (show cQ=nm "value" from rfl)]
  exact px hh) hp
 exact go (q _ _ dy)
theorem uw(hm:okS m=true){x y:AV}{P:Str->Prop}(h:(yp (nm m) σ i x y).Sat Φ)(k:(val x σ).Sat Φ->P "kind")(v:(val y σ).Sat Φ->P "value"):P m:=by
 unfold yp at h;rcases e:OC (nm m) dC with _|_
 ·rw[e] at h;refine az h λ e h=>?_;obtain rfl:=eP hm iE (OB e);exact v h
 ·rw[e] at h;obtain rfl:=eP hm lC (OB e);exact k h
theorem Dn{d:Desc}(h:d.isI=true):∃ n,d=.int n:=by rcases d with⟨⟩<;>first|exact⟨_,rfl⟩|exact nof h
theorem y7{d:Desc}(h:d.isB=true):∃ n,d=.bool n:=by rcases d with⟨⟩<;>first|exact⟨_,rfl⟩|exact nof h
theorem Ep(T:TopF X K cfg glb){x:AV}{E:VP}(hci:∃ ci,aX cC cfg.cls=some ci/\ci.isExc=false/\aX dC ci.attrs=some .no/\aX cQ ci.attrs=some .no)(hm:okS m=true)(H:St X V σ s)(dx:DenV V x vx)(h:(Ml σ (nm m) x).Sat Φ):wpAny (Mo X) A (Rs vx m ex) (PV X V σ Φ) E s:=by
 obtain⟨ci,hc,hx,hk,hv⟩:=hci;refine bn h λ j ej h=>?_;obtain⟨a,rfl,ha⟩:=lI ej dx;obtain⟨σ',o,k1,H1,ho,h1⟩:=yo H ha h;subst ho;have h1:(Cw (nm m) σ' σ'.frz.l[j]?).Sat Φ:=h1;unfold Cw at h1;rcases q:(σ'.frz.l[j]?).bind Fd with _|i
 ·rw[q] at h1;rcases q:(σ'.frz.l[j]?).bind Fe with _|i
  ·rw[q] at h1;refine bn h1 λ i q h1=>az h1 λ e h1=>?_;obtain⟨a',ob,f1,f2,_,d,t,f3,f4,f5,f6⟩:=H1.frz j _ (vw Gv q);obtain rfl:=Oy (ha.symm.trans f1);obtain rfl:=eP hm lC (OB e);exact gJ T hc hx hk H1 f4 λ z tk e=>PV.trans .rfl k1 (PV.here H1.toks (.kd tk f3 f5 f6 e) h1)
  ·rw[q] at h1;obtain⟨a',ob,f1,f2,_,d,t,f3,f4,f5,f6⟩:=H1.frz j _ (vw (c:=λ p=>AO.otb p.1 p.2) Gy q);obtain rfl:=Oy (ha.symm.trans f1);obtain⟨b',rfl⟩:=y7 f5;refine uw (P:=λ m=>wpAny (Mo X) A (Rs (.ref a) m ex) (PV X V σ Φ) E s) hm h1 (λ h1=>gJ T hc hx hk H1 f4 λ z tk e=>PV.trans .rfl k1 (PV.here H1.toks (.str tk e) h1)) λ h1=>?_;exact iS T hc hx hv H1 f4 (n:=.bool b') (λ v acc e=>by rcases e with⟨⟩;rfl) rfl nofun λ φ' y dy=>(dy.inv:y=.bool b')▸PV.trans .rfl k1 (PV.here H1.toks (f6▸.bool _) h1)
 ·rw[q] at h1;obtain⟨a',ob,f1,f2,_,d,t,f3,f4,f5⟩:=H1.frz j _ (vw Gx q);obtain rfl:=Oy (ha.symm.trans f1);obtain⟨n,rfl⟩:=Dn f5;refine uw (P:=λ m=>wpAny (Mo X) A (Rs (.ref a) m ex) (PV X V σ Φ) E s) hm h1 (λ h1=>gJ T hc hx hk H1 f4 λ z tk e=>PV.trans .rfl k1 (PV.here H1.toks (.str tk e) h1)) λ h1=>?_;exact iS T hc hx hv H1 f4 (n:=.si n) (λ v acc e=>by rcases e with⟨⟩;rfl) rfl nofun λ φ' y dy=>dy.inv.elim λ tk q=>q▸PV.trans .rfl k1 (PV.here H1.toks (.ti (t:=0) _ f3 f3) h1)
theorem cg{b:Bool}{C n:Nat}{ca:CA}(e:dF cfg b C n=some ca):∃ ci,aX C cfg.cls=some ci/\ci.isExc=b/\aX n ci.attrs=some ca:=aw e λ ci hc e=>ay e λ q e=>⟨ci,hc,Pf q,e⟩
theorem ui{t:R}(h:(t.bind Cu).Sat Φ):t.Sat λ r=>∃ x,r.1=.v x/\ij x=true/\Φ r:=
 T.sat_mono (λ r h=>bn h λ x e h=>az h λ q h=>⟨x,Ar e,q,h⟩) (T.sat_bind h)
theorem wP(T:TopF X K cfg glb)(hC:SC X ih){x:AV}{d C f:Nat}{es:bN}{a da:Addr}{ox od:Obj}(hm:okS m=true)(hA:AOK X V σ A d 0)(H:St X V σ s)(dx:DenV V x vx)(I:InstIs X V s vx C es a da ox od)(hc:dF cfg false C (nm m)=some (.prop f))(h:((ih (.call d (.glob f) [x]) σ).bind Cu).Sat Φ) :
 wpAny (Mo X) A (Rs vx m ex) (PV X V σ Φ) (PE X V σ Φ) s:=by
 obtain⟨ci,hci,hx,ha⟩:=cg hc;have Y:=T.cls _ _ hci hx;obtain⟨q,rest,q1,q2,q3,q4⟩:=wM hm Y ha;obtain⟨cd,hcd,hdict⟩:=Y.cd;have hv:=I.v;subst hv;refine get_bind (K:=K) (g:=.builtin "property.__get__") (a:=.ref q) (T.inB.keeps H.bs) I.at_ Y.ga ?_ Y.gt ?_
 ·unfold findObj;rw[hcd,q1];show((Ts K (.ref q) "__get__").bind _)=_;rw[q2];show((takesIn K (.ref q)).bind _)=_;rw[q3];rfl
 ·have hcall:=(hC (as:=[x]) (vs:=[.ref a]) (DenV.glob f) (.cons dx .nil) (hA.in1.up (by decide:0+1<=2)) (H.toks (t:=s.toks+1)) (ui h)).1 _ rfl
  refine Rz (prop_get (K:=K) (s:={ s with toks:=s.toks+1 }) (T.inB.keeps H.bs) q4 (PD hcall λ r s' z=>?_))
  rcases r with e|fl
  ·exact z.rec λ J J J J J J J J J J J J f=>f.elim λ J f=>nomatch f.1
  ·rcases fl with⟨⟩|v
   all_goals first
    | exact z.elim
    | exact z.rec λ V' σ' av l1 k1 H1 d1 f=>f.elim λ x' f=>handed_on (jl f.2 (Out.v.inj f.1▸d1)) ⟨V',σ',av,l1,k1,H1,d1,f.3⟩
theorem Er(T:TopF X K cfg glb)(hC:SC X ih){x:AV}{d C dd:Nat}{es:bN}(hm:okS m=true)(hA:AOK X V σ A d 0)(H:St X V σ s)(dx:DenV V x vx)(e:fu σ x=some (C,dd,es))(h:(Mm cfg ih d σ x (nm m) C es).Sat Φ) :
 wpAny (Mo X) A (Rs vx m ex) (PV X V σ Φ) (PE X V σ Φ) s:=by
 obtain⟨a,da,ox,od,I,_⟩:=gZ H e dx;refine bn h λ ca hc h=>?_;rcases ca with⟨⟩|f|f
 ·refine bn h λ v hl h=>az h λ hp h=>?_;obtain⟨ci,hci,hx,ha⟩:=cg hc;obtain⟨y,dy,go⟩:=vJ T.inB H.bs hm (T.cls _ _ hci hx) I ha hl hp;exact go (PV.here H.toks dy h)
 ·exact O1 h
 ·exact wP T hC hm hA H dx I hc h
end
end
section
universe u
open PySem PySem.W PySem.Builtin PySem.Builtin.ObjectAttr
variable {rest:List Value} {X:String}
theorem Ap:∀ {pre l:List Value},pre.all gj=true->(pre++l).contains (.type X)=l.contains (.type X)
 | [],_,_=>rfl
 |
  a::r,l,h=>by
  rw[RH,OA] at h;have:∃ b,a=.ref b:=by cases a<;>first|exact⟨_,rfl⟩|cases h.1
  obtain⟨b,rfl⟩:=this;rw[Ul,List.contains_cons,Ap h.2];rfl
theorem j5{self:Value}:∀ {pre l:List Value},pre.all gj=true->refuseLoop self "__setattr__" (pre++l)=refuseLoop self "__setattr__" l
 | [],_,_=>rfl
 |
  a::r,l,h=>by
  rw[RH,OA] at h;have:∃ b,a=.ref b:=by cases a<;>first|exact⟨_,rfl⟩|cases h.1
  obtain⟨b,rfl⟩:=this;rw[Ul,refuseLoop_ref,j5 h.2]
section
variable {prog:Program} {w:World} {R:Qa->Shared->Prop} {h:Heap} {g:Array GenState} {d:Drawn} {t:Nat} {os:OsState}
variable {nm q:Str} {C N:Addr} {bs pre:List Value} {hdct:Bool} {sn:List Str} {sub:List Value} {ab:Bool} {col:Option Bool} {dd:Option Addr} {k0 k1 k2 k3 k5:Option Value}
noncomputable abbrev xTail:List Value:=[.type "Exception",.type "BaseException",.type "object"]
theorem sR{b:Bool}(hp:pre.all gj=true)(hb:xTail.contains (.type X)=b):(Value.ref C::(pre++xTail)).contains (.type X)=b:=by
 rw[List.contains_cons,Ap hp,hb];rfl
theorem Bv{M:Model}{E:VP}{Q:Unit->Shared->Prop}(hp:pre.all gj=true)(hC:h.get? C=some (excClassObj nm q C N bs (pre++xTail) hdct sn sub ab col dd k0 k1 k2 k3 k5 "Exception.__new__"))
 (hq:Q () ⟨h,g,d,t,os⟩):wpAny M A (Qe "Exception.__new__" ⟨.ref C::rest,[]⟩) Q E ⟨h,g,d,t,os⟩:=by
 have F:=RN;have hcont:(Value.ref C::(pre++xTail)).contains (.type "Exception")=true:=sR hp F.hasB;have hstar:=F.noStar;simp only[Qe,F.newKind,F.newSplit,F.newRow]
 repeat (first|refine TR hC ?_|(refine Te hC ?_;rw[hcont])|refine wpAny_staticBase_exc hC ?_|refine wpAny_madeBy_exc hC ?_|simp only[bne_self_eq_false,Bool.false_eq_true,if_false]|wp_step)
 exact hq
theorem Ka(hp:pre.all gj=true)(hC:h.get? C=some (excClassObj nm q C N bs (pre++xTail) hdct sn sub ab col dd k0 k1 k2 k3 k5 "Exception.__new__"))
 (hq:R (.ok (.ret (.ref (h.objs.size+1)))) ⟨(h.push { cls:=.type "tuple",data:=.seq rest.toArray }).push
  { cls:=.ref C,data:=.fields #[.ref h.objs.size,.none,.none,.none,.bool false,.none] },g,d,t,os⟩) (hrest:rest.length<=P8:=by size_fits) :
 Pd (model prog w) A (.builtin "Exception.__new__" ⟨.ref C::rest,[]⟩) R ⟨h,g,d,t,os⟩:=by
 have F:=RN;have hends:=F.ends;have hcB:(Value.ref C::(pre++xTail)).contains (.type "Exception")=true:=sR hp F.hasB;have hcA:(Value.ref C::(pre++xTail)).contains (.type "AttributeError")=false:=sR hp F.noAttr;have hcN:(Value.ref C::(pre++xTail)).contains (.type "NameError")=false:=sR hp F.noName;refine codeAny_builtinAt F.entry ?_;unfold P6.«BaseException.__new__»;refine wpAt_bind ?_;show wpAt _ _ _ (stack >>= _) _ _ _;refine wpAt_bind (wpAt_stack λ p below=>wpAt_of_wpAny ?_)
 wp_walk
 refine wpAt_of_wpAny ?_;rw[F.owner]
 repeat (first|with_reducible refine wpAny_madeHere_exc F.canon hC ?_|with_reducible refine TR hC ?_|(with_reducible refine Te hC ?_;first|rw[hcB]|rw[hcA]|rw[hcN])|wp_step)
 show R _ _;rw[PK];exact hq
theorem Fy{K:Frag}{ci:ClsI}(X:K.In h)(Y:XMk K C ci)(hrest:rest.length<=P8)
 (hq:Pd (model prog w) (A.under (.builtin "type.__call__" ⟨.ref C::rest,[]⟩)) (.call (.ref ci.init) ⟨.ref (h.objs.size+1)::rest,[]⟩) (InitBack (h.objs.size+1) R) ⟨(h.push { cls:=.type "tuple",data:=.seq rest.toArray }).push
  { cls:=.ref C,data:=.fields #[.ref h.objs.size,.none,.none,.none,.bool false,.none] },g,d,t,os⟩) :
 Pd (model prog w) A (.call (.ref C) ⟨rest,[]⟩) R ⟨h,g,d,t,os⟩:=by
 have F:=RN;obtain⟨nm,q,N,bs,pre,sn,sub,ab,col,dd,k0,k1,k2,k3,k5,hl,hp⟩:=Y.obj;have hC:=X _ _ hl;have call:Looks (model prog w) h (specialOf (.ref C) "__call__") (some (.builtin "type.__call__")):=looks_specialIn X Y.call;have typ:Looks (model prog w) h (QI (.ref C) (.type "type")) true:=looks_instIn X Y.typ;refine codeAny_of_tree ?_;show wpAny _ _ (callAny (.ref C) _) _ _ _;refine nd_load hC ?_;show wpAny _ _ (Sk (.ref C) _) _ _ _;unfold Sk;refine Oz (call.at ?_);dsimp only;rw[tc_bind];refine Oz (OD (Oz (OD ?_)));refine OD (a:=Fin.again (.call (.builtin "type.__call__") ⟨.ref C::rest,[]⟩)) (And.intro rfl ?_);refine codeAny_call_builtin_at (R1 _ (by decide +kernel)) entry_typeCall (check_slot tc_kind tc_split typ (tc_args _ _ _) ?_)
 unfold P6.«type.__call__»
 repeat (first|with_reducible refine TR hC ?_|with_reducible refine wpAny_madeBy_exc hC ?_|wp_step)
 refine codeAny_call_builtin_code (R1 _ F.quiet) (Bv hp hC ?_);refine Ka hp hC ?_ hrest;show wpAny _ _ _ _ _ _;have k:∀ b o,h.get? b=some o->((h.push { cls:=.type "tuple",data:=.seq rest.toArray }).push { cls:=.ref C,data:=.fields #[.ref h.objs.size,.none,.none,.none,.bool false,.none] }).get? b=some o:=λ b o e=>OO _ (OO _ e);have hx:((h.push { cls:=.type "tuple",data:=.seq rest.toArray }).push { cls:=.ref C,data:=.fields #[.ref h.objs.size,.none,.none,.none,.bool false,.none] }).get? (h.objs.size+1)=some { cls:=.ref C,data:=.fields #[.ref h.objs.size,.none,.none,.none,.bool false,.none] }:=by heap_get
 have t1:Looks (model prog w) ((h.push { cls:=.type "tuple",data:=.seq rest.toArray }).push { cls:=.ref C,data:=.fields #[.ref h.objs.size,.none,.none,.none,.bool false,.none] }) (typeOf (.ref (h.objs.size+1))) (.ref C):=(Tm hx).andThen .now;have hCC:=k _ _ hC;have hcC:(Value.ref C::(pre++xTail)).contains (.ref C)=true:=by simp
 have X1:=X.keeps k;have i1:Looks (model prog w) ((h.push { cls:=.type "tuple",data:=.seq rest.toArray }).push { cls:=.ref C,data:=.fields #[.ref h.objs.size,.none,.none,.none,.bool false,.none] }) (QU (.ref C) "__init__") (some (.ref ci.init)):=R2 X1 Y.ini;have b1:=bind_fn (M:=model prog w) X1 (.ref (h.objs.size+1)) Y.inif;unfold QI callSpecial? specialOf
 repeat (first|with_reducible refine Rz ?_|(with_reducible refine Te hCC ?_;rw[hcC])|lk)
 refine PD hq λ r s' z=>?_;rcases r with e|(v|_|_|_)<;>first|exact z|exact z.elim|skip
 obtain⟨rfl,z⟩:=z;exact OD (OD z)
end
end
section
universe u
open PySem PySem.W PyProof.Rows PySem.SeqAt
variable {v w:AV} {a:Addr} {es:bN} {C d i n:Nat} {kont:Sg->R} {m:Str} {y z:Value}
section
variable {glb:List (Nat×AV)} {c:FC} {k:CC} {n:Nat} {s:Shared} {K:Frag}
theorem rf(n:Nat)(v:AV)(p:Nat×AV)(r:bN):eE n v (p::r)=if p.1=n then(n,v)::r else p::eE n v r:=by
 show(match OC p.1 n with|true=>(n,v)::r|false=>p::eE n v r)=_
 rcases h:OC p.1 n with _|_
 ·rw[if_neg (OV h)]
 ·rw[if_pos (OB h)]
theorem de:(aX n es=none->(eE n v es).length=es.length+1)/\(∀ w,aX n es=some w->(eE n v es).length=es.length):=by
 induction es with
 | nil=>exact⟨λ J=>rfl,λ w h=>am h⟩
 |
  cons p r ih=>
  rw[rf,aK];by_cases q:p.1=n
  ·rw[if_pos q,if_pos q];exact⟨λ h=>am h.symm,λ J J=>rfl⟩
  ·rw[if_neg q,if_neg q];exact⟨λ h=>congrArg (·+1) (ih.1 h),λ w h=>congrArg (·+1) (ih.2 w h)⟩
theorem ye:(eE n v es).length<=es.length+1:=by
 rcases e:aX n es with _|w
 ·exact Pp (de.1 e)
 ·exact QP (Pp (de.2 w e))
theorem s9{o:Option AV}(h:tc o=true):o≠some .hid:=λ q=>by subst q;exact OG h
theorem yL(e:aX n es=some v)(h:aX n es≠some .hid):lx n es=some v:=by
 unfold lx;rw[e];exact px λ q=>h (e.trans (congrArg some q))
theorem qV{ents:Array DictEntry}{ns:List Str}(hm:okS m=true)(x6:NsDen V es (Ru ents))(x7:Within (Ru ents) ns)(x8:ns.length<=es.length)(hh:aX (nm m) es≠some .hid):∃ ns',Within (λ y=>if y=m then some z else Ru ents y) ns'/\ns'.length<=(eE (nm m) w es).length:=by
 rcases e:aX (nm m) es with _|v0
 ·exact⟨m::ns,x7.cons m z,(de.1 e).symm▸PA x8⟩
 ·refine⟨ns,λ y hy=>?_,(de.2 v0 e).symm▸x8⟩;by_cases q:y=m
  ·subst q;exact(x6.some_ hm (yL e hh)).elim λ y0 r=>x7 y (by rw[r.1];nofun)
  ·exact x7 y (by simpa [q] using hy)
theorem wQ{dx:Addr}(H:St X V σ s)(hm:okS m=true)(hd:V.ρ[d]?=some dx)(ho:σ.own.get d=some (.atd es))(dz:DenV V w z)(hl:es.length<1000)(hh:aX (nm m) es≠some .hid)(h:(t8 (nm m) w es λ es=>σ.set d (.atd es) kont).Sat Φ)
 {Q:Unit->Shared->Prop} {E:VP} (q:∀ s',PN X V σ (λ g=>(kont g).Sat Φ) s'->Q () s') {tk:Tok}:wpAny (Mo X) A (Rd dx (.str m tk) m z) (λ fin s'=>match fin with | .done (.ret _)=>Q () s'|_=>False) E s:=by
 rw[nX,bD] at h;obtain⟨a,ob,x1,x2,ents,n,ns,x3,x4,x5,x6,x7,x8⟩:=H.own _ _ ho nofun
 obtain rfl:=Oy (hd.symm.trans x1);unfold Rd Builtin.ObjectAttr.newKeyGuard;refine Oz (OD (Oz (wpAny_nsSet1 (m:=Ru ents) ⟨ob,ents,n,x2,x3,x4,x5,λ J=>rfl⟩ λ h' hn' hs=>?_)));obtain⟨ns',w1,w2⟩:=qV (w:=w) (z:=z) hm x6 x7 x8 hh;obtain⟨oD,esD,epD,hoD,hdD,hcD⟩:=hn'.count w1;refine Oz (wpAny_lookBehind hoD (by rw[hdD];exact pastItsLine_dict (OM hcD (OM w2 (OM ye (OM (PA (OU hl)) (by decide:1000+1<=P8+1)))))) (OD (q _ ?_)))
 obtain⟨o2,es2,ep2,e1,e2,e3,e4,e5⟩:=hn';have ee:Ru es2=λ y=>if y=m then some z else Ru ents y:=funext e5
 exact⟨V,_,.rfl,cH H ho nofun,H.upd (t:=s.toks+1) (o':=.atd (eE (nm m) w es)) ho hd (Pp hs.1.symm) (λ b o hb e=>(hs.2 b hb).trans e) e1 nofun ⟨es2,ep2,ns',e2,e3,e4,ee.symm▸x6.put hm dz,ee.symm▸w1,w2⟩,h⟩
theorem B5(T:TopF X K cfg glb){E:VP}(H:St X V σ s)(hi:V.ρ[i]?=some a)(ho:σ.own.get i=some (.exc0 C))(dz:DenV V w z)(hm:okS m=true)(hc:dF cfg true C (nm m)=some .no)
 (h:((σ.new (.atd []) λ d g=>g.set i (.exc C d) λ g=>t8 (nm m) w [] λ es=>g.set d (.atd es) kont):R).Sat Φ):wpAny (Mo X) A (setAttr (.ref a) m z) (λ J=>PN X V σ λ g=>(kont g).Sat Φ) E s:=by
 obtain⟨ci,hci,hx,ha⟩:=cg hc;have Y:=T.exc _ _ hci hx;have Ym:=T.xmk _ _ hci hx;have X0:=T.inB.keeps H.bs;obtain⟨nm0,q,N,bs,pre,sn,sub,ab,col,dd,k0,k1,k2,k3,k5,hl,hp⟩:=Ym.obj;have hC:=X0 _ _ hl;obtain⟨a',ob,x1,hg,x3,⟨vs,x4,x5,x6,x7⟩,x8⟩:=H.own _ _ ho (by nofun)
 rw[hi] at x1;cases x1
 have I:W.InstAt s.heap a ob C none:=⟨hg,x3,by unfold notCls;rw[x4],by rw[x8];trivial⟩
 have hcl:clsIn K C=some { name:=nm0,bases:=bs,mro:=.ref C::(pre++xTail),ns:=N,qualname:=q,hasDict:=true,slotNames:=sn,subclasses:=sub,abstract:=ab,collection:=col,hasDel:=false }:=by unfold clsIn;rw[hl]
 have Lc:=looks_clsIn (M:=Mo X) X0 hcl;have hmro:Looks (Mo X) s.heap (mroOf (.ref C)) (.ref C::(pre++xTail)):=Lc.andThen .now;have hobj:Looks (Mo X) s.heap (QI (.ref a) (.type "object")) true:=I.type.andThen (looks_mroIn X0 (by unfold mroIn;rw[hcl,Option.bind_some,if_neg (by simp)];rw[sR (b:=true) hp (by decide +kernel)]))
 have hno:PW K (.ref C) m=some none:=by
  have:=Y.attrs _ (bC ha);rw[jX this.1 hm rfl];exact this.2
 have SF:=PySem.F.store_object;refine set_plain (K:=K) X0 I Ym.sa ?_;refine Rw SF.slot.plain SF.entry (@check_slot (Mo X) _ _ { s with toks:=s.toks+1 } "object.__setattr__" "object" "__setattr__" (.ref a) [.str m s.toks,z] [] _ SF.kind SF.split hobj (SF.args (.ref a) (.str m s.toks) z) ?_)
 rw[osa_eq,refuse_eq];refine Oz (Oz (I.type.here (s:={ s with toks:=s.toks+1 }) (Oz (hmro.here (s:={ s with toks:=s.toks+1 }) ?_))))
 rw[refuseLoop_ref,j5 hp,PySem.F.store_Exception.passes];refine OD (Oz (I.type.here (s:={ s with toks:=s.toks+1 }) (Oz ((R2 X0 hno).here (s:={ s with toks:=s.toks+1 }) (Oz (OD ?_))))))
 show wpAny _ _ (Builtin.ObjectAttr.storeInOwnDict (.ref a) (.ref C) (.str m s.toks) m z false) _ _ _;obtain⟨o1,o2,o3,o4⟩:=ob;dsimp only at x3 x4 x8;subst x3 x4 x8;refine Oz (OD (Oz (Oz (wpAny_loadPart hg (Oz (Lc.here (s:={ s with toks:=s.toks+1 }) ?_))))))
 obtain⟨hb,h⟩:=bk h;rw[bD] at h;show wpAny _ _ (alloc { cls:=.type "dict",data:=.dict #[] } >>= λ d=>update a (λ o=>{ cls:=o.cls,dict:=some d,data:=o.data,slots:=o.slots }) >>= λ J=>pure (some d)) _ _ _;refine Oz (wpAny_alloc (Oz (wpAny_update (OO _ hg) ?_)));refine OD ?_;obtain⟨hh,gg,d0,t0,os⟩:=s;have H1:=H.new (t:=t0+1) (a:=hh.objs.size) (ob:={ cls:=.type "dict",data:=.dict #[] }) (o:=.atd []) (h':=hh.push { cls:=.type "dict",data:=.dict #[] }) (by rw[PK];exact QW _) (λ b o e=>OO _ e) (OR _) (Ph _ rfl) (λ J J e=>by cases e) ⟨#[],0,[],rfl,(by intro e he;simp at he),List.Pairwise.nil,.nil,(λ x hx=>absurd rfl hx),OR _⟩ hb
 have K1:=cq (o:=.atd []) H hb;have p1:(V.push hh.objs.size).ρ[σ.n]?=some hh.objs.size:=cb H;have hle:=V.le_push hh.objs.size;have ho1:(Tr.put' 40 σ.own σ.n (.atd [])).get i=some (.exc0 C):=by
  rw[Tr.get_put' 40 _ _ _ (OI (Pm hb) (by decide)),if_neg (OX (H.lt ho))];exact ho
 have hd1:(Tr.put' 40 σ.own σ.n (.atd [])).get σ.n=some (.atd []):=by
  rw[Tr.get_put' 40 _ _ _ (OI (Pm hb) (by decide)),if_pos rfl]
 have hg1:(hh.push { cls:=.type "dict",data:=.dict #[] }).get? a=some { cls:=.ref C,dict:=none,data:=.fields vs,slots:=o4 }:=OO _ hg;have hself:((hh.push { cls:=.type "dict",data:=.dict #[] }).update a λ o=>{ cls:=o.cls,dict:=some hh.objs.size,data:=o.data,slots:=o.slots }).get? a=some { cls:=.ref C,dict:=some hh.objs.size,data:=.fields vs,slots:=o4 }:=PG _ hg1 rfl;have H2:=H1.updX (t:=t0+1) (o':=.exc C σ.n) ho1 (hle.ρ hi) (Pp (QG ..).1.symm) (λ b o hb e=>((QG ..).2 b hb).trans e) hself (λ J J e=>⟨vs,rfl,⟨x5,x6⟩,x7⟩) ⟨rfl,⟨vs,rfl,x5⟩,hh.objs.size,p1,rfl⟩;have K2:Keep ⟨Tr.put' 40 σ.own σ.n (.atd []),σ.n+1,σ.frz⟩ ⟨Tr.put' 40 (Tr.put' 40 σ.own σ.n (.atd [])) i (.exc C σ.n),σ.n+1,σ.frz⟩:=cH H1 ho1 (λ es e=>by cases e)
 have hne:σ.n≠i:=λ q=>Ra _ (q▸H.lt ho);have hd2:(Tr.put' 40 (Tr.put' 40 σ.own σ.n (.atd [])) i (.exc C σ.n)).get σ.n=some (.atd []):=by
  rw[Tr.get_put' 40 _ _ _ (H1.fit ho1),if_neg hne];exact hd1
 refine OF (wQ H2 hm p1 hd2 (dz.mono hle) (by decide) (by simp [aX]) h (Q:=λ J s'=>PN X V σ (λ g=>(kont g).Sat Φ) s') (E:=λ J J=>False) λ s' q=>q.trans hle (K1.trans K2)) (λ fin s' q=>?_) λ J J q=>q.elim
 rcases fin with(v|_|_|_)|_<;>first|exact q|exact q.elim
theorem tX(T:TopF X K cfg glb){C dd:Nat}{E:VP}{a da:Addr}{ox od:Obj}(H:St X V σ s)(I:InstIs X V s y C es a da ox od)(hd:V.ρ[dd]?=some da)(ho:σ.own.get dd=some (.atd es))(dz:DenV V w z)(hm:okS m=true)(hc:dF cfg false C (nm m)=some .no)(hl:es.length<1000)(hh:aX (nm m) es≠some .hid)
 (h:(t8 (nm m) w es λ es=>σ.set dd (.atd es) kont).Sat Φ):wpAny (Mo X) A (setAttr y m z) (λ J=>PN X V σ λ g=>(kont g).Sat Φ) E s:=by
 obtain⟨ci,hci,hx,ha⟩:=cg hc;have Y:=T.cls _ _ hci hx;obtain⟨cd,hcd,hdict⟩:=Y.cd;have hv:=I.v;subst hv;refine set_plain (K:=K) (T.inB.keeps H.bs) I.at_ Y.sa ?_;refine osa_open (K:=K) (s:={ s with toks:=s.toks+1 }) (T.inB.keeps H.bs) I.at_ Y.over (r:=none) (by unfold takerIn;rw[wN hm Y ha];rfl) λ b=>?_
 obtain⟨_,hx',_,hcl,_,hdi,_⟩:=I;obtain⟨oc,odi,oda,osl⟩:=ox;dsimp only at hcl hdi;subst hcl hdi;refine Oz (OD (Oz (Oz (wpAny_loadPart hx' (Oz (Looks.here (s:={ s with toks:=s.toks+1 }) (looks_clsIn (T.inB.keeps H.bs) hcd) ?_))))))
 rw[hdict];refine OD (a:=some da) ?_;show wpAny _ _ (Rd da (.str m s.toks) m z) _ _ _;refine OF (wQ (H.toks (t:=s.toks+1)) hm hd ho dz hl hh h (Q:=λ J s'=>PN X V σ (λ g=>(kont g).Sat Φ) s') (E:=λ J J=>False) λ s' q=>q) (λ fin s' q=>?_) λ J J q=>q.elim;rcases fin with(v|_|_|_)|_<;>first|exact q|exact q.elim
theorem oP{ca:CA}(h:vt ca=true):ca=.no:=by rcases ca with⟨⟩<;>first|rfl|exact nof h
theorem B9(T:TopF X K cfg glb){E:VP}(hA:AOK X V σ A d 0)(H:St X V σ s)(dv:DenV V v y)(dz:DenV V w z)(hm:okS m=true)(h:(fV cfg σ v (nm m) w kont).Sat Φ) :
 wpAny (Mo X) A (setAttr y m z) (λ J=>PN X V σ λ g=>(kont g).Sat Φ) E s:=by
 refine bn h λ i ei h=>?_;have h:(match fu σ v with
  | some p=>on (dF cfg false p.1 (nm m)) λ ca=>aR (vt ca&&(O0 p.2.2.length 1000&&tc (aX (nm m) p.2.2))) (t8 (nm m) w p.2.2 λ es=>σ.set p.2.1 (.atd es) kont)
  | none=>MR cfg σ i (nm m) w kont (σ.own.get i)).Sat Φ:=h
 rcases e:fu σ v with _|⟨C,dd,es⟩
 ·rw[e] at h;refine bn h λ C eC h=>bn h λ ca hc h=>az h λ q h=>?_;obtain⟨a,rfl,hi⟩:=eJ ei dv;exact B5 T H hi (vw CB eC) dz hm (hc.trans (congrArg some (oP q))) h
 ·rw[e] at h;refine bn h λ ca hc h=>az h λ q h=>?_;obtain⟨a,da,ox,od,I,hown⟩:=gZ H e dv;have q:=(OA _ _).mp q;have q2:=(OA _ _).mp q.2;exact tX T H I (hown _ (jV ei)).1 (hown _ (jV ei)).2 dz hm (hc.trans (congrArg some (oP q.1))) (OE q2.1) (s9 q2.2) h
theorem mx{K:Type}{enc:K->List Nat}(inj:∀ a b,enc a=enc b->a=b){q:K×Value}{r:List (K×Value)}(h:((q::r).map (·.1)).Nodup):∀ x∈r,x.1≠q.1:=λ x hx e=>by
 rw[O2,O6] at h;exact h.1 (by rw[<-e];exact PP hx)
set_option tactic.hygienic true in
theorem Ck{K:Type}[DecidableEq K]{enc:K->List Nat}(inj:∀ a b,enc a=enc b->a=b)(k:K)(dz:DenV V w z){es es':List (List Nat×AV)}{kvs:List (K×Value)}(hd:All2 (KvDen enc V) es kvs)(hn:(kvs.map (·.1)).Nodup)(h:Gc (enc k) w es=some es') :
 (kvs.any λ kv=>decide (kv.1=k))=true/\All2 (KvDen enc V) es' (kvs.map λ kv=>if kv.1=k then(kv.1,z) else kv):=by
 induction hd generalizing es' with
 | nil=>exact am h
 |
  cons e hr ih=>
  rename_i p q r kr
  have hne:=mx inj hn;have h:(match au p.1 (enc k) with|true=>some ((p.1,w)::r)|false=>(Gc (enc k) w r).map λ r=>p::r)=some es':=h
  rw[bo,<-e.1] at h;rw[List.any_cons,O2];by_cases hq:q.1=k
  ·rw[hq,decide_eq_true rfl] at h;obtain rfl:=Oy h;rw[decide_eq_true hq,if_pos hq];refine⟨rfl,.cons ⟨congrArg enc hq,dz⟩ ?_⟩;rw[show kr.map (λ kv=>if kv.1=k then(kv.1,z) else kv)=kr from(List.map_congr_left λ x hx=>if_neg (by rw[<-hq];exact hne x hx)).trans (List.map_id _)]
   exact hr
  ·rw[decide_eq_false λ x=>hq (inj _ _ x)] at h;rw[O2,O6] at hn;refine bG h λ es2 e2 q2=>?_;obtain⟨h1,h2⟩:=ih hn.2 e2;rw[h1,if_neg hq];exact⟨S7 _,q2▸.cons e h2⟩
theorem j0{b:Bool}{K:Type}[DecidableEq K]{knd:KeyKind X.prog X.w K}{enc:K->List Nat}(hk:KindK X b K knd enc){es es':List (List Nat×AV)}{k:K}{key:Value}{E:VP}(H:St X V σ s)(hi:V.ρ[i]?=some a)(eo:σ.own.get i=some (.dct b es))(hkey:knd.is k key=true)(dz:DenV V w z)(hput:Gc (enc k) w es=some es')(hf:es.length<100000)
 (h:(σ.set i (.dct b es') kont).Sat Φ):wpAny (Mo X) A (setItem (.ref a) key z) (λ J=>PN X V σ λ g=>(kont g).Sat Φ) E s:=by
 obtain⟨a',ob,x1,x2,x3⟩:=H.own _ _ eo nofun
 obtain rfl:=Oy (hi.symm.trans x1);obtain⟨kvs,y1,y2⟩:=hk.den.mp x3;have hnd:(kvs.map (·.1)).Nodup:=by obtain⟨_,_,_,_,_,_,h⟩:=id y1;exact h
 obtain⟨h1,h2⟩:=Ck hk.inj k dz y2 hnd hput;rw[bD] at h;refine wpAny_setItem_pairs (knd:=knd) (kvs:=kvs) hkey (QO.mpr ⟨ob,x2,y1⟩) (λ h' hm hs=>?_) (OM (OU (y2.length▸hf)) (by decide))
 obtain⟨ob',z1,z2⟩:=QO.mp hm;have hst:stored kvs k z=kvs.map λ kv=>if kv.1=k then(kv.1,z) else kv:=if_pos h1
 rw[hst] at z2;exact⟨V,_,.rfl,cH H eo nofun,H.upd (t:=s.toks+1) (o':=.dct b es') eo hi (Pp hs.1.symm) (λ b o hb e=>(hs.2 b hb).trans e) z1 nofun (hk.den.mpr ⟨_,z2,h2⟩),h⟩
theorem xY{v i w:AV}{y yi z:Value}{E:VP}(hA:AOK X V σ A d 0)(H:St X V σ s)(dv:DenV V v y)(di:DenV V i yi)(dz:DenV V w z)(h:(kT σ v i w kont).Sat Φ) :
 wpAny (Mo X) A (setItem y yi z) (λ J=>PN X V σ λ g=>(kont g).Sat Φ) E s:=
 bn h λ d ed h=>bn h λ p ep h=>bn h λ l el h=>bn h λ es' ez h=>az h λ hf hz=>by
  have eo:=vw (c:=λ p=>AO.dct p.1 p.2) il ep;have hf:p.2.length<100000:=OE hf;obtain⟨a,rfl,hi⟩:=eJ ed dv;obtain⟨b,es⟩:=p;rcases b with⟨⟩
  ·obtain⟨kk,t,rfl,rfl⟩:=gW el di;exact j0 om H hi eo (iK kk t) dz ez hf hz
  ·obtain⟨kk,t,rfl,rfl⟩:=jd el di;exact j0 ou H hi eo (lF kk t) dz ez hf hz
end
end
section
universe u
open PySem PySem.W PyProof.Rows PySem.SeqAt
variable {v x:AV} {a:Addr} {hi:Int} {d:Nat} {kont:Nat->Sg->R} {y:Value}
section
variable {glb:List (Nat×AV)} {c:FC} {k:CC} {n:Nat} {s:Shared} {K:Frag}
theorem kj{o:AO}{ob:Obj}(H:St X V σ s)(hd:DenO X false (V.push s.heap.objs.size) ob o)(hf:ob.isFreed=false)(hx:∀ c d,o≠.exc c d)(h:(σ.new o kont).Sat Φ) :
 ∃ V' σ' j a,Value.ref s.heap.objs.size=.ref a/\V.Le V'/\Keep σ σ'/\St X V' σ' { s with heap:=s.heap.push ob }/\V'.ρ[j]?=some a/\(kont j σ').Sat Φ:=by
 obtain⟨hb,h⟩:=bk h;have H':=H.new (t:=s.toks) (a:=s.heap.objs.size) (ob:=ob) (o:=o) (h':=s.heap.push ob) (by rw[PK];exact QW _) (λ b o e=>OO _ e) (OR _) (Ph _ hf) (λ c d e=>absurd e (hx c d)) hd hb
 exact⟨_,_,σ.n,_,rfl,V.le_push _,cq H hb,H',cb H,h⟩
theorem lN(d:DenV V x (.ref a))(h:∃ i,x=.own i\/x=.frz i\/x=.glob i):iw V x=some a:=by
 obtain⟨i,rfl|rfl|rfl⟩:=h
 ·obtain⟨b,q,e⟩:=d.inv;injection q with q;exact q▸e
 ·obtain⟨b,q,e⟩:=d.inv;injection q with q;exact q▸e
 ·have q:=d.inv;injection q with q;exact congrArg some q.symm
theorem ya(h:0<=hi):Builtin.Range.rangeSize 0 hi 1=hi:=by
 show(if (0:Int)<hi then(hi-0-1)/1+1 else 0)=hi
 by_cases q:0<hi
 ·rw[if_pos q,Ur,Int.sub_zero,Int.sub_add_cancel]
 ·rw[if_neg q];exact Int.le_antisymm h (QV.mp q)
theorem F8{lo hi:Int}{t u v:Tok}{E:VP}(H:St X V σ s)(g:s.heap.get? a=some { cls:=.type "range",dict:=none,data:=.fields #[.int lo t,.int hi u,.int 1 v],slots:=#[] })(h:(F9 σ lo hi kont).Sat Φ) :
 wpAny (Mo X) A (Ta (.ref a)) (λ it s'=>∃ V' σ' j a,it=.ref a/\V.Le V'/\Keep σ σ'/\St X V' σ' s'/\V'.ρ[j]?=some a/\(kont j σ').Sat Φ) E s:=by
 refine az h λ q hz=>?_;have q:=(OA _ _).mp q;have q':=(OA _ _).mp q.2;obtain rfl:lo=0:=of_decide_eq_true q.1;have q2:0<=hi:=of_decide_eq_true q'.1;have q3:hi<1000000:=of_decide_eq_true q'.2;have hsz:=ya q2;refine wpAny_pyIter_range (a:=0) (b:=hi) (c:=1) (t:=t) (u:=u) (v:=v) g ?_ ?_
 ·unfold Builtin.Range.small;rw[hsz];simp [Builtin.Range.rangeFitsLong];omega
 ·rw[hsz];exact kj (o:=.itR 0 hi) H rfl rfl (λ J J=>nofun) hz
theorem qg(G:cy X cfg){E:VP}(hr:∃ i,x=.own i\/x=.frz i\/x=.glob i)(H:St X V σ s)(d:DenV V x y)(h:(vj σ x kont (σ.get x)).Sat Φ) :
 wpAny (Mo X) A (Ta y) (λ it s'=>∃ V' σ' j a,it=.ref a/\V.Le V'/\Keep σ σ'/\St X V' σ' s'/\V'.ρ[j]?=some a/\(kont j σ').Sat Φ) E s:=by
 unfold vj at h;rcases e:(σ.get x).bind jI with _|xs
 ·rw[e] at h;rcases e:(σ.get x).bind ro with _|xs
  ·rw[e] at h;refine bn h λ p e h=>?_;obtain⟨f,a,ob,rfl,g,t,u,v,rfl⟩:=aJ H (vw (c:=λ p=>AO.rng p.1 p.2) Gr e) nofun d
   exact F8 H g h
  ·rw[e] at h;obtain⟨f,a,ob,rfl,g,vs,n,rfl,dd⟩:=aJ H (vw ik e) nofun d
   exact wpAny_pyIter_tuple (bE g) (kj (o:=.itT x 0) H ⟨rfl,a,bW (V.le_push _) (lN d hr),rfl⟩ rfl (λ J J=>nofun) h)
 ·rw[e] at h;obtain⟨f,a,ob,rfl,g,vs,n,rfl,dd⟩:=aJ H (vw ge e) nofun d
  exact wpAny_pyIter_list (aF g) (kj (o:=.itL x 0) H ⟨rfl,a,bW (V.le_push _) (lN d hr),rfl⟩ rfl (λ J J=>nofun) h)
theorem wV{l:List Nat}{x:Str}(e:x.cps.toList=l)(h:l.all (O0 · 128)=true):x.cps.all (·<128)=true:=by
 rw[<-Array.all_toList,e,List.all_eq_true];intro y hy;have:=OP.mp h y hy;exact decide_eq_true (OE this)
theorem yV(G:cy X cfg){i:Nat}{E:VP}(H:St X V σ s)(dv:DenV V (.own i) y)(h:(match (σ.own.get i).bind Cy with|some _=>kont i σ|none=>vj σ (.own i) kont (σ.own.get i)).Sat Φ) :
 wpAny (Mo X) A (Ta y) (λ it s'=>∃ V' σ' j a,it=.ref a/\V.Le V'/\Keep σ σ'/\St X V' σ' s'/\V'.ρ[j]?=some a/\(kont j σ').Sat Φ) E s:=by
 rcases e:(σ.own.get i).bind Cy with _|p
 ·rw[e] at h;exact qg G ⟨i,.inl rfl⟩ H dv h
 ·rw[e] at h;obtain⟨z,ob,x1,x2,TI,TO,x3,x4,rfl⟩:=H.own _ _ (vw (c:=λ p=>AO.zip p.1 p.2.1 p.2.2.1 p.2.2.2) Av e) nofun
  obtain⟨b,rfl,x⟩:=dv.inv;obtain rfl:=Oy (x1.symm.trans x);exact wpAny_pyIter_zip x2 ⟨V,σ,i,_,rfl,.rfl,.rfl,H,x1,h⟩
theorem Dh(G:cy X cfg){E:VP}(hA:AOK X V σ A d 0)(H:St X V σ s)(dv:DenV V v y)(h:(vg cfg σ v kont).Sat Φ) :
 wpAny (Mo X) A (Ta y) (λ it s'=>∃ V' σ' j a,it=.ref a/\V.Le V'/\Keep σ σ'/\St X V' σ' s'/\V'.ρ[j]?=some a/\(kont j σ').Sat Φ) E s:=
 (AV.casesOn (motive_1:=λ v=>(vg cfg σ v kont).Sat Φ->DenV V v y->wpAny (Mo X) A (Ta y) (λ it s'=>∃ V' σ' j a,it=.ref a/\V.Le V'/\Keep σ σ'/\St X V' σ' s'/\V'.ρ[j]?=some a/\(kont j σ').Sat Φ) E s) v (λ h J=>h.elim) (λ J=>λ h J=>h.elim) (λ J=>λ h J=>h.elim) (λ J=>λ h J=>h.elim) (λ J=>λ h J=>h.elim) (λ l=>λ h dv=>az h λ q h=>dv.inv.rec λ z t e=>e.1▸wpAny_pyIter_ascii (wV e.2 q) (kj (o:=.itS _ 0) H ⟨rfl,_,t,rfl,e.2⟩ rfl (λ J J=>nofun) h)) (λ l=>λ h dv=>dv.inv.rec λ b t e=>e.1▸KBw.pyIter_bytes (kj (o:=.itB _ 0) H ⟨rfl,b,t,rfl,e.2⟩ rfl (λ J J=>nofun) h)) (λ J=>λ h J=>h.elim) (λ i=>λ h dv=>yV G H dv h) (λ j=>λ h dv=>qg G ⟨j,.inr (.inl rfl)⟩ H dv h) (λ a=>λ h dv=>bn h λ xs e h=>(G _ _ e).rec λ vs n q=>(dv.inv:y=.ref a)▸wpAny_pyIter_tuple (bE (H.bs _ _ q.1)) (kj (o:=.itT (.glob a) 0) H ⟨rfl,_,rfl,rfl⟩ rfl (λ J J=>nofun) h)) (λ J=>λ h J=>h.elim) (λ J=>λ h J=>h.elim) (λ h J=>h.elim) (λ h J=>h.elim) (λ J=>λ h J=>h.elim) (λ h J=>h.elim) (λ h J=>h.elim) (λ J J J=>λ h J=>h.elim) (λ J=>λ h J=>h.elim)) h dv
theorem oy{j:Nat}{Q:VP}{E:VP}(H:St X V σ s)(hj:V.ρ[j]?=some a)(hi:Fi (σ.own.get j)=true)(q:Q (.ref a) s):wpAny (Mo X) A (Ta (.ref a)) Q E s:=by
 rcases e:σ.own.get j with _|o
 ·rw[e] at hi;exact nof hi
 ·rw[e] at hi;obtain⟨z,ob,x1,x2,x3⟩:=H.own _ _ e (λ q=>by subst q;exact nof hi)
  obtain rfl:=Oy (hj.symm.trans x1);exact(AO.casesOn (motive:=λ o=>Fi (some o)=true->DenO X false V ob o->wpAny (Mo X) A (Ta (.ref a)) Q E s) o (λ J=>λ h J=>nof h) (λ J=>λ h J=>nof h) (λ J J=>λ h J=>nof h) (λ J=>λ h J=>nof h) (λ J=>λ h J=>nof h) (λ J J=>λ h J=>nof h) (λ J=>λ h J=>nof h) (λ J=>λ h J=>nof h) (λ J J=>λ h J=>nof h) (λ J J=>λ J x=>x.2.elim λ b r=>wpAny_pyIter_listiter ⟨_,x2,x.1,r.2⟩ q) (λ J J=>λ J x=>x.2.elim λ b r=>wpAny_pyIter_tupleiter ⟨_,x2,x.1,r.2⟩ q) (λ J J=>λ J x=>x.2.rec λ J t r=>wpAny_pyIter_striter_ascii ⟨_,x2,x.1,r.1⟩ q) (λ J J=>λ J x=>x.2.rec λ J t r=>KBw.pyIter_self ⟨_,x2,x.1,r.1⟩ q) (λ J J=>λ J x=>wpAny_pyIter_rangeiter (x2.trans (congrArg some x)) q) (λ J J J J=>λ J x=>x.rec λ TI TO r=>wpAny_pyIter_zip (x2.trans (congrArg some r.3)) q) (λ J J=>λ h J=>nof h) (λ h J=>nof h) (λ J J=>λ h J=>nof h) (λ J=>λ h J=>nof h) (λ h J=>nof h) (λ h J=>nof h) (λ h J=>nof h) (λ h J=>nof h) (λ J=>λ h J=>nof h) (λ J J=>λ h J=>nof h) (λ J=>λ h J=>nof h) (λ J=>λ h J=>nof h) (λ J J=>λ h J=>nof h) (λ J=>λ h J=>nof h) (λ h J=>nof h)) hi x3
theorem FG(G:cy X cfg){xs:List AV}{E:VP}(hA:AOK X V σ A d 0)(hd:d/1000=0)(H:St X V σ s)(dv:DenV V v y)(e:dJ cfg σ v=some xs) :
 wpAny (Mo X) A (unpackItems y xs.length none) (λ l s'=>St X V σ s'/\All2 (DenV V) xs l) E s:=by
 have hh:A.handled=none:=by have:=hA.hd;rw[hd] at this;exact this
 obtain⟨a,vs,n,rfl,ds,h1⟩:=eH G H e dv;have hl:xs.length=vs.size:=ds.length.trans OH;rw[hl];have fin:∀ h',Heap.ExtBut s.heap.objs.size s.heap h'->St X V σ { s with heap:=h' }/\All2 (DenV V) xs vs.toList:=λ h' x=>⟨H.grow (t:=s.toks) λ b o e=>x b o (OX (Pq e)) e,ds⟩
 rcases h1 with⟨g,_⟩|⟨g,_⟩
 ·exact kun_itemsOf hh (aF g) fin
 ·exact wpAny_unpackItems_tuple hh (bE g) fin
end
end
section
universe u
open PySem PySem.W PyProof.Rows PySem.SeqAt
section
variable {glb:List (Nat×AV)} {c:FC} {k:CC} {n:Nat} {s:Shared} {K:Frag}
theorem uV{target:Expr}{I:Addr}{o:Obj}{T:String}{v:Value}{Q:Unit->Shared->Prop}{E:VP}(ho:s.heap.get? I=some o)(hc:o.cls=.type T)(hT:["enumerate","zip","dict_itemiterator","dict_reverseitemiterator","odict_iterator","itertools.zip_longest","itertools.pairwise"].contains T=false)(h:Q () s) :
 wpAny (Mo X) A (RP target (.ref I) v) Q E s:=by
 have p:wpAny (Mo X) A (pure ()) Q E s:=OD h;obtain⟨oc,od,dt,sl⟩:=o;obtain rfl:oc=.type T:=hc;rcases target with⟨⟩<;>first|exact p|skip
 all_goals rcases v with⟨⟩<;>first|exact p|skip
 all_goals
  refine Oz (QT ho ?_);rcases dt with⟨⟩<;>first|exact p|skip
  refine wpAny_ite_split (λ q=>?_) λ J=>p;rw[hT] at q;exact nof q
theorem HandledIs.clean(H:St X V σ s){n:Nat}(h:HandledIs V σ A n):A.handled=none\/∃ i b ob vs,A.handled=some (.ref b)/\σ.live i/\V.ρ[i]?=some b/\s.heap.get? b=some ob/\ob.data=.fields vs/\vs[2]?=some .none:=by
 rcases n with _|i
 ·exact .inl h
 ·exact h.rec λ c d a q=>(H.exc _ _ _ _ q.3 q.2).rec λ ob vs r=>.inr ⟨i,a,ob,vs,q.1,⟨_,q.3,nofun⟩,q.2,r.1,r.2,r.3.2⟩
theorem lM:RD table "proto.unchain"=some P6.«proto.unchain»:=entryFor_of_fast (by kernel_rfl)
theorem nW{α:Type}{a:Addr}{oa:Obj}{va:Array Value}{Q:α->Shared->Prop}{E:VP}(hh:A.handled=none\/∃ b ob vs,A.handled=some (.ref b)/\b≠a/\s.heap.get? b=some ob/\ob.data=.fields vs/\vs[2]?=some .none)
 (ha:s.heap.get? a=some oa) (hd:oa.data=.fields va) (hsz:2<va.size) (h:∀ h' o',Rn a s.heap h'->h'.get? a=some o'->o'.cls=oa.cls->E (.ref a) { s with heap:=h' }):wpAny (Mo X) A (raiseNew (.ref a):Sem α) Q E s:=by
 rcases hh with hh|⟨b,ob,vs,h1,h2,h3,h4,h5⟩
 ·exact wpAny_raiseNew_none hh (h s.heap oa (Heap.SameBut.refl ..) ha rfl)
 ·unfold raiseNew;refine Oz (wpAny_handled ?_);rw[h1];dsimp only;rw[if_pos (by simpa using h2)]
  refine Oz (OQ (wpAny_runValue (codeAny_builtin lM ?_)));show wpAny _ _ (field (.ref b) 2 >>= _) _ _ s;refine Oz (PI h3 h4 h5 ?_);show wpAny _ _ (if (Value.none==Value.none)=true then _ else _) _ _ s
  rw[if_pos (show(Value.none==Value.none)=true from rfl)]
  refine Oz (OD (OD ?_));refine Oz (m:=setField (.ref a) 2 (.ref b)) (R9 ha hd hsz (wpAny_throw (h _ _ (QG ..) (PG _ ha (Qb (Qc hd _))) (Obj.cls_mapFields ..))))
theorem ww{it:Addr}{b:Array UInt8}{t:Tok}{i:Nat}{Q:Option Value->Shared->Prop}{E:VP}(hh:A.handled=none\/∃ x ob vs,A.handled=some (.ref x)/\x≠it/\s.heap.get? x=some ob/\ob.data=.fields vs/\vs[2]?=some .none)(hit:KBw.IsBytesIter s.heap it b t i)(hx:b[i]?=none)
 (hQ:∀ h',Heap.ExtBut it s.heap h'->Q none { s with heap:=h' }):wpAny (Mo X) A (Rt (.ref it)) Q E s:=by
 obtain⟨o,ho,hc,hd⟩:=id hit;unfold Rt;refine Oz (wpAny_attempt (wpAny_callSpecial?_slot (name:=PySem.Str.ofString "__next__") (KBw.iter_typeIs hit) KBw.slot_next
  (wpAny_call_entry KBw.slot_next (KBw.iter_typeIs hit) KBw.entry_next ?_ (KBw.args_next _))))
 show wpAny _ _ (field (.ref it) 0 >>= _) _ _ s;refine Oz (PI ho hd (x:=.bytes b t) rfl ?_);rw[if_neg (show ¬ ((Value.bytes b t==Value.none)=true) from O7)]
 refine Oz (PI ho hd (x:=.int i 0) rfl ?_);refine Oz (Pi (a:=b) rfl ?_);simp only[TU,hx];refine Oz (Sc (Oz (R9 ho hd (by simp) ?_)))
 show wpAny _ _ (newExc (.type "StopIteration") [] >>= _) _ _ _;refine Oz ?_;simp only[newExc,newTuple];refine Oz (P7 ?_ (by size_fits))
 refine Oz (m:=firstArgMember _ _) (Pi (a:=Value.none) (by first|rfl|(simp only[firstArgMember];rfl)) ?_)
 refine P7 ?_ (by size_fits)
 have e1:=QG s.heap it (Obj.mapFields (·.setIfInBounds 0 Value.none));refine nW (va:=#[.ref (s.heap.update it (Obj.mapFields (·.setIfInBounds 0 Value.none))).objs.size,.none,.none,.none,.bool false,.none]) ?_ (Ph _ rfl) rfl (show 2<6 from by decide) λ h' o' hs ho' hc'=>?_
 ·rcases hh with hh|⟨x,ob,vs,x1,x2,x3,x4,x5⟩
  ·exact .inl hh
  ·refine .inr ⟨x,ob,vs,x1,?_,OO _ (OO _ ((e1.2 x x2).trans x3)),x4,x5⟩;have:=Pq x3;refine OX ?_;rw[PK,e1.1];exact Sl this
 ·refine Oz (Qd (T:="StopIteration") (b:=true) ⟨_,ho',hc'⟩ isSubtype_stop ?_);refine OD (hQ _ λ b o hb e=>?_);have:=Pq e;exact(hs.2 b (OX (by rw[PK,e1.1];exact Sl this))).trans (OO _ (OO _ ((e1.2 b hb).trans e)))
end
end
section
universe u
open PySem PySem.W PyProof.Rows PySem.SeqAt
variable {o:AO} {v:AV} {yes:AV->Sg->R} {a:Addr} {h':Heap} {xs:List AV} {l:List Nat} {d j:Nat} {no:Sg->R} {xt:Tg}
section
variable {glb:List (Nat×AV)} {c:FC} {k:CC} {n:Nat} {s:Shared} {K:Frag}
def bF(X:Cx)(A:Around)(V:Va)(σ:Sg)(Φ:Out×Sg->Prop)(a:Addr)(xt:Tg)(no:Sg->R)(yes:AV->Sg->R)(E:VP)(r:Option Value)(s':Shared):Prop:=match r with
 | none=>PN X V σ (λ g=>(no g).Sat Φ) s'
 | some v=>∀ t k,tgT k t=some xt->wpAny (Mo X) A (RP t (.ref a) v) (λ J s''=>∃ V' σ' av,V.Le V'/\Keep σ σ'/\St X V' σ' s''/\DenV V' av v/\(yes av σ').Sat Φ) E s'
theorem gh{o o':AO}{E:VP}{ob:Obj}{T:String}{v:Value}{av:AV}{tk:Nat}(H:St X V σ s)(hj:V.ρ[j]?=some a)(ho:σ.own.get j=some o)(hs:Rn a s.heap h')(ha:h'.get? a=some ob)(hd:DenO X false V ob o')(hc:ob.cls=.type T)
 (hT:["enumerate","zip","dict_itemiterator","dict_reverseitemiterator","odict_iterator","itertools.zip_longest","itertools.pairwise"].contains T=false) (dv:DenV V av v) (h:(σ.set j o' (yes av)).Sat Φ) (n1:∀ es,o≠.ns es:=by intros;nofun) (n2:∀ c d,o≠.exc c d:=by intros;nofun) (n3:o≠.dead:=by intros;nofun) (n4:∀ c d,o'≠.exc c d:=by intros;nofun) :
 bF X A V σ Φ a xt no yes E (some v) { s with heap:=h',toks:=tk }:=λ t k J=>by
 rw[bD] at h;exact uV ha hc hT ⟨V,_,av,.rfl,cH H ho (λ es e=>absurd e (n1 es)) n2,H.upd (t:=tk) ho hj (Pp hs.1.symm) (λ b o hb e=>(hs.2 b hb).trans e) ha n4 hd n3,dv,h⟩
theorem i9{E:VP}(H:St X V σ s)(hj:V.ρ[j]?=some a)(ho:σ.own.get j=some o)(hs:Heap.ExtBut a s.heap h')(h:(σ.set j .dead no).Sat Φ)(n1:∀ es,o≠.ns es:=by intros;nofun)(n2:∀ c d,o≠.exc c d:=by intros;nofun)(n3:o≠.dead:=by intros;nofun) :
 bF X A V σ Φ a xt no yes E none { s with heap:=h' }:=by
 rw[bD] at h;exact⟨V,_,.rfl,cH H ho (λ es e=>absurd e (n1 es)) n2,H.kill (t:=s.toks) ho hj hs n3,h⟩
theorem iM(h:(JQ d σ j no).Sat Φ):d/1000=0/\(σ.set j .dead no).Sat Φ:=az h λ q h=>⟨OB q,h⟩
theorem dE{d m:Nat}(hA:AOK X V σ A d m)(h:d/1000=0):A.handled=none:=by have:=hA.hd;rw[h] at this;exact this
theorem aU{o:Option AO}(h:bz o=some xs):o=some (.lst xs):=fk h
theorem l9{o:Option AO}(h:dR o=some xs):o=some (.tup xs):=gH h
theorem All2.getNone{α β:Type}{R:α->β->Prop}{l:List α}{m:List β}(h:All2 R l m){i:Nat}(e:l[i]?=none):m[i]?=none:=h.none_ e
section
variable {j:Nat} {a:Addr} {xt:Tg} {no:Sg->R} {yes:AV->Sg->R} {d:Nat} {E:VP}
theorem GD{k:Nat}(hA:AOK X V σ A d 0)(H:St X V σ s)(hj:V.ρ[j]?=some a)(e:σ.own.get j=some (.itL v k))(h:(lj d (bz (σ.get v)) k σ j (.itL v (k+1)) no yes).Sat Φ):wpAny (Mo X) A (Rt (.ref a)) (bF X A V σ Φ a xt no yes E) E s:=by
 obtain⟨a',ob,x1,x2,c1,l,c2,c3⟩:=H.own _ _ e nofun
 obtain rfl:=Oy (hj.symm.trans x1);refine bn h λ xs ex h=>?_;obtain⟨f,l',obl,el,g,vs,n,rfl,dd⟩:=aJ H (aU ex) nofun (eI c2)
 obtain rfl:=Qo el;rcases ev:xs[k]? with _|av
 ·rw[ev] at h;obtain⟨hd,h⟩:=iM h;exact wpAny_pyNext_list_end (dE hA hd) ⟨_,x2,c1,c3⟩ (aF g) (O5▸dd.getNone ev) λ h' hs=>i9 H hj e hs h
 ·rw[ev] at h;obtain⟨y,ey,dy⟩:=dd.at_ ev;refine wpAny_pyNext_list_item ⟨_,x2,c1,c3⟩ (aF g) (O5▸ey) λ h' r hs=>r.elim λ ob' y=>?_;exact gh (o':=.itL v (k+1)) H hj e hs y.1 ⟨y.2.1,_,c2,y.2.2⟩ y.2.1 rfl dy h
theorem tm(G:cy X cfg)(H:St X V σ s){l:Addr}(ex:xG cfg σ v=some xs)(c2:iw V v=some l):∃ vs n,s.heap.get? l=some (qY vs n)/\All2 (DenV V) xs vs.toList:=by
 unfold xG at ex;rcases q:dc v with _|b
 ·rw[q] at ex;obtain⟨f,l',obl,el,g,vs,n,rfl,dd⟩:=aJ H (l9 ex) nofun (eI c2)
  obtain rfl:=Qo el;exact⟨vs,n,g,dd⟩
 ·rw[q] at ex;obtain⟨vs,n,h1,h2⟩:=G _ _ ex;obtain rfl:=Qo (fm q (eI c2));exact⟨vs,n,H.bs _ _ h1,h2 V⟩
theorem GA(G:cy X cfg){k:Nat}(hA:AOK X V σ A d 0)(H:St X V σ s)(hj:V.ρ[j]?=some a)(e:σ.own.get j=some (.itT v k))(h:(lj d (xG cfg σ v) k σ j (.itT v (k+1)) no yes).Sat Φ):wpAny (Mo X) A (Rt (.ref a)) (bF X A V σ Φ a xt no yes E) E s:=by
 obtain⟨a',ob,x1,x2,c1,l,c2,c3⟩:=H.own _ _ e nofun
 obtain rfl:=Oy (hj.symm.trans x1);refine bn h λ xs ex h=>?_;obtain⟨vs,n,g,dd⟩:=tm G H ex c2;rcases ev:xs[k]? with _|av
 ·rw[ev] at h;obtain⟨hd,h⟩:=iM h;exact wpAny_pyNext_tuple_end (dE hA hd) ⟨_,x2,c1,c3⟩ (bE g) (O5▸dd.getNone ev) λ h' hs=>i9 H hj e hs h
 ·rw[ev] at h;obtain⟨y,ey,dy⟩:=dd.at_ ev;refine wpAny_pyNext_tuple_item ⟨_,x2,c1,c3⟩ (bE g) (O5▸ey) λ h' r hs=>r.elim λ ob' y=>?_;exact gh (o':=.itT v (k+1)) H hj e hs y.1 ⟨y.2.1,_,c2,y.2.2⟩ y.2.1 rfl dy h
theorem GB{k:Nat}(hA:AOK X V σ A d 0)(H:St X V σ s)(hj:V.ρ[j]?=some a)(e:σ.own.get j=some (.itS l k))(h:(CM d σ j l k no yes).Sat Φ):wpAny (Mo X) A (Rt (.ref a)) (bF X A V σ Φ a xt no yes E) E s:=by
 obtain⟨a',ob,x1,x2,c1,x,t,c2,c3⟩:=H.own _ _ e nofun
 obtain rfl:=Oy (hj.symm.trans x1);unfold CM at h;rcases ev:l[k]? with _|cc
 ·rw[ev] at h;obtain⟨hd,h⟩:=iM h;exact wpAny_pyNext_ascii_end (dE hA hd) ⟨_,x2,c1,c2⟩ (by rw[<-O5,c3];exact ev) λ h' hs=>i9 H hj e hs h
 ·rw[ev] at h;refine wpAny_pyNext_ascii_item ⟨_,x2,c1,c2⟩ (by rw[<-O5,c3];exact ev) λ h' r hs=>r.elim λ ob' y=>?_
  exact gh (o':=.itS l (k+1)) H hj e hs y.1 ⟨y.2.1,x,t,y.2.2,c3⟩ y.2.1 rfl (.str _ rfl) h
theorem Du(hA:AOK X V σ A d 0)(H:St X V σ s)(hj:V.ρ[j]?=some a)(e:σ.own.get j=some o)(n1:o≠.dead)(n2:∀ c d,o≠.exc c d):A.handled=none\/∃ b ob vs,A.handled=some (.ref b)/\b≠a/\s.heap.get? b=some ob/\ob.data=.fields vs/\vs[2]?=some .none:=by
 have hd:=hA.hd;generalize d/1000=q at hd;rcases q with _|i
 ·exact .inl hd
 ·obtain⟨c0,d0,b,z1,z2,z3⟩:=hd;obtain⟨ob,vs,x1,x2,x3,_⟩:=H.exc _ _ _ _ z3 z2;refine .inr ⟨b,ob,vs,z1,λ r=>?_,x1,x2,x3.2⟩;subst r;obtain rfl:=H.nodup _ _ _ ⟨_,z3,nofun⟩ ⟨_,e,n1⟩ z2 hj
  exact n2 _ _ (Oy (e.symm.trans z3))
theorem GE{k:Nat}(hA:AOK X V σ A d 0)(H:St X V σ s)(hj:V.ρ[j]?=some a)(e:σ.own.get j=some (.itB l k))(h:(CP σ j l k no yes).Sat Φ):wpAny (Mo X) A (Rt (.ref a)) (bF X A V σ Φ a xt no yes E) E s:=by
 obtain⟨a',ob,x1,x2,c1,x,t,c2,c3⟩:=H.own _ _ e nofun
 obtain rfl:=Oy (hj.symm.trans x1);have ee:(x[k]?).map (·.toNat)=l[k]?:=by rw[<-c3,Qj,O5]
 unfold CP at h;rcases ev:l[k]? with _|cc
 ·rw[ev] at h;exact ww (Du hA H hj e nofun nofun) ⟨_,x2,c1,c2⟩ (Option.map_eq_none_iff.mp (ee.trans ev)) λ h' hs=>i9 H hj e hs h
 ·rw[ev] at h;refine bG (ee.trans ev) λ u ex q=>?_;refine KBw.next_item ⟨_,x2,c1,c2⟩ ex λ h' r hs=>r.elim λ ob' y=>?_;exact gh (o':=.itB l (k+1)) H hj e hs y.1 ⟨y.2.1,x,t,y.2.2,c3⟩ y.2.1 rfl (q▸.int _ _) h
theorem GC{x l:Int}(hA:AOK X V σ A d 0)(H:St X V σ s)(hj:V.ρ[j]?=some a)(e:σ.own.get j=some (.itR x l))(h:(CO d σ j x l no yes).Sat Φ):wpAny (Mo X) A (Rt (.ref a)) (bF X A V σ Φ a xt no yes E) E s:=by
 obtain⟨a',ob,x1,x2,rfl⟩:=H.own _ _ e nofun
 obtain rfl:=Oy (hj.symm.trans x1);unfold CO at h;rcases q:dW 0 l with _|_
 ·rw[q] at h;obtain⟨hd,h⟩:=iM h;exact wpAny_pyNext_range_end (dE hA hd) x2 (QV.mp (of_decide_eq_false q)) λ h' hs=>i9 H hj e hs h
 ·rw[q] at h;refine wpAny_pyNext_range_item x2 (of_decide_eq_true q) λ h' y1 hs=>?_;exact gh (o':=.itR (x+1) (l-1)) H hj e hs y1 rfl rfl rfl (.int _ _) h
end
theorem yw(G:cy X cfg){E:VP}(hA:AOK X V σ A d 0)(H:St X V σ s)(hj:V.ρ[j]?=some a)(h:(GJ cfg d σ j no yes (σ.own.get j)).Sat Φ) :
 wpAny (Mo X) A (Rt (.ref a)) (bF X A V σ Φ a xt no yes E) E s:=
 bn h λ o e h=>(AO.casesOn (motive:=λ o=>σ.own.get j=some o->(GK cfg d σ j no yes o).Sat Φ->wpAny (Mo X) A (Rt (.ref a)) (bF X A V σ Φ a xt no yes E) E s) o (λ J=>λ J h=>h.elim) (λ J=>λ J h=>h.elim) (λ J J=>λ J h=>h.elim) (λ J=>λ J h=>h.elim) (λ J=>λ J h=>h.elim) (λ J J=>λ J h=>h.elim) (λ J=>λ J h=>h.elim) (λ J=>λ J h=>h.elim) (λ J J=>λ J h=>h.elim) (λ v k=>GD hA H hj) (λ v k=>GA G hA H hj) (λ l k=>GB hA H hj) (λ l k=>GE hA H hj) (λ x l=>GC hA H hj) (λ J J J J=>λ J h=>h.elim) (λ J J=>λ J h=>h.elim) (λ J h=>h.elim) (λ J J=>λ J h=>h.elim) (λ J=>λ J h=>h.elim) (λ J h=>h.elim) (λ J h=>h.elim) (λ J h=>h.elim) (λ J h=>h.elim) (λ J=>λ J h=>h.elim) (λ J J=>λ J h=>h.elim) (λ J=>λ J h=>h.elim) (λ J=>λ J h=>h.elim) (λ J J=>λ J h=>h.elim) (λ J=>λ J h=>h.elim) (λ J h=>h.elim)) e h
end
end
section
universe u
open PySem PySem.W PyProof.Rows PySem.SeqAt
variable {o:AO} {yes:AV->Sg->R} {b:Addr} {f g:Fz} {h':Heap} {d i m n:Nat} {no:Sg->R} {xt:Tg} {t:Tr} {y z:Value}
section
variable {glb:List (Nat×AV)} {c:FC} {k:CC} {n:Nat} {s:Shared} {K:Frag}
theorem bX{b c:Addr}{S T:String}(hb:s.TypeIs (.ref b) S)(hc:s.TypeIs (.ref c) T)(h:S≠T):b≠c:=λ q=>by
 subst q;exact hb.elim λ o p=>hc.elim λ o' p'=>h (Value.type.inj (p.2.symm.trans ((congrArg Obj.cls (Oy (p.1.symm.trans p'.1))).trans p'.2)))
theorem St.le(H:St X V σ s)(e:σ.own.get i=some o):i<=100000:=OU (Pb (H.lt e) H.big)
theorem Keep.put{o o':AO}(K:Keep σ ⟨t,n,f⟩)(e:σ.own.get i=some o)(n1:∀ es,o≠.ns es)(n2:∀ c d,o≠.exc c d):Keep σ ⟨Tr.put' 40 t i o',m,g⟩:=
 ⟨λ i' es q=>(K.ns i' es q).imp λ es' r=>(Tr.put_ne 40 t i o' λ z=>n1 es (Oy (e.symm.trans (z▸q)))).trans r,λ i' c d q=>(Tr.put_ne 40 t i o' λ z=>n2 c d (Oy (e.symm.trans (z▸q)))).trans (K.ex i' c d q)⟩
theorem Keep.new(K:Keep σ ⟨t,n,f⟩)(H:St X V σ s):Keep σ ⟨Tr.put' 40 t σ.n o,m,g⟩:=
 ⟨λ i' es q=>(K.ns i' es q).imp λ es' r=>(Tr.put_ne 40 t σ.n o (OX (H.lt q))).trans r,λ i' c d q=>(Tr.put_ne 40 t σ.n o (OX (H.lt q))).trans (K.ex i' c d q)⟩
theorem St.go(H:St X V σ s){own':Tr}{t:Nat}(P:Nat->Prop)(hP:∀ {i},P i->σ.live i)(h1:∀ {i o},own'.get i=some o->o≠.dead->(¬ P i/\σ.own.get i=some o)\/(P i/\(∀ c d,o≠.exc c d)/\OwnAt X V h' i o))
 (top:∀ i,σ.n<=i->own'.get i=none) (k:∀ {b o},(∀ i,P i->V.ρ[i]?≠some b)->s.heap.get? b=some o->h'.get? b=some o):St X V ⟨own',σ.n,σ.frz⟩ { s with heap:=h',toks:=t }:=
 have hlv:∀ {i:Nat},Sg.live ⟨own',σ.n,σ.frz⟩ i->σ.live i:=λ l=>l.elim λ o q=>(h1 q.1 q.2).elim (λ r=>⟨o,r.2,q.2⟩) λ r=>hP r.1
 {
  lenO:=H.lenO,lenF:=H.lenF,top:=top,big:=H.big
  own:=λ i o e nd=>(h1 e nd).elim (λ r=>OwnAt.mono .rfl (λ b J x=>k λ i' p q=>r.1 (H.nodup i' i b (hP p) ⟨o,r.2,nd⟩ q x▸p)) (H.own i o r.2 nd)) λ r=>r.2.2
  nodup:=λ i i' b l l'=>H.nodup i i' b (hlv l) (hlv l')
  nb:=λ i b l=>H.nb i b (hlv l)
  nout:=λ i b l=>H.nout i b (hlv l)
  stays:=λ b o e=>k (λ i p q=>H.nb i b (hP p) q o e) (H.stays b o e)
  frz:=H.frz
  soft:=λ L hL=>SoftAt.mono (λ o=>k λ i p q=>H.nout i L (hP p) q hL) (H.soft L hL)
  exc:=λ i c d b e x=>(h1 e nofun).elim (λ r=>Traced6.mono (λ ob=>k λ i' p q=>r.1 (H.nodup i' i b (hP p) ⟨_,r.2,nofun⟩ q x▸p)) (λ t ot a2 a3=>⟨k (λ i p q=>a2 i (hP p) q) a3,λ i l=>a2 i (hlv l)⟩) (λ J J=>id) (H.exc i c d b r.2 x)) λ r=>absurd rfl (r.2.1 c d)
  gens:=H.gens,os:=H.os,lenD:=H.lenD,base:=H.base,hi:=H.hi
  low:=λ i b l=>H.low i b (hlv l)
  dsok:=H.dsok,facts:=H.facts }
structure ZAt(V:Va)(σ:Sg)(s:Shared)(j:Nat)(a:Addr)(za zb ti to:Nat)(u v:AV)(k k':Nat)(TI TO i1 i2 l1 l2:Addr):Prop where
 hj:V.ρ[j]?=some a
 ez:σ.own.get j=some (.zip za zb ti to)
 ea:σ.own.get za=some (.itL u k)
 eb:σ.own.get zb=some (.itL v k')
 eto:σ.own.get to=some .prB
 hto:V.ρ[to]?=some TO
 h1:V.ρ[za]?=some i1
 h2:V.ρ[zb]?=some i2
 gz:IsZip s.heap a TI TO .none
 gti:IsPair s.heap TI (.ref i1) (.ref i2)
 gto:∃ x y,IsPair s.heap TO x y
 g1:s.heap.IsListIter i1 l1 k
 g2:s.heap.IsListIter i2 l2 k'
 r1:iw V u=some l1
 r2:iw V v=some l2
 nab:za≠zb
 TT:TI≠TO
section
variable {j:Nat} {a:Addr} {xt:Tg} {no:Sg->R} {yes:AV->Sg->R} {d:Nat} {E:VP} {za zb ti to:Nat} {u v:AV} {k k':Nat} {TI TO i1 i2 l1 l2:Addr} {vs ws:Array Value} {n m:Nat}
theorem ZAt.D(Z:ZAt V σ s j a za zb ti to u v k k' TI TO i1 i2 l1 l2)(H:St X V σ s)(gl1:s.heap.get? l1=some (bT vs n))(gl2:s.heap.get? l2=some (bT ws m)):ZipApart a TI TO i1 i2 l1 l2:=by
 have z:s.TypeIs (.ref a) "zip":=⟨_,Z.gz,rfl⟩;have p:s.TypeIs (.ref TI) "tuple":=⟨_,Z.gti,rfl⟩;have q:s.TypeIs (.ref TO) "tuple":=Z.gto.rec λ J J r=>⟨_,r,rfl⟩;have x:s.TypeIs (.ref i1) "list_iterator":=Z.g1.elim λ o r=>⟨o,r.1,r.2.1⟩;have y:s.TypeIs (.ref i2) "list_iterator":=Z.g2.elim λ o r=>⟨o,r.1,r.2.1⟩;have l:s.TypeIs (.ref l1) "list":=⟨_,gl1,rfl⟩;have l':s.TypeIs (.ref l2) "list":=⟨_,gl2,rfl⟩;have tz:"tuple"≠"zip":=by decide
 have iz:"list_iterator"≠"zip":=by decide
 have ti:"tuple"≠"list_iterator":=by decide
 have lz:"list"≠"zip":=by decide
 have lt:"list"≠"tuple":=by decide
 have li:"list"≠"list_iterator":=by decide
 exact⟨bX p z tz,bX q z tz,bX x z iz,bX y z iz,Z.TT,bX p x ti,bX p y ti,bX q x ti,bX q y ti,λ r=>Z.nab (H.nodup _ _ _ ⟨_,Z.ea,nofun⟩ ⟨_,Z.eb,nofun⟩ Z.h1 (r▸Z.h2)),bX l z lz,bX l q lt,bX l x li,bX l y li,bX l' z lz,bX l' q lt,bX l' x li,bX l' y li⟩
theorem Ae(Z:ZAt V σ s j a za zb ti to u v k k' TI TO i1 i2 l1 l2)(H:St X V σ s)(hA:AOK X V σ A d 0)(gl1:s.heap.get? l1=some (bT vs n))(gl2:s.heap.get? l2=some (bT ws m))(hend:vs[k]?=none\/ws[k']?=none)(h:(Af d σ j za zb to no).Sat Φ) :
 wpAny (Mo X) A (Rt (.ref a)) (bF X A V σ Φ a xt no yes E) E s:=by
 refine az h λ q h=>Z.gto.rec λ J J gto=>?_;rw[bD,bD,bD,bD] at h;refine wpAny_pyNext_zip_end (dE hA (OB q)) (Z.D H gl1 gl2) Z.gz Z.gti gto Z.g1 Z.g2 (aF gl1) (aF gl2) hend λ h' hs=>?_;have K0:Keep σ ⟨σ.own,σ.n,σ.frz⟩:=.rfl;refine⟨V,_,.rfl,(((K0.put (o':=.dead) (m:=σ.n) (g:=σ.frz) Z.ez nofun nofun).put (o':=.dead) (m:=σ.n) (g:=σ.frz) Z.ea nofun nofun).put (o':=.dead) (m:=σ.n) (g:=σ.frz) Z.eb nofun nofun).put (o':=.dead) Z.eto nofun nofun,H.go (t:=s.toks) (λ i=>i=j\/i=za\/i=zb\/i=to) ?_ ?_ ?_ ?_,h⟩
 ·exact λ p=>p.elim (λ e=>e▸⟨_,Z.ez,nofun⟩) λ p=>p.elim (λ e=>e▸⟨_,Z.ea,nofun⟩) λ p=>p.elim (λ e=>e▸⟨_,Z.eb,nofun⟩) λ e=>e▸⟨_,Z.eto,nofun⟩
 ·exact λ e nd=>eg (H.le Z.eto) e (λ J q=>absurd q.symm nd) λ n4 e=>eg (H.le Z.eb) e (λ J q=>absurd q.symm nd) λ n3 e=>eg (H.le Z.ea) e (λ J q=>absurd q.symm nd) λ n2 e=>eg (H.le Z.ez) e (λ J q=>absurd q.symm nd) λ n1 e=>
   .inl ⟨λ p=>p.elim n1 λ p=>p.elim n2 λ p=>p.elim n3 n4,e⟩
 ·have ne:∀ {i i' o},σ.own.get i=some o->σ.n<=i'->i'≠i:=λ e q=>Qn (Pb (H.lt e) q);exact λ i q=>(Tr.put_ne 40 _ _ _ (ne Z.eto q)).trans ((Tr.put_ne 40 _ _ _ (ne Z.eb q)).trans ((Tr.put_ne 40 _ _ _ (ne Z.ea q)).trans ((Tr.put_ne 40 _ _ _ (ne Z.ez q)).trans (H.top i q))))
 ·exact λ {b o} f e=>hs b o (λ r=>f j (.inl rfl) (r▸Z.hj)) (λ r=>f to (.inr (.inr (.inr rfl))) (r▸Z.hto)) (λ r=>f za (.inr (.inl rfl)) (r▸Z.h1)) (λ r=>f zb (.inr (.inr (.inl rfl))) (r▸Z.h2)) e
theorem BJ{l:List Tg}{t:Expr}{kk:CC}(h:tgT kk t=some (.tup l)):∃ es x p,t=.Tuple es x p:=by
 have h:(match ic t with
  | some p=>(bc (tgN kk) p.1).map .tup
  | none=>tgN kk t)=some (.tup l):=h
 rcases e:ic t with _|p
 ·rw[e] at h;exact xN (P:=λ t x=>x=.tup l->∃ es x p,t=.Tuple es x p) h (λ J J J J q=>nomatch q) (λ J J J J q=>nomatch q) rfl
 ·exact⟨_,_,_,kH e⟩
theorem xr{h' h'':Heap}(Z:ZAt V σ s j a za zb ti to u v k k' TI TO i1 i2 l1 l2)(hpr:IsPair h' s.heap.objs.size y z)(hs:∀ c o,c≠a->c≠TO->c≠i1->c≠i2->s.heap.get? c=some o->h'.get? c=some o)(hz:IsZip h'' a TI TO .none)(hs'':Rn a h' h''){o:Obj}(nT:b≠TO)(n1:b≠i1)(n2:b≠i2)
 (e:(s.heap.push { cls:=.type "tuple",data:=.seq #[y,z] }).get? b=some o):h''.get? b=some o:=by
 rcases Heap.get?_push_cases e with⟨rfl,rfl⟩|e
 ·exact(hs''.2 _ λ r=>absurd (Pq Z.gz) (r▸Ra _)).trans hpr
 ·by_cases rz:b=a
  ·subst rz;exact(Oy (Z.gz.symm.trans e))▸hz
  ·exact(hs''.2 _ rz).trans (hs b o rz nT n1 n2 e)
theorem Bt(Z:ZAt V σ s j a za zb ti to u v k k' TI TO i1 i2 l1 l2)(H:St X V σ s)(hA:AOK X V σ A d 0)(gl1:s.heap.get? l1=some (bT vs n))(gl2:s.heap.get? l2=some (bT ws m)){av bv:AV}(ey:vs[k]?=some y)(ez:ws[k']?=some z)(dy:DenV V av y)(dz:DenV V bv z)(hxt:∃ l,xt=.tup l)
 (h:(σ.set za (.itL u (k+1)) λ g=>g.set zb (.itL v (k'+1)) λ g=>g.new (.tup [av,bv]) λ t g=>yes (.own t) g).Sat Φ) :
 wpAny (Mo X) A (Rt (.ref a)) (bF X A V σ Φ a xt no yes E) E s:=by
 rw[bD,bD] at h;obtain⟨hb,h⟩:=bk h;have D:=Z.D H gl1 gl2;refine Z.gto.rec λ J J gto=>wpAny_pyNext_zip_item D Z.gz Z.gti gto Z.g1 Z.g2 (aF gl1) (aF gl2) ey ez λ h' hz' hto' p q hpr hsz hs t kk ht=>?_;obtain⟨l,rfl⟩:=hxt;obtain⟨elts,x1,pos,rfl⟩:=BJ ht;refine wpAny_letOwnedTupleGo_zip hz' λ h'' hz'' hs''=>?_;have K0:Keep σ ⟨σ.own,σ.n,σ.frz⟩:=.rfl;have H1:=H.new (t:=s.toks) (a:=s.heap.objs.size) (ob:={ cls:=.type "tuple",data:=.seq #[y,z] }) (o:=.tup [av,bv]) (h':=s.heap.push { cls:=.type "tuple",data:=.seq #[y,z] }) (PK ..▸QW _) (λ b o e=>OO _ e) (OR _) (Ph _ rfl) nofun ⟨#[y,z],0,rfl,.cons (dy.mono (V.le_push _)) (.cons (dz.mono (V.le_push _)) .nil)⟩ hb
 have old:∀ {i o},σ.own.get i=some o->(Tr.put' 40 σ.own σ.n (.tup [av,bv])).get i=some o:=λ e=>(Tr.put_ne 40 _ _ _ (OX (H.lt e))).trans e;have hle:=V.le_push s.heap.objs.size;refine⟨_,_,.own σ.n,hle,((K0.put (o':=.itL u (k+1)) (m:=σ.n) (g:=σ.frz) Z.ea nofun nofun).put (o':=.itL v (k'+1)) (m:=σ.n) (g:=σ.frz) Z.eb nofun nofun).new H,H1.go (t:=s.toks) (λ i=>i=za\/i=zb\/i=to) ?_ ?_ ?_ ?_,.own (cb H),h⟩
 ·exact λ p=>p.elim (λ e=>e▸⟨_,old Z.ea,nofun⟩) λ p=>p.elim (λ e=>e▸⟨_,old Z.eb,nofun⟩) λ e=>e▸⟨_,old Z.eto,nofun⟩
 ·refine λ {i o} e nd=>eg (OU hb) e (λ c r=>.inl ⟨λ p=>p.elim (λ q=>OX (H.lt Z.ea) (q.symm.trans c)) λ p=>p.elim (λ q=>OX (H.lt Z.eb) (q.symm.trans c)) λ q=>OX (H.lt Z.eto) (q.symm.trans c),?_⟩) λ n0 e=>eg (H.le Z.eb) e (λ c r=>.inr ⟨.inr (.inl c),r▸λ J J=>nofun,?_⟩) λ n2 e=>eg (H.le Z.ea) e (λ c r=>.inr ⟨.inl c,r▸λ J J=>nofun,?_⟩) λ n1 e=>?_
  ·subst c;subst r
   exact Tr.put_self 40 _ _ _ (OI (Pm hb) (by decide))
  ·subst c;subst r
   exact q.elim λ ob w=>⟨_,ob,hle.ρ Z.h2,(hs''.2 _ D.i2z).trans w.1,w.2.1,l2,bW hle Z.r2,w.2.2⟩
  ·subst c;subst r
   exact p.elim λ ob w=>⟨_,ob,hle.ρ Z.h1,(hs''.2 _ D.i1z).trans w.1,w.2.1,l1,bW hle Z.r1,w.2.2⟩
  ·by_cases c:i=to
   ·subst c;obtain rfl:=Oy (Z.eto.symm.trans e);exact .inr ⟨.inr (.inr rfl),λ J J=>nofun,_,_,hle.ρ Z.hto,(hs''.2 _ D.TOz).trans hto',_,_,rfl⟩
   ·exact .inl ⟨λ p=>p.elim n1 λ p=>p.elim n2 c,old e⟩
 ·intro i q;have q:σ.n+1<=i:=q;have ne:∀ {i' o},σ.own.get i'=some o->i≠i':=λ e=>Qn (Pb (H.lt e) (QB q));exact(Tr.put_ne 40 _ _ _ (Qn q)).trans ((Tr.put_ne 40 _ _ _ (ne Z.eb)).trans ((Tr.put_ne 40 _ _ _ (ne Z.ea)).trans (H.top i (QB q))))
 ·exact λ {b o} f e=>xr Z hpr hs hz'' hs'' (λ r=>f to (.inr (.inr rfl)) (r▸hle.ρ Z.hto)) (λ r=>f za (.inl rfl) (r▸hle.ρ Z.h1)) (λ r=>f zb (.inr (.inl rfl)) (r▸hle.ρ Z.h2)) e
end
theorem yv{j:Nat}{a:Addr}{E:VP}{za zb ti to:Nat}(hA:AOK X V σ A d 0)(H:St X V σ s)(hj:V.ρ[j]?=some a)(ez:σ.own.get j=some (.zip za zb ti to))(hxt:∃ l,xt=.tup l)(eti:σ.own.get ti=some (.prA za zb))(eto:σ.own.get to=some .prB)(h:(MH d σ j za zb ti to no yes).Sat Φ) :
 wpAny (Mo X) A (Rt (.ref a)) (bF X A V σ Φ a xt no yes E) E s:=by
 refine az h λ hne h=>bn h λ p ea h=>bn h λ q eb h=>bn h λ l el h=>eG el λ ex ey=>?_;have hne:=Bool.or_eq_false_iff.mp (sx hne);have ea:=vw (c:=λ p=>AO.itL p.1 p.2) Ay ea;have eb:=vw (c:=λ p=>AO.itL p.1 p.2) Ay eb;have nab:za≠zb:=OV hne.1;have ntt:ti≠to:=OV hne.2;obtain⟨a',ob,x1,gz,TI,TO,hti,hto,rfl⟩:=H.own _ _ ez nofun
 obtain rfl:=Oy (hj.symm.trans x1);obtain⟨TI',obI,x1,gti,i1,i2,h1,h2,rfl⟩:=H.own _ _ eti nofun
 obtain rfl:=Oy (hti.symm.trans x1);obtain⟨TO',obO,x1,gto,x0,y0,rfl⟩:=H.own _ _ eto nofun
 obtain rfl:=Oy (hto.symm.trans x1);obtain⟨i1',ob1,x1,g1,c1,l1,r1,d1⟩:=H.own _ _ ea nofun
 obtain rfl:=Oy (h1.symm.trans x1);obtain⟨i2',ob2,x1,g2,c2,l2,r2,d2⟩:=H.own _ _ eb nofun
 obtain rfl:=Oy (h2.symm.trans x1);have Z:ZAt V σ s j a za zb ti to p.1 q.1 p.2 q.2 TI TO i1 i2 l1 l2:=⟨hj,ez,ea,eb,eto,hto,h1,h2,gz,gti,⟨_,_,gto⟩,⟨_,g1,c1,d1⟩,⟨_,g2,c2,d2⟩,r1,r2,nab,λ r=>ntt (H.nodup _ _ _ ⟨_,eti,nofun⟩ ⟨_,eto,nofun⟩ hti (r▸hto))⟩
 obtain⟨f1,l1',ol1,el1,gl1,vs1,n1,rfl,dd1⟩:=aJ H (aU ex) nofun (eI r1)
 obtain rfl:=Qo el1;obtain⟨f2,l2',ol2,el2,gl2,vs2,n2,rfl,dd2⟩:=aJ H (aU ey) nofun (eI r2)
 obtain rfl:=Qo el2;rcases ev:l.1[p.2]? with _|av
 ·rw[ev] at h;exact Ae Z H hA gl1 gl2 (.inl (O5▸dd1.none_ ev)) h
 ·rcases ew:l.2[q.2]? with _|bv
  ·rw[ev,ew] at h;exact Ae Z H hA gl1 gl2 (.inr (O5▸dd2.none_ ew)) h
  ·rw[ev,ew] at h;obtain⟨y,ey1,dy⟩:=dd1.at_ ev;obtain⟨z,ez1,dz⟩:=dd2.at_ ew;exact Bt Z H hA gl1 gl2 (O5▸ey1) (O5▸ez1) dy dz hxt h
theorem CL(G:cy X cfg){j:Nat}{a:Addr}{E:VP}(hA:AOK X V σ A d 0)(H:St X V σ s)(hj:V.ρ[j]?=some a)(h:(uE cfg d σ j xt no yes).Sat Φ) :
 wpAny (Mo X) A (Rt (.ref a)) (bF X A V σ Φ a xt no yes E) E s:=by
 unfold uE at h;rcases ez:(σ.own.get j).bind Cy with _|z
 ·rw[ez] at h;exact yw G hA H hj h
 ·rw[ez] at h;refine az h λ ht h=>bn h λ p e1 h=>bn h λ J e2 h=>az h λ q h=>?_;have q:=(OA _ _).mp q;have e1:=vw (c:=λ p=>AO.prA p.1 p.2) Gu e1;rw[<-OB q.1,<-OB q.2] at e1;exact yv hA H hj (vw (c:=λ p=>AO.zip p.1 p.2.1 p.2.2.1 p.2.2.2) Av ez) (by rcases xt with _|_|l<;>first|exact⟨_,rfl⟩|exact nof ht) e1 (vw (c:=λ J=>AO.prB) Gs e2) h
end
end
section
universe u
open PySem PySem.W PyProof.Rows PySem.SeqAt
variable {x:AV} {ex:Bool} {M:Model} {dp:Nat} {m:Str} {vx:Value}
section
variable {glb:List (Nat×AV)} {c:FC} {k:CC} {n:Nat} {s:Shared} {K:Frag}
theorem oK{d:Nat}(h:dL cfg d=true):∃ ci,aX d cfg.cls=some ci/\ci.isExc=true:=by
 have h:(match aX d cfg.cls with
  | some ci=>ci.isExc
  | none=>false)=true:=h
 rcases e:aX d cfg.cls with _|ci
 ·rw[e] at h;exact nof h
 ·rw[e] at h;exact⟨ci,rfl,h⟩
theorem lK(H:St X V σ s){i C d:Nat}{a:Addr}(hi:V.ρ[i]?=some a)(he:σ.own.get i=some (.exc C d)):Looks (Mo X) s.heap (typeOf (.ref a)) (.ref C):=by
 obtain⟨a',ob,x1,x2,x3,_⟩:=H.own _ _ he nofun
 obtain rfl:=Oy (hi.symm.trans x1);exact x3▸(Tm x2).andThen .now
theorem DE(T:TopF X K cfg glb){i C d b:Nat}{a:Addr}{Q:Bool->Shared->Prop}{E:VP}(H:St X V σ s)(hi:V.ρ[i]?=some a)(he:σ.own.get i=some (.exc C d))(hx:(dL cfg b&&dL cfg C)=true)(q:Q (jZ cfg C b) s) :
 wpAny (Mo X) A (excMatches (.ref a) (.ref b)) Q E s:=by
 rw[OA] at hx;exact(exm_one (T.inB.keeps H.bs) (lK H hi he) (T.excS _ _ hx.1 hx.2)).here q
theorem uC{h:Heap}{a:Addr}{o:Obj}(e:h.get? a=some o)(d:∃ vs,o.data=.fields vs):Looks M h (isType (.ref a)) false:=by
 obtain⟨o1,o2,o3,o4⟩:=o;obtain⟨_,rfl⟩:=d;exact(Tm (part:=none) e).andThen .now
theorem rd{α:Type}{a:Addr}{Q:α->Shared->Prop}{E:VP}(h:A.handled=some (.ref a))(q:E (.ref a) s):wpAny (Mo X) A (raiseNew (.ref a)) Q E s:=by
 refine Oz (wpAny_handled ?_);rw[h];show wpAny _ _ (if (!(Value.ref a==Value.ref a))=true then _ else _) _ _ _
 rw[if_neg (by rw[beq_self_eq_true];exact O7)]
 exact wpAny_throw q
theorem t7{α:Type}{i dp m:Nat}{a:Addr}{Q:α->Shared->Prop}{E:VP}(hA:AOK X V σ A dp m)(hx:qs dp i=true)(hi:V.ρ[i]?=some a)(q:E (.ref a) s):wpAny (Mo X) A (raiseNew (.ref a)) Q E s:=by
 have hd:=hA.hd;have hx:(match dp/1000 with
  | 0=>true
  | j+1=>OC i j)=true:=hx
 generalize dp/1000=n at hd hx;rcases n with _|j
 ·exact wpAny_raiseNew_none hd q
 ·obtain⟨c0,d0,b,y1,y2,y3⟩:=hd;obtain rfl:=Oy (hi.symm.trans ((OB hx)▸y2));exact rd y1 q
theorem Ga(T:TopF X K cfg glb){i C d:Nat}{a:Addr}{env:Env}{Q:Flow->Shared->Prop}(hA:AOK X V σ A dp 0)(H:St X V σ s)(hx:(dL cfg C&&qs dp i)=true)(hi:V.ρ[i]?=some a)(he:σ.own.get i=some (.exc C d))(hΦ:Φ (.ex i,σ)) :
 wpAny (Mo X) A (raiseStmt env (some (pure (.ref a))) none) Q (PE X V σ Φ) s:=by
 have hx:=(OA _ _).mp hx;obtain⟨ci,hci,hxx⟩:=oK hx.1;have Y:=T.exc _ _ hci hxx;have X0:=T.inB.keeps H.bs;obtain⟨a',ob,x1,x2,x3,⟨vs,x4,x5⟩,_⟩:=H.own _ _ he nofun
 obtain rfl:=Oy (hi.symm.trans x1);have L1:=lK H hi he;have L2:Looks (Mo X) s.heap (QI (.ref a) (.type "BaseException")) true:=L1.andThen (looks_subIn X0 Y.sub);have L3:Looks (Mo X) s.heap (typeOf (.ref C)) (.type "type"):=looks_typeIn X0 Y.ty;have L4:Looks (Mo X) s.heap (isType (.ref a)) false:=uC x2 ⟨vs,x4⟩;refine Oz (OD (Oz (OD (Oz (OQ ?_)))));refine Oz (Oz (L4.at (OD ?_)));refine Oz (L2.at (OD ?_));refine Oz (L4.at (Oz (Oz (L1.at (Oz (L3.at ?_))))));exact OD (Oz (bQ H he hi λ h' H' J=>t7 hA hx.2 hi ⟨V,σ,i,a,C,d,.rfl,.rfl,H',rfl,hi,he,hΦ⟩))
theorem zy{nameV:Value}{a:Addr}{Q:Unit->Shared->Prop}{E:VP}(L:Looks M s.heap (QI (.ref a) (.type "BaseException")) true)(q:Q () s):wpAny M A (Qe "BaseException.__getattribute__" ⟨[.ref a,nameV],[]⟩) Q E s:=by
 have hk:builtinKind "BaseException.__getattribute__"=some .slot:=by decide +kernel
 have hsplit:splitId "BaseException.__getattribute__"=some ("BaseException","__getattribute__"):=by decide +kernel
 have ha:=PySem.F.args_bexc_ga (.ref a) nameV;obtain⟨hp,g,dd,tk,os⟩:=s;simp only[Qe,hk,hsplit];refine Oz (L.at ?_);simp only[Bool.not_true,Bool.false_eq_true,if_false]
 repeat (first|assumption|wp_step)
theorem vK{a C:Addr}{Q:VP}{E:VP}(X0:K.In s.heap){ci:ClsI}(Y:XOK K C ci)(L1:Looks (Mo X) s.heap (typeOf (.ref a)) (.ref C))
 (h:∀ A':Around,wpAny (Mo X) A' (P6.«object.__getattribute__» ⟨[.ref a,.str m s.toks],[]⟩) (λ fin s'=>match fin with | .done (.ret v)=>wpAny (Mo X) A (handedOut v) Q E s'|_=>False) (λ J J=>False) { s with toks:=s.toks+1 }) :
 wpAny (Mo X) A (Rs (.ref a) m ex) Q E s:=by
 have L2:Looks (Mo X) s.heap (QI (.ref a) (.type "BaseException")) true:=L1.andThen (looks_subIn X0 Y.sub);have L3:=R2 (M:=Mo X) X0 Y.ga;have L4:=R2 (M:=Mo X) X0 Y.gt;refine Oz (wpAny_mkText (OQ (Oz (L1.at (Oz (L3.at ?_))))));dsimp only;rw[if_neg (by rw[show(Value.builtin "BaseException.__getattribute__"==Value.builtin "object.__getattribute__")=false by decide +kernel,Tk];exact O7)]
 refine Oz ?_;refine L4.at ?_;refine Oz (wpAny_attempt (OQ ?_));unfold callGetattribute;rw[if_neg (show ¬ (ex&&onTheHeap (Value.builtin "BaseException.__getattribute__"))=true by rcases ex with _|_<;>exact O7)]
 unfold boundAndCalled;rw[UE.ga.bind];refine Oz (OD ?_);refine Rz (Rw UE.ga.plain PySem.F.entry_bexc_ga (zy L2 (OF (h _) (λ fin s' z=>?_) λ J J z=>z.elim)));rcases fin with(v|_|_|_)|_<;>first|exact z|exact z.elim
structure ExcIs(X:Cx)(V:Va)(σ:Sg)(s:Shared)(C d:Nat)(es:bN)(i:Nat)(a da:Addr)(ob od:Obj):Prop where
 hi:V.ρ[i]?=some a
 he:σ.own.get i=some (.exc C d)
 hg:s.heap.get? a=some ob
 f:∃ vs,ob.data=.fields vs
 hc:ob.cls=.ref C
 hd:ob.dict=some da
 gd:s.heap.get? da=some od
 dd:DenO X false V od (.atd es)
theorem zh(H:St X V σ s){o:AV}{C d:Nat}{es:bN}{v:Value}(e:HI σ o (σ.get o)=some (C,d,es))(dv:DenV V o v):∃ i a da ob od,v=.ref a/\ExcIs X V σ s C d es i a da ob od:=
 aw e λ p eo e=>ay e λ eb e=>vC e λ q1 q2 ed=>bB eb λ i ei=>by
  have eo:=vw (c:=λ p=>AO.exc p.1 p.2) uB eo;obtain rfl:=jV ei;rw[q1,q2] at eo;rw[q2] at ed;have ed:σ.own.get d=some (.atd es):=ed;obtain⟨x,ox,h1,h2,h3,⟨vs,h4,_⟩,da,h5,h6⟩:=H.own _ _ (show σ.own.get i=some (.exc C d) from eo) nofun
  obtain⟨da',od,k1,k2,k3⟩:=H.own _ _ ed nofun
  obtain rfl:=Oy (h5.symm.trans k1);obtain⟨a,rfl,hi⟩:=dv.inv;obtain rfl:=Oy (h1.symm.trans hi);exact⟨i,x,da,ox,od,rfl,h1,eo,h2,⟨vs,h4⟩,h3,h6,k2,k3⟩
theorem Eo(T:TopF X K cfg glb){C dd:Nat}{es:bN}{E:VP}(hm:okS m=true)(H:St X V σ s)(dx:DenV V x vx)(e:HI σ x (σ.get x)=some (C,dd,es))(h:(Mk cfg σ (nm m) C es).Sat Φ) :
 wpAny (Mo X) A (Rs vx m ex) (PV X V σ Φ) E s:=by
 obtain⟨i,a,da,ob,od,rfl,Z⟩:=zh H e dx;obtain⟨ents,nn,ns,g1,g2,g3,g4,g5⟩:=Z.dd;refine bn h λ ca hc h=>az h λ hn h=>bn h λ v hl h=>az h λ hp h=>?_;obtain⟨ci,hci,hx,ha⟩:=cg hc;rw[oP hn] at ha;have Y:=T.exc _ _ hci hx;obtain⟨y,hy,dy⟩:=g4.some_ hm hl;have L1:=lK H Z.hi Z.he;have X0:=T.inB.keeps H.bs;have I:W.InstAt s.heap a ob C (some od):=⟨Z.hg,Z.hc,Z.f.elim λ vs q=>by unfold notCls;rw[q],by rw[Z.hd];exact Z.gd⟩
 obtain⟨cd,hcd,hdict⟩:=Y.cd;have hno:PW K (.ref C) m=some none:=by
  have q:=Y.attrs _ (bC ha);rw[jX q.1 hm rfl];exact q.2
 have hf:findObj K C (some od) m=some (.value y):=by
  unfold findObj;rw[hcd,hno];show(W.ownOf cd (some od) m).bind _=_;unfold W.ownOf;rw[hdict,if_pos rfl];dsimp only;rw[jc g1 g2,hy];rfl
 have L5:=looks_find (M:=Mo X) X0 I hf;refine vK X0 Y L1 λ A'=>?_;refine Oz (OD (Oz (OD (Oz (L1.at (Oz (L5.at (OD ?_))))))));show wpAny _ _ (handedOut y) _ _ _;rw[handedOut_of (jl hp dy)];exact OD (PV.here H.toks dy h)
theorem IZ(T:TopF X K cfg glb){c115:∃ ci,aX cC cfg.cls=some ci/\ci.isExc=false/\aX dC ci.attrs=some .no/\aX cQ ci.attrs=some .no}(hC:SC X ih){d:Nat}(hm:okS m=true)(hA:AOK X V σ A d 0)(H:St X V σ s)(dx:DenV V x vx)(h:(iL cfg ih d σ x (nm m)).Sat Φ) :
 wpAny (Mo X) A (Rs vx m ex) (PV X V σ Φ) (PE X V σ Φ) s:=by
 have h:(match fu σ x with
  | some p=>Mm cfg ih d σ x (nm m) p.1 p.2.2
  |
   none=>match HI σ x (σ.get x) with
   | some p=>Mk cfg σ (nm m) p.1 p.2.2
   | none=>Ml σ (nm m) x).Sat Φ:=h
 rcases e:fu σ x with _|p
 ·rw[e] at h;rcases e2:HI σ x (σ.get x) with _|p
  ·rw[e2] at h;exact Ep T c115 hm H dx h
  ·rw[e2] at h;exact Eo T hm H dx e2 h
 ·rw[e] at h;exact Er T hC hm hA H dx e h
end
end
section
universe u
open PySem PySem.W PyProof.Rows PySem.SeqAt
variable {x:AV} {a:Addr} {us:Array Value} {b fz:Bool} {B:P6} {as xs:List AV} {rest vs:List Value} {mk:MK} {i n:Nat} {pl:Sem Bool} {m name:Str} {id:String} {self vx:Value}
section
variable {glb:List (Nat×AV)} {c:FC} {k:CC} {n:Nat} {s:Shared} {K:Frag}
theorem uD{m l:Str}(hm:okS m=true)(hl:okS l=true)(e:OC (nm m) (nm l)=b)(q:b=true):m=l:=eP hm hl (OB (e.trans q))
theorem uq:okS "append"=true:=by decide +kernel
theorem Gn:okS "pop"=true:=by decide +kernel
theorem uo:okS "extend"=true:=by decide +kernel
theorem Go:okS "get"=true:=by decide +kernel
theorem Cv:okS "join"=true:=by decide +kernel
theorem p8{o:Obj}{E:VP}(hm:okS m=true)(H:St X V σ s)(ho:s.heap.get? a=some o)(hc:o.cls=.type "list")(hd:o.dict=none)(h:Hh (nm m)=some mk) :
 wpAny (Mo X) A (Tv (.ref a) m pl) (λ p s'=>St X V σ s'/\kG mk (.ref a) p) E s:=by
 have hT:s.TypeIs (.ref a) "list":=⟨o,ho,hc⟩;have hdd:∀ b,Value.ref a=.ref b->∃ o,s.heap.get? b=some o/\o.dict=none:=λ b e=>Qo e▸⟨o,ho,hd⟩;have h:(match OC (nm m) (nm "append") with
  | true=>some (.bm .append)
  |
   false=>match OC (nm m) (nm "pop") with
   | true=>some (.bm .pop)
   |
    false=>match OC (nm m) (nm "extend") with
    | true=>some (.bm .extend)
    | false=>none)=some mk:=h
 rcases q:OC (nm m) (nm "append") with _|_
 ·rw[q] at h;rcases q:OC (nm m) (nm "pop") with _|_
  ·rw[q] at h;rcases q:OC (nm m) (nm "extend") with _|_
   ·rw[q] at h;exact am h
   ·rw[q] at h;obtain rfl:=Oy h;obtain rfl:=uD hm uo q rfl;exact Sj hT Sh RX PySem.F.type_list_extend hdd ⟨H,rfl⟩
  ·rw[q] at h;obtain rfl:=Oy h;obtain rfl:=uD hm Gn q rfl;exact Sj hT Sh Rl PySem.F.type_list_pop hdd ⟨H,rfl⟩
 ·rw[q] at h;obtain rfl:=Oy h;obtain rfl:=uD hm uq q rfl;exact Sj hT Sh Ua PySem.F.type_list_append hdd ⟨H,rfl⟩
theorem kt{es:List (List Nat×AV)}{ob:Obj}(h:DenO X fz V ob (.dct b es)):ob.cls=.type "dict"/\ob.dict=none:=by
 rcases b with _|_
 ·exact h.rec λ kvs q=>q.1.rec λ J q=>q.rec λ J q=>⟨q.1.1,q.1.2.1⟩
 ·exact h.rec λ kvs q=>q.1.rec λ J q=>q.rec λ J q=>⟨q.1.1,q.1.2.1⟩
theorem zF{ca:CA}{f:Nat}(h:Bc ca=some f):ca=.meth f:=by
 rcases ca with _|_|_<;>first|exact congrArg CA.meth (Oy h)|exact am h
theorem Hz{m:Nat}{P:Prop}(h:rM cfg σ x m=some mk)(q:∀ C d es ci f,mk=.fn f->fu σ x=some (C,d,es)->aX C cfg.cls=some ci->ci.isExc=false->aX m ci.attrs=some (.meth f)->aX m es=none->P):P:=
 aw h λ p e h=>aw h λ ca hc h=>aw h λ f ef h=>ay h λ h4 h=>(cg hc).rec λ ci r=>q _ _ _ ci f (Oy h).symm e r.1 r.2 (zF ef▸r.3) (Px.mp h4)
theorem vB(T:TopF X K cfg glb){E:VP}(hm:okS m=true)(H:St X V σ s)(dx:DenV V x vx)(h:rM cfg σ x (nm m)=some mk) :
 wpAny (Mo X) A (Tv vx m pl) (λ p s'=>St X V σ s'/\kG mk vx p) E s:=
 Hz h λ C d es ci f ef e h1 h2 h3 h4=>by
  subst ef;obtain⟨a,da,ox,od,I,_⟩:=gZ H e dx;have hv:=I.v;subst hv;have Y:=T.cls _ _ h1 h2;obtain⟨a1,a2⟩:=wO hm Y h3;obtain⟨ents,nn,ns,g1,g2,g3,g4,g5⟩:=I.den;refine method_fn (T.inB.keeps H.bs) I.at_ Y.ga Y.gt a1 a2 ?_ ⟨H,rfl⟩;show(lookIn _ _).map _=_;rw[jc g1 g2,g4.none_ hm h4];rfl
theorem xR{l:List Nat}{E:VP}(hm:okS m=true)(H:St X V σ s)(dx:DenV V x vx)(e:iF x=some l)(h:ifK (OC (nm m) (nm "join")) (some (.bm .join))=some mk) :
 wpAny (Mo X) A (Tv vx m pl) (λ p s'=>St X V σ s'/\kG mk vx p) E s:=
 ay h λ q h=>by
  obtain rfl:=Oy h;obtain rfl:=uD hm Cv q rfl;obtain⟨_,_,rfl,_⟩:=gK e dx;exact GM.join ⟨H,rfl⟩
theorem DV{p:Bool×List (List Nat×AV)}{E:VP}(hm:okS m=true)(H:St X V σ s)(dx:DenV V x vx)(e:σ.get x=some (.dct p.1 p.2))(h:ifK (OC (nm m) (nm "get")) (some (.bm .get))=some mk) :
 wpAny (Mo X) A (Tv vx m pl) (λ p s'=>St X V σ s'/\kG mk vx p) E s:=
 ay h λ q h=>by
  obtain rfl:=Oy h;obtain rfl:=uD hm Go q rfl;obtain⟨f,a,ob,rfl,g,dd⟩:=aJ H e nofun dx
  have c:=kt dd;exact Sj ⟨ob,g,c.1⟩ PySem.F.plainAttrs_dict UH PySem.F.type_dict_get (λ b e=>Qo e▸⟨ob,g,c.2⟩) ⟨H,rfl⟩
theorem CW(T:TopF X K cfg glb){E:VP}(hm:okS m=true)(H:St X V σ s)(dx:DenV V x vx)(h:rD cfg σ x (nm m)=some mk) :
 wpAny (Mo X) A (Tv vx m pl) (λ p s'=>St X V σ s'/\kG mk vx p) E s:=by
 have h:(match iF x with
  | some _=>ifK (OC (nm m) (nm "join")) (some (.bm .join))
  |
   none=>match ((σ.get x).bind jI).isSome||jh (σ.get x) with
   | true=>Hh (nm m)
   |
    false=>match (σ.get x).bind nI with
    | some _=>ifK (OC (nm m) (nm "get")) (some (.bm .get))
    | none=>rM cfg σ x (nm m))=some mk:=h
 rcases e:iF x with _|l
 ·rw[e] at h;rcases e2:((σ.get x).bind jI).isSome||jh (σ.get x) with _|_
  ·rw[e2] at h;rcases e3:(σ.get x).bind nI with _|p
   ·rw[e3] at h;exact vB T hm H dx h
   ·rw[e3] at h;exact DV hm H dx (vw (c:=λ p=>AO.dct p.1 p.2) il e3) h
  ·rw[e2] at h;rcases(P9 _ _).mp e2 with e3|e3
   ·exact bB e3 λ xs e3=>by
     obtain⟨f,a,ob,rfl,g,vs,n,rfl,dd⟩:=aJ H (vw ge e3) nofun dx
     exact p8 hm H g rfl rfl h
   ·obtain⟨f,a,ob,rfl,g,vs,n,rfl,dd⟩:=aJ H (mJ e3) nofun dx
    exact p8 hm H g rfl rfl h
 ·rw[e] at h;exact xR hm H dx e h
theorem cD{T:String}{S:PySem.Spec}{R:Qa->Shared->Prop}(slot:Slot T name id)(hT:s.TypeIs self T)
 (entry:RD table id=some B) (args:Tc id ⟨self::rest,[]⟩) (g:Meets (B ⟨self::rest,[]⟩) S) (h:S A R s):Pd (Mo X) A (.call (.builtin id) ⟨self::rest,[]⟩) R s:=
 Rw slot.plain entry (slot.check _ _ _ _ _ _ _ _ hT args (g _ _ A R s h))
theorem nj{T:String}{S:PySem.Spec}{R:Qa->Shared->Prop}(slot:Slot T name id)(hT:s.TypeIs self T)
 (entry:RD table id=some B) (args:Tc id ⟨self::rest,[]⟩) (g:MeetsIn X.prog X.w (B ⟨self::rest,[]⟩) S) (h:S A R s):Pd (Mo X) A (.call (.builtin id) ⟨self::rest,[]⟩) R s:=
 Rw slot.plain entry (slot.check _ _ _ _ _ _ _ _ hT args (g A R s h))
theorem iQ{vs:Array Value}{m:Nat}{o o':AO}{f:Array Value->Array Value}{tk:Nat}(H:St X V σ s)(hi:V.ρ[i]?=some a)(ho:σ.own.get i=some o)(g:s.heap.get? a=some (bT vs m))(hd:∀ m',DenO X false V (bT (f vs) m') o')
 (n1:∀ es,o≠.ns es:=by intros;nofun) (n2:∀ c d,o≠.exc c d:=by intros;nofun) (n3:o≠.dead:=by intros;nofun) (n4:∀ c d,o'≠.exc c d:=by intros;nofun) :
 St X V ⟨Tr.put' 40 σ.own i o',σ.n,σ.frz⟩ { s with heap:=s.heap.update a (Obj.mapSeq f),toks:=tk }/\Keep σ ⟨Tr.put' 40 σ.own i o',σ.n,σ.frz⟩:=
 ⟨H.upd (t:=tk) ho hi (Pp (QG ..).1.symm) (λ b o hb e=>((QG ..).2 b hb).trans e) (PySem.IsL.update (l:=a) (items:=vs) (n:=m) g f) n4 (hd _) n3,cH H ho (λ es e=>absurd e (n1 es)) n2⟩
theorem uZ(h:mG xs=some x):xs[xs.length-1]?=some x:=
 xs.rec (motive:=λ xs=>mG xs=some x->xs[xs.length-1]?=some x) am (λ y r ih h=>by
  rcases r with _|⟨z,r⟩
  ·exact h
  ·exact ih h) h
theorem All2.dropLast{α β:Type}{P:α->β->Prop}{l:List α}{m:List β}(h:All2 P l m):All2 P l.dropLast m.dropLast:=
 h.rec (motive:=λ l m J=>All2 P l.dropLast m.dropLast) .nil λ a r ih=>r.rec (motive:=λ xs ys J=>All2 P xs.dropLast ys.dropLast->All2 P (_::xs).dropLast (_::ys).dropLast) (λ J=>.nil) (λ J J J ih=>.cons a ih) ih
theorem pG{g:Sg}{l:List AV}{kont:Sg->R}(h:(kS g i l kont).Sat Φ):sz l=true/\(kont ⟨Tr.put' 40 g.own i (.lst l),g.n,g.frz⟩).Sat Φ:=
 az h λ q h=>⟨q,by rw[bD] at h;exact h⟩
theorem lu{vs:Array Value}{m:Nat}(h:All2 (DenV V) xs vs.toList):DenO X fz V (bT vs m) (.lst xs):=⟨vs,m,rfl,h⟩
theorem PRv{v:Value}(h:PV X V σ Φ v s):PR X V σ Φ (.ok (.ret v)) s:=h
theorem fQ{α β:Type}{P:α->β->Prop}{l l':List α}{m m':List β}(h:All2 P l m)(k:All2 P l' m'):All2 P (l++l') (m++m'):=h.app k
theorem All2.nil_inv{α β:Type}{P:α->β->Prop}{ys:List β}(d:All2 P [] ys):ys=[]:=d.nil_elim (motive:=λ ys J=>ys=[]) rfl
theorem fE(e:single as=some x)(d:All2 (DenV V) as vs):∃ v,vs=[v]/\DenV V x v:=by
 obtain rfl:=ch e;obtain⟨v,r,rfl,dv,dr⟩:=d.cons_inv;exact⟨v,by rw[dr.nil_inv],dv⟩
theorem ce(h:n<100000):n<=P8:=sizeLine_eq▸OM (OU h) (by decide)
theorem NZ(hi:V.ρ[i]?=some a)(ho:σ.own.get i=some (.lst xs))(da:All2 (DenV V) as vs)(H:St X V σ s)(g:s.heap.get? a=some (bT us n))(dd:All2 (DenV V) xs us.toList)(h:(on (single as) λ v=>app xs [v] λ l=>kS σ i l (val .none)).Sat Φ) :
 Pd (Mo X) A (.call (.builtin (sD .append)) ⟨.ref a::vs,[]⟩) (PR X V σ Φ) s:=
 bn h λ x e h=>by
  rw[dQ] at h;obtain⟨hf,h⟩:=pG h;obtain⟨v,rfl,dv⟩:=fE e da;have hf':us.size+1<100000:=by
   have:=OE hf;rw[OW,dd.length,OH] at this;exact this
  obtain⟨H',k'⟩:=iQ (o':=.lst _) (f:=λ y=>y.push v) (tk:=s.toks) H hi ho g λ m'=>lu (by rw[Array.toList_push];exact fQ dd (.cons dv .nil))
  exact cD Ua ⟨_,g,rfl⟩ PySem.F.entry_list_append (PySem.F.args_list_append_2 _ _) (PySem.list_append a us n _ (ce (Nat.lt_of_succ_lt hf'))) ⟨g,PRv ⟨V,_,.none,.rfl,k',H',.none,h⟩⟩
theorem K9(hi:V.ρ[i]?=some a)(ho:σ.own.get i=some (.lst xs))(da:All2 (DenV V) [] vs)(H:St X V σ s)(g:s.heap.get? a=some (bT us n))(dd:All2 (DenV V) xs us.toList)(hz:us.size<100000)(h:(on (mG xs) λ x=>app xs.dropLast [] λ l=>σ.set i (.lst l) (val x)).Sat Φ) :
 Pd (Mo X) A (.call (.builtin (sD .pop)) ⟨.ref a::vs,[]⟩) (PR X V σ Φ) s:=
 bn h λ x ex h=>by
  rw[dQ,Pn,bD] at h;obtain rfl:=da.nil_inv;obtain⟨y,ey,dy⟩:=dd.at_ (uZ ex);rw[O5,dd.length,OH] at ey;have hlt:us.size-1<us.size:=(Tz.mp ey).1;have e2:(us.eraseIdxIfInBounds (us.size-1)).toList=us.toList.dropLast:=by
   rw[RY,dif_pos hlt,SO,<-OH,List.eraseIdx_length_sub_one]
  obtain⟨H',k'⟩:=iQ (o':=.lst xs.dropLast) (f:=λ y=>y.eraseIdxIfInBounds (us.size-1)) (tk:=s.toks) H hi ho g λ m'=>lu (e2▸dd.dropLast);exact cD Rl ⟨_,g,rfl⟩ Sr (PySem.F.args_list_pop_1 _) (MeetsSeq.list_pop_last a us n y ey (ce hz)) ⟨g,PRv ⟨V,_,x,.rfl,k',H',dy,h⟩⟩
theorem La{b:AV}{xs r:List AV}(hi:V.ρ[i]?=some a)(ho:σ.own.get i=some (.lst xs))(da:All2 (DenV V) (b::r) vs)(H:St X V σ s)(g:s.heap.get? a=some (bT us n))(dd:All2 (DenV V) xs us.toList)(hz:us.size<100000)(h:(G7 i xs σ (b::r)).Sat Φ) :
 Pd (Mo X) A (.call (.builtin (sD .pop)) ⟨.ref a::vs,[]⟩) (PR X V σ Φ) s:=
 bn h λ z ez h=>az h λ q h=>by
  obtain⟨v,rfl,dv⟩:=fE ez da;obtain⟨tk,rfl⟩:=gX q dv;rcases xs with _|⟨x,r⟩
  ·exact h.elim
  ·have h:(σ.set i (.lst r) (val x)).Sat Φ:=h;rw[bD] at h;obtain⟨us⟩:=us;obtain⟨y,ur,e,dy,dr⟩:=All2.cons_inv (ys:=us) dd;subst e;obtain⟨H',k'⟩:=iQ (o':=.lst r) (f:=λ y=>y.eraseIdxIfInBounds 0) (tk:=s.toks) H hi ho g λ m'=>lu (by
    rw[RY,dif_pos (show 0<(Array.mk (y::ur)).size from Q2 _),SO];exact dr)
   exact cD Rl ⟨_,g,rfl⟩ Sr (Uu _ _) (UJ a ⟨y::ur⟩ n 0 tk 0 y (by decide) (To (Int.le_refl 0) (Qv.mpr (Q2 _))) rfl (ce hz)) ⟨g,PRv ⟨V,_,x,.rfl,k',H',dy,h⟩⟩
theorem NY(G:cy X cfg)(hi:V.ρ[i]?=some a)(ho:σ.own.get i=some (.lst xs))(da:All2 (DenV V) as vs)(H:St X V σ s)(g:s.heap.get? a=some (bT us n))(dd:All2 (DenV V) xs us.toList)(h:(on (single as) λ l=>on (dJ cfg σ l) λ ys=>app xs ys λ l=>kS σ i l (val .none)).Sat Φ) :
 Pd (Mo X) A (.call (.builtin (sD .extend)) ⟨.ref a::vs,[]⟩) (PR X V σ Φ) s:=
 bn h λ x ex h=>bn h λ ys ey h=>by
  rw[dQ] at h;obtain⟨hf,h⟩:=pG h;obtain⟨v,rfl,dv⟩:=fE ex da;obtain⟨b,ws,m',rfl,dw,h1⟩:=eH G H ey dv;have hf':us.size+ws.size<100000:=by
   have:=OE hf;rw[OW,dd.length,OH,dw.length,OH] at this;exact this
  have hl:¬ (!us.isEmpty&&Ud (us.size+ws.size))=true:=λ q=>
   absurd (ce hf') (Nat.not_le_of_lt (of_decide_eq_true ((OA _ _).mp q).2))
  obtain⟨H',k'⟩:=iQ (o':=.lst _) (f:=λ y=>y++ws) (tk:=s.toks) H hi ho g λ m'=>lu (by rw[Q7];exact fQ dd dw)
  have fin:PR X V σ Φ (.ok (.ret .none)) _:=PRv ⟨V,_,.none,.rfl,k',H',.none,h⟩;rcases h1 with g2|g2
  ·exact cD RX ⟨_,g,rfl⟩ TW (TA _ _) (AutoSeq1.list_extend_list_list_0 a us n b ws m' hl (ce (OI (Pu us.size ws.size) hf')) (QP (ce hf'))) ⟨g,g2.1,fin⟩
  ·exact cD RX ⟨_,g,rfl⟩ TW (TA _ _) (AutoSeq1.list_extend_list_tuple_0 a us n b ws m' hl (ce (OI (Pu us.size ws.size) hf')) (QP (ce hf'))) ⟨g,g2.1,fin⟩
theorem C4(G:cy X cfg){m:BM}(hi:V.ρ[i]?=some a)(ho:σ.own.get i=some (.lst xs))(da:All2 (DenV V) as vs)(H:St X V σ s)(h:(Lb cfg i xs m as σ).Sat Φ) :
 Pd (Mo X) A (.call (.builtin (sD m)) ⟨.ref a::vs,[]⟩) (PR X V σ Φ) s:=by
 obtain⟨a',ob,x1,g,us,n,rfl,dd⟩:=H.own _ _ ho nofun
 obtain rfl:=Oy (hi.symm.trans x1);rcases m with _|_|_|_|_
 ·exact NZ hi ho da H g dd h
 ·refine az h λ hf h=>?_;rcases as with _|⟨b,r⟩
  ·exact K9 hi ho da H g dd (dX dd hf) h
  ·exact La hi ho da H g dd (dX dd hf) h
 ·exact NY G hi ho da H g dd h
 ·exact h.elim
 ·exact h.elim
end
end
section
universe u
open PySem PySem.W PyProof.Rows PySem.SeqAt
variable {a:Addr} {m:BM} {b fz:Bool} {es:List (List Nat×AV)} {as:List AV} {vs:List Value} {i:Nat} {ob:Obj}
section
variable {glb:List (Nat×AV)} {c:FC} {k:CC} {n:Nat} {s:Shared} {K:Frag}
theorem C5(hi:V.ρ[i]?=some a)(ho:σ.own.get i=some .ilaN)(da:All2 (DenV V) as vs)(H:St X V σ s)(h:(Ld i m as σ).Sat Φ) :
 Pd (Mo X) A (.call (.builtin (sD m)) ⟨.ref a::vs,[]⟩) (PR X V σ Φ) s:=by
 rcases m with _|_|_|_|_
 rotate_left 1
 ·refine bn h λ z ez h=>az h λ q h=>?_;obtain⟨a',ob,x1,g,us,n,rfl,hz,h64,hint⟩:=H.own _ _ ho nofun
  obtain rfl:=Oy (hi.symm.trans x1);rw[bD] at h;obtain⟨v,rfl,dv⟩:=fE ez da;obtain⟨tk,rfl⟩:=gX q dv;obtain⟨us⟩:=us;rcases us with _|⟨y,ur⟩
  ·exact absurd hz (Ra 0)
  ·obtain⟨yi,yt,rfl⟩:=hint y (OZ ..);have h64:(Value.int yi yt::ur).length<=64:=h64;have e:((Array.mk (Value.int yi yt::ur)).eraseIdxIfInBounds 0).toList=ur:=by
    rw[RY,dif_pos (show 0<(Array.mk (Value.int yi yt::ur)).size from Q2 _),SO];rfl
   have es:((Array.mk (Value.int yi yt::ur)).eraseIdxIfInBounds 0).size<=64:=by
    rw[<-OH,e];exact QB h64
   obtain⟨H',k'⟩:=iQ (o':=.ila) (f:=λ y=>y.eraseIdxIfInBounds 0) (tk:=s.toks) H hi ho g λ m'=>⟨_,m',rfl,es,λ v hv=>hint v (OY _ (e▸hv))⟩;exact cD Rl ⟨_,g,rfl⟩ Sr (Uu _ _) (UJ a ⟨Value.int yi yt::ur⟩ n 0 tk 0 (.int yi yt) (by decide) (To (Int.le_refl 0) (Qv.mpr (Q2 _))) rfl (ce (OI h64 (by decide)))) ⟨g,PRv ⟨V,_,.an,.rfl,k',H',.an yi yt,h⟩⟩
 all_goals exact h.elim
theorem mX{K:Type}[DecidableEq K]{knd:KeyKind X.prog X.w K}{enc:K->List Nat}(hk:KindK X b K knd enc){key:K}{kv dv:Value}{d:AV}(H:St X V σ s)(hm:(a==Rg)=false)(g:s.heap.get? a=some ob)(x3:DenO X fz V ob (.dct b es))(hkey:knd.is key kv=true)(dd:DenV V d dv)
 (h:(val ((jK (enc key) es).getD d) σ).Sat Φ):Pd (Mo X) A (.call (.builtin "dict.get") ⟨[.ref a,kv,dv],[]⟩) (PR X V σ Φ) s:=by
 obtain⟨kvs,y1,y2⟩:=hk.den.mp x3;have D:s.heap.DictOf knd a kvs:=QO.mpr ⟨ob,g,y1⟩;refine nj UH ⟨ob,g,(kt x3).1⟩ PySem.F.entry_dict_get (PySem.F.args_dict_get_3 _ _ _) (meets_dict_get_default knd (k:=key) (key:=kv) a hkey hm dv) ⟨_,D.mapOf,?_⟩;have:=lw hk.inj key y2;rcases ev:jK (enc key) es with _|v
 ·rw[ev] at this h;rw[this];exact PRv (PV.here H.toks dd h)
 ·rw[ev] at this h;obtain⟨y,ey,dy⟩:=this;rw[ey];exact PRv (PV.here H.toks dy h)
theorem tf{p:AV×AV}(e:jG as=some p)(d:All2 (DenV V) as vs):∃ v w,vs=[v,w]/\DenV V p.1 v/\DenV V p.2 w:=by
 obtain rfl:=gP e;obtain⟨v,r,rfl,dv,dr⟩:=d.cons_inv;obtain⟨w,r,rfl,dw,dz⟩:=dr.cons_inv;obtain rfl:=dz.nil_inv;exact⟨v,w,rfl,dv,dw⟩
theorem uM(H:St X V σ s)(hm:(a==Rg)=false)(g:s.heap.get? a=some ob)(x3:DenO X fz V ob (.dct b es))(da:All2 (DenV V) as vs)(h:(JI b es m as σ).Sat Φ) :
 Pd (Mo X) A (.call (.builtin (sD m)) ⟨.ref a::vs,[]⟩) (PR X V σ Φ) s:=by
 rcases m with _|_|_|_|_
 rotate_left 3
 ·refine bn h λ p ep h=>bn h λ l el h=>?_;obtain⟨v,w,rfl,d1,d2⟩:=tf ep da;rcases b with _|_
  ·obtain⟨z,t,rfl,rfl⟩:=gW el d1;exact mX om H hm g x3 (iK z t) d2 h
  ·obtain⟨z,t,rfl,rfl⟩:=jd el d1;exact mX ou H hm g x3 (lF z t) d2 h
 all_goals exact h.elim
theorem yU{V:Va}{xs:List AV}(d:All2 (DenV V) xs vs){cs:List Nat}(h:Dg xs=some cs):∃ l:List (Str×Tok),vs=strValues l/\(l.map λ p=>p.1.cps.toList).flatten=cs:=by
 induction d generalizing cs with
 | nil=>exact⟨[],rfl,Oy h⟩
 |
  cons d _ ih=>
  refine fU h λ l el h=>bG h λ c e q=>?_;obtain⟨ls,r1,r2⟩:=ih e;subst el;obtain⟨z,t,rfl,r3⟩:=d.inv;exact⟨(z,t)::ls,by rw[r1];rfl,by rw[O2,QA,r2,r3];exact q⟩
theorem vP(sep:Str)(hs:sep.cps.toList=[])(l:List Str)(acc:Array Nat):(l.foldl (λ acc p=>acc++sep.cps++p.cps) acc).toList=acc.toList++(l.map λ p=>p.cps.toList).flatten:=
 l.rec (motive:=λ l=>∀ acc:Array Nat,(l.foldl (λ acc p=>acc++sep.cps++p.cps) acc).toList=acc.toList++(l.map λ p=>p.cps.toList).flatten) (λ acc=>(Pn _).symm) (λ x r ih acc=>by
  rw[UA,ih,Q7,Q7,hs,Pn,O2,QA,PH]) acc
theorem vI(sep:Str)(hs:sep.cps.toList=[])(l:List Str):(Txt.join sep l).cps.toList=(l.map λ p=>p.cps.toList).flatten:=by
 rcases l with _|⟨x,r⟩
 ·rfl
 ·exact vP sep hs r x.cps
theorem vO(sep:Str)(hs:sep.length=0)(l:List Str)(n:Nat):l.foldl (λ a p=>a+p.length+sep.length) n=n+((l.map λ p=>p.cps.toList).flatten).length:=
 l.rec (motive:=λ l=>∀ n:Nat,l.foldl (λ a p=>a+p.length+sep.length) n=n+((l.map λ p=>p.cps.toList).flatten).length) (λ J=>rfl) (λ x r ih n=>by
  rw[UA,ih,O2,QA,OW,hs,SQ,TH,show x.length=x.cps.toList.length from OH.symm]) n
theorem C3{l:List Nat}{x:Str}{tk:Tok}(H:St X V σ s)(hx:x.cps.toList=l)(da:All2 (DenV V) as vs)(h:(K8 cfg l m as σ).Sat Φ) :
 Pd (Mo X) A (.call (.builtin (sD m)) ⟨.str x tk::vs,[]⟩) (PR X V σ Φ) s:=by
 rcases m with _|_|_|_|_
 rotate_left 4
 ·refine az h λ hl h=>bn h λ y ey h=>bn h λ cs ecs h=>az h λ hlen hw=>aw ecs λ xs e1 e2=>?_;obtain rfl:=O8.mp hl;obtain⟨v,rfl,dv⟩:=fE ey da;obtain⟨f,a,ob,rfl,g,us,n,rfl,dd⟩:=aJ H (aU e1) nofun dv
  obtain⟨l,e3,e4⟩:=yU dd e2;have h0:x.length=0:=(OH.symm:x.cps.size=x.cps.toList.length).trans (congrArg Sw hx);have e4:((l.map ((λ p=>p.cps.toList)∘λ p:Str×Tok=>p.1)).flatten)=cs:=e4;have hl:Builtin.Str.tooLong ((l.map (·.1)).toArray.foldl (·+·.length+x.length) 0)=false:=by
   rw[List.foldl_toArray,vO x h0,Qg];refine decide_eq_false (Nat.not_lt_of_le ?_);rw[e4,R6];exact ce (S4 (OE hlen) (by decide))
  refine cD PySem.F.slot_str_join (typeIs_str _ _ _) PySem.F.entry_str_join (PySem.F.args_str_join_2 _ _) (meets_str_join_list x tk a l hl) ⟨⟨_,g,rfl,n,by rw[<-e3];rfl⟩,?_⟩
  refine post_join l ⟨joinFit_length hl,λ t' k'=>PRv (PV.here H.toks (.str t' ?_) hw)⟩;rw[vI x hx,Qg];exact e4
 all_goals exact h.elim
theorem Cs(H:St X V σ s)(l:σ.live i)(hi:V.ρ[i]?=some a):(a==Rg)=false:=H.low i a l hi
theorem IK(T:TopF X K cfg glb)(hi:V.ρ[i]?=some a)(da:All2 (DenV V) as vs)(H:St X V σ s)(h:(G8 cfg i m as σ (σ.own.get i)).Sat Φ) :
 Pd (Mo X) A (.call (.builtin (sD m)) ⟨.ref a::vs,[]⟩) (PR X V σ Φ) s:=by
 have h:(match (σ.own.get i).bind jI with
  | some xs=>Lb cfg i xs m as σ
  |
   none=>match (σ.own.get i).bind rr with
   | some _=>Ld i m as σ
   | none=>on ((σ.own.get i).bind nI) λ p=>JI p.1 p.2 m as σ).Sat Φ:=h
 rcases e:(σ.own.get i).bind jI with _|xs
 ·rw[e] at h;rcases e:(σ.own.get i).bind rr with _|xs
  ·rw[e] at h;refine bn h λ p e h=>?_;have e:=vw (c:=λ p=>AO.dct p.1 p.2) il e;obtain⟨a',ob,x1,x2,x3⟩:=H.own _ _ e nofun
   obtain rfl:=Oy (hi.symm.trans x1);exact uM H (H.low i a ⟨_,e,nofun⟩ hi) x2 x3 da h
  ·rw[e] at h;exact C5 hi (vw (c:=λ J=>AO.ilaN) uA e) da H h
 ·rw[e] at h;exact C4 T.gobs hi (vw ge e) da H h
theorem Mc(T:TopF X K cfg glb){o:AV}{vo:Value}(d0:DenV V o vo)(da:All2 (DenV V) as vs)(H:St X V σ s)(h:(yB cfg m o as σ).Sat Φ) :
 Pd (Mo X) A (.call (.builtin (sD m)) ⟨vo::vs,[]⟩) (PR X V σ Φ) s:=by
 have h:(match iF o with
  | some s=>K8 cfg s m as σ
  |
   none=>match jW o with
   | some i=>G8 cfg i m as σ (σ.own.get i)
   | none=>on (qW o) λ i=>M7 m as σ σ.frz.l[i]?).Sat Φ:=h
 rcases e:iF o with _|l
 ·rw[e] at h;rcases e:jW o with _|i
  ·rw[e] at h;refine bn h λ j ej h=>bn h λ p e h=>?_;obtain⟨a,rfl,hj⟩:=lI ej d0;obtain⟨a',ob,x1,x2,x3,x4⟩:=H.frz _ _ (vw (c:=λ p=>AO.dct p.1 p.2) il e);obtain rfl:=Oy (hj.symm.trans x1);exact uM H x4 (H.stays _ _ x2) x3 da h
  ·rw[e] at h;obtain⟨a,rfl,hi⟩:=eJ e d0;exact IK T hi da H h
 ·rw[e] at h;obtain⟨x,t,rfl,hx⟩:=gK e d0;exact C3 H hx da h
end
end
section
universe u
open PySem PySem.W PyProof.Rows PySem.SeqAt
variable {o v:AV} {h:Heap} {args:List AV} {d f m n:Nat} {P:Prop} {Q:VP} {y:Value}
section
variable {glb:List (Nat×AV)} {c:FC} {k:CC} {n:Nat} {s:Shared} {K:Frag}
theorem AN{m:Str}{E:VP}(hg:env.globals=Pj)(X0:K.In s.heap)(e:nsIn K Pj m=some (some y))(q:Q y s):wpAny (Mo X) A (loadGlobal env m) Q E s:=
 Oz ((looks_nsIn X0 (hg▸e)).at (OD q))
theorem Hx{o:Option (Option Value)}{i:Int}(h:JL (oo xD o) i=true):∃ t,o=some (some (.int i t)):=by
 rcases e:oo xD o with _|j
 ·rw[e] at h;exact nof h
 ·rw[e] at h;obtain rfl:=(of_decide_eq_true h:i=j);exact M1 e λ v e1 e2=>(sW e2).rec λ t r=>⟨t,r▸e1⟩
theorem Dy(T:TopF X K cfg glb){m:Str}{E:VP}(hm:okS m=true)(hl:aX (nm m) glb=some v)(hg:env.globals=Pj)(hb:env.builtins=Qh)(H:St X V σ s)(q:∀ y,DenV V v y->Q y s) :
 wpAny (Mo X) A (loadGlobal env m) Q E s:=by
 have X0:=T.inB.keeps H.bs;have B:=(OA _ _).mp (T.glb _ (bC hl));have B2:Lz K m v=true:=(jX B.1 hm rfl:m=unS (nm m))▸B.2;refine((AV.casesOn (motive_1:=λ v=>Lz K m v=true->(∀ y,DenV V v y->Q y s)->wpAny (Mo X) A (loadGlobal env m) Q E s) v (λ h J=>nof h) (λ J=>λ h J=>nof h) (λ J=>λ h J=>nof h) (λ i=>λ B q=>(Hx B).rec λ t e=>AN hg X0 e (q _ (.int i t))) (λ J=>λ h J=>nof h) (λ J=>λ h J=>nof h) (λ J=>λ h J=>nof h) (λ J=>λ h J=>nof h) (λ J=>λ h J=>nof h) (λ J=>λ h J=>nof h) (λ a=>λ B q=>AN hg X0 (beq_iff_eq.mp B) (q _ (.glob a))) (λ b=>λ B q=>?_) (λ J=>λ h J=>nof h) (λ h J=>nof h) (λ h J=>nof h) (λ J=>λ h J=>nof h) (λ h J=>nof h) (λ h J=>nof h) (λ J J J=>λ h J=>nof h) (λ J=>λ h J=>nof h))) B2 q;obtain⟨b1,B⟩:=(OA _ _).mp B;obtain⟨b2,b3⟩:=(OA _ _).mp B;obtain⟨mb,hmb,hm2⟩:=T.bui;have hne:m≠("__name__":Str):=λ r=>OG ((sx b3).symm.trans (beq_iff_eq.mpr r));refine Oz ((looks_nsIn X0 (hg▸beq_iff_eq.mp b1)).at (Oz (wpAny_nsGet (hb▸hmb.keeps H.bs) ?_)));rw[(hm2 _ hne).trans (beq_iff_eq.mp b2)];exact OD (q _ (.bi b))
theorem lD(X0:K.In h){a:Addr}(e:cO K a=true):∃ k,(k=Keeper.frame\/k=Keeper.machine\/k=Keeper.boundFrame)/\Looks (Mo X) h (Q3 (.ref a)) k:=by
 have e:De K a (K.lookup a)=true:=e;rcases hl:K.lookup a with _|⟨c,d,dt,sl⟩
 ·rw[hl] at e;exact nof e
 ·rw[hl] at e;refine((QM (motive:=λ dt=>K.lookup a=some ⟨c,d,dt,sl⟩->De K a (some ⟨c,d,dt,sl⟩)=true->∃ k,(k=Keeper.frame\/k=Keeper.machine\/k=Keeper.boundFrame)/\Looks (Mo X) h (Q3 (.ref a)) k) dt (λ J=>nof) (λ J=>λ J=>nof) (λ J J=>λ J=>nof) (λ J J=>λ J=>nof) (λ J J J=>λ J=>nof) (λ J J=>λ J=>nof) (λ J=>λ J=>nof) (λ f=>λ hl J=>⟨.frame,.inl rfl,(Tm (part:=none) (X0 _ _ hl)).andThen .now⟩) (λ f=>λ hl e=>⟨.machine,.inr (.inl rfl),(Tm (part:=none) (X0 _ _ hl)).andThen ((looks_specialIn X0 (beq_iff_eq.mp e)).andThen ?_)⟩) (λ J=>λ J=>nof) (λ J=>nof))) hl e;rw[if_pos (show(some (Value.builtin "type.__call__")==some (Value.builtin "type.__call__"))=true by decide +kernel)]
  exact .now
theorem ve{b:Bi}:∃ k,(k=Keeper.frame\/k=Keeper.machine\/k=Keeper.boundFrame)/\Looks (Mo X) h (Q3 (jw b)) k:=
 ⟨.machine,.inr (.inl rfl),by rcases b with⟨⟩<;>exact Looks.now⟩
theorem wf{a:Nat}{t:R}(h:r7 cfg d a args σ=some t)(p:∀ c,OC (d/1000) 0=true->aX a cfg.con=some c->c d args σ=some t->P):P:=by
 have h:(match OC (d/1000) 0 with
  | true=>(aX a cfg.con).bind λ c=>c d args σ
  | false=>none)=some t:=h
 rcases e:OC (d/1000) 0 with _|_
 ·rw[e] at h;exact am h
 ·rw[e] at h;exact aw h λ c e1 e2=>p c e e1 e2
theorem Dd(T:TopF X K cfg glb)(dv:DenV V v y)(H:St X V σ s)(h:(run cfg n (.call d v args) σ).Sat Φ):∃ k,(k=Keeper.frame\/k=Keeper.machine\/k=Keeper.boundFrame)/\Looks (Mo X) s.heap (Q3 y) k:=by
 rcases n with _|n
 ·exact h.elim
 ·have h:(match dc v with
   | some a=>zD cfg (run cfg n) d a args σ
   | none=>on (vBi v) λ b=>qJ cfg d b args σ).Sat Φ:=h
  rcases e:dc v with _|a
  ·rw[e] at h;exact bn h λ b eb J=>qP eb dv▸ve
  ·rw[e] at h;rw[fm e dv];refine lD (T.inB.keeps H.bs) (T.keep a ?_);have h:(match r7 cfg d a args σ with
    | some t=>t
    |
     none=>match aX a cfg.fns with
     | some fi=>qI (run cfg n) d fi args σ
     |
      none=>match aX a cfg.cls with
      | some ci=>yF (run cfg n) d a ci args σ
      | none=>.stuck 61).Sat Φ:=h
   rcases e1:r7 cfg d a args σ with _|t
   ·rw[e1] at h;rcases e2:aX a cfg.fns with _|fi
    ·rw[e2] at h;rcases e3:aX a cfg.cls with _|ci
     ·rw[e3] at h;exact h.elim
     ·exact .inr (.inl rfl)
    ·exact .inl rfl
   ·exact wf e1 λ c J e J=>.inr (.inr (e▸rfl))
theorem Df(h:Hh m=some (.fn f)):P:=by
 have h:(match OC m (nm "append") with
  | true=>some (.bm .append)
  |
   false=>match OC m (nm "pop") with
   | true=>some (.bm .pop)
   |
    false=>match OC m (nm "extend") with
    | true=>some (.bm .extend)
    | false=>none)=some (MK.fn f):=h
 rcases q:OC m (nm "append") with _|_
 ·rw[q] at h;rcases q:OC m (nm "pop") with _|_
  ·rw[q] at h;rcases q:OC m (nm "extend") with _|_
   ·rw[q] at h;exact am h
   ·rw[q] at h;exact MK.noConfusion (Oy h)
  ·rw[q] at h;exact MK.noConfusion (Oy h)
 ·rw[q] at h;exact MK.noConfusion (Oy h)
theorem yA(h:rD cfg σ o m=some (.fn f)):rM cfg σ o m=some (.fn f):=by
 have h:(match iF o with
  | some _=>ifK (OC m (nm "join")) (some (.bm .join))
  |
   none=>match ((σ.get o).bind jI).isSome||jh (σ.get o) with
   | true=>Hh m
   |
    false=>match (σ.get o).bind nI with
    | some _=>ifK (OC m (nm "get")) (some (.bm .get))
    | none=>rM cfg σ o m)=some (MK.fn f):=h
 rcases e:iF o with _|l
 ·rw[e] at h;rcases e:((σ.get o).bind jI).isSome||jh (σ.get o) with _|_
  ·rw[e] at h;rcases e:(σ.get o).bind nI with _|p
   ·rw[e] at h;exact h
   ·rw[e] at h;exact ay h λ J h=>MK.noConfusion (Oy h)
  ·rw[e] at h;exact Df h
 ·rw[e] at h;exact ay h λ J h=>MK.noConfusion (Oy h)
theorem yT(T:TopF X K cfg glb)(H:St X V σ s)(h:rD cfg σ o m=some (.fn f)):∃ k,(k=Keeper.frame\/k=Keeper.machine\/k=Keeper.boundFrame)/\Looks (Mo X) X.B (Q3 (.ref f)) k:=
 Hz (yA h) λ C d es ci f' ef e h1 h2 h3 h4=>
  lD T.inB ((OA _ _).mp ((OA _ _).mp ((MK.fn.inj ef).symm▸(T.cls _ _ h1 h2).attrs _ (bC h3))).2).2
theorem kY(T:TopF X K cfg glb)(c115:∃ ci,aX cC cfg.cls=some ci/\ci.isExc=false/\aX dC ci.attrs=some .no/\aX cQ ci.attrs=some .no):Prim X cfg glb (run cfg n) where
 glob:=Dy T
 keep:=Dd T
 keepM:=yT T
 bin:=IL
 cmp:=Io T.gobs
 tru:=λ hA H dx h=>FJ H dx h
 neg:=λ hA H dx h=>GL H dx h
 dic:=HY
 att:=λ hC hm hA H dx h=>IZ T (c115:=c115) hC hm hA H dx h
 meth:=λ hm hA H dx h=>CW T hm H dx h
 bm:=λ d0 da hA H h=>Mc T d0 da H h
 item:=λ hA H dx di h=>Di T.gobs H dx di h
 notPy:=λ H dx h q=>yq T.gobs H dx h q
 slice:=λ hA H dx dl dh hb h=>hb.rec λ o r=>xX T.gobs H dx dl dh ⟨_,r.1,r.2▸⟨rfl,rfl⟩⟩ h
theorem pL(T:TopF X K cfg glb):PrimS X cfg where
 iter:=Dh T.gobs
 iterSelf:=λ hA H hj hi q=>oy H hj hi q
 unp:=FG T.gobs
 satt:=B9 T
 sitem:=xY
 rai:=Ga T
 excM:=DE T
 next:=λ hA H hj h=>OF (CL T.gobs hA H hj h) (λ r s' q=>q) λ J J q=>q
end
end
section
universe u
open PySem PySem.W PyProof.Rows PySem.SeqAt
variable {slots:List (Str×Value)} {N:List Str} {V:List Value} {M:Model} {c:Prop} {s s':Shared} {n:Str}
theorem eR(h:n∉N):(N.zip V).lookup n=none:=by
 induction N generalizing V with
 | nil=>rfl
 |
  cons a N ih=>
  rcases V with _|⟨v,V⟩
  ·rfl
  ·rw[QK,O4,beq_eq_false_iff_ne.mpr λ q=>h (List.mem_cons.mpr (.inl q))];exact ih λ q=>h (OY _ q)
theorem rY{L:List (Str×Value)}(hl:N.length=V.length)(hn:N.Nodup)(h:∀ n∈N,L.lookup n=(N.zip V).lookup n):N.filterMap (λ n=>(L.lookup n).map (n,·))=N.zip V:=by
 induction N generalizing V with
 | nil=>rfl
 |
  cons a N ih=>
  rcases V with _|⟨v,V⟩
  ·exact absurd hl (Uj _)
  ·have hn:=O6.mp hn;have h0:L.lookup a=some v:=(h a (OZ ..)).trans (by rw[QK,O4,beq_self_eq_true])
   have h1:=ih (S0 hl) hn.2 λ n hm=>(h n (OY _ hm)).trans (by
    rw[QK,O4,show(n==a)=false from beq_eq_false_iff_ne.mpr λ q=>hn.1 (q▸hm)])
   rw[QK,<-h1];exact Uc (congrArg _ h0)
theorem cW{L M:List (Str×Value)}:(L++M).lookup n=(L.lookup n).or (M.lookup n):=by
 induction L with
 | nil=>rfl
 |
  cons p r ih=>
  rw[Ul,O4,O4];rcases n==p.1 with _|_
  ·exact ih
  ·rfl
structure BP(L N0 N1 N2:List Str)(vals D1 D2:List Value):Prop where
 gt:¬ (vals.length>L.length)
 drop:(D1++D2).drop ((D1++D2).length-L.length)=D1++D2
 fd:L.length-(D1++D2).length=N0.length
 take:L.take N0.length=N0
 dropN:L.drop N0.length=N1++N2
 zip:L.zip vals=(N0++N1).zip vals
 inn:∀ n∈N0++N1,((N0++N1).zip vals).lookup n≠none
 miss:(N0.filter λ n=>(((N0++N1).zip vals).lookup n).isNone)=[]
theorem sO(hl:V.length=N.length)(h:n∈N):(N.zip V).lookup n≠none:=by
 induction N generalizing V with
 | nil=>exact absurd h Pl
 |
  cons a r ih=>
  rcases V with _|⟨v,V⟩
  ·exact absurd hl.symm (Uj _)
  ·rw[QK,O4];rcases q:n==a with _|_
   ·exact(Po.mp h).elim (λ r=>absurd r (beq_eq_false_iff_ne.mp q)) (ih (S0 hl))
   ·exact Option.some_ne_none v
theorem Iz{L N0 N1 N2:List Str}{vals D1 D2:List Value}(hL:L=(N0++N1)++N2)(h1:vals.length=(N0++N1).length)(h2:D1.length=N1.length)(h3:D2.length=N2.length):BP L N0 N1 N2 vals D1 D2:=by
 subst hL;have hlen:((N0++N1)++N2).length=(N0++N1).length+N2.length:=OW;have hlen':(N0++N1).length=N0.length+N1.length:=OW;have hD:(D1++D2).length=N1.length+N2.length:=by rw[OW,h2,h3]
 have inn:∀ n∈N0++N1,((N0++N1).zip vals).lookup n≠none:=λ n hm=>sO h1 hm;refine⟨by rw[hlen,h1];exact PQ.mpr (Pu _ _),?_,?_,by rw[PH];exact List.take_left,by rw[PH];exact List.drop_left,?_,inn,?_⟩
 ·rw[show(D1++D2).length-((N0++N1)++N2).length=0 from Nat.sub_eq_zero_of_le (by rw[hD,hlen,hlen',TH];exact Nat.le_add_left _ _),List.drop_zero]
 ·rw[hlen,hlen',hD,TH,Nat.add_sub_cancel]
 ·exact(congrArg _ (Pn vals).symm).trans (by rw[RT h1.symm,List.zip_nil_right,Pn])
 ·exact List.filter_eq_nil_iff.mpr λ n hm q=>inn n (QS _ hm) (Px.mp q)
theorem ifn{α:Type}[Decidable c]{t f:Sem α}{Q:α->Shared->Prop}{E:VP}(h:¬ c)(q:wpAny M A f Q E s):wpAny M A (if c then t else f) Q E s:=by rw[if_neg h];exact q
theorem ify{α:Type}[Decidable c]{t f:Sem α}{Q:α->Shared->Prop}{E:VP}(h:c)(q:wpAny M A t Q E s):wpAny M A (if c then t else f) Q E s:=by rw[if_pos h];exact q
theorem Ee{L N0 N1 N2:List Str}{vals D1 D2:List Value}(B:BP L N0 N1 N2 vals D1 D2):¬ (!(List.filter (λ n=>((L.zip vals).lookup n).isNone) (L.take (L.length-((D1++D2).drop ((D1++D2).length-L.length)).length))).isEmpty)=true:=by
 rw[B.drop,B.fd,B.take,B.zip,B.miss];exact O7
theorem L9{L N0 N1 N2:List Str}{vals D1 D2:List Value}(B:BP L N0 N1 N2 vals D1 D2):(L.drop (L.length-((D1++D2).drop ((D1++D2).length-L.length)).length)).zip ((D1++D2).drop ((D1++D2).length-L.length))=(N1++N2).zip (D1++D2):=by
 rw[B.drop,B.fd,B.dropN]
def BI(N0 N1 N2:List Str)(vals D1 D2:List Value)(s:Shared)(rest slots:List (Str×Value))(s':Shared):Prop:=
 s'=s/\∃ done,(N1++N2).zip (D1++D2)=done++rest/\∀ n,slots.lookup n=((N0++N1).zip vals++done).lookup n
theorem IM{L N0 N1 N2:List Str}{vals D1 D2:List Value}(hL:L=(N0++N1)++N2)(hnd:((N0++N1)++N2).Nodup)(h1:vals.length=(N0++N1).length)(h2:D1.length=N1.length)(h3:D2.length=N2.length)(I:BI N0 N1 N2 vals D1 D2 s [] slots s'):(L++[]).filterMap (λ n=>(slots.lookup n).map (n,·))=(N0++N1).zip vals++N2.zip D2:=by
 obtain⟨rfl,done,e,hl⟩:=I;subst hL;rw[Pn] at e ⊢;rw[<-e] at hl;refine(rY (V:=vals++D2) (by rw[OW (as:=N0++N1),OW (as:=vals),h1,h3]) hnd λ n hm=>?_).trans (RT h1.symm)
 rw[hl,RT h1.symm,RT h2.symm,cW,cW,cW];rcases RM.mp hm with hm|hm
 ·rcases q:((N0++N1).zip vals).lookup n with _|v
  ·exact absurd q (sO h1 hm)
  ·rfl
 ·have nin:n∉N0++N1:=λ q=>(List.nodup_append.mp hnd).2.2 n q n hm rfl;rw[eR (V:=vals) nin,eR (V:=D1) λ q=>nin (SJ _ q)];rfl
theorem Em{N0 N1 N2:List Str}{vals D1 D2:List Value}{slots rest:List (Str×Value)}{a:Str}{d:Value}(I:BI N0 N1 N2 vals D1 D2 s ((a,d)::rest) slots s'):BI N0 N1 N2 vals D1 D2 s rest (if (slots.lookup a).isNone=true then slots++[(a,d)] else slots) s':=by
 obtain⟨rfl,done,e,hl⟩:=I;refine⟨rfl,done++[(a,d)],by rw[e,PH];rfl,λ n=>?_⟩
 rw[<-PH,cW,<-hl];rcases q:slots.lookup a with _|v
 ·exact cW
 ·show slots.lookup n=_;rcases q2:slots.lookup n with _|w
  ·rw[O4,beq_eq_false_iff_ne.mpr λ r=>am ((r▸q2).symm.trans q)];rfl
  ·rfl
theorem wD{fd:FuncData}{N0 N1 N2:List Str}{vals D1 D2:List Value}(hp:fd.params.posonlyargs=[])(hn:fd.params.args.map (·.arg)=(N0++N1)++N2)(hk:fd.params.kwonlyargs=[])(hv:fd.params.vararg=none)(hkw:fd.params.kwarg=none)
 (hnd:((N0++N1)++N2).Nodup) (hD:∀ (M:Model) (A:Around) (E:VP) (Q:Option (Array Value)->Shared->Prop),(∀ o:Option (Array Value),(o.getD #[]).toList=D1++D2->Q o s)->wpAny M A (seqItems? fd.defaults) Q E s)
 (h1:vals.length=(N0++N1).length) (h2:D1.length=N1.length) (h3:D2.length=N2.length):BindsTo s fd ⟨vals,[]⟩ ((N0++N1).zip vals++N2.zip D2):=by
 intro M A E Q q;have B:=Iz (D1:=D1) hn h1 h2 h3;obtain⟨_,_,⟨po,ar,va,ko,kd,kw,df⟩,_,_,_,_,dfl,_,_,_,_,_,_,_⟩:=fd;obtain rfl:po=[]:=hp;obtain rfl:va=none:=hv;obtain rfl:ko=[]:=hk;obtain rfl:kw=none:=hkw;refine Oz (OD (Oz (hD M A E _ λ o ho=>?_)));generalize (o.getD #[]).toList=D at ho ⊢;subst ho;refine ifn (λ q=>B.gt (of_decide_eq_true ((OA _ _).mp q).1)) (ifn (Ee B) ?_);refine Oz (wpAny_forIn_list _ (BI N0 N1 N2 vals D1 D2 s) _ ?_ ?_ _ _ ⟨rfl,[],(L9 B).symm,λ n=>by rw[Pn];exact congrArg (List.lookup n) B.zip⟩)
 rotate_left
 ·intro slots s' I;refine Oz (OD (ifn (t:=_) O7 (OD ?_)));rw[I.1];exact(IM hn hnd h1 h2 h3 I).symm▸q
 ·rintro ⟨a,d⟩ rest slots s' I
  have I':=Em I;by_cases qq:(slots.lookup a).isNone=true
  ·rw[if_pos qq] at I';exact ify qq (OD I')
  ·rw[if_neg qq] at I';exact ifn qq (OD I')
end
section
universe u
open PySem PySem.W PyProof.Rows PySem.SeqAt
variable {b:Bool} {avs:List AV} {N:List Str} {vs:List Value} {kd:NameKind} {d:Nat} {v:Value}
noncomputable def y6(v:Value):Bool:=(Qp v (true) false false ag ax ax ax ax ag ag ag)
noncomputable def zM(v:Value):Option Bool:=(Qp v none none none (λ b=>some b) ae ae ae ae aa aa aa)
noncomputable def F3(o:Option Bool)(b:Bool):Bool:=match o with
 | some c=>c==b
 | none=>false
noncomputable def dB(x:AV)(v:Value):Bool:=(AV.casesOn x (y6 v) (λ a=>F3 (zM v) a) ag (λ a=>JL (xD v) a) ag ag ag ag ag ag ag ag ag false false ag false false aO ag)
noncomputable def dBL:List AV->List Value->Bool
 | [],ys=>ys.isEmpty
 |
  x::xs,ys=>match ys with
  | []=>false
  | y::ys=>dB x y&&dBL xs ys
noncomputable def MT(d:Data):Option (Array Value):=(QM d none aa (λ vs J=>some vs) ae ai ae aa aa aa aa none)
noncomputable def xZ(K:Frag)(T:Addr):Option (Array Value):=(K.lookup T).bind λ o=>MT o.data
noncomputable def LJ(o:Option (Array Value))(ds:List AV):Bool:=match o with
 | some vs=>dBL ds vs.toList
 | none=>false
noncomputable def HZ(K:Frag)(v:Value)(ds:List AV):Bool:=match xg v with
 | some T=>LJ (xZ K T) ds
 | none=>y6 v&&ds.isEmpty
noncomputable def gE:List Nat->Bool
 | []=>true
 | x::r=>!(r.any (OC x))&&gE r
noncomputable def fnB(K:Frag)(fd:FuncData)(fi:FnI):Bool:=
 fd.closure.isEmpty&&(fd.globals==Pj&&(fd.builtins==Qh&&(codeIn K fd.code fd.qualname&&(fd.scope.kind==.function&&(!fd.scope.isCoroutine&&(!fd.scope.isGenerator &&
 (fd.params.posonlyargs.isEmpty&&(fd.params.kwonlyargs.isEmpty&&(fd.params.vararg.isNone&&(fd.params.kwarg.isNone&&(au (fd.params.args.map λ p=>nm p.arg) fi.params &&
 (gE (fd.params.args.map λ p=>nm p.arg)&&(fd.params.args.all (λ p=>okS p.arg&&fd.scope.names.lookup p.arg==some .local)&&(fd.scope.names.all (λ p=>okS p.1&&(!(p.2==.cell)&&!(p.2==.free)))&&(fi.cells.isEmpty&&(P5 fi.dflt.length fi.params.length&&HZ K fd.defaults fi.dflt))))))))))))))))
structure FnOK(K:Frag)(glb:List (Nat×AV))(a:Addr)(fi:FnI):Prop where
 ex:∃ (oc:Value) (od:Option Addr) (osl:Array (Option Value)) (fd:FuncData) (body:List Stmt),K.lookup a=some ⟨oc,od,.func fd,osl⟩/\fd.body=.stmts body/\fnB K fd fi=true/\bc (cS ⟨fd.scope,glb⟩ 20) body=some fi.body
section
variable {glb:List (Nat×AV)} {c:FC} {k:CC} {n:Nat} {s:Shared} {K:Frag}
structure FnP(K:Frag)(fd:FuncData)(fi:FnI):Prop where
 glob:fd.globals=Pj
 bt:fd.builtins=Qh
 code:codeIn K fd.code fd.qualname=true
 kind:fd.scope.kind=.function
 co:fd.scope.isCoroutine=false
 gen:fd.scope.isGenerator=false
 pos:fd.params.posonlyargs=[]
 kwo:fd.params.kwonlyargs=[]
 va:fd.params.vararg=none
 kw:fd.params.kwarg=none
 par:(fd.params.args.map (·.arg)).map nm=fi.params
 nd:(fd.params.args.map (·.arg)).Nodup
 arg:∀ n∈fd.params.args.map (·.arg),okS n=true/\fd.scope.names.lookup n=some .local
 nms:∀ p∈fd.scope.names,okS p.1=true/\p.2≠.cell/\p.2≠.free
 cells:fi.cells=[]
 len:fi.dflt.length<=fi.params.length
 dfl:HZ K fd.defaults fi.dflt=true
theorem aV{a b:Bool}{P:Prop}(h:(a&&b)=true)(p:a=true->b=true->P):P:=p ((OA _ _).mp h).1 ((OA _ _).mp h).2
theorem vn(h:y6 v=true):v=.none:=by rcases v with⟨⟩<;>first|rfl|exact nof h
theorem Ef(h:zM v=some b):v=.bool b:=by rcases v with⟨⟩<;>first|exact congrArg Value.bool (Oy h)|exact am h
theorem Cb(h:F3 (zM v) b=true):v=.bool b:=by
 rcases e:zM v with _|c
 ·rw[e] at h;exact nof h
 ·rw[e] at h;exact(Pf h:c=b)▸Ef e
theorem Hv{i:Int}(h:JL (xD v) i=true):∃ t,v=.int i t:=by
 rcases e:xD v with _|c
 ·rw[e] at h;exact nof h
 ·rw[e] at h;exact(of_decide_eq_true h:i=c)▸sW e
theorem Il{x:AV}(h:dB x v=true):DenV V x v:=
 ((AV.casesOn (motive_1:=λ x=>dB x v=true->DenV V x v) x (λ h=>vn h▸.none) (λ a=>λ h=>Cb h▸.bool _) (λ J=>nof) (λ a=>λ h=>(Hv h).rec λ t e=>e▸.int a t) (λ J=>nof) (λ J=>nof) (λ J=>nof) (λ J=>nof) (λ J=>nof) (λ J=>nof) (λ J=>nof) (λ J=>nof) (λ J=>nof) nof nof (λ J=>nof) nof nof (λ J J J=>nof) (λ J=>nof))) h
theorem DW{xs:List AV}(h:dBL xs vs=true):All2 (DenV V) xs vs:=by
 induction xs generalizing vs with
 | nil=>rw[O8.mp h];exact .nil
 |
  cons x xs ih=>
  rcases vs with _|⟨y,ys⟩
  ·exact nof h
  ·exact aV h λ h1 h2=>.cons (Il h1) (ih h2)
theorem dI{l:List Nat}(h:gE l=true):l.Nodup:=by
 induction l with
 | nil=>exact PJ
 |
  cons x r ih=>
  exact aV h λ h1 h2=>O6.mpr ⟨λ q=>QQ.mp (sx h1) x q (Uq x),ih h2⟩
theorem fG{l:List Str}(h:(l.map nm).Nodup):l.Nodup:=by
 induction l with
 | nil=>exact PJ
 |
  cons a r ih=>
  have h:=O6.mp h;exact O6.mpr ⟨λ q=>h.1 (PP q),ih h.2⟩
theorem F2{c:Value}{d:Option Addr}{dt:Data}{sl:Array (Option Value)}{vs:Array Value}(h:MT dt=some vs):∃ n,(⟨c,d,dt,sl⟩:Obj)=⟨c,d,.seq vs n,sl⟩:=by
 rcases dt with⟨⟩<;>first|exact⟨_,congrArg (λ vs=>Obj.mk c d (.seq vs _) sl) (Oy h)⟩|exact am h
theorem qB(X0:K.In s.heap){ds:List AV}(h:HZ K v ds=true):∃ D:List Value,(∀ V:Va,All2 (DenV V) ds D)/\∀ (M:Model) (A:Around) (E:VP) (Q:Option (Array Value)->Shared->Prop),(∀ o:Option (Array Value),(o.getD #[]).toList=D->Q o s)->wpAny M A (seqItems? v) Q E s:=by
 have h:(match xg v with
  | some T=>LJ (xZ K T) ds
  | none=>y6 v&&ds.isEmpty)=true:=h
 rcases e:xg v with _|T
 ·rw[e] at h;exact aV h λ h1 h2=>by
   rw[vn h1,O8.mp h2];exact⟨[],λ V=>.nil,λ M A E Q q=>Oz (OD (OD (q none rfl)))⟩
 ·rw[e] at h;have h:LJ (xZ K T) ds=true:=h;rcases e2:xZ K T with _|vs
  ·rw[e2] at h;exact nof h
  ·rw[e2] at h;refine⟨vs.toList,λ V=>DW h,λ M A E Q q=>aw e2 λ o hl hd=>?_⟩;obtain⟨c,d,dt,sl⟩:=o;obtain⟨n,r⟩:=F2 (c:=c) (d:=d) (sl:=sl) hd;rw[t5 e];exact wpAny_seqItems ((X0 _ _ hl).trans (congrArg some r)) rfl (q _ rfl)
theorem qN(ho:∀ n∈N,okS n=true)(d:All2 (DenV V) avs vs)(hl:N.length=avs.length):∀ x,okS x=true->match aX (nm x) (gy (N.map nm) avs) with
 | some v=>∃ y,(N.zip vs).lookup x=some y/\DenV V v y
 | none=>(N.zip vs).lookup x=none:=λ x hx=>by
 induction d generalizing N with
 | nil=>rw[QE hl];rfl
 |
  @cons av v _ _ d _ ih=>
  rcases N with _|⟨a,N⟩
  ·exact absurd hl.symm (Uj _)
  ·rw[O2,gy,QK,O4,aK];by_cases q:nm a=nm x
   ·obtain rfl:=eP (ho a (OZ ..)) hx q;rw[if_pos rfl,beq_self_eq_true];exact⟨v,rfl,d⟩
   ·rw[if_neg q,beq_eq_false_iff_ne.mpr λ r=>q (congrArg nm r.symm)];exact ih (λ n hn=>ho n (OY _ hn)) (S0 hl)
theorem Eh(ho:∀ n∈N,okS n=true)(d:All2 (DenV V) avs vs)(hl:N.length=avs.length){m:Str->Option Value}(hm:∀ x,m x=(N.zip vs).lookup x):NsDen V (gy (N.map nm) avs) m:=λ x hx=>by
 have:=qN ho d hl x hx;rw[hm x];rcases q:aX (nm x) (gy (N.map nm) avs) with _|v
 ·rw[q] at this;exact this
 ·rw[q] at this;exact λ J=>this
theorem rI{l:List (Str×Value)}(h:(l.map (·.1)).Nodup)(x:Str):l.reverse.lookup x=l.lookup x:=by
 induction l with
 | nil=>rfl
 |
  cons p r ih=>
  have h:=O6.mp h;rw[Sm,cW,ih h.2,O4,O4];rcases q:x==p.1 with _|_
  ·exact Option.or_none
  ·rcases e:r.lookup x with _|y
   ·rfl
   ·exact absurd (PP (f:=(·.1)) (mem_of_lookup e)) ((Pf q)▸h.1)
theorem aC{a b:List Nat}(h:au a b=true):a=b:=by rw[bo] at h;exact of_decide_eq_true h
theorem wX{α β:Type}{P:α->β->Prop}{n:Nat}{l:List α}{m:List β}(h:All2 P l m):All2 P (l.drop n) (m.drop n):=by
 induction n generalizing l m with
 | zero=>exact h
 |
  succ n ih=>
  rcases h with _|⟨_,h⟩
  ·exact .nil
  ·exact ih h
theorem Jo{fd:FuncData}{fi:FnI}(h:fnB K fd fi=true):FnP K fd fi:=
 aV h λ J h=>aV h λ b2 h=>aV h λ b3 h=>aV h λ b4 h=>aV h λ b5 h=>aV h λ b6 h=>aV h λ b7 h=>aV h λ b8 h=>aV h λ b9 h=>aV h λ b10 h=>aV h λ b11 h=>aV h λ b12 h=>aV h λ b13 h=>aV h λ b14 h=>aV h λ b15 h=>aV h λ b16 h=>aV h λ b17 b18=>
  ⟨Pf b2,Pf b3,b4,Pf b5,sx b6,sx b7,O8.mp b8,O8.mp b9,Px.mp b10,Px.mp b11,Qg.trans (aC b12),fG (Qg.symm▸dI b13),
   λ n hn=>(Ro.mp hn).elim λ p r=>r.2▸aV (OP.mp b14 p r.1) λ a b=>⟨a,Pf b⟩,λ p hp=>aV (OP.mp b15 p hp) λ a b=>aV b λ b c=>⟨a,λ q=>by rw[q] at b;exact nof b,λ q=>by rw[q] at c;exact nof c⟩,O8.mp b16,OE b17,b18⟩
theorem ar1{m q d:Nat}(hd:d<=m)(h:q+(d-(d-(m-q)))=m):q<=m/\m-d<=q/\d-(m-q)=q-(m-d)/\d-(d-(m-q))=m-q:=
 have a1:q<=m:=Nat.le.intro h;have a4:=Nat.eq_sub_of_add_eq' h;have a2:m<=q+d:=Nat.sub_le_iff_le_add'.mp (a4▸S9 d _)
 ⟨a1,Nat.sub_le_iff_le_add.mpr a2,(Nat.sub_sub_right d a1).trans ((congrArg (·-m) (S5 d q)).trans (Nat.sub_sub_right q hd).symm),a4⟩
theorem qM{fd:FuncData}{L:List Str}{vs D:List Value}(b8:fd.params.posonlyargs=[])(hN:fd.params.args.map (·.arg)=L)(b9:fd.params.kwonlyargs=[])(b10:fd.params.vararg=none)(b11:fd.params.kwarg=none)(hnd:L.Nodup)(hDq:∀ (M:Model) (A:Around) (E:VP) (Q:Option (Array Value)->Shared->Prop),(∀ o:Option (Array Value),(o.getD #[]).toList=D->Q o s)->wpAny M A (seqItems? fd.defaults) Q E s)
 (hd:D.length<=L.length) (hlen:vs.length+(D.length-(D.length-(L.length-vs.length)))=L.length):BindsTo s fd ⟨vs,[]⟩ (L.zip (vs++D.drop (D.length-(L.length-vs.length)))):=by
 obtain⟨a1,a2,a3,a4⟩:=ar1 hd hlen;have t:(L.take vs.length).length=vs.length:=List.length_take.trans (Uw a1);have e0:L.take (L.length-D.length)++(L.take vs.length).drop (L.length-D.length)=L.take vs.length:=
  (congrArg (·++_) (List.take_take.trans (congrArg (L.take ·) (Uw a2))).symm).trans (Qq ..)
 have e1:(L.take (L.length-D.length)++(L.take vs.length).drop (L.length-D.length))++L.drop vs.length=L:=(congrArg (·++_) e0).trans (Qq ..);have:=wD (s:=s) (fd:=fd) (vals:=vs) (D1:=D.take (D.length-(L.length-vs.length))) (D2:=D.drop (D.length-(L.length-vs.length))) b8 (hN.trans e1.symm) b9 b10 b11 (e1.symm▸hnd) (by rw[Qq];exact hDq)
  (by rw[e0,t]) (by rw[SH,Rx,t,Uw (S9 ..)];exact a3) (by rw[Rx,Rx];exact a4)
 rw[e0,<-RT t,Qq] at this;exact this
theorem hG(h:d%1000<60):(d+1)%1000=d%1000+1:=(Nat.add_mod d 1 1000).trans (Q0 (OI h (by decide)))
theorem v8(h:d%1000<60):(d+1)/1000=d/1000:=by
 have:(d%1000+1+1000*(d/1000))/1000=d/1000:=by
  rw[Nat.add_mul_div_left _ _ (by decide),Uk (OI h (by decide)),R6]
 rw[Qs,Nat.mod_add_div] at this;exact this
theorem mY(hA:AOK X V σ A d 2)(hdep:d%1000<60)(hf:FramesOK X V σ [env]):AOK X V σ (A.deeper env) (d+1) 0:=by
 obtain⟨l,hf1,hf2⟩:=hA.frames;refine⟨?_,?_,hA.guards,⟨env::l,(congrArg (Option.map _) hf1).trans rfl,λ e he=>(Po.mp he).elim (λ r=>hf e (r▸OZ ..)) (hf2 e)⟩,by rw[hG hdep];exact hdep,?_⟩
 ·rw[hG hdep];exact OM (PA hA.depth) (Pc (by decide:3<=4) (310+4*(d%1000)))
 ·rw[hG hdep];exact OM (Qw hA.units 3) (Pc (by decide:23<=30) (10+30*(d%1000)))
 ·rw[v8 hdep];exact P2 (motive:=λ n=>HandledIs V σ A n->HandledIs V σ (A.deeper env) n) (d/1000) id (λ J=>id) hA.hd
theorem qc{V':Va}{σ':Sg}{A':Around}{dp m:Nat}{b:Sem Flow}(hv:EnvOK A' V' c k env)(hA:AOK X V' σ' A' dp m)(hle:V.Le V')(K1:Keep σ σ')(h:wpAny (Mo X) A' b (PF X V' σ' λ r=>(yb r).Sat Φ) (PE X V' σ' λ r=>(yb r).Sat Φ) s) :
 wpAny (Mo X) A' b (λ f s'=>PR X V σ Φ (.ok (.ret (match f with | .ret v=>v|_=>.none))) s') (λ e s'=>wpAny (Mo X) A' (leaving env e) (λ J s''=>PR X V σ Φ (.error e) s'') (λ e' s''=>PR X V σ Φ (.error e') s'') s') s:=
 OF h (λ f s1 z=>z.rec λ V2 σ2 l2 k2 H2 h2=>by
  rcases f with _|_|_|v
  ·exact⟨V2,σ2,.none,hle.trans l2,K1.trans k2,H2,.none,h2⟩
  ·exact h2.elim
  ·exact h2.elim
  ·exact h2.rec λ av r=>⟨V2,σ2,av,hle.trans l2,K1.trans k2,H2,r.1,r.2⟩) λ x s1 z=>z.rec λ V2 σ2 i xa cc dd l2 k2 H2 e hi he h2=>by
  subst e;exact Oz (gR (hv.mono l2) (hA.mono l2 k2) H2 he hi λ h3 H3 tb=>bQ H3 he hi λ h4 H4 J=>⟨V2,σ2,i,xa,cc,dd,hle.trans l2,K1.trans k2,H4,rfl,hi,he,h2⟩)
theorem fR(h:kd≠.free):iR kd=kd:=by rcases kd with⟨⟩<;>first|rfl|exact absurd rfl h
theorem nQ(h:iR kd=.cell)(a:kd≠.cell)(b:kd≠.free):False:=a ((fR b).symm.trans h)
theorem DB(XS:K.In s.heap)(hlim:X.B.NoLimit){a:Addr}{fi:FnI}{fd:FuncData}{oc:Value}{od:Option Addr}{osl:Array (Option Value)}{body:List Stmt}(P:FnP K fd fi)(hl:K.lookup a=some ⟨oc,od,.func fd,osl⟩)(hbody:fd.body=.stmts body)(hcs:bc (cS ⟨fd.scope,glb⟩ 20) body=some fi.body)(hS:SS X glb ih)(hdep:d%1000<60){vs vals:List Value}(da:All2 (DenV V) avs vals)(hlen:(fd.params.args.map (·.arg)).length=avs.length)
 (hb:BindsTo s fd ⟨vs,[]⟩ ((fd.params.args.map (·.arg)).zip vals)) (hA:AOK X V σ A d 2) (H:St X V σ s) (h:(σ.new (.ns (gy fi.params avs)) λ fr g=>(ih (.ss ⟨fr,[],d+1⟩ fi.body) g).bind yb).Sat Φ) :
 Pd (Mo X) A (.call (.ref a) ⟨vs,[]⟩) (PR X V σ Φ) s:=by
 obtain⟨hbig,h⟩:=bk h;refine codeAny_call_def (fd:=fd) (body:=body) hA.room (XS _ _ hl) rfl (hlim.keeps H.bs) (codeRec_of XS P.code) hbody hb (λ x hx=>(P.nms x hx).2.1) (λ x hx=>(P.arg x.1 (List.of_mem_zip hx).1).2) (λ h₀ hns hk₀=>?_) P.co P.gen P.kind;obtain⟨ob,ents,ep,n1,n2,n3,n4⟩:=hns;have hle:=V.le_push s.heap.objs.size;have hz:((fd.params.args.map (·.arg)).zip vals).map (·.1)=fd.params.args.map (·.arg):=List.map_fst_zip (Pp (hlen.trans da.length));have H1:=H.new (t:=s.toks+((fd.params.args.map (·.arg)).zip vals).length) (o:=.ns (gy fi.params avs)) (OU (Pq n1)) hk₀ (OR _) n1 nofun ⟨ents,ep,n2,n3,P.par▸Eh (λ n hn=>(P.arg n hn).1) (da.mono λ J J z=>z.mono hle) hlen λ x=>(n4 x).trans (rI (hz.symm▸P.nd) x)⟩ hbig
 have K1:=cq (o:=.ns (gy fi.params avs)) H hbig;have hfr:(V.push s.heap.objs.size).ρ[σ.n]?=some s.heap.objs.size:=cb H;have nms:∀ p∈fd.scope.names,okS p.1=true:=λ p hp=>(P.nms p hp).1;have A1:=hA.mono hle K1;have hA':AOK X (V.push s.heap.objs.size) ⟨Tr.put' 40 σ.own σ.n (.ns (gy fi.params avs)),σ.n+1,σ.frz⟩ (A.deeper (Tn fd s.heap.objs.size a)) (d+1) 0:=mY A1 hdep λ e he=>by
  obtain rfl:=R4.mp he;exact⟨λ q=>UG (P.kind.symm.trans q),_,rfl,.inr ⟨σ.n,_,hfr,Tr.put_self 40 _ _ _ (OI (Pm hbig) (by decide))⟩⟩
 have hv:EnvOK (A.deeper (Tn fd s.heap.objs.size a)) (V.push s.heap.objs.size) ⟨σ.n,[],d+1⟩ ⟨fd.scope,glb⟩ (Tn fd s.heap.objs.size a):=
  ⟨λ x kd hx hlk=>(fR (P.nms _ (cK hx nms hlk)).2.2).symm▸cL hx nms hlk,P.kind,hfr,P.glob,P.bt,λ x hx q=>q.elim λ kd r=>(nQ r.2 (P.nms _ (cK hx nms r.1)).2.1 (P.nms _ (cK hx nms r.1)).2.2).elim,hA'.frames.elim λ l r=>⟨l,r.1,by
   obtain⟨l',f1,_⟩:=hA.frames;have e:some (Tn fd s.heap.objs.size a::l')=some l:=(congrArg (Option.map _) f1).symm.trans r.1;exact⟨_,Oy e▸OZ ..,rfl⟩⟩⟩
 exact qc hv hA' hle K1 (hS hcs rfl hv hA' H1 (T.sat_bind h))
theorem wl(X0:K.In X.B)(hlim:X.B.NoLimit){a:Addr}{fi:FnI}(F:FnOK K glb a fi)(hS:SS X glb ih){as:List AV}(da:All2 (DenV V) as vs)(hA:AOK X V σ A d 2)(H:St X V σ s)(h:(qI ih d fi as σ).Sat Φ) :
 Pd (Mo X) A (.call (.ref a) ⟨vs,[]⟩) (PR X V σ Φ) s:=by
 obtain⟨oc,od,osl,fd,body,hl,hbody,hB,hcs⟩:=F.ex;have P:=Jo hB;have XS:=X0.keeps H.bs;obtain⟨D,hD,hDq⟩:=qB (s:=s) XS P.dfl;refine az h λ hdep h=>?_;rw[dQ] at h;refine az h λ hlen h=>?_;have eL:fi.params.length=(fd.params.args.map (·.arg)).length:=(congrArg Sw P.par).symm.trans (Pa _);have eD:fi.dflt.length=D.length:=(hD V).length;have eA:as.length=vs.length:=da.length;have hlen:=OB hlen;have hd:=P.len;rw[P.cells] at h;rw[eL,eD] at hd;rw[eL,eD,eA] at hlen h;have hl2:=hlen;rw[OW,Rx,eD,eA] at hl2;exact DB XS hlim P hl hbody hcs hS (OE hdep) (fQ da (wX (hD V))) hlen.symm (qM P.pos rfl P.kwo P.va P.kw P.nd hDq hd hl2) hA H h
end
end
section
universe u
open PySem PySem.W PyProof.Rows PySem.SeqAt
variable {d x:Nat}
section
variable {glb:List (Nat×AV)} {c:FC} {k:CC} {n:Nat} {s:Shared} {K:Frag}
theorem kM{C:Addr}{rest:List Value}{kw:List (Str×Value)}(hA:AOK X V σ A d 2)(hd:d%1000<60):AOK X V σ (A.under (.builtin "type.__call__" ⟨.ref C::rest,kw⟩)) (d+1) 2:=by
 have w1:(Code.builtin "type.__call__" ⟨.ref C::rest,kw⟩).weight=1:=by kernel_rfl
 have w2:(Code.builtin "type.__call__" ⟨.ref C::rest,kw⟩).cUnits=1:=by kernel_rfl
 have w3:(Code.builtin "type.__call__" ⟨.ref C::rest,kw⟩).envs=[]:=by kernel_rfl
 have w4:(Code.builtin "type.__call__" ⟨.ref C::rest,kw⟩).guards=[]:=by kernel_rfl
 have e:A.under (.builtin "type.__call__" ⟨.ref C::rest,kw⟩)={ A with depth:=A.depth+1,units:=A.units+1 }:=by
  unfold Around.under;rw[w1,w2,w3,w4];rfl
 rw[e];refine⟨?_,?_,hA.guards,hA.frames,by rw[hG hd];exact hd,?_⟩
 ·rw[hG hd];exact OM (PA hA.depth) (Pc (by decide:3<=6) (310+4*(d%1000)))
 ·rw[hG hd];exact OM (PA hA.units) (Pc (by decide:21<=50) (10+30*(d%1000)))
 ·rw[v8 hd];exact P2 (motive:=λ n=>HandledIs V σ A n->HandledIs V σ { A with depth:=A.depth+1,units:=A.units+1 } n) (d/1000) id (λ J=>id) hA.hd
theorem og{V':Va}{σ':Sg}{b:Addr}{kont:AV->Sg->R}{r:Qa}{s':Shared}(LE:V.Le V')(K1:Keep σ σ')(p:V'.ρ[x]?=some b)(hk:∀ {av g},(kont av g).Sat Φ->av=.none/\Φ (.v (.own x),g))(z:PR X V' σ' (λ r=>(ul kont r).Sat Φ) r s') :
 InitBack b (PR X V σ Φ) r s':=by
 rcases r with e|f
 ·exact PE.trans LE K1 (PE.out z)
 ·rcases f with _|_|_|v
  iterate 3 exact z.elim
  ·exact z.rec λ V2 σ2 av l k H3 dv h3=>by
    obtain⟨rfl,h4⟩:=hk h3;obtain rfl:=dv.inv;exact⟨rfl,V2,σ2,.own x,LE.trans l,K1.trans k,H3,.own (l.ρ p),h4⟩
theorem vD{av:AV}{g:Sg}(h:(Dr x av g).Sat Φ):av=.none/\Φ (.v (.own x),g):=az h λ q h=>⟨qh q,h⟩
structure Added(X:Cx)(V:Va)(σ:Sg)(s:Shared)(a:Addr)(o:AO)(ob:Obj):Prop where
 H:St X (V.push a) ⟨Tr.put' 40 σ.own σ.n o,σ.n+1,σ.frz⟩ { s with heap:=s.heap.push ob }
 e:(s.heap.push ob).objs.size=a+1
 p:(V.push a).ρ[σ.n]?=some a
 k:Keep σ ⟨Tr.put' 40 σ.own σ.n o,σ.n+1,σ.frz⟩
theorem St.add(H:St X V σ s){a:Addr}(ea:s.heap.objs.size=a){o:AO}{ob:Obj}(hf:ob.isFreed=false)(hd:DenO X false (V.push a) ob o)(hb:σ.n<100000)(hx:∀ c d,o=.exc c d->∃ vs,ob.data=.fields vs/\Six vs/\vs[1]?=some .none):Added X V σ s a o ob:=by
 subst ea;exact⟨H.new (t:=s.toks) (OM (QW _) (Pp (PK ..).symm)) (λ J J e=>OO _ e) (OR _) (Ph _ hf) hx hd hb,PK ..,cb H,cq H hb⟩
theorem yG(T:TopF X K cfg glb)(hC:SC X ih){a:Nat}{ci:ClsI}(hci:aX a cfg.cls=some ci)(hx:ci.isExc=false){as:List AV}{vs:List Value}(da:All2 (DenV V) as vs)(hA:AOK X V σ A d 2)(H:St X V σ s)(h:(CY ih d a ci as σ).Sat Φ) :
 Pd (Mo X) A (.call (.ref a) ⟨vs,[]⟩) (PR X V σ Φ) s:=by
 have Y:=T.cls _ _ hci hx;have X0:=T.inB.keeps H.bs;refine az h λ hd h=>?_;obtain⟨hb1,h⟩:=bk h;obtain⟨hb2,h⟩:=bk h;have N1:=H.add (ob:=Tw) (o:=.atd []) rfl rfl ⟨#[],0,[],rfl,λ J he=>absurd he (by intro q;cases q with|mk q=>cases q),List.Pairwise.nil,.nil,λ x hx=>absurd rfl hx,OR _⟩ hb1 nofun
 have N2:=N1.H.add (ob:=instObj a s.heap.objs.size) (o:=.inst a σ.n) N1.e rfl ⟨rfl,rfl,s.heap.objs.size,(Va.le_push _ _).ρ N1.p,rfl⟩ hb2 nofun
 have LE:=(V.le_push s.heap.objs.size).trans (Va.le_push (V.push s.heap.objs.size) (s.heap.objs.size+1));have KK:=N1.k.trans N2.k;exact make_core (init:=.ref ci.init) (makes_of X0 Y.mks) (R2 X0 Y.ini) (λ self=>bind_fn X0 self Y.inif) (.inl rfl)
  (PD ((hC (f:=.glob ci.init) (.glob _) (.cons (.own N2.p) (da.mono λ J J z=>z.mono LE)) ((kM hA (OE hd)).mono LE KK) N2.H (aG h)).1 _ rfl) λ r s' z=>og LE KK N2.p vD z)
end
end
section
universe u
open PySem PySem.W PyProof.Rows PySem.SeqAt
section
variable {glb:List (Nat×AV)} {c:FC} {k:CC} {n:Nat} {s:Shared} {K:Frag}
theorem Dq{x:Nat}{av:AV}{g:Sg}(h:(HA x av g).Sat Φ):av=.none/\Φ (.v (.own x),g):=az h λ q h=>aV q λ q J=>⟨qh q,h⟩
theorem yD(T:TopF X K cfg glb)(hC:SC X ih){a:Nat}{ci:ClsI}(hci:aX a cfg.cls=some ci)(hx:ci.isExc=true){d:Nat}{as:List AV}{vs:List Value}(da:All2 (DenV V) as vs)(hA:AOK X V σ A d 2)(H:St X V σ s)(h:(CX ih d a ci as σ).Sat Φ) :
 Pd (Mo X) A (.call (.ref a) ⟨vs,[]⟩) (PR X V σ Φ) s:=by
 have Y:=T.xmk _ _ hci hx;have X0:=T.inB.keeps H.bs;refine az h λ hd h=>aV hd λ hd hlen=>?_;obtain⟨hb,h⟩:=bk h;have H0:St X V σ { s with heap:=s.heap.push { cls:=.type "tuple",data:=.seq vs.toArray } }:=H.grow (t:=s.toks) λ b o e=>OO _ e
 have N1:=H0.add (o:=.exc0 a) (ob:={ cls:=.ref a,data:=.fields #[.ref s.heap.objs.size,.none,.none,.none,.bool false,.none] }) (PK ..) rfl ⟨rfl,⟨_,rfl,rfl,rfl,rfl⟩,rfl⟩ hb nofun
 have LE:=V.le_push (s.heap.objs.size+1);exact Fy X0 Y (da.length▸ce (S4 (OE hlen) (by decide)))
  (PD ((hC (f:=.glob ci.init) (.glob _) (.cons (.own N1.p) (da.mono λ J J z=>z.mono LE)) ((kM hA (OE hd)).mono LE N1.k) N1.H (aG h)).1 _ rfl) λ r s' z=>og LE N1.k N1.p Dq z)
end
end
section
universe u
open PySem PySem.W PyProof.Rows PySem.SeqAt
variable {x y:AV} {vs:Array Value} {a b:Bool} {i j:Int} {p:Int×Bool} {xs:List AV} {m v:Nat} {t:Tok} {vx vy:Value}
section
variable {glb:List (Nat×AV)} {c:FC} {k:CC} {n:Nat} {s:Shared} {K:Frag} {E:VP}
theorem dM{d:Nat}{t:R}(h:(jk d t).Sat Φ):d/1000=0/\t.Sat Φ:=az h λ q h=>⟨OB q,h⟩
theorem Am{n v:Nat}(e:n=v)(hv:v<1000000):(n:Int)<2^63:=e▸Qv.mpr (S4 hv (by decide))
theorem uX{a:Addr}(H:St X V σ s)(g:s.heap.get? a=some (bT vs m))(q:vs.size=v)(hv:v<1000000)(h:Φ (.v (.int v),σ)):wpAny (Mo X) A (call (.builtin "len") [.ref a]) (PV X V σ Φ) E s:=
 Calls.call_len_list (aF g) (Am q hv) (by rw[q];exact PV.here H.toks (.int _ _) h)
theorem uW{a:Addr}(H:St X V σ s)(g:s.heap.get? a=some (qY vs m))(q:vs.size=v)(hv:v<1000000)(h:Φ (.v (.int v),σ)):wpAny (Mo X) A (call (.builtin "len") [.ref a]) (PV X V σ Φ) E s:=
 P.len_tuple g (Int.not_le.mpr (Am q hv)) (by rw[q];exact PV.here H.toks (.int _ _) h)
theorem C9(G:cy X cfg)(H:St X V σ s)(dx:DenV V x vx)(e:M9 cfg σ x=some v)(hv:v<1000000)(h:Φ (.v (.int v),σ)):wpAny (Mo X) A (call (.builtin "len") [vx]) (PV X V σ Φ) E s:=by
 have e:(match qX x with
  | some b=>some b.length
  |
   none=>match dc x with
   | some a=>(aX a cfg.gobs).map (·.length)
   |
    none=>match Fa (σ.get x) with
    | some xs=>some xs.length
    | none=>(σ.get x).bind Aw)=some v:=e
 rcases e1:qX x with _|b
 ·rw[e1] at e;rcases e1:dc x with _|a
  ·rw[e1] at e;rcases e1:Fa (σ.get x) with _|xs
   ·rw[e1] at e;obtain⟨f,a,ob,rfl,g,vs,m,rfl,dd⟩:=aJ H (vw pU e) nofun dx
    exact uX H g dd hv h
   ·rw[e1] at e;rcases mj e1 with eo|eo
    ·obtain⟨f,a,ob,rfl,g,vs,m,rfl,dd⟩:=aJ H eo nofun dx
     exact uX H g (OH.symm.trans (dd.length.symm.trans (Oy e))) hv h
    ·obtain⟨f,a,ob,rfl,g,vs,m,rfl,dd⟩:=aJ H eo nofun dx
     exact uW H g (OH.symm.trans (dd.length.symm.trans (Oy e))) hv h
  ·rw[e1] at e;refine bG e λ xs e2 e3=>?_;obtain⟨vs,m,h1,h2⟩:=G _ _ e2;rw[fm e1 dx];exact uW H (H.bs _ _ h1) (OH.symm.trans ((h2 V).length.symm.trans e3)) hv h
 ·rw[e1] at e;obtain⟨bb,t,rfl,e2⟩:=wz e1 dx;have q:bb.size=v:=OH.symm.trans ((Pa _).symm.trans ((congrArg Sw e2).trans (Oy e)));exact len_bytes (q▸OM (OU hv) (by decide)) (by rw[q];exact PV.here H.toks (.int _ _) h)
theorem C7(G:cy X cfg)(H:St X V σ s)(dx:DenV V x vx)(e:dJ cfg σ x=some xs)(h:(fj σ (.lst xs)).Sat Φ):wpAny (Mo X) A (call (.type "list") [vx]) (PV X V σ Φ) E s:=by
 obtain⟨a,vs,m,rfl,ds,h1⟩:=eH G H e dx;obtain⟨hf,h⟩:=cl h;obtain⟨hb,h⟩:=bk h;have hz:=ce (dX ds hf);have fin:∀ h' c',(∀ b o',s.heap.get? b=some o'->h'.get? b=some o')->h'.get? s.heap.objs.size=some { cls:=.type "list",dict:=none,data:=.seq vs c',slots:=#[] }->PV X V σ Φ (.ref s.heap.objs.size) { s with heap:=h' }:=λ h' c' hk hg=>
  ⟨_,_,.own σ.n,V.le_push _,cq H hb,H.new (t:=s.toks) (ob:=bT vs c') (o:=.lst xs) (OU (Pq hg)) hk (OR _) hg nofun ⟨vs,c',rfl,ds.mono λ J J z=>z.mono (V.le_push _)⟩ hb,.own (cb H),h⟩
 rcases h1 with g|g
 ·exact call_list_seq a (.inl rfl) g.1 rfl rfl fin hz
 ·exact call_list_seq a (.inr rfl) g.1 rfl rfl fin hz
theorem xF(H:St X V σ s)(dx:DenV V x vx)(e:σ.get x=some (.lst xs))(h:(fj σ (.tup xs)).Sat Φ):wpAny (Mo X) A (call (.type "tuple") [vx]) (PV X V σ Φ) E s:=by
 obtain⟨f,a,ob,rfl,g,vs,m,rfl,ds⟩:=aJ H e nofun dx
 exact call_tuple_list (aF g) (λ h' hk=>eQ (o:=.tup xs) (H.grow (t:=s.toks) hk) ⟨vs,0,rfl,ds.mono λ J J z=>z.mono (V.le_push _)⟩ rfl nofun h) (ce (dX ds (cl h).1))
theorem pJ{n:Int}(H:St X V σ s)(h:(fj σ (.rng 0 n)).Sat Φ):wpAny (Mo X) A (call (.type "range") [.int n t]) (PV X V σ Φ) E s:=
 call_range_1 (eQ (o:=.rng 0 n) (s:={ s with toks:=s.toks+1+1 }) H.toks ⟨_,_,_,rfl⟩ rfl nofun h)
theorem t6(H:St X V σ s)(h0:0<=i)(hi:i<m)(h:(pK σ m).Sat Φ):wpAny (Mo X) A (call (.type "range") [.int i t]) (PV X V σ Φ) E s:=by
 induction m with
 | zero=>exact absurd h0 (Int.not_le.mpr hi)
 |
  succ m ih=>
  by_cases q:i=m
  ·subst q;exact pJ H h.1
  ·exact ih (Int.lt_iff_le_and_ne.mpr ⟨Int.lt_add_one_iff.mp hi,q⟩) h.2
theorem Do{vs:List Value}(d:All2 (DenV V) xs vs)(h:Ju xs=some p):∃ ys:List (Int×Tok),vs=ys.map (λ p=>Value.int p.1 p.2)/\(ys.map (·.1)).sum=p.1:=by
 induction d generalizing p with
 | nil=>exact⟨[],rfl,(congrArg R7 (Oy h))⟩
 |
  cons d _ ih=>
  refine bG h λ q e h=>eG e λ e1 e2=>?_;obtain⟨ys,r1,r2⟩:=ih e2;obtain⟨t,rfl⟩:=bl e1 d;exact⟨(q.1.1,t)::ys,by rw[r1];rfl,by rw[O2,List.sum_cons,r2,<-h]⟩
theorem FQ(hh:A.handled=none)(H:St X V σ s)(dx:DenV V x vx)(e:σ.get x=some (.lst xs))(es:Ju xs=some p)(h:Φ (.v (mkI p.2 p.1),σ)):wpAny (Mo X) A (call (.builtin "sum") [vx]) (PV X V σ Φ) E s:=by
 obtain⟨f,l,ob,rfl,g,vs,m,rfl,ds⟩:=aJ H e nofun dx
 obtain⟨ys,e1,e2⟩:=Do ds es;have hv:vs=intItems ys.toArray:=Array.ext' (by rw[e1];simp only[intItems,List.map_toArray])
 refine sum_intListG (xs:=ys.toArray) hh (hv▸aF g) λ h' tk t' hk=>?_;rw[show preSum (numAt ys.toArray) ys.toArray.size=p.1 from(preSum_eq ..).trans ((congrArg List.sum (List.take_of_length_le (Pp (Pa _)))).trans e2)]
 exact PV.here (H.grow (t:=tk) hk) (fH p.2 p.1 t') h
theorem zL{vs:List Value}(d:All2 (DenV V) xs vs){v:AV}(h:J0 xs=some v):∃ bs,LSm.BoolsAre vs bs/\v=.bool (bs.all id):=by
 induction d generalizing v with
 | nil=>exact⟨[],.nil,(Oy h).symm⟩
 |
  cons d _ ih=>
  refine pa h λ b e h=>bG h λ y e2 hz=>?_;obtain⟨bs,h1,h2⟩:=ih e2;subst e;obtain rfl:=d.inv;refine⟨b::bs,.cons b h1,hz.symm.trans ?_⟩;rcases b with _|_
  ·rfl
  ·exact h2
theorem Jd{v:AV}(hh:A.handled=none)(H:St X V σ s)(dx:DenV V x vx)(e:σ.get x=some (.lst xs))(es:J0 xs=some v)(h:Φ (.v v,σ)):wpAny (Mo X) A (call (.builtin "all") [vx]) (PV X V σ Φ) E s:=by
 obtain⟨f,l,ob,rfl,g,vs,m,rfl,ds⟩:=aJ H e nofun dx
 obtain⟨bs,hb,rfl⟩:=zL ds es;have hl:s.heap.IsList l vs:=aF g;refine call_all_walk (wpAny_pyIter_list hl ⟨s.heap.objs.size,[s.heap.objs.size,l],[s.heap.objs.size],vs.size,_,_,λ i=>(bs[i]?).getD true,rfl,Walks.list (A:=A.in1) hh _ l (OX (Pq g)) vs,
  ⟨⟨_,Ph _ rfl,rfl,rfl⟩,hl.push _⟩,λ i v s' Q' E' hP hQ=>?_,λ h' tk hk=>?_⟩)
 ·obtain⟨b,e,rfl⟩:=hb.get i v (Array.getElem?_toList.trans hP);have hQ:Q' ((bs[i]?).getD true) s':=hQ;rw[e] at hQ;exact TQ hQ
 ·rw[show((Sd vs.size).all λ i=>(bs[i]?).getD true)=bs.all id by rw[<-OH,hb.length];exact LSm.range_all bs]
  exact PV.here (H.grow (t:=tk) (LSm.kept_iter hk)) (.bool _) h
theorem G5(hh:A.handled=none)(H:St X V σ s)(dx:DenV V x vx)(dy:DenV V y vy)(ex:bI x=some (i,a))(ey:bI y=some (j,b))(h:Φ (.v (mkI (a&&b) (max i j)),σ)):wpAny (Mo X) A (call (.builtin "max") [vx,vy]) (PV X V σ Φ) E s:=by
 obtain⟨t,rfl⟩:=bl ex dx;obtain⟨u,rfl⟩:=bl ey dy;refine max_two_ints hh λ h' tk hk=>?_;by_cases q:j>i
 ·rw[if_pos q];rw[Int.max_eq_right (Qy q)] at h;exact PV.here (H.grow (t:=tk) hk) (fH _ _ u) h
 ·rw[if_neg q];rw[Int.max_eq_left (QV.mp q)] at h;exact PV.here (H.grow (t:=tk) hk) (fH _ _ t) h
theorem GY(hh:A.handled=none)(H:St X V σ s)(dx:DenV V x vx)(dy:DenV V y vy)(ex:bI x=some (i,a))(ey:bI y=some (j,b))(h:Φ (.v (mkI (a&&b) (min i j)),σ)):wpAny (Mo X) A (call (.builtin "min") [vx,vy]) (PV X V σ Φ) E s:=by
 obtain⟨t,rfl⟩:=bl ex dx;obtain⟨u,rfl⟩:=bl ey dy;refine min_two_ints hh λ h' tk hk=>?_;by_cases q:j<i
 ·rw[if_pos q];rw[Int.min_eq_right (Qy q)] at h;exact PV.here (H.grow (t:=tk) hk) (fH _ _ u) h
 ·rw[if_neg q];rw[Int.min_eq_left (QV.mp q)] at h;exact PV.here (H.grow (t:=tk) hk) (fH _ _ t) h
theorem Jg(i:Int):(if i<0 then -i else i)=(i.natAbs:Int):=by omega
theorem Jf(H:St X V σ s)(dx:DenV V x vx)(ex:bI x=some (i,a))(h:Φ (.v (mkI a i.natAbs),σ)):wpAny (Mo X) A (call (.builtin "abs") [vx]) (PV X V σ Φ) E s:=by
 obtain⟨t,rfl⟩:=bl ex dx;exact call_abs_int λ u tk=>(Jg i).symm▸PV.here H.toks (fH _ _ u) h
theorem Gh(H:St X V σ s)(dx:DenV V x vx)(h:(IP σ x).Sat Φ):wpAny (Mo X) A (call (.builtin "ord") [vx]) (PV X V σ Φ) E s:=
 bn h λ c e h=>aw e λ l e1 e2=>by
  obtain⟨⟨cps⟩,t,rfl,e3⟩:=gK e1 dx;obtain rfl:cps=#[c]:=Array.ext' (e3.trans (ch e2));exact P.ord_of_char (PV.here H.toks (.int _ _) h)
theorem D8{i:Nat}(h:i<1000000):(decide ((i:Int)<0)||decide ((i:Int)>0x10FFFF))=false:=by
 have a:¬ ((i:Int)>0x10FFFF):=QV.mpr (Int.ofNat_le.mpr (OM (OU h) (by decide:1000000<=1114111)))
 rw[decide_eq_false (QV.mpr (Qt i)),decide_eq_false a];rfl
theorem Ir(H:St X V σ s)(dx:DenV V x vx)(h:(IR σ x).Sat Φ):wpAny (Mo X) A (call (.builtin "chr") [vx]) (PV X V σ Φ) E s:=
 bn h λ i e h=>az h λ q h=>by
  obtain⟨t,rfl⟩:=(uH e▸dx:DenV V (.int i) vx).inv;exact P.chr_of_int (D8 (OE q)) (PV.here H.toks (.str _ rfl) h)
theorem Hj(H:St X V σ s)(dx:DenV V x vx)(dy:DenV V y vy)(h:(IQ σ x y).Sat Φ):wpAny (Mo X) A (call (.builtin "isinstance") [vx,vy]) (PV X V σ Φ) E s:=
 bn h λ b e h=>az h λ q h=>by
  rw[qP e dy];rcases b with⟨⟩<;>first|exact nof q|skip
  have h:(match iF x with
   | some _=>val (.bool true) σ
   | none=>on (jW x) λ i=>on ((σ.own.get i).bind ro) λ J=>val (.bool false) σ).Sat Φ:=h
  rcases e:iF x with _|l
  ·rw[e] at h;refine bn h λ i ei h=>bn h λ xs eo hz=>?_;obtain rfl:=jV ei;obtain⟨f,a,ob,rfl,g,vs,m,rfl,ds⟩:=aJ (x:=.own i) H (vw ik eo) nofun dx
   exact IsiPair.tuple_str g rfl (PV.here H.toks (.bool _) hz)
  ·rw[e] at h;obtain⟨_,_,rfl,_⟩:=gK e dx;exact IsiPair.str_str (PV.here H (.bool _) h)
end
end
section
universe u
open PySem PySem.W PyProof.Rows PySem.SeqAt
variable {x:AV} {xs:List AV} {b:List Nat} {vx:Value}
section
variable {glb:List (Nat×AV)} {c:FC} {k:CC} {n:Nat} {s:Shared} {K:Frag} {E:VP}
theorem Iy{vs:List Value}(d:All2 (DenV V) xs vs)(h:byS xs=some b):IntsAre vs (b.map Int.ofNat)/\(∀ n∈b.map Int.ofNat,0<=n/\n<256)/\(byteArr (b.map Int.ofNat)).toList.map (·.toNat)=b:=by
 induction d generalizing b with
 | nil=>obtain rfl:=Oy h;exact⟨.nil,λ J h=>absurd h Pl,rfl⟩
 |
  cons d _ ih=>
  refine aw h λ i ei h=>ay h λ q h=>bG h λ b' e1 e=>?_;subst e;have q:i<256:=OE q;obtain⟨h1,h2,h3⟩:=ih e1;obtain⟨t,rfl⟩:=(uH ei▸d:DenV V (.int i) _).inv;refine⟨.cons _ _ h1,λ n hn=>(Po.mp hn).elim (λ e=>e▸⟨Qt i,Qv.mpr q⟩) (h2 n),?_⟩;have h3:(((b'.map Int.ofNat).map λ n=>n.toNat.toUInt8).map λ x:UInt8=>x.toNat)=b':=h3;show i.toUInt8.toNat::(((b'.map Int.ofNat).map λ n=>n.toNat.toUInt8).map λ x:UInt8=>x.toNat)=i::b';rw[h3,show i.toUInt8.toNat=i from Q0 q]
theorem wx(hh:A.handled=none)(H:St X V σ s)(dx:DenV V x vx)(e:σ.get x=some (.lst xs))(eb:byS xs=some b)(hb:b.length<100000)(h:Φ (.v (.byt b),σ)):wpAny (Mo X) A (call (.type "bytes") [vx]) (PV X V σ Φ) E s:=by
 obtain⟨f,l,ob,rfl,g,vs,m,rfl,ds⟩:=aJ H e nofun dx
 obtain⟨h1,h2,h3⟩:=Iy ds eb;exact call_bytes_ints (vs:=vs.toList) (by rw[Array.toArray_toList];exact aF g) h1 h2 (by rw[h1.length,Pa];exact ce hb) hh λ h' t k hk=>PV.here (H.grow (t:=k) hk) (.byt _ h3) h
theorem fW{h:Heap}{x o:Obj}{b:Addr}(e:(h.push x).get? b=some o):(b=h.objs.size/\o=x)\/h.get? b=some o:=Heap.get?_push_cases e
theorem Fw{x y:AV}{vx vy:Value}{xs ys:List AV}(H:St X V σ s)(dx:DenV V x vx)(dy:DenV V y vy)(ex:σ.get x=some (.lst xs))(ey:σ.get y=some (.lst ys))(hrx:∃ i,x=.own i\/x=.frz i\/x=.glob i)(hry:∃ i,y=.own i\/y=.frz i\/y=.glob i)
 (h:((σ.new (.itL x 0) λ n g=>g.new (.itL y 0) λ m g=>g.new (.prA n m) λ ti g=>g.new .prB λ to g=>fj g (.zip n m ti to)):R).Sat Φ):wpAny (Mo X) A (call (.type "zip") [vx,vy]) (PV X V σ Φ) E s:=by
 obtain⟨f,l1,ob,rfl,g1,vs,m,rfl,ds⟩:=aJ H ex nofun dx
 obtain⟨f',l2,ob,rfl,g2,ws,m',rfl,dw⟩:=aJ H ey nofun dy
 obtain⟨b1,h⟩:=bk h;obtain⟨b2,h⟩:=bk h;obtain⟨b3,h⟩:=bk h;obtain⟨b4,h⟩:=bk h;obtain⟨b5,h⟩:=bk (cl h).2;refine call_zip_2 (aF g1) (aF g2) λ h' z1 z2 z3 ⟨o1,p1,p2,p3⟩ ⟨o2,q1,q2,q3⟩ hs hk=>?_;have N1:=H.add (ob:=o1) (o:=.itL x 0) rfl (Qb p3) ⟨p2,l1,bW (V.le_push _) (lN dx hrx),p3⟩ b1 nofun
 have L1:=V.le_push s.heap.objs.size;have N2:=N1.H.add (ob:=o2) (o:=.itL y 0) N1.e (Qb q3) ⟨q2,l2,bW (Va.le_push _ _) (bW L1 (lN dy hry)),q3⟩ b2 nofun
 have L2:=Va.le_push (V.push s.heap.objs.size) (s.heap.objs.size+1);have N3:=N2.H.add (ob:={ cls:=.type "tuple",data:=.seq #[.ref s.heap.objs.size,.ref (s.heap.objs.size+1)] }) (o:=.prA σ.n (σ.n+1)) N2.e rfl ⟨_,_,(Va.le_push _ _).ρ (L2.ρ N1.p),(Va.le_push _ _).ρ N2.p,rfl⟩ b3 nofun
 have L3:=Va.le_push ((V.push s.heap.objs.size).push (s.heap.objs.size+1)) (s.heap.objs.size+2);have N4:=N3.H.add (ob:={ cls:=.type "tuple",data:=.seq #[.none,.none] }) (o:=.prB) N3.e rfl ⟨_,_,rfl⟩ b4 nofun
 have L4:=Va.le_push (((V.push s.heap.objs.size).push (s.heap.objs.size+1)).push (s.heap.objs.size+2)) (s.heap.objs.size+3);have N5:=N4.H.add (ob:={ cls:=.type "zip",dict:=none,data:=.fields #[.none,.bool false,.bool false,.ref (s.heap.objs.size+2),.ref (s.heap.objs.size+3)],slots:=#[] }) (o:=.zip σ.n (σ.n+1) (σ.n+2) (σ.n+3)) N4.e rfl ⟨_,_,(Va.le_push _ _).ρ (L4.ρ N3.p),(Va.le_push _ _).ρ N4.p,rfl⟩ b5 nofun
 refine⟨_,_,.own (σ.n+4),L1.trans (L2.trans (L3.trans (L4.trans (Va.le_push _ _)))),N1.k.trans (N2.k.trans (N3.k.trans (N4.k.trans N5.k))),N5.H.grow (t:=s.toks) (h':=h') λ b o e=>?_,.own N5.p,h⟩;exact(fW e).elim (λ q=>q.1▸q.2▸N4.e▸z1) λ e=>(fW e).elim (λ q=>q.1▸q.2▸N3.e▸z3) λ e=>(fW e).elim (λ q=>q.1▸q.2▸N2.e▸z2) λ e=>(fW e).elim (λ q=>q.1▸q.2▸N1.e▸q1) λ e=>(fW e).elim (λ q=>q.1▸q.2▸p1) (hk b o)
end
end
section
universe u
open PySem PySem.W PyProof.Rows PySem.SeqAt
open PySem.Sem (wp)
variable {l:Addr} {b:Array UInt8} {n:Nat} {o:Obj} {Q:VP}
theorem pc:QU (.type "bytearray") "__bytes__"=pure none:=by rw[PO,Pg];kernel_rfl
theorem jy:QU (.type "bytearray") "__index__"=pure none:=by rw[PO,Pg];kernel_rfl
theorem dO:QU (.type "bytearray") "__buffer__"=pure (some (.builtin "bytearray.__buffer__")):=by rw[PO,Pg];kernel_rfl
theorem hZ:QU (.type "bytearray") "__release_buffer__"=pure (some (.builtin "bytearray.__release_buffer__")):=by rw[PO,Pg];kernel_rfl
theorem IW:Tu (.type "bytearray") (.type "bytearray")=pure true:=by rw[P1];kernel_rfl
section
variable {prog:Program} {w:World} {E:VP} {s:Shared}
theorem cI{n:String}{i:String}{Q:Bool->Shared->Prop}(hT:s.TypeIs (.ref l) "bytearray")(hl:QU (.type "bytearray") (n:Str)=pure (some (.builtin i)))
 (h1:(!i.endsWith ("."++n))=false) (h2:i.dropRight (n.length+1)="bytearray") (h:Q true s):wpAny (model prog w) A (Q9 (.ref l) n) Q E s:=by
 unfold Q9;refine Oz (PX hT hl ?_);refine P3 h1 ?_;rw[h2];exact Qd hT IW h
theorem IX(ho:s.heap.get? l=some o)(hc:o.cls=.type "bytearray")(hd:o.data=.bytearray b n)(hz:b.size<=P8)
 (hQ:Q (.bytes b s.toks) { s with toks:=s.toks+1 }) :
 Pd (model prog w) A (.call (.builtin "bytes.__new__") ⟨[.type "bytes",.ref l],[]⟩) (wants Q E) s:=by
 refine codeAny_of_tree ?_;show wpAny _ A.in1 (do Qe "bytes.__new__" ⟨[.type "bytes",.ref l],[]⟩;again (.builtin "bytes.__new__" ⟨[.type "bytes",.ref l],[]⟩)) _ _ s
 refine Oz (Pi (F.bm_newCall _) (OD ⟨plainId_quiet F.bm_plain _,codeAny_builtin F.bm_entry ?_⟩));rw[SV F.bm_plain _];have hT:s.TypeIs (.ref l) "bytearray":=⟨o,ho,hc⟩;unfold P6.«bytes.__new__»;refine Oz (Pi (a:=true) rfl ?_);refine P3 rfl ?_;refine Oz (Pi F.bm_sub ?_);refine P3 rfl ?_;refine Oz (Pi (F.bm_bind _) ?_);refine Oz (Pi (a:=()) rfl ?_);refine Oz (Pi (a:=()) rfl ?_);refine P3 rfl ?_;refine Oz (PX hT pc ?_);refine Oz (Oz ?_);show wpAny _ _ (load l >>= _) _ _ _;refine Oz (QT ho ?_);rw[hd];refine OD (OD ?_);refine P3 rfl ?_;refine Oz (PX hT jy ?_);refine bm_if_true rfl ?_
 first
  | show wpAny _ _ (Qr "bytes.__new__" (.ref l) true >>= _) _ _ _
  | (refine Oz ?_;show wpAny _ _ (Qr "bytes.__new__" (.ref l) true >>= _) _ _ _)
 refine Oz ?_;unfold Qr;refine Oz (PX hT dO ?_);refine Oz (cI hT dO (by decide +kernel) (by decide +kernel) ?_)
 refine P3 rfl ?_;refine Oz (PX hT dO ?_);refine Oz ?_;unfold QZ;refine Oz (cI hT hZ (by decide +kernel) (by decide +kernel) (OD ?_))
 refine P3 rfl ?_;refine Oz ?_;unfold QN Rk;refine Oz (Oz (QT ho ?_));rw[hd];refine OD (OD (OD ?_));refine Oz (Sc ?_);refine Oz (wpAny_mkBytes ?_ hz);exact λ J J J=>hQ
theorem jT(ho:s.heap.get? l=some o)(hc:o.cls=.type "bytearray")(hd:o.data=.bytearray b n)(hz:b.size<=P8)
 (hQ:Q (.bytes b s.toks) { s with toks:=s.toks+1 }):wpAny (model prog w) A (call (.type "bytes") [.ref l]) Q E s:=by
 refine callType_codes (Q₁:=λ obj s₁=>s₁.TypeIs obj "bytes"/\Q obj s₁) F.bm_called (F.bm_typeCall _) F.entry_object_init
  (IX ho hc hd hz ⟨PySem.W.typeIs_bytes _ _ _,hQ⟩) λ obj s₁ h₁=>?_
 exact⟨h₁.1,F.args_object_init_2 obj _,object_init_meets F.bm_called.init.lookup F.bm_called.made (by decide) prog w A.in1 _ s₁ ⟨h₁.1,rfl,h₁.2⟩⟩
end
section
variable {s:Shared} {E:VP}
theorem o9{x:AV}{vx:Value}{b:List Nat}(H:St X V σ s)(dx:DenV V x vx)(e:σ.get x=some (.bar b))(hb:b.length<100000)(h:Φ (.v (.byt b),σ)):wpAny (Mo X) A (call (.type "bytes") [vx]) (PV X V σ Φ) E s:=by
 obtain⟨f,l,ob,rfl,g,bs,rfl,hbs⟩:=aJ H e (by nofun) dx
 refine jT g rfl rfl (by rw[sizeLine_eq,<-OH,show bs.toList.length=b.length from by rw[<-hbs,Pa]];omega) ?_
 exact PV.here (H.grow (t:=s.toks+1) λ J J e=>e) (.byt _ hbs) h
end
end
section
open PySem
variable {d:Desc} {x y:Int} {n:Nat}
theorem KA{a b:Nat}(ha:a<2147483648)(hb:b<2147483648):a ||| b<2147483648:=Nat.or_lt_two_pow (n:=31) ha hb
def lX(x:Int):Prop:=-2147483648<=x/\x<2147483648
theorem vE(h:n<2147483648):lX (n:Int):=⟨Qz (by decide) (Qt n),Qv.mpr h⟩
theorem HB(h:n<2147483648):lX (Int.negSucc n):=by unfold lX;omega
theorem pS(h:lX (Int.ofNat n)):n<2147483648:=Int.ofNat_lt.mp h.2
theorem uu(h:lX (Int.negSucc n)):n<2147483648:=by have:=h.1;omega
theorem qL(n:Nat):O3 (Int.negSucc n)=n:=Int.add_sub_cancel (n:Int) 1
theorem zP(n:Nat):O3 n=Int.negSucc n:=by unfold O3;omega
theorem tI(a b:Nat):(Int.ofNat a-((a &&& b:Nat):Int))=((a-(a &&& b):Nat):Int):=(Int.ofNat_sub Nat.and_le_left).symm
theorem wC(hx:lX x)(hy:lX y):lX (ON x y):=by
 rcases x with a|a
 ·rcases y with b|b
  ·exact vE (OI Nat.and_le_left (pS hx))
  ·show lX (Int.ofNat a-((a &&& (O3 (Int.negSucc b)).toNat:Nat):Int));rw[tI];exact vE (OI (S9 ..) (pS hx))
 ·rcases y with b|b
  ·show lX (Int.ofNat b-((b &&& (O3 (Int.negSucc a)).toNat:Nat):Int));rw[tI];exact vE (OI (S9 ..) (pS hy))
  ·show lX (O3 (((O3 (Int.negSucc a)).toNat ||| (O3 (Int.negSucc b)).toNat:Nat):Int))
   rw[qL,qL,zP];exact HB (KA (uu hx) (uu hy))
theorem mi(i:Int):lX (Desc.signed i):=
 ⟨Int.sub_le_sub_right (RV (i+2147483648) (by decide)) 2147483648,Int.sub_lt_sub_right (Rh (i+2147483648) (by decide)) 2147483648⟩
theorem nL:lX 0:=⟨by decide,by decide⟩
theorem vk{c:Prop}[Decidable c](hx:lX x)(hy:lX y):lX (if c then x else y):=by
 by_cases h:c
 ·rw[if_pos h];exact hx
 ·rw[if_neg h];exact hy
theorem FY(n b:Int):lX (Desc.shl n b):=vk (vk nL (mi _)) (vk nL (mi _))
theorem pW(h:d.OK):lX d.num:=by
 rcases d with⟨⟩<;>first|exact h|exact nL
theorem yy(h:lX x):x.natAbs<=2147483648:=by
 rcases x with n|n
 ·exact OU (pS h)
 ·exact uu h
theorem FL{d e:Desc}(hd:d.OK)(he:e.OK)(t:Nat):(Desc.tok t d e).natAbs<=8589934592:=by
 have h1:=yy (pW hd);have h2:=yy (pW he);have h3:=yy (wC (pW hd) (pW he));have h4:=yy (FY d.num e.num);have l:∀ {n:Nat},n<=2147483648->n<=8589934592:=λ h=>OM h (by decide)
 match t with
 | 0=>exact l h1
 | 1=>exact l h3
 |
  2=>
  show(RI d.num e.num).natAbs<=_;rw[PyProof.Rows.bitOr_and];exact OM (TV ..) (OM (QH (OM (Int.natAbs_add_le ..) (QH h1 h2)) h3) (by decide))
 |
  3=>
  show(UI d.num e.num).natAbs<=_;rw[PyProof.Rows.bitXor_and];exact OM (TV ..) (OM (QH (OM (Int.natAbs_add_le ..) (QH h1 h2)) (OM (Pp (Int.natAbs_mul 2 _)) (Ps 2 h3))) (by decide))
 | 4=>exact l h4
 | _+5=>exact OM (TV ..) (OM (Pc h1 1) (by decide))
end
section
open PySem PySem.W PyProof.Rows
variable {x:AV} {a b:Bool} {i:Int} {l xs:List AV} {s:Shared} {t:Tok}
structure LeafOK(h:Heap)(v:Value)(d:PyData):Prop where
 r:Reads h v d []
 sh:d.leavesShort 13=true
 w:d.weight<=100
 s:d.showable=true
 nd:d.hasDict=false
 dp:d.depth=0
theorem Hb{n:Nat}(h:n<=8589934592):n.log2<40:=by
 rcases Nat.eq_zero_or_pos n with q|q
 ·rw[q];decide
 ·exact(Nat.log2_lt (Qn q)).mpr (OI h (by decide))
theorem Lr(h:i.natAbs.log2<40):PyData.weight (.int i)<=100:=by
 show(if (i==0)=true then 0 else i.natAbs.log2+1)<=100
 by_cases q:(i==0)=true
 ·rw[if_pos q];exact Pk _
 ·rw[if_neg q];exact OM h (by decide)
theorem lG{h:Heap}(hi:i.natAbs<=8589934592):LeafOK h (.int i t) (.int i):=
 ⟨.int _ _,decide_eq_true (PyData.shown_int_le (OI hi (by decide))),Lr (Hb hi),decide_eq_true (S4 (Hb hi) (by decide)),rfl,rfl⟩
variable {h:Heap}
theorem qd(h:Db i=true):i.natAbs<=8589934592:=OU (OE h)
theorem yN{l:List Nat}{z:Str}(e:z.cps.toList=l)(hl:(O0 l.length 100&&l.all λ c=>O0 c 1000000)=true):LeafOK h (.str z t) (.str z):=
 aV hl λ h1 h2=>⟨.str _ _,OP.mpr λ c hc=>decide_eq_true (Pb (OE (OP.mp h2 c (e▸hc)):c<1000000) (by decide:1000000<=16^8)),(OH.symm.trans (congrArg Sw e)▸OU (OE h1):z.cps.size<=100),rfl,rfl,rfl⟩
theorem Da(hd:∀ (i:Nat) (d:Desc),V.ds[i]?=some d->d.OK){v:Value}(hl:yO x=true)(dv:DenV V x v):∃ d,RpV V x d/\LeafOK h v d:=by
 have inv:=dv.inv;refine((AV.casesOn (motive_1:=λ x=>yO x=true->J7 V x v->∃ d,RpV V x d/\LeafOK h v d) x (λ hl J=>nof hl) (λ b=>λ J q=>⟨_,.bool,q▸⟨.bool _,rfl,Pk _,rfl,rfl,rfl⟩⟩) (λ b=>λ J q=>⟨_,.sb,q▸⟨.bool _,rfl,Pk _,rfl,rfl,rfl⟩⟩) (λ i=>λ hl q=>(q:∃ (t:Tok),v=.int i t).elim λ t e=>⟨_,.int,e▸lG (qd hl)⟩) (λ i=>λ hl q=>(q:∃ (t:Tok),v=.int i t).elim λ t e=>⟨_,.si,e▸lG (qd hl)⟩) (λ l=>λ hl q=>?_) (λ J=>λ hl J=>nof hl) (λ J=>λ hl J=>nof hl) (λ J=>λ hl J=>nof hl) (λ J=>λ hl J=>nof hl) (λ J=>λ hl J=>nof hl) (λ J=>λ hl J=>nof hl) (λ J=>λ hl J=>nof hl) (λ hl J=>nof hl) (λ hl J=>nof hl) (λ J=>λ hl J=>nof hl) (λ hl J=>nof hl) (λ hl J=>nof hl) (λ t i j=>λ J q=>?_) (λ J=>λ hl J=>nof hl))) hl inv
 ·obtain⟨z,t,rfl,e⟩:=q;exact⟨_,.str e,yN e hl⟩
 ·obtain⟨d,e,k,rfl,h1,h2⟩:=q;exact⟨_,.ti h1 h2,lG (FL (hd _ _ h1) (hd _ _ h2) t)⟩
structure LeavesOK(h:Heap)(vs:List Value)(ds:List PyData)(n k:Nat):Prop where
 r:ReadsAll h vs ds []
 sh:PyData.leavesShortAll 13 ds=true
 w:PyData.weightAll ds<=n
 s:PyData.showableAll ds=true
 nd:PyData.hasDictAll ds=false
 dp:PyData.depthAll ds<=k
theorem Bm(h:a=true)(k:b=true):(a&&b)=true:=by rw[h,k];rfl
theorem Kz(h:a=false)(k:b=false):(a||b)=false:=by rw[h,k];rfl
theorem LeavesOK.cons{v:Value}{d:PyData}{vs:List Value}{ds:List PyData}{m n k:Nat}(r:Reads h v d [])(sh:d.leavesShort 13=true)(w:d.weight<=m)(sw:d.showable=true)(nd:d.hasDict=false)(dp:d.depth<=k)(L:LeavesOK h vs ds ((m+1)*n) k):LeavesOK h (v::vs) (d::ds) ((m+1)*(n+1)) k:=
 ⟨ReadsAll.cons r L.r,Bm sh L.sh,OM (QH (PA w) L.w) (Pp (S5 (m+1) _)),Bm sw L.s,Kz nd L.nd,Nat.max_le.mpr ⟨dp,L.dp⟩⟩
theorem LeavesOK.nil{n k:Nat}:LeavesOK h [] [] n k:=⟨.nil,rfl,Pk _,rfl,rfl,Pk _⟩
theorem uY(hd:∀ (i:Nat) (d:Desc),V.ds[i]?=some d->d.OK){vs:List Value}(hl:xs.all yO=true)(dv:All2 (DenV V) xs vs):∃ ds,All2 (RpV V) xs ds/\LeavesOK h vs ds (101*xs.length) 0:=by
 induction dv with
 | nil=>exact⟨[],.nil,.nil⟩
 |
  cons a b ih=>
  refine aV hl λ h1 h2=>?_;obtain⟨ds,x,y⟩:=ih h2;obtain⟨d,x',y'⟩:=Da (h:=h) hd h1 a;exact⟨d::ds,.cons x' x,y.cons y'.r y'.sh y'.w y'.s y'.nd (Pp y'.dp)⟩
theorem tZ(H:St X V σ s){vs:List Value}(dv:All2 (DenV V) xs vs)(e:Jv σ xs=some l):∃ ds,All2 (RpV V) l ds/\LeavesOK s.heap vs ds (2021*xs.length) 1:=by
 induction dv generalizing l with
 | nil=>obtain rfl:=Oy e;exact⟨[],.nil,.nil⟩
 |
  cons a b ih=>
  refine cj e λ i ei e=>aw e λ ys e1 e=>ay e λ q e=>bG e λ l' e3 el=>aV q λ q1 q2=>?_;subst ei;obtain⟨ds,y1,y2⟩:=ih e3;obtain⟨f,ad,ob,rfl,g,ws,m,rfl,dws⟩:=aJ (x:=.own i) H (vw ik e1) nofun a
  obtain⟨d,z1,z2⟩:=uY (h:=s.heap) H.dsok q1 dws;exact⟨.tuple d::ds,el▸.cons (.tup z1) y1,y2.cons (.tuple g rfl rfl z2.r) z2.sh (OM z2.w (Ps 101 (OU (OE q2)))) z2.s z2.nd (PA z2.dp)⟩
theorem Ce{Φ:Out×Sg->Prop}{A:Around}{E:VP}{vx:Value}{d:Nat}(hA:AOK X V σ A d 2)(H:St X V σ s)(dx:DenV V x vx)(e:σ.get x=some (.lst xs))(er:Jv σ xs=some l)(hn:xs.length<400)
 (h:Φ (.v (.rp l),σ)):wpAny (Mo X) A (call (.builtin "repr") [vx]) (PV X V σ Φ) E s:=by
 obtain⟨f,a,ob,rfl,g,ws,m,rfl,dws⟩:=aJ H e nofun dx
 obtain⟨ds,z1,z2⟩:=tZ H dws er;have hu:A.units<=1830:=OM hA.units (Qw (Pc (Ps 30 hA.dep) 10) 20);have hdep:PyData.depth (.list ds)<=2:=PA z2.dp;refine repr_of_reads' (d:=.list ds) (Reads.list g rfl rfl z2.r) z2.s (λ q=>OG (z2.nd.symm.trans q)) hA.guards ?_ (λ J J e=>e) (λ h' u tk hk=>PV.here (H.grow (t:=tk) hk) (.rp _ z1) h) ?_
 ·exact OI (QH hu (PA hdep)) (by decide:1830+3<cLine)
 ·refine PyData.shown_fits (B:=13) (by decide) (by decide) z2.sh ?_
  exact OM z2.w (OM (Ps 2021 (OU hn)) (by decide))
end
section
universe u
open PySem PySem.W PyProof.Rows PySem.SeqAt
variable {x:AV} {b:Bi} {as:List AV} {vs:List Value} {a d:Nat} {vx:Value}
structure BiX(X:Cx)(cfg:Cfg):Prop where
 bar:cfg.bar=true->∀ {x:AV} {vx:Value} {V:Va} {σ:Sg} {s:Shared} {A:Around} {Φ:Out×Sg->Prop} {d:Nat} {E:VP},AOK X V σ A d 2->St X V σ s->DenV V x vx->(zR σ x).Sat Φ->wpAny (Mo X) A (call (.type "bytearray") [vx]) (PV X V σ Φ) E s
structure ConOK(X:Cx)(cfg:Cfg):Prop where
 ok:∀ {a:Nat} {c:Nat->List AV->Sg->Option R} {as:List AV} {vs:List Value} {t:R} {V:Va} {σ:Sg} {s:Shared} {A:Around} {Φ:Out×Sg->Prop} {d:Nat},aX a cfg.con=some c->c d as σ=some t->d/1000=0->All2 (DenV V) as vs->AOK X V σ A d 2->St X V σ s->t.Sat Φ->
  Pd (Mo X) A (.call (.ref a) ⟨vs,[]⟩) (PR X V σ Φ) s
structure TopC(X:Cx)(K:Frag)(cfg:Cfg)(glb:List (Nat×AV)):Prop where
 T:TopF X K cfg glb
 fn:∀ a fi,aX a cfg.fns=some fi->FnOK K glb a fi
 lim:X.B.NoLimit
 con:ConOK X cfg
 bi:BiX X cfg
section
variable {glb:List (Nat×AV)} {c:FC} {k:CC} {n:Nat} {s:Shared} {K:Frag} {E:VP}
theorem uc{o:AO}(h:σ.get x=some o):∃ i,x=.own i\/x=.frz i\/x=.glob i:=
 ((AV.casesOn (motive_1:=λ x=>σ.get x=some o->∃ i,x=.own i\/x=.frz i\/x=.glob i) x am ac ac ac ac ac ac ac (λ i=>λ J=>⟨_,.inl rfl⟩) (λ i=>λ J=>⟨_,.inr (.inl rfl)⟩) ac ac ac am am ac am am ak ac)) h
theorem wy(dx:DenV V x vx)(hA:AOK X V σ A d 2)(H:St X V σ s)(h:(wE d σ (σ.get x)).Sat Φ):wpAny (Mo X) A (call (.type "bytes") [vx]) (PV X V σ Φ) E s:=by
 have h:(match (σ.get x).bind pV with
  | some b=>aR (JN b) (val (.byt b) σ)
  | none=>on (((σ.get x).bind jI).bind byS) λ b=>aR (JN b) (jk d (val (.byt b) σ))).Sat Φ:=h
 rcases e:(σ.get x).bind pV with _|b
 ·rw[e] at h;exact bn h λ b eb h=>aw eb λ xs e2 e3=>az h λ q h=>(dM h).elim λ hd h=>wx (dE hA hd) H dx (vw ge e2) e3 (OE q) h
 ·rw[e] at h;exact az h λ q h=>o9 H dx (vw kb e) (OE q) h
theorem Cd(dx:DenV V x vx)(H:St X V σ s)(h:(IN σ x).Sat Φ):wpAny (Mo X) A (call (.type "range") [vx]) (PV X V σ Φ) E s:=by
 have h:(match iG x with
  | some i=>fj σ (.rng 0 i)
  | none=>on (vRg x) λ m=>pK σ m).Sat Φ:=h
 rcases e:iG x with _|i
 ·rw[e] at h;refine bn h λ m em h=>?_;obtain⟨i,t,rfl,h0,h1⟩:=pI em dx;exact t6 H h0 h1 h
 ·rw[e] at h;obtain⟨t,rfl⟩:=jj e dx;exact pJ H h
theorem IT(T:TopC X K cfg glb)(dx:DenV V x vx)(hA:AOK X V σ A d 2)(H:St X V σ s)(h:(bi1 cfg d b x σ).Sat Φ):wpAny (Mo X) A (call (jw b) [vx]) (PV X V σ Φ) E s:=
 ((Bi.casesOn (motive:=λ b=>(bi1 cfg d b x σ).Sat Φ->wpAny (Mo X) A (call (jw b) [vx]) (PV X V σ Φ) E s) b (λ h=>bn h λ v e h=>az h λ q h=>C9 T.T.gobs H dx e (OE q) h) O1 (Gh H dx) (Ir H dx) O1 O1 (λ h=>bn h λ p e h=>Jf H dx e h) (λ h=>bn h λ l e h=>aw e λ xs e1 e2=>ay e2 λ q e2=>Ce hA H dx (aU e1) e2 (OE q) h) (λ h=>bn h λ v e h=>aw e λ xs e1 e2=>(dM h).elim λ hd h=>Jd (dE hA hd) H dx (aU e1) e2 h) (λ h=>bn h λ p e h=>aw e λ xs e1 e2=>(dM h).elim λ hd h=>FQ (dE hA hd) H dx (aU e1) e2 h) (λ h=>az h λ q h=>(d9 q dx).rec λ i t r=>r▸call_int_int (PV.here H (r▸dx) h)) (wy dx hA H) (λ h=>az h λ q h=>T.bi.bar q hA H dx h) (λ h=>bn h λ xs e h=>C7 T.T.gobs H dx e h) (λ h=>bn h λ xs e h=>xF H dx (aU e) h) O1 (Cd dx H) O1)) h
theorem IS{x y:AV}{vx vy:Value}(dx:DenV V x vx)(dy:DenV V y vy)(hA:AOK X V σ A d 2)(H:St X V σ s)(h:(bi2 d b x y σ).Sat Φ):wpAny (Mo X) A (call (jw b) [vx,vy]) (PV X V σ Φ) E s:=
 ((Bi.casesOn (motive:=λ b=>(bi2 d b x y σ).Sat Φ->wpAny (Mo X) A (call (jw b) [vx,vy]) (PV X V σ Φ) E s) b O1 (Hj H dx dy) O1 O1 (λ h=>bn h λ p e h=>eG e λ e1 e2=>(dM h).elim λ hd h=>G5 (dE hA hd) H dx dy e1 e2 h) (λ h=>bn h λ p e h=>eG e λ e1 e2=>(dM h).elim λ hd h=>GY (dE hA hd) H dx dy e1 e2 h) O1 O1 O1 O1 O1 O1 O1 O1 O1 (λ h=>bn h λ p e h=>eG e λ e1 e2=>Fw H dx dy (aU e1) (aU e2) (uc (aU e1)) (uc (aU e2)) h) O1 O1)) h
theorem yE(T:TopC X K cfg glb)(hC:SC X ih){ci:ClsI}(e:aX a cfg.cls=some ci)(da:All2 (DenV V) as vs)(hA:AOK X V σ A d 2)(H:St X V σ s)(h:(yF ih d a ci as σ).Sat Φ) :
 Pd (Mo X) A (.call (.ref a) ⟨vs,[]⟩) (PR X V σ Φ) s:=by
 have h:(match ci.isExc with
  | true=>CX ih d a ci as σ
  | false=>CY ih d a ci as σ).Sat Φ:=h
 rcases hx:ci.isExc with _|_
 ·rw[hx] at h;exact yG T.T hC e hx da hA H h
 ·rw[hx] at h;exact yD T.T hC e hx da hA H h
theorem zC(T:TopC X K cfg glb)(hS:SS X glb ih)(hC:SC X ih)(da:All2 (DenV V) as vs)(hA:AOK X V σ A d 2)(H:St X V σ s)(h:(zD cfg ih d a as σ).Sat Φ) :
 Pd (Mo X) A (.call (.ref a) ⟨vs,[]⟩) (PR X V σ Φ) s:=by
 have h:(match r7 cfg d a as σ with
  | some t=>t
  |
   none=>match aX a cfg.fns with
   | some fi=>qI ih d fi as σ
   |
    none=>match aX a cfg.cls with
    | some ci=>yF ih d a ci as σ
    | none=>.stuck 61).Sat Φ:=h
 rcases e:r7 cfg d a as σ with _|t
 ·rw[e] at h;rcases e:aX a cfg.fns with _|fi
  ·rw[e] at h;rcases e:aX a cfg.cls with _|ci
   ·rw[e] at h;exact h.elim
   ·rw[e] at h;exact yE T hC e da hA H h
  ·rw[e] at h;exact wl T.T.inB T.lim (T.fn _ _ e) hS da hA H h
 ·rw[e] at h;exact wf e λ c q e1 e2=>T.con.ok e1 e2 (OB q) da hA H h
theorem wm(T:TopC X K cfg glb)(da:All2 (DenV V) as vs)(hA:AOK X V σ A d 2)(H:St X V σ s)(h:(qJ cfg d b as σ).Sat Φ):wpAny (Mo X) A (call (jw b) vs) (PV X V σ Φ) E s:=by
 have h:(match single as with
  | some x=>bi1 cfg d b x σ
  | none=>on (jG as) λ p=>bi2 d b p.1 p.2 σ).Sat Φ:=h
 rcases e:single as with _|x
 ·rw[e] at h;refine bn h λ p e h=>?_;obtain⟨v,w,rfl,d1,d2⟩:=tf e da;exact IS d1 d2 hA H h
 ·rw[e] at h;obtain⟨v,rfl,d1⟩:=fE e da;exact IT T d1 hA H h
theorem EZ(T:TopC X K cfg glb){n:Nat}(hS:SS X glb (run cfg n))(hC:SC X (run cfg n)):SC X (run cfg (n+1)):=by
 intro d f as vf vs σ Φ V s A df da hA H h;have h:(match dc f with
  | some a=>zD cfg (run cfg n) d a as σ
  | none=>on (vBi f) λ b=>qJ cfg d b as σ).Sat Φ:=h
 rcases e:dc f with _|a
 ·rw[e] at h;refine bn h λ b eb h=>?_;rw[qP eb df];exact⟨λ a q=>am (e.symm.trans (congrArg dc q:dc f=some a)),wm T da hA H h⟩
 ·rw[e] at h;rw[fm e df];have:=zC T hS hC da hA H h;refine⟨λ J J=>this,Rz (PD this λ r s' z=>?_)⟩;rcases r with e|(_|_|_|v)<;>exact z
end
end
section
universe u
open PySem PySem.W PyProof.Rows PySem.SeqAt
def w8(cfg:Cfg):Prop:=∃ ci,aX cC cfg.cls=some ci/\ci.isExc=false/\aX dC ci.attrs=some .no/\aX cQ ci.attrs=some .no
structure Sound(X:Cx)(cfg:Cfg)(glb:List (Nat×AV))(N:Nat):Prop where
 E:SE X glb (run cfg N)
 T:ST X glb (run cfg N)
 S:SS X glb (run cfg N)
 C:SC X (run cfg N)
section
variable {glb:List (Nat×AV)} {K:Frag}
theorem tQ(T:TopC X K cfg glb)(c115:w8 cfg)(N:Nat):∀ m,m<=N->Sound X cfg glb m:=by
 induction N with
 |
  zero=>
  intro m h;obtain rfl:=Nat.le_zero.mp h;exact⟨λ J J J J J h=>h.elim,λ J J J J J h=>h.elim,λ J J J J J h=>h.elim,λ J J J J h=>h.elim⟩
 |
  succ N ih=>
  intro m h;rcases Nat.lt_or_eq_of_le h with q|rfl
  ·exact ih m (Nat.le_of_lt_succ q)
  ·have P:=pL T.T;have hP:∀ m,m<N->Prim X cfg glb (run cfg m):=λ m J=>kY T.T c115;have I:=ih N (OR _);have Y:Hyp X cfg glb (run cfg N):=⟨I.E,I.T,I.C,wh P (λ m hm=>(ih m hm).E) (λ m hm=>(ih m (OU hm)).T) hP,kY T.T c115⟩;have Z:HypS X cfg glb (run cfg N):=⟨Y,I.S,P,qE P (λ m hm=>(ih m hm).E) (λ m hm=>(ih m (OU hm)).T) hP,uS P λ m hm=>(ih m (OU hm)).S⟩;exact⟨λ he hk hv hA H h=>xU Y hk hv hA H he h,λ he hk hv hA H h=>xS Y hk hv hA H he h,λ he hk hv hA H h=>tM Z hk hv hA H he h,EZ T I.S I.C⟩
theorem nS(T:TopC X K cfg glb)(c115:w8 cfg)(N:Nat):Sound X cfg glb N:=tQ T c115 N N (OR _)
end
end
section
open PySem
noncomputable def mr:List Stmt:=PySem.Challenge.pw_on0275_01.main.body
noncomputable def glb:List (Nat×AV):=[
 (1856911165733145843708461165,.glob 21),
 (1392683309736222139432829007,.int (1000000)),
 (13915671809533854705545110950375886024578433109,.int (2147483647)),
 (30305717933171168988696735923901324388011194202456179,.glob 39),
 (6890722635669385930299530830945158430835,.glob 52),
 (756317025991802224757,.glob 64),
 (5699733621279955203647412080623348613237,.glob 76),
 (41904192786157760558604616024527333562181024042975335,.glob 83),
 (32924723158274568862804006349623747595016105806004294,.int (4294967296)),
 (190878611820896805802891914373656417866774997034143302133452111973,.glob 90),
 (9868192900015282546428726889892047487077,.glob 97),
 (14807702127898427188730969156317736295257342042,.int (1)),
 (31053999278429951044994024452419687282439849441755226,.int (2)),
 (32176434141554674557091176923157857867408508761145413,.int (3)),
 (1644140083130425740514820200,.glob 115),
 (783987071733653831797,.glob 136),
 (365038095302776,.glob 157),
 (12310020367075683863180838352298786809156993146,.glob 192),
 (774763748075262443631,.glob 213),
 (9017487226102064402525364204202931257459,.glob 224),
 (1060688232839248871533,.glob 231),
 (8421993124555144584766793914219744985199,.glob 238),
 (1023794727099668889702,.glob 246),
 (1699836098479495164853078767180298567971114951855690949411141656183569616960395149416,.glob 253),
 (1014571355062824599660,.glob 260),
 (1023794815060597014637,.glob 267),
 (41904193321373858841359449138218129401632440681758821,.glob 275),
 (9527910451964512240209085453551095775349,.glob 282),
 (39659329125711092606102266703322366867536857947701363,.glob 289),
 (767122974244300010081261002612449360317561275541040063317381919510876118843508,.glob 296),
 (174423574094058921458447894611337108502386018683221067662308147322,.glob 303),
 (36666170917962358299703195576259642763818509998751847,.glob 310),
 (17840604495746990773009851261246990824488566885,.glob 317),
 (8507063148377890955452848082183390232687,.glob 324),
 (78463810977515718419206873647653419647523838770242287304821,.glob 331),
 (9612980840871018333154961621814872113255,.glob 338),
 (44897349209847219264677367407067592905660773745819759,.glob 345),
 (365792747258503855258542506085027134859016541214733735470811115874680943,.glob 352),
 (977677950478261944430,.glob 359),
 (1699836004398474422609879370420219577929235461149705644306097481257873537126400786543,.glob 366),
 (403752334065309671931091566815714090982554125812053848026438358523707508,.glob 373),
 (4381002447356823674458128380854375,.glob 380),
 (351989251273930875063924480707497359819106051595922314930981393248813172,.glob 387),
 (40781759885499465223890333165660035326573933582352495,.glob 394),
 (1624797380697020931581673580,.glob 496),
 (1023794744691838156901,.glob 507),
 (1760544530309557704130984666020256138032345106671326991463587525742847236371984154725,.glob 514),
 (9612981408778448549581815020226458157178,.glob 521),
 (185942102856762856513533901019609072839983629043521499711003426931,.glob 528),
 (7342458555191242891958892766112051986301063771242170738138559260804354804992945416783922861178996,.glob 535),
 (1669481788483436251217174859928502880007059450518266362588207427393762603798208970868,.glob 542),
 (2166396110990877858342109298,.glob 549),
 (2166396110990877858360983654,.glob 556),
 (2166396110990877858356789365,.glob 563),
 (2166396110990877858346303605,.glob 570),
 (2166396110990877858346303590,.glob 577),
 (2166396110990877858356789350,.glob 584),
 (796070951692312360390269689525844039920358395823605342796668939534541042745446,.glob 591),
 (4543261936956741482360279006183525,.glob 598),
 (2166396110990877858363080819,.glob 605),
 (4543261936956741482461434078036083,.glob 612),
 (4543261936956741482417453612925045,.glob 619),
 (184296599084073006940123581111790356143859972200125746670255210613,.glob 626),
 (131640443049511950621145835791425495630481600691061554471659110502,.glob 666),
 (55709305588258617077625271068690687401455497900115774931013,.int (1)),
 (1373340791770433989554208870,.glob 715),
 (30305718468388713470375168475113755876309532034465894,.glob 757),
 (138222470694449752016525291040933948163913264751393295036548382822,.glob 798),
 (66694245223666405611796897805852394635318164730703582855270,.glob 838),
 (1669481788483377586373227135428482634750883526040548586159289557168244733006713978993,.glob 847),
 (128349432365587744235575259326852737554948794982663318696076771430,.glob 1042),
 (29183278966707542463443340519802634787988887067164757,.int (16777216)),
 (3123493129301561883089204200603764,.glob 1064),
 (75325261606399341041988625544509652055144040010874806599796,.glob 1069),
 (694752911569234332167926365387136489740575840447210005587143246548508275114100,.glob 1070),
 (75325261606399341041988625544509555340986237045405508436084,.glob 1071),
 (35917883685302420159334481022123930862433104167960692,.glob 1072),
 (35917883685302420159334481022123949309159585655816300,.glob 1077),
 (35917883685302420159334481022123949309216760256266360,.glob 1084),
 (75325261606399341041988625544509652055144040010874823376997,.glob 1089),
 (75325261606399341041988625544509594026732368637979158118505,.glob 1094),
 (157968523028383590864888530037919343567356547603382678006626517093,.glob 1101),
 (35917883685302420159334481022123930862459492447027305,.glob 1106),
 (331284004006020704349482710546081266071744623951718540087353359351152741,.glob 1113),
 (331284004006020704349482710546082286918885951276831260624083064987844709,.glob 1120),
 (157968523028383590864888530037918694530094488291135290548403830885,.glob 1125),
 (3055555618806416892335763987941267221792637146018787225576813882353750131393003799544070261,.glob 1130),
 (479387283619951,.bi .len),
 (83171641394645053340688463190127728163526360397882381566054,.bi .isinstance),
 (492581450416229,.bi .ord),
 (439804871311475,.bi .chr),
 (483785321742457,.bi .max),
 (483785338519663,.bi .min),
 (431008765706356,.bi .abs),
 (1060688232839280328819,.bi .repr),
 (431008786677869,.bi .all),
 (510173642752110,.bi .sum),
 (466193162961013,.bi .int),
 (1914939623521475680672940148,.bi .bytes),
 (37040319262051670588212425444020501272741962481401978,.bi .bytearray),
 (1005348018210344009845,.bi .list),
 (2263110222676983143397851238,.bi .tuple),
 (540959943164017,.bi .zip),
 (2224424411981865476608229478,.bi .range),
 (510173640654963,.bi .str)]
noncomputable def Nj(d:List AV):Stmt->FnI
 | .FunctionDef _ as b _ _ _ sc _ _ _=>cF glb (as.args.map (·.arg)) d sc b
 | _=>⟨[],[],[],[]⟩
noncomputable def o5:Stmt->List Stmt
 | .ClassDef _ _ _ b _ _ _ _ _ _ _=>b
 | _=>[]
noncomputable def ig:List Stmt->Nat->Stmt
 | s::_,0=>s
 | _::r,n+1=>ig r n
 | [],_=>.Pass ⟨0,0,0,0⟩
noncomputable def fD(i:Nat)(d:List AV):FnI:=Nj d (ig mr i)
noncomputable def mD(i j:Nat)(d:List AV):FnI:=Nj d (ig (o5 (ig mr i)) j)
noncomputable def fnL:List (Nat×FnI):=[
 (36,mD 4 0 [.none]),
 (83,fD 8 []),
 (90,fD 11 []),
 (97,fD 12 []),
 (112,mD 17 0 [.bool false,.int 3]),
 (133,mD 18 0 []),
 (154,mD 19 0 []),
 (175,mD 20 0 []),
 (210,mD 21 0 []),
 (224,fD 22 []),
 (231,fD 23 []),
 (238,fD 24 []),
 (246,fD 25 [.bool false]),
 (253,fD 26 []),
 (260,fD 27 []),
 (267,fD 28 []),
 (275,fD 29 [.bool false]),
 (282,fD 30 []),
 (289,fD 31 []),
 (296,fD 32 []),
 (303,fD 33 []),
 (310,fD 34 []),
 (317,fD 35 []),
 (366,fD 42 []),
 (373,fD 43 []),
 (380,fD 44 []),
 (387,fD 45 []),
 (394,fD 46 []),
 (408,mD 48 0 []),
 (415,mD 48 1 []),
 (423,mD 48 2 []),
 (430,mD 48 3 []),
 (437,mD 48 4 []),
 (444,mD 48 5 []),
 (465,mD 48 8 []),
 (486,mD 48 11 []),
 (493,mD 48 12 []),
 (507,fD 49 []),
 (514,fD 50 []),
 (521,fD 51 []),
 (528,fD 52 []),
 (535,fD 54 []),
 (542,fD 55 []),
 (549,fD 56 []),
 (556,fD 57 []),
 (563,fD 58 []),
 (570,fD 59 []),
 (577,fD 60 []),
 (584,fD 61 []),
 (591,fD 62 []),
 (598,fD 63 []),
 (605,fD 64 []),
 (612,fD 65 []),
 (619,fD 66 []),
 (626,fD 67 []),
 (861,mD 77 0 []),
 (868,mD 77 1 []),
 (919,mD 77 8 []),
 (982,mD 77 17 []),
 (1061,mD 80 0 [.int 500,.int 20,.int 250,.int 15,.int 31,.int 65535,.int 65535,.int 65535,.int 127,.int 1500,.int 11,.int 15,.int 600,.int 16777216]),
 (1077,fD 86 []),
 (1084,fD 87 []),
 (1089,fD 88 []),
 (1094,fD 89 []),
 (1101,fD 90 []),
 (1113,fD 92 []),
 (1120,fD 93 []),
 (1125,fD 94 []),
 (1130,fD 95 [])]
noncomputable def clsL:List (Nat×ClsI):=[
 (115,⟨112,false,[],[(996124646173478748261,.no),(2301795664437192947725762662,.no),(9017487428925754239966678003039533531236,.no),(3975354216597961124152627246923892,.no)]⟩),
 (136,⟨133,false,[],[(4502697214463632837895632474603635,.no),(4543261685500364693347776816218228,.no),(39659329125711092605818312794785943903839068973170797,.no),(2108367570192384407623434349,.no)]⟩),
 (157,⟨154,false,[],[(4502697214463632837895632474603635,.no),(4746085878250845509704760294375540,.no),(39659329125711092605818312794785943903839068973170797,.no),(2108367570192384407623434349,.no)]⟩),
 (192,⟨175,false,[],[(4502697214463632837895632474603635,.no),(1014571416635477852277,.no),(39659329125711092605818312794785943903839068973170797,.no),(2108367570192384407623434349,.no),(3975354216597961124152627246923892,.no),(8677204859181125939181893442046368153716,.no)]⟩),
 (213,⟨210,false,[],[(913114324230043861114,.no),(2243767400339711069062692981,.no),(1014571355062816211066,.no)]⟩),
 (496,⟨408,false,[],[(1014571355062816211066,.prop 415),(1042241559134321246313,.meth 423),(20159883697806213008692004937960117361218420845,.meth 430),(496979490635889,.meth 437),(205521013,.meth 444),(439804898574453,.meth 465),(20695100987076075685855562344840996988511060085,.meth 486),(20159883697806253573337126950946574765108756588,.meth 493),(1014571416635477852277,.no),(4746085878250845509704760294375540,.no)]⟩),
 (1042,⟨861,false,[],[(1914939439053977768981168239,.meth 868),(2263110195006801062116982886,.meth 919),(922337634694264258669,.meth 982),(4462132085771319675759843879157882,.no),(19981477310864441465111165765373942572674711668,.no),(1953625102175116457827893364,.no),(9868192697191031767480898927791731376243,.no),(4421567343935268790221828282908788,.no),(931561041915505803372,.no),(1992310728402824173805633652,.no),(492581456707701,.no),(4178178602776656089194212322443380,.no),(2263110038209480833651179622,.no),(4705521387871457337782758134513774,.no),(8847345961511860042093755891865236799604,.no),(1088358410522472743027,.no),(218103924,.no),(4218743441326947787892097298727020,.no),(4097048712905672618450736738467942,.no),(1992310783743065191058767988,.no),(43026626400439732106088934217424902738957273520930932,.no),(2243767400339728661244543092,.no),(4664956104436593147986707547684974,.no),(83171641394643269281242721193569799978605399089819559133288,.no),(83171641394643269281497933739492300878769889055161058328677,.no),(4746086071678902861020754893340787,.no),(4137613783569509545679740471345268,.no),(1992310654615887461400707189,.no),(8507063959674352472947364387866244284533,.no)]⟩),
 (1064,⟨1061,false,[],[(19981477310864441465111165765373942572674711668,.no),(1953625102175116457827893364,.no),(4178178602776656089194212322443380,.no),(2243767225095734727771422836,.no),(8847346245465691207273487708986745553012,.no),(1079134976913006657653,.no),(505775583658104,.no),(8677204859181125939181893442046368153716,.no),(1106805137004023513189,.no),(1042241471173393121385,.no),(931561006731133714537,.no),(1992310728402824173805633652,.no),(4705521387871457337782758134513774,.no),(249561198,.no)]⟩),
 (52,⟨36,true,[39],[(1079135020893446602853,.no)]⟩)]
noncomputable def gobL:List (Nat×List AV):=[
 (1069,[.str [101,113],.str [110,101],.str [103,116],.str [103,101],.str [108,116],.str [108,101],.str [97,110,100],.str [111,114],.str [120,111,114],.str [110,111,116],.str [98,105,116,115,104,105,102,116]]),
 (1070,[.int (0),.int (1),.int (-1),.int (2),.int (2147483647),.int (-2147483648),.int (6),.int (-7)]),
 (1071,[.int (0),.int (1000000),.int (-1000000),.int (500000),.int (2147483647000000),.int (2147483648000000),.int (1),.int (6000000)]),
 (1072,[.int (0),.int (1),.int (-1),.int (2147483647),.int (-2147483648),.int (252645135),.int (-5),.int (31),.int (-31),.int (32),.int (-32),.int (4),.int (-4),.int (1431655765)])]
noncomputable def cfg0:Cfg:=⟨fnL,clsL,gobL,[],false⟩
noncomputable def fiBoth:FnI:=fD 91 []
noncomputable def ze:FnI:=fD 96 []
noncomputable abbrev sq:Nat:=36
noncomputable abbrev EQ:Nat:=83
noncomputable abbrev z0:Nat:=90
noncomputable abbrev Ji:Nat:=97
noncomputable abbrev Ac:Nat:=112
noncomputable abbrev Bp:Nat:=133
noncomputable abbrev EY:Nat:=154
noncomputable abbrev sN:Nat:=175
noncomputable abbrev Bs:Nat:=210
noncomputable abbrev Jl:Nat:=224
noncomputable abbrev NG:Nat:=231
noncomputable abbrev Jm:Nat:=238
noncomputable abbrev NJ:Nat:=246
noncomputable abbrev sG:Nat:=253
noncomputable abbrev NK:Nat:=260
noncomputable abbrev NH:Nat:=267
noncomputable abbrev EP:Nat:=275
noncomputable abbrev Jk:Nat:=282
noncomputable abbrev EU:Nat:=289
noncomputable abbrev w7:Nat:=296
noncomputable abbrev Ab:Nat:=303
noncomputable abbrev EV:Nat:=310
noncomputable abbrev Fu:Nat:=317
noncomputable abbrev sH:Nat:=366
noncomputable abbrev xn:Nat:=373
noncomputable abbrev J6:Nat:=380
noncomputable abbrev xp:Nat:=387
noncomputable abbrev ER:Nat:=394
noncomputable abbrev Ad:Nat:=408
noncomputable abbrev Br:Nat:=415
noncomputable abbrev Bq:Nat:=423
noncomputable abbrev sM:Nat:=430
noncomputable abbrev EW:Nat:=437
noncomputable abbrev Fv:Nat:=444
noncomputable abbrev EX:Nat:=465
noncomputable abbrev sK:Nat:=486
noncomputable abbrev sL:Nat:=493
noncomputable abbrev NI:Nat:=507
noncomputable abbrev sE:Nat:=514
noncomputable abbrev Jj:Nat:=521
noncomputable abbrev z7:Nat:=528
noncomputable abbrev qT:Nat:=535
noncomputable abbrev sI:Nat:=542
noncomputable abbrev MG:Nat:=549
noncomputable abbrev MB:Nat:=556
noncomputable abbrev MC:Nat:=563
noncomputable abbrev ME:Nat:=570
noncomputable abbrev MF:Nat:=577
noncomputable abbrev MD:Nat:=584
noncomputable abbrev wZ:Nat:=591
noncomputable abbrev J5:Nat:=598
noncomputable abbrev MA:Nat:=605
noncomputable abbrev J3:Nat:=612
noncomputable abbrev J4:Nat:=619
noncomputable abbrev z8:Nat:=626
noncomputable abbrev pt:Nat:=861
noncomputable abbrev pn:Nat:=868
noncomputable abbrev pj:Nat:=919
noncomputable abbrev qU:Nat:=982
noncomputable abbrev xq:Nat:=1061
noncomputable abbrev Fs:Nat:=1077
noncomputable abbrev Fq:Nat:=1084
noncomputable abbrev ES:Nat:=1089
noncomputable abbrev ET:Nat:=1094
noncomputable abbrev Bn:Nat:=1101
noncomputable abbrev Ft:Nat:=1106
noncomputable abbrev Aa:Nat:=1113
noncomputable abbrev z9:Nat:=1120
noncomputable abbrev Bo:Nat:=1125
noncomputable abbrev sJ:Nat:=1130
noncomputable abbrev Ox:Nat:=1135
end
section
variable {o:Option AO} {P:Prop}
noncomputable section
open PySem
noncomputable def dD:List Nat:=[108,101,102,116]
noncomputable def bZ:List Nat:=[109,105,120,101,100]
noncomputable def aY:List Nat:=[116,121,112,101,99,104,101,99,107]
noncomputable def cu:List Nat:=[105,110,118,97,108,105,100,97,99,99,101,115,115]
noncomputable def wEq:List Nat:=[101,113]
noncomputable def wNe:List Nat:=[110,101]
noncomputable def wGt:List Nat:=[103,116]
noncomputable def wGe:List Nat:=[103,101]
noncomputable def wLt:List Nat:=[108,116]
noncomputable def wLe:List Nat:=[108,101]
noncomputable def Jq:List Nat:=[97,110,100]
noncomputable def wOr:List Nat:=[111,114]
noncomputable def Jp:List Nat:=[120,111,114]
noncomputable def Ke:List Nat:=[110,111,116]
noncomputable def pv:List Nat:=[98,105,116,115,104,105,102,116]
universe u
section
universe v
variable {β:Type v} {t:β} {P:Prop}
noncomputable def Jr(o:Option AO)(k:List AV->Option β):Option β:=match dR o with|some xs=>k xs|none=>none
theorem nR{xs:List AV}(h:dR o=some xs):o=some (.tup xs):=by
 rcases o with _|o
 ·cases h
 ·rcases o with⟨⟩<;>first|(rw[Oy h])|cases h
theorem Ak{k:List AV->Option β}(h:Jr o k=some t)(p:∀ xs,o=some (.tup xs)->k xs=some t->P):P:=by
 unfold Jr at h;rcases e:dR o with _|xs
 ·rw[e] at h;cases h
 ·rw[e] at h;exact p xs (nR e) h
end
noncomputable def xu{α β:Type}(p:α->β->Bool)(xs:List α):List β->Bool:=List.rec (motive:=λ J=>List β->Bool) (λ ys=>ys.isEmpty) (λ x J ih ys=>Rq ys false λ y t=>p x y&&ih t) xs
noncomputable def opB{α:Type}{β:Type u}(x:Option α)(f:α->β)(d:β):β:=QX x d f
theorem uh{α:Type}{x:Option α}{f:α->Bool}{d:Bool}(h:opB x f d=true)(p:∀ a,x=some a->f a=true->P)(q:d=true->P):P:=by
 rcases e:x with _|a
 ·rw[e] at h;exact q h
 ·rw[e] at h;exact p a e h
theorem KH{α:Type}{β:Type}{x:Option α}{f:α->Option β}{d:Option β}{t:β}(h:opB x f d=some t)(p:∀ a,x=some a->f a=some t->P)(q:d=some t->P):P:=by
 rcases e:x with _|a
 ·rw[e] at h;exact q h
 ·rw[e] at h;exact p a e h
noncomputable def Lp(v:AV):Bool:=(AV.casesOn v false ag ag ag ag ag ag ag ag ag ag ag ag false false ag (true) false aO ag)
theorem vz{v:AV}:Lp v=true->v=.an:=(AV.casesOn (motive_1:=λ v=>Lp v=true->v=.an) v nof (λ J=>nof) (λ J=>nof) (λ J=>nof) (λ J=>nof) (λ J=>nof) (λ J=>nof) (λ J=>nof) (λ J=>nof) (λ J=>nof) (λ J=>nof) (λ J=>nof) (λ J=>nof) nof nof (λ J=>nof) (λ J=>rfl) nof (λ J J J=>nof) (λ J=>nof))
noncomputable def DT(l:List (List Nat×AV))(k:AV->AV->Option Nat):Option Nat:=match l with
 | [p,q]=>ifK (au p.1 dD&&au q.1 bZ) (k p.2 q.2)
 | _=>none
noncomputable def ji(g:Sg)(d:Nat):Option Nat:=Fn (g.own.get d) λ b es=>ifK (!b) (DT es λ v w=>j6 v λ l=>ifK (Lp w&&Lv (g.own.get l)) (some l))
noncomputable def sf(as:List AV)(g:Sg):Option R:=E8 as λ x y=>j6 x λ d=>(Fb y).bind λ m=>(ji g d).bind λ J=>some (val (.rg m) g)
noncomputable def je(g:Sg)(w:Nat):Bool:=((g.frz.l[w]?).bind λ o=>(Aw o).bind λ n=>ifK (OC n 49) (some ())).isSome
noncomputable def gu(as:List AV)(g:Sg):Option R:=FN as λ x y z=>j6 x λ d=>nK y λ w=>ifK (Nf z) ((ji g d).bind λ J=>ifK (je g w) (some (ri g)))
noncomputable def yn(g:Sg)(i:Nat):Option (Nat×Nat):=(g.frz.l[i]?).bind Gw
noncomputable def thO(o:Option AO):Option Nat:=o.bind λ o=>(AO.casesOn o aa aa ae aa aa ae aa aa ae ae ae ae ae ae ah ae none ae aa none none none none aa ae (λ k=>some k) (λ k=>some k) (λ k b=>some k) (λ k=>some k) none)
noncomputable def thK(g:Sg)(j:Nat):Option Nat:=thO g.frz.l[j]?
noncomputable def dk(b:Bool)(g:Sg):R:=fj g (.tup [.str bq,.bool b])
noncomputable def vA(v:AV)(g:Sg):R:=fj g (.tup [.str bp,v])
noncomputable def um(g:Sg)(t k k':Nat)(f:Bool->Sg->R):R:=match P5 k k' with
 | true=>eK g t k k' f
 | false=>eK g t k' k f
noncomputable def gI(e:Bool)(k k':Nat)(g:Sg):R:=eK g 0 k k' λ t g=>match t with
 | true=>val (.str cu) g
 | false=>eK g 1 k k' λ b g=>dk (b==e) g
noncomputable def dm(k k' a b:Nat)(e:Bool)(g:Sg):R:=um g 2 k k' λ t g=>match t with
 | true=>val (.str aY) g
 |
  false=>um g 3 k k' λ t g=>match t with
  | true=>val (.str cu) g
  | false=>eK g 4 a b λ b g=>dk (b==e) g
noncomputable def py(w:List Nat)(k k':Nat)(g:Sg):Option R:=match au w wEq with
 | true=>some (gI true k k' g)
 |
  false=>match au w wNe with
  | true=>some (gI false k k' g)
  |
   false=>match au w wGt with
   | true=>some (dm k k' k' k true g)
   |
    false=>match au w wGe with
    | true=>some (dm k k' k k' false g)
    |
     false=>match au w wLt with
     | true=>some (dm k k' k k' true g)
     | false=>ifK (au w wLe) (some (dm k k' k' k false g))
noncomputable def nu(as:List AV)(g:Sg):Option R:=FN as λ x y z=>xd x λ w=>nK y λ i=>nK z λ j=>(yn g i).bind λ a=>(yn g j).bind λ b=>py w a.1 b.1 g
noncomputable def n9:Nat:=1079135020893446602853
noncomputable def j4(told:List Nat)(g:Sg):R:=g.new (.atd [(n9,.byt told)]) λ d g=>g.new (.exc 52 d) λ x g=>.leaf (.ex x,g)
noncomputable def vY(k k':Nat)(g:Sg):R:=eK g 0 k k' λ t g=>match t with
 | true=>j4 cu g
 | false=>eK g 1 k k' λ b g=>val (.bool b) g
noncomputable def nB(as:List AV)(g:Sg):Option R:=E8 as λ x y=>nK x λ i=>nK y λ j=>(thK g i).bind λ k=>(thK g j).bind λ k'=>some (vY k k' g)
noncomputable def C8(k k':Nat)(g:Sg):R:=um g 2 k k' λ t g=>match t with
 | true=>j4 aY g
 |
  false=>um g 3 k k' λ t g=>match t with
  | true=>j4 cu g
  | false=>eK g 4 k k' λ b g=>val (.bool b) g
noncomputable def wq(as:List AV)(g:Sg):Option R:=E8 as λ x y=>nK x λ i=>nK y λ j=>(thK g i).bind λ k=>(thK g j).bind λ k'=>some (C8 k k' g)
noncomputable def xA(w:List Nat):Option Nat:=match au w Jq with
 | true=>some 1
 |
  false=>match au w wOr with
  | true=>some 2
  |
   false=>match au w Jp with
   | true=>some 3
   |
    false=>match au w pv with
    | true=>some 4
    | false=>ifK (au w Ke) (some 5)
noncomputable def Mb(t:Nat)(a b:Bool)(g:Sg):R:=match t with
 | 1=>dk (a&&b) g
 | 2=>dk (a||b) g
 | 3=>dk (a != b) g
 | 4=>val (.str aY) g
 | _=>dk (!a) g
noncomputable def Ba(t:Nat)(o o':Option AO)(g:Sg):R:=opB (two (o.bind Fd) (o'.bind Fd)) (λ p=>vA (.ti t p.1 p.2) g) (opB (two (o.bind Fe) (o'.bind Fe)) (λ p=>Mb t p.1.2 p.2.2 g) (val (.str aY) g))
noncomputable def gw(as:List AV)(g:Sg):Option R:=FN as λ x y z=>xd x λ w=>nK y λ i=>nK z λ i'=>(yn g i).bind λ a=>(yn g i').bind λ b=>(xA w).bind λ t=>
 (thK g a.2).bind λ J=>(thK g b.2).bind λ J=>some (lf g a.2 λ o g=>lf g b.2 λ o' g=>Ba t o o' g)
noncomputable def gr(as:List AV)(g:Sg):Option R:=E8 as λ x y=>Jt x λ k=>Jt y λ k'=>some (val (.ti 4 k k') g)
noncomputable def Hm(o:Option AO):Bool:=(o.bind JC).isSome
theorem rO(h:Hm o=true):o=some .scr:=bB h λ J h=>aw h λ o e h=>by rw[e,ux h]
noncomputable def Ed(as:List AV)(g:Sg):Option R:=M2 as λ x=>nK x λ i=>ifK (Hm g.frz.l[i]?) (some (g.new .ila λ l g=>g.new (.dct false [(dD,.own l),(bZ,.an)]) λ d g=>val (.own d) g))
noncomputable def uJ:Nat:=19981477310864441465111165765373942572674711668
noncomputable def GR:Nat:=2263110038209480833651179622
noncomputable def KS:Nat:=4746086071678902861020754893340787
noncomputable def JH:Nat:=8507063959674352472947364387866244284533
noncomputable def lq:Nat:=1014571416635477852277
noncomputable def dU:Nat:=4746085878250845509704760294375540
noncomputable def rm:List (List Nat×AV):=[(wEq,.glob 549),(wNe,.glob 556),(wGt,.glob 570),(wGe,.glob 577),(wLt,.glob 563),(wLe,.glob 584),(Jq,.glob 598),(wOr,.glob 605),(Jp,.glob 612),(Ke,.glob 619),(pv,.glob 626)]
noncomputable def ND(v w:AV):Bool:=((two (dc v) (dc w)).bind λ p=>ifK (OC p.1 p.2) (some ())).isSome
noncomputable def BN:List (List Nat×AV)->List (List Nat×AV)->Bool:=xu λ p q=>au p.1 q.1&&ND p.2 q.2
noncomputable def Hn(o:Option AO):Bool:=opB (o.bind jI) (λ xs=>O0 xs.length 100000) (o.bind Ff).isSome
structure Mach where
 a:Nat
 st:Nat
 sa:Nat
 q:Nat
 t:Nat
noncomputable def dK(st t:Nat):bN:=[(4462132085771319675759843879157882,.any),(19981477310864441465111165765373942572674711668,.own st),(1953625102175116457827893364,.any),(9868192697191031767480898927791731376243,.any),(4421567343935268790221828282908788,.any),(931561041915505803372,.any),(1992310728402824173805633652,.any),(492581456707701,.any),(4178178602776656089194212322443380,.any),(2263110038209480833651179622,.own t),(4705521387871457337782758134513774,.any),(8847345961511860042093755891865236799604,.any),(1088358410522472743027,.any),(218103924,.any),(4218743441326947787892097298727020,.any),(4097048712905672618450736738467942,.any),(1992310783743065191058767988,.any),(43026626400439732106088934217424902738957273520930932,.any),(2243767400339728661244543092,.any),(4664956104436593147986707547684974,.any),(83171641394643269281242721193569799978605399089819559133288,.any),(83171641394643269281497933739492300878769889055161058328677,.any),(4746086071678902861020754893340787,.none),(4137613783569509545679740471345268,.any),(1992310654615887461400707189,.any),(8507063959674352472947364387866244284533,.any)]
noncomputable def i7(v:AV):Bool:=(AV.casesOn v true (λ J=>true) (λ J=>true) (λ J=>true) (λ J=>true) (λ J=>true) (λ J=>true) (λ J=>true) (λ J=>true) (λ J=>true) (λ J=>true) (λ J=>true) (λ J=>true) (false) true (λ J=>true) true true (λ J J J=>true) (λ J=>true))
noncomputable def JZ(x y:AV):Bool:=(AV.casesOn y (oF x) ag ag ag ag ag ag ag (λ j=>(j6 x λ i=>ifK (OC i j) (some ())).isSome) ag ag ag ag false (i7 x) ag false false aO ag)
noncomputable def Fm:bN->bN->Bool:=xu λ p q=>OC p.1 q.1&&JZ p.2 q.2
noncomputable def Kk{β:Type u}(es:bN)(k:Nat×AV->Nat×AV->Option β):Option β:=match es with | [p,q]=>k p q|_=>none
noncomputable def Lq(v:AV):Bool:=(Hw v λ i=>ifK (bJ i 20) (some ())).isSome
noncomputable def vp(g:Sg)(m:Nat):Option Mach:=Fj (g.own.get m) λ c a=>ifK (OC c 1042) (Fp (g.own.get a) λ es=>(aX uJ es).bind λ v=>j6 v λ st=>(aX GR es).bind λ w=>j6 w λ t=>ifK (Fm es (dK st t))
 (Fj (g.own.get st) λ c2 sa=>ifK (OC c2 496) (Fn (g.own.get t) λ b tab=>ifK (b&&BN tab rm) (Fp (g.own.get sa) λ e2=>Kk e2 λ p q=>ifK (OC p.1 lq&&OC q.1 dU&&Lq p.2) (j6 q.2 λ q=>ifK (Hn (g.own.get q)) (some ⟨a,st,sa,q,t⟩))))))
noncomputable def Ec(as:List AV)(g:Sg):Option R:=FN as λ x y z=>j6 x λ d=>j6 y λ m=>nK z λ w=>(ji g d).bind λ J=>(vp g m).bind λ M=>ifK (je g w) (some (g.new .lsA λ q g=>g.set M.q .dead λ g=>g.set M.sa (.atd [(lq,.int 20),(dU,.own q)]) λ g=>g.set M.a (.atd (dK M.st M.t)) λ g=>val (.bool true) g))
section
variable {as:List AV} {g:Sg} {t:R}
set_option tactic.hygienic true in
theorem Cp{y:AV}{m:Nat}(h:Fb y=some m):∃ k,m=k+1/\y=.int (.ofNat (k+1)):=by
 rcases y with⟨⟩<;>try cases h
 rename_i i
 rcases i with n|n
 ·rcases n with _|n
  ·cases h
  ·exact⟨n,(Oy h).symm,rfl⟩
 ·cases h
theorem wr(h:sf as g=some t):∃ i m l,as=[.own i,.int (.ofNat (m+1))]/\ji g i=some l/\val (.rg (m+1)) g=t:=
 bw λ G K=>l8 h λ x y ea h=>cj h λ i ex h=>aw h λ m1 em h=>aw h λ l e h=>(Cp em).elim λ m q=>K ⟨i,m,l,by rw[ea,ex,q.2],e,q.1▸Oy h⟩
theorem nz(h:gu as g=some t):∃ i w b l,as=[.own i,.frz w,.bool b]/\ji g i=some l/\je g w=true/\ri g=t:=
 bw λ G K=>pz h λ x y z ea h=>cj h λ i ex h=>dj h λ w ey h=>ay h λ ez h=>aw h λ l e h=>ay h λ ew h=>(vu ez).elim λ b q=>K ⟨i,w,b,l,by rw[ea,ex,ey,q],e,ew,Oy h⟩
theorem sd(h:nu as g=some t):∃ w i j a b,as=[.str w,.frz i,.frz j]/\yn g i=some a/\yn g j=some b/\py w a.1 b.1 g=some t:=
 bw λ G K=>pz h λ x y z ea h=>fU h λ w ex h=>dj h λ i ey h=>dj h λ j ez h=>aw h λ a e h=>aw h λ b e' h=>K ⟨w,i,j,a,b,by rw[ea,ex,ey,ez],e,e',h⟩
theorem se(h:nB as g=some t):∃ i j k k',as=[.frz i,.frz j]/\thK g i=some k/\thK g j=some k'/\vY k k' g=t:=
 bw λ G K=>l8 h λ x y ea h=>dj h λ i ex h=>dj h λ j ey h=>aw h λ a e h=>aw h λ b e' h=>K ⟨i,j,a,b,by rw[ea,ex,ey],e,e',Oy h⟩
theorem wo(h:wq as g=some t):∃ i j k k',as=[.frz i,.frz j]/\thK g i=some k/\thK g j=some k'/\C8 k k' g=t:=
 bw λ G K=>l8 h λ x y ea h=>dj h λ i ex h=>dj h λ j ey h=>aw h λ a e h=>aw h λ b e' h=>K ⟨i,j,a,b,by rw[ea,ex,ey],e,e',Oy h⟩
theorem nC(h:gw as g=some t):∃ w i i' a b tw,as=[.str w,.frz i,.frz i']/\yn g i=some a/\yn g i'=some b/\xA w=some tw/\(∃ m,thK g a.2=some m)/\(∃ m,thK g b.2=some m)/\(lf g a.2 λ o g=>lf g b.2 λ o' g=>Ba tw o o' g)=t:=
 bw λ G K=>pz h λ x y z ea h=>fU h λ w ex h=>dj h λ i ey h=>dj h λ j ez h=>aw h λ a e h=>aw h λ b e' h=>aw h λ tw ew h=>aw h λ m em h=>aw h λ m' em' h=>K ⟨w,i,j,a,b,tw,by rw[ea,ex,ey,ez],e,e',ew,⟨m,em⟩,⟨m',em'⟩,Oy h⟩
theorem ny(h:gr as g=some t):∃ k x k' y,as=[.ti 0 k x,.ti 0 k' y]/\val (.ti 4 k k') g=t:=
 bw λ G K=>l8 h λ x y ea h=>tu h λ k u ex h=>tu h λ k' w ey h=>K ⟨k,u,k',w,by rw[ea,ex,ey],Oy h⟩
theorem wu(h:Ed as g=some t):∃ i,as=[.frz i]/\g.frz.l[i]?=some .scr/\(g.new .ila λ l g=>g.new (.dct false [(dD,.own l),(bZ,.an)]) λ d g=>val (.own d) g)=t:=
 bw λ G K=>Gm h λ x ea h=>dj h λ i ex h=>ay h λ e h=>K ⟨i,by rw[ea,ex],rO e,Oy h⟩
theorem wt(h:Ec as g=some t):∃ i m w l M,as=[.own i,.own m,.frz w]/\ji g i=some l/\vp g m=some M/\je g w=true/\(g.new .lsA λ q g=>g.set M.q .dead λ g=>g.set M.sa (.atd [(lq,.int 20),(dU,.own q)]) λ g=>g.set M.a (.atd (dK M.st M.t)) λ g=>val (.bool true) g)=t:=
 bw λ G K=>pz h λ x y z ea h=>cj h λ i ex h=>cj h λ m ey h=>dj h λ w ez h=>aw h λ l e h=>aw h λ M eM h=>ay h λ ew h=>K ⟨i,m,w,l,M,by rw[ea,ex,ey,ez],e,eM,ew,Oy h⟩
end
noncomputable def Nx:List AV->Sg->Option R
 | [],g=>some (app g.frz.l [.wld 49] λ l=>val (.frz g.frz.l.length) ⟨g.own,g.n,⟨l,g.frz.nd,g.frz.facts⟩⟩)
 | _,_=>none
noncomputable def lim(b:Nat)(c:List AV->Sg->Option R):Nat->List AV->Sg->Option R:=λ d as g=>match P5 d b with
 | true=>c as g
 | false=>none
end
end
section
universe u
open PySem PySem.W PyProof.Rows
variable {ts:Array Value} {c d:Nat} {ot:Obj}
noncomputable def Cx.into(X:Cx)(out:List Addr)(h0:Heap):Cx:={ X with out:=out,h0:=h0 }
noncomputable def isNs(o:Option AO):Bool:=(o.bind oNs).isSome
noncomputable def NT(V:Va)(σ:Sg)(i:Nat):Option Addr:=match isNs (σ.own.get i) with
 | true=>V.ρ[i]?
 | false=>none
noncomputable def dq(V:Va)(σ:Sg):List Addr:=(Sd σ.n).filterMap (NT V σ)
structure InK(X:Cx)(V:Va)(σ:Sg)(s:Shared)(ρ₂:List Addr)(b:Addr)(o:Obj):Prop where
 g:s.heap.get? b=some o
 nr:b∉ρ₂
 no:b∉X.out
 nn:b∉dq V σ
noncomputable def inK(X:Cx)(V:Va)(σ:Sg)(s:Shared)(ρ₂:List Addr):Addr->Obj->Prop:=InK X V σ s ρ₂
noncomputable def Va.pushL(V:Va)(l:List Addr):Va:=⟨V.ρ++l,V.φ,V.K,V.ds⟩
theorem Va.le_pushL(V:Va)(l:List Addr):V.Le (V.pushL l):=⟨λ {i b} e=>(OT (OJ.mp e).1).trans e,id,id,id⟩
theorem All2.of_at{α β:Type}{P:α->β->Prop}{xs:List α}{ys:List β}(h:All2 P xs ys){i:Nat}{y:β}(e:ys[i]?=some y):∃ x,xs[i]?=some x/\P x y:=by
 induction h generalizing i with
 | nil=>exact am e
 |
  @cons x _ _ _ a _ ih=>
  rcases i with _|i
  ·obtain rfl:=Oy e;exact⟨x,rfl,a⟩
  ·exact ih e
structure HndAt(V:Va)(σ:Sg)(i:Nat)(a:Addr):Prop where
 r:V.ρ[i]?=some a
 l:σ.live i
 ns:∀ es,σ.own.get i≠some (.ns es)
 ex:∀ c d,σ.own.get i≠some (.exc c d)
structure Hand(X:Cx)(V:Va)(σ:Sg)(s:Shared)(hnd:List Nat)(V₂:Va)(σ₂:Sg):Prop where
 lenO:V₂.ρ.length=σ₂.n
 at_:All2 (HndAt V σ) hnd V₂.ρ
 nodup:hnd.Nodup
 top:∀ i,σ₂.n<=i->σ₂.own.get i=none
 big:σ₂.n<=100000
 own:∀ (j:Nat) o,σ₂.own.get j=some o->o≠.dead->OwnAt X V₂ s.heap j o
 noex:∀ (j:Nat) c d,σ₂.own.get j≠some (.exc c d)
 K:V₂.K=inK X V σ s V₂.ρ
 lenF:V₂.φ.length=σ₂.frz.l.length
 frz:∀ (j:Nat) o,σ₂.frz.l[j]?=some o->FrzAt X V₂ j o
 lenD:V₂.ds.length=σ₂.frz.nd
 dsok:∀ (i:Nat) (d:Desc),V₂.ds[i]?=some d->d.OK
 facts:∀ t i j b,(t,i,j,b)∈σ₂.frz.facts->∃ d e,V₂.ds[i]?=some d/\V₂.ds[j]?=some e/\Desc.ask t d e=b
section
variable {V V₂ V₂':Va} {σ σ₂ σ₂':Sg} {s s':Shared} {hnd:List Nat}
theorem cp(H:St X V σ s){a:Addr}:a∈dq V σ ↔ ∃ (i:Nat) (es:bN),σ.own.get i=some (.ns es)/\V.ρ[i]?=some a:=by
 refine List.mem_filterMap.trans ⟨λ q=>q.elim λ i q=>?_,λ q=>q.rec λ i es q=>⟨i,List.mem_range.mpr (H.lt q.1),?_⟩⟩
 ·have h:(match isNs (σ.own.get i) with
   | true=>V.ρ[i]?
   | false=>none)=some a:=q.2
  rcases e:isNs (σ.own.get i) with _|_
  ·rw[e] at h;exact am h
  ·rw[e] at h;exact bB e λ es e=>⟨i,es,vw Cz e,h⟩
 ·show(match isNs (σ.own.get i) with
   | true=>V.ρ[i]?
   | false=>none)=some a
  rw[q.1];exact q.2
theorem pX(H:St X V σ s){i:Nat}{a:Addr}(l:σ.live i)(e:V.ρ[i]?=some a)(n:∀ es,σ.own.get i≠some (.ns es)):a∉dq V σ:=λ q=>
 ((cp H).mp q).rec λ i' es q=>n es (H.nodup i' i a ⟨_,q.1,nofun⟩ l q.2 e▸q.1)
theorem St.toK(H:St X V σ s)(h:Hand X V σ s hnd V₂ σ₂){b:Addr}{o:Obj}(k:V.K b o):inK X V σ s V₂.ρ b o:=
 ⟨H.stays b o k,λ q=>(PZ q).elim λ j hj=>(h.at_.of_at hj).elim λ i r=>H.nb i b r.2.l r.2.r o k,λ q=>(H.soft b q).rec λ J J n=>n.3 o k,λ q=>((cp H).mp q).rec λ i es e=>H.nb i b ⟨_,e.1,nofun⟩ e.2 o k⟩
theorem Hand.k(h:Hand X V σ s hnd V₂ σ₂){b:Addr}{o:Obj}(k:V₂.K b o):InK X V σ s V₂.ρ b o:=Eq.mp (congrFun (congrFun h.K b) o) k
theorem St.into(H:St X V σ s)(h:Hand X V σ s hnd V₂ σ₂):St (X.into (X.out++dq V σ) s.heap) V₂ σ₂ s where
 lenO:=h.lenO
 lenF:=h.lenF
 top:=h.top
 big:=h.big
 own:=h.own
 nodup:=λ j j' a J J e e'=>(h.at_.of_at e).elim λ i q=>(h.at_.of_at e').elim λ i' q'=>
  (Sp (OJ.mp q.1).1 h.nodup).mp (q.1.trans ((H.nodup i i' a q.2.l q'.2.l q.2.r q'.2.r)▸q'.1.symm))
 nb:=λ j a J e o k=>(h.k k).nr (O9 e)
 nout:=λ j a J e q=>(h.at_.of_at e).elim λ i r=>(RM.mp q).elim (H.nout i a r.2.l r.2.r) (pX H r.2.l r.2.r r.2.ns)
 stays:=λ b o k=>(h.k k).g
 frz:=h.frz
 soft:=λ L hL=>(RM.mp hL).elim (λ q=>(H.soft L q).rec λ o sl e=>⟨{ o with slots:=sl },sl,e.4,e.2,λ o' k=>(h.k k).no q,e.4⟩)
  λ q=>((cp H).mp q).rec λ i es f=>(H.own i _ f.1 nofun).rec λ a ob g=>by
   obtain rfl:=Oy (f.2.symm.trans g.1);exact g.3.rec λ ents n w=>⟨ob,ob.slots,g.2,λ vs e=>Data.noConfusion (w.1.symm.trans e),λ o' k=>(h.k k).nn q,g.2⟩
 exc:=λ j c d a e=>absurd e (h.noex j c d)
 gens:=H.gens
 os:=H.os
 lenD:=h.lenD
 base:=λ b o e=>Eq.mpr (congrFun (congrFun h.K b) o) (H.toK h (H.base b o e))
 hi:=H.hi
 low:=λ j a J e=>(h.at_.of_at e).elim λ i r=>H.low i a r.2.l r.2.r
 dsok:=h.dsok
 facts:=h.facts
structure Fresh(X:Cx)(V:Va)(σ:Sg)(s:Shared)(a:Addr):Prop where
 live:∀ i,σ.live i->V.ρ[i]?≠some a
 nk:∀ o,¬ V.K a o
 out:a∉X.out
 low:(a==Rg)=false
 far:∀ (j:Nat) c d b ob vs t,σ.own.get j=some (.exc c d)->V.ρ[j]?=some b->s.heap.get? b=some ob->ob.data=.fields vs->vs[1]?=some (.ref t)->t≠a
structure Back(X:Cx)(V:Va)(σ:Sg)(hnd nw:List Nat)(nwA:List Addr)(V₂':Va)(σ₂' σ':Sg):Prop where
 adr:All2 (λ j a=>V₂'.ρ[j]?=some a) nw nwA
 new:∀ j∈nw,hnd.length<=j
 nodup:nw.Nodup
 n:σ'.n=σ.n+nw.length
 big:σ'.n<=100000
 frz:σ'.frz=σ.frz
 old:∀ i,i<σ.n->i∉hnd->σ'.own.get i=σ.own.get i
 top:∀ i,σ.n+nw.length<=i->σ'.own.get i=none
 hh:∀ (j i:Nat),hnd[j]?=some i->∀ o,σ'.own.get i=some o->o≠.dead->∃ o₂,σ₂'.own.get j=some o₂/\o₂≠.dead/\(∀ c d,o≠.exc c d)/\∀ ob,DenO X false V₂' ob o₂->DenO X false (V.pushL nwA) ob o
 hn:∀ (k j:Nat),nw[k]?=some j->∀ o,σ'.own.get (σ.n+k)=some o->o≠.dead->∃ o₂,σ₂'.own.get j=some o₂/\o₂≠.dead/\(∀ c d,o=.exc c d->∃ d',o₂=.exc c d')/\∀ ob,DenO X false V₂' ob o₂->DenO X false (V.pushL nwA) ob o
structure Bk(X:Cx)(V V₂ V₂':Va)(σ σ₂ σ₂' σ':Sg)(s s':Shared)(hnd nw:List Nat)(nwA:List Addr):Prop where
 H:St X V σ s
 h:Hand X V σ s hnd V₂ σ₂
 le:V₂.Le V₂'
 H':St (X.into (X.out++dq V σ) s.heap) V₂' σ₂' s'
 B:Back X V σ hnd nw nwA V₂' σ₂' σ'
section
variable {nw:List Nat} {nwA:List Addr} {σ':Sg} (Z:Bk X V V₂ V₂' σ σ₂ σ₂' σ' s s' hnd nw nwA) {i j k:Nat} {a b t:Addr} {o:AO} {ob:Obj} {P:Prop}
include Z
theorem Bk.kk(q:inK X V σ s V₂.ρ b ob):V₂'.K b ob:=Z.le.K (Eq.mpr (congrFun (congrFun Z.h.K b) ob) q)
theorem Bk.kV(q:V.K b ob):V₂'.K b ob:=Z.kk (Z.H.toK Z.h q)
theorem Bk.hat(l:σ.live i)(n:i∉hnd)(e:V.ρ[i]?=some a):a∉V₂.ρ:=λ q=>
 (PZ q).elim λ j hj=>(Z.h.at_.of_at hj).elim λ i' r=>n (Z.H.nodup i' i a r.2.l l r.2.r e▸O9 r.1)
theorem Bk.old(e:σ.own.get i=some o)(nd:o≠.dead)(n:i∉hnd)(ea:V.ρ[i]?=some a)(eh:s.heap.get? a=some ob)(p:∀ es,o=.ns es->P)(q:V₂'.K a ob->P):P:=by
 by_cases w:∃ es,o=.ns es
 ·exact w.elim p
 ·exact q (Z.kk ⟨eh,Z.hat ⟨o,e,nd⟩ n ea,Z.H.nout i a ⟨o,e,nd⟩ ea,pX Z.H ⟨o,e,nd⟩ ea λ es r=>w ⟨es,Oy (e.symm.trans r)⟩⟩)
theorem Bk.adrN(e:nw[k]?=some j):∃ a,(V.pushL nwA).ρ[σ.n+k]?=some a/\V₂'.ρ[j]?=some a:=(Z.B.adr.at_ e).imp λ a r=>⟨by
 show(V.ρ++nwA)[σ.n+k]?=some a;rw[OL (Z.H.lenO▸Pu _ _),Z.H.lenO,PY];exact r.1,r.2⟩
theorem Bk.adrH(e:hnd[j]?=some i):∃ a,V.ρ[i]?=some a/\V₂'.ρ[j]?=some a/\σ.live i:=(Z.h.at_.at_ e).elim λ a r=>⟨a,r.2.r,Z.le.ρ r.1,r.2.l⟩
theorem Bk.was(k:i<σ.n)(e:(V.pushL nwA).ρ[i]?=some a):V.ρ[i]?=some a:=(OT (Z.H.lenO.symm▸k)).symm.trans e
theorem Bk.kind(e:σ'.own.get i=some o)(p:i<σ.n->i∉hnd->σ.own.get i=some o->P)(q:∀ j:Nat,hnd[j]?=some i->P)(r:∀ k j:Nat,nw[k]?=some j->i=σ.n+k->P):P:=by
 by_cases c:i<σ.n
 ·by_cases c2:i∈hnd
  ·exact(PZ c2).elim q
  ·exact p c c2 ((Z.B.old i c c2).symm.trans e)
 ·have c:=PQ.mp c;have c3:i-σ.n<nw.length:=Nat.sub_lt_left_of_lt_add c (Nat.lt_of_not_le λ c3=>am ((Z.B.top i c3).symm.trans e));exact r (i-σ.n) _ (PT c3) (Tf c).symm
theorem Bk.lv(l:σ'.live i)(ea:(V.pushL nwA).ρ[i]?=some a)(p:i∉hnd->σ.live i->V.ρ[i]?=some a->P)(q:∀ j:Nat,σ₂'.live j->V₂'.ρ[j]?=some a->(hnd[j]?=some i\/∃ k,nw[k]?=some j/\i=σ.n+k)->P):P:=
 l.elim λ o r=>Z.kind r.1 (λ k1 k2 k3=>p k2 ⟨o,k3,r.2⟩ (Z.was k1 ea)) (λ j hj=>(Z.B.hh j i hj o r.1 r.2).rec λ o₂ g=>(Z.adrH hj).rec λ a' f=>
  q j ⟨o₂,g.1,g.2⟩ (Oy (((V.le_pushL nwA).ρ f.1).symm.trans ea)▸f.2) (.inl hj))
  λ k j hk e=>(Z.B.hn k j hk o (e▸r.1) r.2).rec λ o₂ g=>(Z.adrN hk).elim λ a' f=>q j ⟨o₂,g.1,g.2⟩ (Oy (f.1.symm.trans (e▸ea))▸f.2) (.inr ⟨k,hk,e⟩)
theorem Bk.nsMem{es:bN}(e:σ.own.get i=some (.ns es))(ea:V.ρ[i]?=some a):a∈X.out++dq V σ:=SJ _ ((cp Z.H).mpr ⟨i,es,e,ea⟩)
theorem Bk.apart(l:σ.live i)(n:i∉hnd)(ea:V.ρ[i]?=some a)(l':σ₂'.live j)(ea':V₂'.ρ[j]?=some a):False:=
 l.elim λ o r=>(Z.H.own i o r.1 r.2).rec λ a' ob x=>Z.old r.1 r.2 n ea (Oy (x.1.symm.trans ea)▸x.2) (λ es e=>Z.H'.nout j a l' ea' (Z.nsMem (e▸r.1) ea)) (Z.H'.nb j a l' ea' _)
theorem Bk.trc(a1:∀ i:Nat,σ.live i->V.ρ[i]?≠some t)(a2:s.heap.get? t=some ot)(a3:ot.data=.fields ts):V₂'.K t ot:=
 Z.kk ⟨a2,λ q=>(PZ q).elim λ j hj=>(Z.h.at_.of_at hj).elim λ i r=>a1 i r.2.l r.2.r,λ q=>(Z.H.soft t q).rec λ o sl y=>by
  obtain rfl:=Oy (y.4.symm.trans a2);exact y.2 _ a3,λ q=>((cp Z.H).mp q).rec λ i es f=>a1 i ⟨_,f.1,nofun⟩ f.2⟩
theorem Bk.trcB(a1:∀ j:Nat,σ₂'.live j->V₂'.ρ[j]?≠some t)(a2:s'.heap.get? t=some ot)(a3:ot.data=.fields ts)(a4:∀ o,¬ V₂'.K t o)(i:Nat)(l:σ'.live i)(e:(V.pushL nwA).ρ[i]?=some t):False:=
 Z.lv l e (λ k2 l k4=>l.elim λ o r=>(Z.H.own i o r.1 r.2).rec λ a' ob x=>Z.old r.1 r.2 k2 k4 (Oy (x.1.symm.trans k4)▸x.2) (λ es q=>(Z.H'.soft t (Z.nsMem (q▸r.1) k4)).rec λ o' sl y=>by
  obtain rfl:=Oy (y.4.symm.trans a2);exact y.2 _ a3) (a4 _)) λ j l1 l2 J=>a1 j l1 l2
theorem Bk.own(e:σ'.own.get i=some o)(nd:o≠.dead):OwnAt X (V.pushL nwA) s'.heap i o:=
 Z.kind e (λ k1 k2 k3=>(Z.H.own i o k3 nd).rec λ a ob x=>Z.old k3 nd k2 x.1 x.2 (λ es q=>(Z.H'.soft a (Z.nsMem (q▸k3) x.1)).rec λ o' sl y=>by
  obtain rfl:=Oy (x.2.symm.trans (y.1:s.heap.get? a=some o'));subst q;exact⟨a,_,(V.le_pushL nwA).ρ x.1,y.4,(x.3.mono (V.le_pushL nwA):DenO X false (V.pushL nwA) ob (.ns es))⟩) λ kq=>⟨a,ob,(V.le_pushL nwA).ρ x.1,Z.H'.stays a ob kq,x.3.mono (V.le_pushL nwA)⟩)
  (λ j hj=>(Z.B.hh j i hj o e nd).rec λ o₂ g=>(Z.adrH hj).rec λ a' f=>(Z.H'.own j o₂ g.1 g.2).rec λ a ob x=>⟨a,ob,Oy (f.2.symm.trans x.1)▸(V.le_pushL nwA).ρ f.1,x.2,g.4 ob x.3⟩)
  λ k j hk q=>(Z.B.hn k j hk o (q▸e) nd).rec λ o₂ g=>(Z.adrN hk).elim λ a' f=>(Z.H'.own j o₂ g.1 g.2).rec λ a ob x=>⟨a,ob,q▸Oy (f.2.symm.trans x.1)▸f.1,x.2,g.4 ob x.3⟩
theorem Bk.same(l:σ₂'.live j){j' i':Nat}(l':σ₂'.live j')(e:V₂'.ρ[j]?=some a)(e':V₂'.ρ[j']?=some a)(w:hnd[j]?=some i\/∃ k,nw[k]?=some j/\i=σ.n+k)(w':hnd[j']?=some i'\/∃ k,nw[k]?=some j'/\i'=σ.n+k):i=i':=by
 obtain rfl:=Z.H'.nodup j j' a l l' e e';have ap:∀ {i k:Nat},hnd[j]?=some i->nw[k]?=some j->False:=λ p q=>absurd (Z.B.new j (O9 q)) (Nat.not_le.mpr (OJ.mp p).1);exact w.elim (λ w=>w'.elim (λ w'=>Oy (w.symm.trans w')) λ q=>q.elim λ k q=>(ap w q.1).elim) λ p=>w'.elim (λ w'=>p.elim λ k p=>(ap w' p.1).elim) λ q=>p.elim λ k p=>q.elim λ k' q=>
  p.2.trans ((congrArg (σ.n+·) ((Sp (OJ.mp p.1).1 Z.B.nodup).mp (p.1.trans q.1.symm))).trans q.2.symm)
theorem Bk.exc(e:σ'.own.get i=some (.exc c d))(ea:(V.pushL nwA).ρ[i]?=some a):Traced6 (V.pushL nwA) σ' s'.heap a:=
 Z.kind e (λ k1 k2 k3=>(Z.H.exc i c d a k3 (Z.was k1 ea)).rec λ ob vs x=>Z.old k3 nofun k2 (Z.was k1 ea) x.1 (λ es q=>nomatch q) λ kq=>
  ⟨ob,vs,Z.H'.stays _ _ kq,x.2,x.3,x.4.imp_right (E3.imp λ t ot ts a=>⟨a.1,λ i l e=>Z.lv l e (λ J k3 k4=>a.2 i k3 k4) λ j k1 k2 J=>Z.H'.nb j t k1 k2 _ (Z.trc a.2 a.3 a.4),Z.H'.stays _ _ (Z.trc a.2 a.3 a.4),a.4,a.5,a.6⟩)⟩)
  (λ j hj=>(Z.B.hh j i hj _ e nofun).rec λ J q=>absurd rfl (q.3 c d))
  λ k j hk q=>(Z.B.hn k j hk (.exc c d) (q▸e) nofun).rec λ o₂ g=>(g.3 c d rfl).elim λ d' r=>(Z.adrN hk).elim λ a' f=>
   (Z.H'.exc j c d' a (r▸g.1) (Oy (f.1.symm.trans (q▸ea))▸f.2)).rec λ ob vs x=>⟨ob,vs,x.1,x.2,x.3,x.4.imp_right (E3.imp λ t ot ts a=>⟨a.1,Z.trcB a.2 a.3 a.4 a.6,a.3,a.4,a.5,λ o q=>a.6 o (Z.kV q)⟩)⟩
theorem Bk.st:St X (V.pushL nwA) σ' s' where
 lenO:=(OW).trans (by rw[Z.H.lenO,Z.B.n,Z.B.adr.length])
 lenF:=Z.B.frz.symm▸Z.H.lenF
 top:=λ i q=>Z.B.top i (Z.B.n▸q)
 big:=Z.B.big
 own:=λ i o=>Z.own
 nodup:=λ i i' a l l' e e'=>Z.lv l e (λ k2 k3 k4=>Z.lv l' e' (λ J m3 m4=>Z.H.nodup i i' a k3 m3 k4 m4) λ j m1 m2 J=>(Z.apart k3 k2 k4 m1 m2).elim) λ j k1 k2 w=>Z.lv l' e' (λ m2 m3 m4=>(Z.apart m3 m2 m4 k1 k2).elim) λ j' m1 m2 w'=>Z.same k1 m1 k2 m2 w w'
 nb:=λ i a l e o k=>Z.lv l e (λ J k3 k4=>Z.H.nb i a k3 k4 o k) λ j k1 k2 J=>Z.H'.nb j a k1 k2 o (Z.kV k)
 nout:=λ i a l e q=>Z.lv l e (λ J k3 k4=>Z.H.nout i a k3 k4 q) λ j k1 k2 J=>Z.H'.nout j a k1 k2 (QS _ q)
 stays:=λ b o k=>Z.H'.stays b o (Z.kV k)
 frz:=λ j o e=>(Z.H.frz j o (Z.B.frz▸e)).mono (V.le_pushL nwA)
 soft:=λ L hL=>(Z.H.soft L hL).rec λ o sl x=>(Z.H'.soft L (QS _ hL)).rec λ o' sl' y=>by
  obtain rfl:=Oy ((y.1:s.heap.get? L=some o').symm.trans x.4);exact⟨o,sl',x.1,x.2,x.3,y.4⟩
 exc:=λ i c d a=>Z.exc
 gens:=Z.H'.gens
 os:=Z.H'.os
 lenD:=Z.B.frz.symm▸Z.H.lenD
 base:=Z.H.base
 hi:=Z.H.hi
 low:=λ i a l e=>Z.lv l e (λ J k3 k4=>Z.H.low i a k3 k4) λ j k1 k2 J=>Z.H'.low j a k1 k2
 dsok:=Z.H.dsok
 facts:=Z.B.frz.symm▸Z.H.facts
theorem Bk.far(l:σ₂'.live j)(ea:V₂'.ρ[j]?=some a){vs:Array Value}(e:σ'.own.get i=some (.exc c d))(eb:(V.pushL nwA).ρ[i]?=some b)(eo:s'.heap.get? b=some ob)(ed:ob.data=.fields vs)(et:vs[1]?=some (.ref a)):False:=
 have fin:∀ {t:Addr},vs[1]?=some (.ref t)->t=a:=λ r=>Qo (Oy (r.symm.trans et))
 Z.kind e (λ k1 k2 k3=>(Z.H.exc i c d b k3 (Z.was k1 eb)).rec λ ob' vs' x=>Z.old k3 nofun k2 (Z.was k1 eb) x.1 (λ es q=>nomatch q) λ kq=>by
  obtain rfl:=Oy ((Z.H'.stays _ _ kq).symm.trans eo);obtain rfl:=RU (x.2.symm.trans ed);exact x.4.elim (λ q=>Value.noConfusion (Oy (q.symm.trans et))) λ q=>q.rec λ t ot ts q=>Z.H'.nb j a l ea _ (fin q.1▸Z.trc q.2 q.3 q.4))
  (λ j hj=>(Z.B.hh j i hj _ e nofun).rec λ J q=>absurd rfl (q.3 c d))
  λ k j' hk q=>(Z.B.hn k j' hk (.exc c d) (q▸e) nofun).rec λ o₂ g=>(g.3 c d rfl).elim λ d' r=>(Z.adrN hk).elim λ a' f=>
   (Z.H'.exc j' c d' b (r▸g.1) (Oy (f.1.symm.trans (q▸eb))▸f.2)).rec λ ob' vs' x=>by
    obtain rfl:=Oy (x.1.symm.trans eo);obtain rfl:=RU (x.2.symm.trans ed);exact x.4.elim (λ q=>Value.noConfusion (Oy (q.symm.trans et))) λ q=>q.rec λ t ot ts q=>q.2 j l (fin q.1▸ea)
theorem Bk.fresh(l:σ₂'.live j)(hj:hnd.length<=j)(hjn:j∉nw)(ea:V₂'.ρ[j]?=some a):Fresh X (V.pushL nwA) σ' s' a where
 live:=λ i l' e=>Z.lv l' e (λ k2 k3 k4=>Z.apart k3 k2 k4 l ea) λ j' k1 k2 w=>by
  obtain rfl:=Z.H'.nodup j j' a l k1 ea k2;exact w.elim (λ k3=>absurd hj (Nat.not_le.mpr (OJ.mp k3).1)) λ q=>q.elim λ k q=>hjn (O9 q.1)
 nk:=λ o k=>Z.H'.nb j a l ea o (Z.kV k)
 out:=λ q=>Z.H'.nout j a l ea (QS _ q)
 low:=Z.H'.low j a l ea
 far:=λ i c d b ob vs t e eb eo ed et q=>Z.far l ea e eb eo ed (q▸et)
theorem Bk.keep:Keep σ σ':=⟨λ i es e=>⟨es,(Z.B.old i (Z.H.lt e) λ q=>(PZ q).elim λ j hj=>(Z.h.at_.at_ hj).elim λ a r=>r.2.ns es e).trans e⟩,
 λ i c d e=>(Z.B.old i (Z.H.lt e) λ q=>(PZ q).elim λ j hj=>(Z.h.at_.at_ hj).elim λ a r=>r.2.ex c d e).trans e⟩
end
theorem St.back(H:St X V σ s)(h:Hand X V σ s hnd V₂ σ₂)(hle:V₂.Le V₂')(H':St (X.into (X.out++dq V σ) s.heap) V₂' σ₂' s'){nw:List Nat}{nwA:List Addr}{σ':Sg}(B:Back X V σ hnd nw nwA V₂' σ₂' σ') :
 St X (V.pushL nwA) σ' s'/\Keep σ σ'/\V.Le (V.pushL nwA)/\∀ (j:Nat) a,σ₂'.live j->hnd.length<=j->j∉nw->V₂'.ρ[j]?=some a->Fresh X (V.pushL nwA) σ' s' a:=
 have Z:Bk X V V₂ V₂' σ σ₂ σ₂' σ' s s' hnd nw nwA:=⟨H,h,hle,H',B⟩
 ⟨Z.st,Z.keep,V.le_pushL nwA,λ J J=>Z.fresh⟩
end
end
section
universe u
open PySem PySem.W PyProof.Rows
variable {x:AV} {a:Addr} {b:Bool} {k:Bool->Sg->R} {es es':bN} {xs:List AV} {l:List Bool} {vs:List Value} {d d' i:Nat} {ob:Obj} {p:Out×Sg->Bool} {t:R}
section
variable {V V' V₂ V₂':Va} {σ σ' σ₂ σ₂':Sg} {s s':Shared} {hnd:List Nat} {Φ Φ₂:Out×Sg->Prop} {K:Frag} {glb:List (Nat×AV)}
noncomputable def Tr.All:Tr->(Nat->Nat)->(Nat->AO->Prop)->Prop
 | .nil,_,_=>True
 | .nd v l r,f,P=>(∀ o,v=some o->P (f 0) o)/\Tr.All l (λ i=>f (2*i+1)) P/\Tr.All r (λ i=>f (2*i+2)) P
theorem Lw(q:i≠0)(q2:i%2≠1):2*(i/2-1)+2=i:=(congrArg (2*·) (Nat.sub_add_cancel (eT q q2).2)).trans (eT q q2).1.symm
theorem Tr.all_get{P:Nat->AO->Prop}{t:Tr}{f:Nat->Nat}(h:Tr.All t f P){o:AO}(e:t.get i=some o):P (f i) o:=by
 induction t generalizing f i with
 | nil=>exact am ((Tr.get_nil i).symm.trans e)
 |
  nd v l r ihl ihr=>
  rw[Tr.get_nd] at e;by_cases q:i=0
  ·subst q;rw[if_pos rfl] at e;exact h.1 o e
  ·rw[if_neg q] at e;by_cases q2:i%2=1
   ·rw[if_pos q2] at e;have:=ihl h.2.1 e;rw[show 2*(i/2)+1=i from(congrArg (2*(i/2)+·) q2.symm).trans (RS i 2)] at this;exact this
   ·rw[if_neg q2] at e;have:=ihr h.2.2 e;rw[Lw q q2] at this;exact this
structure HandO(X:Cx)(s:Shared)(V₂:Va)(n j:Nat)(o:AO):Prop where
 lt:j<n
 ne:∀ c d,o≠.exc c d
 at_:OwnAt X V₂ s.heap j o
theorem Hand.of(lenO:V₂.ρ.length=σ₂.n)(at_:All2 (HndAt V σ) hnd V₂.ρ)(nodup:hnd.Nodup)(big:σ₂.n<=100000)
 (own:Tr.All σ₂.own (λ i=>i) (HandO X s V₂ σ₂.n)) (K:V₂.K=inK X V σ s V₂.ρ) (lenF:V₂.φ.length=σ₂.frz.l.length)
 (frz:∀ (j:Nat) o,σ₂.frz.l[j]?=some o->FrzAt X V₂ j o) (lenD:V₂.ds.length=σ₂.frz.nd)
 (dsok:∀ (i:Nat) (d:Desc),V₂.ds[i]?=some d->d.OK) (facts:∀ t i j b,(t,i,j,b)∈σ₂.frz.facts->∃ d e,V₂.ds[i]?=some d/\V₂.ds[j]?=some e/\Desc.ask t d e=b):Hand X V σ s hnd V₂ σ₂ where
 lenO:=lenO
 at_:=at_
 nodup:=nodup
 top:=λ i q=>Sq.mpr λ o e=>absurd (Tr.all_get own e).lt (PQ.mpr q)
 big:=big
 own:=λ j o e J=>(Tr.all_get own e).at_
 noex:=λ j c d e=>(Tr.all_get own e).ne c d rfl
 K:=K
 lenF:=lenF
 frz:=frz
 lenD:=lenD
 dsok:=dsok
 facts:=facts
theorem Og(h:d/1000=0):d%1000=d:=Q0 ((Nat.div_eq_zero_iff.mp h).resolve_left (by decide))
theorem LN(h:d<=60):d%1000=d/\d/1000=0:=⟨Q0 (OI h (by decide)),Uk (OI h (by decide))⟩
theorem AOK.into(H:St X V σ s){d m:Nat}(hA:AOK X V σ A d m)(hd:d/1000=0)(hd':d<=d')(h60:d'<=60){h0:Heap}:AOK (X.into (X.out++dq V σ) h0) V₂ σ₂ A d' m:=by
 have e1:=Og hd;have e2:=LN h60;obtain⟨l,f1,f2⟩:=hA.frames;have a1:=hA.depth;have a2:=hA.units;have a3:=hA.hd;rw[e1] at a1 a2;rw[hd] at a3;refine⟨?_,?_,hA.guards,⟨l,f1,λ e he=>(f2 e he).imp_right λ q=>q.elim λ L r=>⟨L,r.1,.inl (r.2.elim (QS _) λ q=>q.rec λ i es x=>SJ _ ((cp H).mpr ⟨i,es,x.2,x.1⟩))⟩⟩,e2.1.symm▸h60,e2.2.symm▸a3⟩
 ·rw[e2.1];exact OM a1 (Qw (Pc (Ps 4 hd') 310) m)
 ·rw[e2.1];exact OM a2 (Qw (Pc (Ps 30 hd') 10) (10*m))
noncomputable def Ho(t:R):Bool:=T.casesOn t (λ J=>true) aO ax ag ax ax ag
noncomputable def Lh(t:R):Out×Sg:=T.casesOn t (λ r=>r) (λ J J J=>(.nx,⟨.nil,0,⟨[],0,[]⟩⟩)) (λ J J=>(.nx,⟨.nil,0,⟨[],0,[]⟩⟩)) (λ J=>(.nx,⟨.nil,0,⟨[],0,[]⟩⟩)) (λ J J=>(.nx,⟨.nil,0,⟨[],0,[]⟩⟩)) (λ J J=>(.nx,⟨.nil,0,⟨[],0,[]⟩⟩)) (λ J=>(.nx,⟨.nil,0,⟨[],0,[]⟩⟩))
theorem pH(h:Ho t=true)(k:Φ (Lh t)):t.Sat Φ:=by
 rcases t with⟨⟩<;>first|exact k|exact nof h
noncomputable def wB(a b:Bool):Bool:=match a with
 | true=>b
 | false=>false
theorem hM{a b:Bool}(h:wB a b=true):a=true/\b=true:=by
 rcases a with _|_
 ·exact nof h
 ·exact⟨rfl,h⟩
noncomputable def chk(p:Out×Sg->Bool):R->Bool
 | .leaf r=>p r
 | .split _ t f=>wB (chk p t) (chk p f)
 | .need b t=>wB b (chk p t)
 | .all _=>false
 | .both t f=>wB (chk p t) (chk p f)
 | .asm b t=>!b||chk p t
 | .stuck _=>false
theorem lP(h:chk p t=true):t.Sat (λ r=>p r=true):=by
 induction t with
 | leaf r=>exact h
 | split b t f i1 i2=>exact⟨λ J=>i1 (hM h).1,λ J=>i2 (hM h).2⟩
 | need b t i1=>exact⟨(hM h).1,i1 (hM h).2⟩
 | all _ _=>exact nof h
 | both t f i1 i2=>exact⟨i1 (hM h).1,i2 (hM h).2⟩
 | asm b t i1=>intro q;subst q;exact i1 h
 | stuck _=>exact nof h
noncomputable def Ma(t:R)(k:R->R->R):R:=T.casesOn t (λ J=>.stuck 0) (λ J J J=>.stuck 0) (λ J J=>.stuck 0) (λ J=>.stuck 0) (λ a b=>k a b) (λ J J=>.stuck 0) (λ J=>.stuck 0)
noncomputable def KR(b:Bool)(t:R):R:=Ma t λ x y=>match b with|true=>x|false=>y
noncomputable def nav:List Bool->R->R
 | [],t=>t
 | b::l,t=>nav l (KR b t)
theorem l0{α β:Type}{p:α->β->Bool}{P:α->β->Prop}(f:∀ x y,p x y=true->P x y){xs:List α}:∀ {ys:List β},xu p xs ys=true->All2 P xs ys:=
 List.rec (motive:=λ xs=>∀ {ys:List β},xu p xs ys=true->All2 P xs ys) (λ {ys}=>Rq (motive:=λ ys=>xu p [] ys=true->All2 P [] ys) ys (λ J=>.nil) λ J J=>nof)
  (λ x xs ih {ys}=>Rq (motive:=λ ys=>xu p (x::xs) ys=true->All2 P (x::xs) ys) ys nof λ y t h=>have h:=(OA _ _).mp h;.cons (f x y h.1) (ih h.2)) xs
theorem All2.eq{α:Type}{xs ys:List α}(h:All2 Eq xs ys):xs=ys:=h.rec (motive:=λ xs ys J=>xs=ys) rfl λ p J e=>p▸e▸rfl
theorem p6(h1:chk p (KR true t)=true)(h2:chk p (KR false t)=true):chk p t=true:=by
 rcases t with a|⟨a,b,c⟩|⟨a,b⟩|a|⟨x,y⟩|⟨a,b⟩|a
 iterate 4 exact nof h1
 ·show wB (chk p x) (chk p y)=true;rw[show chk p x=true from h1];exact h2
 iterate 2 exact nof h1
theorem uG{l m:List Bool}:nav (l++m) t=nav m (nav l t):=by
 induction l generalizing t with
 | nil=>rfl
 | cons b l ih=>exact ih
theorem du(h1:chk p (nav (l++[true]) t)=true)(h2:chk p (nav (l++[false]) t)=true):chk p (nav l t)=true:=
 p6 (uG▸h1:chk p (nav [true] (nav l t))=true) (uG▸h2:chk p (nav [false] (nav l t))=true)
def
 ConOne (X:Cx) (cfg:Cfg) (a:Nat) (c:Nat->List AV->Sg->Option R):Prop:=∀ {as:List AV} {vs:List Value} {t:R} {V:Va} {σ:Sg} {s:Shared} {A:Around} {Φ:Out×Sg->Prop} {d:Nat},c d as σ=some t->d/1000=0->All2 (DenV V) as vs->AOK X V σ A d 2->St X V σ s->t.Sat Φ->
 Pd (Mo X) A (.call (.ref a) ⟨vs,[]⟩) (PR X V σ Φ) s
theorem dZ(T:∀ out h0,TopC (X.into out h0) K cfg glb)(c115:w8 cfg){N a d d':Nat}{as₂:List AV}(H:St X V σ s)(hA:AOK X V σ A d 2)(hd:d/1000=0)(hd':d<=d')(h60:d'<=60)(h:Hand X V σ s hnd V₂ σ₂)(da:All2 (DenV V₂) as₂ vs)
 (hs:(run cfg N (.call d' (.glob a) as₂) σ₂).Sat Φ₂) (post:∀ r s',PR (X.into (X.out++dq V σ) s.heap) V₂ σ₂ Φ₂ r s'->PR X V σ Φ r s'):Pd (Mo X) A (.call (.ref a) ⟨vs,[]⟩) (PR X V σ Φ) s:=
 PD (((nS (T _ _) c115 N).C (V:=V₂) (.glob a) da (hA.into H hd hd' h60) (H.into h) hs).1 a rfl) post
theorem cG{b d:Nat}{c:List AV->Sg->Option R}{as:List AV}(h:lim b c d as σ=some t):d<=b/\c as σ=some t:=by
 have h:(match P5 d b with
  | true=>c as σ
  | false=>none)=some t:=h
 rcases q:P5 d b with _|_
 ·rw[q] at h;exact am h
 ·rw[q] at h;exact⟨OE q,h⟩
theorem iZ{r:Qa}(q:PR X V σ Φ r s)(hx:∀ i g,¬ Φ (.ex i,g)):∃ v,r=.ok (.ret v)/\PV X V σ Φ v s:=by
 rcases r with e|f
 ·exact PE.rec (motive:=λ J=>_) (λ J J J J J J J J J J J J z=>absurd z (hx _ _)) q
 ·rcases f with _|_|_|v
  iterate 3 exact q.elim
  ·exact⟨_,rfl,q⟩
def Tra(V V':Va)(x x':AV):Prop:=∀ v,DenV V x v->DenV V' x' v
theorem Tra.own{i j:Nat}(e:V.ρ[i]?=some a)(e':V'.ρ[j]?=some a):Tra V V' (.own i) (.own j):=λ v d=>
 d.inv.elim λ b q=>q.1▸.own (Oy (e.symm.trans q.2)▸e')
theorem Tra.frz{i j:Nat}(e:V.φ[i]?=some a)(e':V'.φ[j]?=some a):Tra V V' (.frz i) (.frz j):=λ v d=>
 d.inv.elim λ b q=>q.1▸.frz (Oy (e.symm.trans q.2)▸e')
theorem Tra.any:Tra V V' x .any:=λ v J=>.any v
noncomputable def Fg(x:AV):Bool:=(AV.casesOn x true (λ J=>true) (λ J=>true) (λ J=>true) (λ J=>true) (λ J=>true) (λ J=>true) (λ J=>true) ag ag (λ J=>true) (λ J=>true) ag true true (λ J=>true) true true aO ag)
theorem Tra.lit(h:Fg x=true):Tra V V' x x:=λ v d=>
 d.rec (motive:=λ x v J=>Fg x=true->DenV V' x v) (λ J=>.none) (λ b J=>.bool b) (λ b J=>.sb b) (λ i t J=>.int i t) (λ i t J=>.si i t) (λ t e J=>.str t e) (λ t e J=>.byt t e) (λ t e J=>.sy t e) (λ J=>nof) (λ J=>nof) (λ a J=>.glob a) (λ b J=>.bi b) (λ J J=>nof) (λ v J=>.any v) (λ t a b J=>.rg t a b) (λ i t J=>.an i t) (λ b J=>.ub b) (λ J J J=>nof) (λ J J J J J=>nof) h
theorem Tra.an(h:kF x=true):Tra V V' x .an:=λ v d=>(d9 h d).rec λ i t e=>e▸.an i t
theorem ib{α β γ:Type}{P:α->β->Prop}{Q:α->γ->Prop}{R:γ->β->Prop}(k:∀ x y z,P x y->Q x z->R z y){xs:List α}{ys:List β}{zs:List γ}(h:All2 P xs ys)(d:All2 Q xs zs):All2 R zs ys:=by
 induction h generalizing zs with
 | nil=>rw[d.nil_inv];exact .nil
 | cons a _ ih=>obtain⟨z,r,rfl,c,q⟩:=d.cons_inv;exact .cons (k _ _ _ a c) (ih q)
noncomputable abbrev TraL(V V':Va):List AV->List AV->Prop:=All2 (Tra V V')
theorem TraL.den{xs xs':List AV}(h:TraL V V' xs xs')(d:All2 (DenV V) xs vs):All2 (DenV V') xs' vs:=ib (λ J J J d t=>t _ d) d h
inductive TraO(V V':Va):AO->AO->Prop
 | lst {xs xs':List AV}:TraL V V' xs xs'->TraO V V' (.lst xs) (.lst xs')
 | tup {xs xs':List AV}:TraL V V' xs xs'->TraO V V' (.tup xs) (.tup xs')
 | inst {c d d':Nat} {a:Addr}:V.ρ[d]?=some a->V'.ρ[d']?=some a->TraO V V' (.inst c d) (.inst c d')
 | atd {es es':bN}:All2 (λ p q=>p.1=q.1/\q.2≠.hid/\Tra V V' p.2 q.2/\p.2≠.hid) es es'->TraO V V' (.atd es) (.atd es')
 | dct {b:Bool} {es es':List (List Nat×AV)}:All2 (λ p q=>p.1=q.1/\Tra V V' p.2 q.2) es es'->TraO V V' (.dct b es) (.dct b es')
 | bar {b:List Nat}:TraO V V' (.bar b) (.bar b)
 | ila:TraO V V' .ila .ila
 | ila0:TraO V V' (.lst []) .ila
 | ilaN {xs:List AV}:xs.length<=64->xs.all kF=true->TraO V V' (.lst xs) .ila
 | lsA:TraO V V' .lsA .lsA
 | lstA {xs:List AV}:xs.length<=100000->TraO V V' (.lst xs) .lsA
 | exc {c d d':Nat} {a:Addr}:V.ρ[d]?=some a->V'.ρ[d']?=some a->TraO V V' (.exc c d) (.exc c d')
theorem zj(h:All2 (λ p q=>p.1=q.1/\q.2≠.hid/\Tra V V' p.2 q.2/\p.2≠.hid) es es')(n:Nat):(aX n es=none/\aX n es'=none)\/∃ x x',aX n es=some x/\aX n es'=some x'/\x≠.hid/\x'≠.hid/\Tra V V' x x':=by
 induction h with
 | nil=>exact .inl ⟨rfl,rfl⟩
 |
  @cons p q _ _ h r ih=>
  rw[aK,aK,<-h.1];by_cases e:p.1=n
  ·rw[if_pos e,if_pos e];exact .inr ⟨_,_,rfl,rfl,h.2.2.2,h.2.1,h.2.2.1⟩
  ·rw[if_neg e,if_neg e];exact ih
theorem GF(h:All2 (λ p q=>p.1=q.1/\q.2≠.hid/\Tra V V' p.2 q.2/\p.2≠.hid) es es'){m:Str->Option Value}(e:NsDen V es m):NsDen V' es' m:=λ x hx=>by
 have:=e x hx;rcases zj h (nm x) with q|q
 ·rw[q.1] at this;rw[q.2];exact this
 ·obtain⟨y,y',q1,q2,q3,q4,q5⟩:=q;rw[q1] at this;rw[q2]
  exact λ J=>(this q3).imp λ z r=>⟨r.1,q5 z r.2⟩
theorem Jh(b:All2 (DenV V) xs vs)(hs:xs.all kF=true):∀ v∈vs,∃ i t,v=.int i t:=by
 induction b with
 | nil=>exact λ v hv=>absurd hv Pl
 | cons p r ih=>exact aV hs λ h1 h2=>λ v hv=>(Po.mp hv).elim (λ e=>e▸d9 h1 p) (ih h2 v)
theorem BO{vs:Array Value}(b:All2 (DenV V) xs vs.toList){n:Nat}(h:xs.length<=n):vs.size<=n:=(OH.symm.trans b.length.symm:vs.size=xs.length)▸h
theorem TraO.den{o o':AO}(h:TraO V V' o o')(d:DenO X false V ob o):DenO X false V' ob o':=
 h.rec (motive:=λ o o' J=>DenO X false V ob o->DenO X false V' ob o') (λ h=>E2.imp λ J J q=>⟨q.1,h.den q.2⟩) (λ h=>E2.imp λ J J q=>⟨q.1,h.den q.2⟩)
  (λ h h' d=>⟨d.1,d.2.1,d.2.2.elim λ c q=>⟨c,Oy (h.symm.trans q.1)▸h',q.2⟩⟩)
  (λ h=>E3.imp λ J J J q=>⟨q.1,q.2,q.3,GF h q.4,q.5,h.length▸q.6⟩)
  (λ {b _ _} h=>Qx (motive:=λ b=>DenO X false V ob (.dct b _)->DenO X false V' ob (.dct b _)) b (QJ λ J q=>⟨q.1,ib (λ J J J u t=>⟨u.1.trans t.1,t.2 _ u.2⟩) q.2 h⟩) (QJ λ J q=>⟨q.1,ib (λ J J J u t=>⟨u.1.trans t.1,t.2 _ u.2⟩) q.2 h⟩))
  id id (E2.imp λ J J q=>⟨q.1,BO q.2 (Pk _),Jh q.2 rfl⟩) (λ hl hs=>E2.imp λ J J q=>⟨q.1,BO q.2 hl,Jh q.2 hs⟩) id (λ hl=>E2.imp λ J J q=>⟨q.1,BO q.2 hl⟩)
  (λ h h' d=>⟨d.1,d.2.1,d.2.2.elim λ c q=>⟨c,Oy (h.symm.trans q.1)▸h',q.2⟩⟩) d
theorem DenO.tra{o o':AO}(d:DenO X false V ob o)(h:TraO V V' o o'):DenO X false V' ob o':=h.den d
noncomputable def Va.frz1(V:Va)(P:Addr->Prop)(s:Shared):Va:=⟨V.ρ,V.φ,λ b o=>V.K b o\/(P b/\s.heap.get? b=some o),V.ds⟩
theorem Va.le_frz1{P:Addr->Prop}:V.Le (V.frz1 P s):=⟨id,id,.inl,id⟩
theorem St.freeze(H:St X V σ s)(P:Addr->Prop)(hP:∀ b,P b->Fresh X V σ s b):St X (V.frz1 P s) σ s/\V.Le (V.frz1 P s):=⟨{
 lenO:=H.lenO,lenF:=H.lenF,top:=H.top,big:=H.big,nodup:=H.nodup,nout:=H.nout,gens:=H.gens,os:=H.os,lenD:=H.lenD,hi:=H.hi,low:=H.low,dsok:=H.dsok,facts:=H.facts
 own:=λ i o e nd=>OwnAt.mono Va.le_frz1 (λ J J J q=>q) (H.own i o e nd)
 nb:=λ i a l e o k=>k.elim (H.nb i a l e o) λ k=>(hP a k.1).live i l e
 stays:=λ b o k=>k.elim (H.stays b o) And.right
 frz:=λ j o e=>(H.frz j o e).mono Va.le_frz1
 soft:=λ L hL=>E2.imp (λ o sl q=>⟨q.1,q.2,λ o' k=>k.elim (q.3 o') λ k=>(hP L k.1).out hL,q.4⟩) (H.soft L hL)
 exc:=λ i c d a e ea=>E2.imp (λ ob vs x=>⟨x.1,x.2,x.3,x.4.imp_right (E3.imp λ t ot ts q=>⟨q.1,q.2,q.3,q.4,q.5,λ o k=>k.elim (q.6 o) λ k=>(hP t k.1).far i c d a ob vs t e ea x.1 x.2 q.1 rfl⟩)⟩) (H.exc i c d a e ea)
 base:=λ b o e=>.inl (H.base b o e) },Va.le_frz1⟩
theorem St.fact(H:St X V σ s){t i j:Nat}{d e:Desc}(hd:V.ds[i]?=some d)(he:V.ds[j]?=some e)(hb:Desc.ask t d e=b):St X V ⟨σ.own,σ.n,⟨σ.frz.l,σ.frz.nd,(t,i,j,b)::σ.frz.facts⟩⟩ s:=
 {
  lenO:=H.lenO,lenF:=H.lenF,top:=H.top,big:=H.big,own:=H.own,nodup:=H.nodup,nb:=H.nb,nout:=H.nout,stays:=H.stays,frz:=H.frz,soft:=H.soft,exc:=H.exc,gens:=H.gens,os:=H.os,lenD:=H.lenD,base:=H.base,hi:=H.hi,low:=H.low,dsok:=H.dsok
  facts:=λ t' i' j' b' q=>(Po.mp q).elim (λ q=>by injection q with q1 q;injection q with q2 q;injection q with q3 q4;subst q1;subst q2;subst q3;subst q4;exact⟨d,e,hd,he,hb⟩) (H.facts t' i' j' b') }
theorem mV{t i j:Nat}{l:List (Nat×Nat×Nat×Bool)}(h:fo t i j l=some b):(t,i,j,b)∈l:=by
 induction l with
 | nil=>exact am h
 |
  cons p r ih=>
  have h:(match OC t p.1&&OC i p.2.1&&OC j p.2.2.1 with|true=>some p.2.2.2|false=>fo t i j r)=some b:=h
  rcases q:OC t p.1&&OC i p.2.1&&OC j p.2.2.1 with _|_
  ·rw[q] at h;exact OY _ (ih h)
  ·rw[q] at h;exact aV q λ q q3=>aV q λ q1 q2=>by
    rw[OB q1,OB q2,OB q3,<-Oy h];exact OZ ..
structure Same(σ σ':Sg):Prop where
 own:σ'.own=σ.own
 n:σ'.n=σ.n
 l:σ'.frz.l=σ.frz.l
 nd:σ'.frz.nd=σ.frz.nd
theorem Same.rfl{σ:Sg}:Same σ σ:=⟨.refl _,.refl _,.refl _,.refl _⟩
theorem Same.trans{σ σ' σ'':Sg}(h:Same σ σ')(k:Same σ' σ''):Same σ σ'':=⟨k.own.trans h.own,k.n.trans h.n,k.l.trans h.l,k.nd.trans h.nd⟩
theorem Same.keep{σ σ':Sg}(h:Same σ σ'):Keep σ σ':=⟨λ i es e=>⟨es,by rw[h.own];exact e⟩,λ i c d e=>by rw[h.own];exact e⟩
theorem cJ(H:St X V σ s){t i j:Nat}{d e:Desc}(hd:V.ds[i]?=some d)(he:V.ds[j]?=some e)(h:(eK σ t i j k).Sat Φ):∃ σ',Same σ σ'/\St X V σ' s/\(k (Desc.ask t d e) σ').Sat Φ:=by
 have h:(match fo t i j σ.frz.facts with
  | some b=>k b σ
  | none=>.both (k true ⟨σ.own,σ.n,⟨σ.frz.l,σ.frz.nd,(t,i,j,true)::σ.frz.facts⟩⟩) (k false ⟨σ.own,σ.n,⟨σ.frz.l,σ.frz.nd,(t,i,j,false)::σ.frz.facts⟩⟩)).Sat Φ:=h
 rcases q:fo t i j σ.frz.facts with _|b
 ·rw[q] at h;rcases q:Desc.ask t d e with _|_
  ·exact⟨⟨σ.own,σ.n,⟨σ.frz.l,σ.frz.nd,(t,i,j,false)::σ.frz.facts⟩⟩,⟨rfl,rfl,rfl,rfl⟩,H.fact hd he q,h.2⟩
  ·exact⟨⟨σ.own,σ.n,⟨σ.frz.l,σ.frz.nd,(t,i,j,true)::σ.frz.facts⟩⟩,⟨rfl,rfl,rfl,rfl⟩,H.fact hd he q,h.1⟩
 ·rw[q] at h;exact(H.facts t i j b (mV q)).rec λ d' e' r=>by
   obtain rfl:=Oy (hd.symm.trans r.1);obtain rfl:=Oy (he.symm.trans r.2);exact⟨σ,.rfl,H,r.3▸h⟩
theorem iH(H:St X V σ s){t i j:Nat}{d e:Desc}(hd:V.ds[i]?=some d)(he:V.ds[j]?=some e)(hs:Desc.ask t e d=Desc.ask t d e)(h:(um σ t i j k).Sat Φ):∃ σ',Same σ σ'/\St X V σ' s/\(k (Desc.ask t d e) σ').Sat Φ:=by
 have h:(match P5 i j with
  | true=>eK σ t i j k
  | false=>eK σ t j i k).Sat Φ:=h
 rcases q:P5 i j with _|_
 ·rw[q] at h;exact hs▸cJ H he hd h
 ·rw[q] at h;exact cJ H hd he h
end
end
section
universe u
open PySem PySem.W PyProof.Rows
variable {o:AO} {aD aL:Addr} {d i l:Nat}
def
 ConTo (X:Cx) (a:Nat) (c:Nat->List AV->Sg->Option R):Prop:=∀ {as:List AV} {vs:List Value} {t:R} {V:Va} {σ:Sg} {s:Shared} {A:Around} {Φ:Out×Sg->Prop} {d:Nat},c d as σ=some t->d/1000=0->All2 (DenV V) as vs->AOK X V σ A d 2->St X V σ s->t.Sat Φ->
 Pd (Mo X) A (.call (.ref a) ⟨vs,[]⟩) (PR X V σ Φ) s
section
variable {V V' V₂ V₂':Va} {σ σ' σ₂ σ₂':Sg} {s s':Shared} {hnd:List Nat} {Φ Φ₂:Out×Sg->Prop} {K:Frag} {glb:List (Nat×AV)}
theorem fT{fns:List (Nat×FnI)}{cls:List (Nat×ClsI)}{gobs:List (Nat×List AV)}{con con':List (Nat×(Nat->List AV->Sg->Option R))}(T:TopC X K ⟨fns,cls,gobs,con,false⟩ glb)
 (hk:∀ a c,aX a con'=some c->cO K a=true/\ConTo X a c):TopC X K ⟨fns,cls,gobs,con',false⟩ glb:=by
 obtain⟨⟨a1,a0,a2,a3,a4,a5,a6,a7,a8⟩,b,c,d,e⟩:=T;refine⟨⟨a1,a0,a2,λ a q=>?_,a4,a5,a6,a7,a8⟩,b,c,⟨λ e1 e2=>(hk _ _ e1).2 e2⟩,⟨nofun⟩⟩
 rcases q with q|q|q
 ·exact a3 a (.inl q)
 ·exact a3 a (.inr (.inl q))
 ·obtain⟨c',hc⟩:=Pe.mp q;exact(hk a c' hc).1
theorem wb{l:List (List Nat×AV)}{k:AV->AV->Option Nat}{t:Nat}{P:Prop}(h:DT l k=some t)(p:∀ v w,l=[(dD,v),(bZ,w)]->k v w=some t->P):P:=by
 rcases l with _|⟨⟨a,v⟩,_|⟨⟨b,w⟩,_|⟨z,r⟩⟩⟩
 ·cases h
 ·cases h
 ·refine ay h λ q h=>?_;have q:(au a dD&&au b bZ)=true:=q;rw[OA] at q;exact p v w (by rw[aC q.1,aC q.2]) h
 ·cases h
theorem fI(h:ji σ d=some l):σ.own.get d=some (.dct false [(dD,.own l),(bZ,.an)])/\σ.own.get l=some .ila:=
 nc h λ b es e h=>ay h λ hb h=>wb h λ v w e2 h=>cj h λ l' e3 h=>ay h λ q h=>by
  rw[OA] at q;cases h
  cases b with
  | true=>cases hb
  | false=>exact⟨by rw[e,e2,e3,vz q.1],mO q.2⟩
noncomputable def m9(g:Sg):Bool:=(Fn (g.own.get 0) λ b es=>ifK (!b) (DT es λ v w=>j6 v λ l=>ifK (kF w&&OC l 1) (some 0))).isSome&&(Lv (g.own.get 1)||(match bz (g.own.get 1) with
 | some xs=>P5 xs.length 64&&xs.all kF
 | none=>false))
theorem r6(h:m9 σ=true):(∃ x,σ.own.get 0=some (.dct false [(dD,.own 1),(bZ,x)])/\kF x=true)/\(σ.own.get 1=some .ila\/∃ xs,σ.own.get 1=some (.lst xs)/\xs.length<=64/\xs.all kF=true):=by
 have h:=(OA _ _).mp h;refine⟨?_,?_⟩
 ·obtain⟨t,h1⟩:=Pe.mp h.1;exact nc h1 λ b es e h=>ay h λ hb h=>wb h λ v w e2 h=>cj h λ l' e3 h=>ay h λ q h=>by
   rw[OA] at q;have q2:=OB q.2;subst q2;cases b with
   | true=>cases hb
   | false=>exact⟨w,by rw[e,e2,e3],q.1⟩
 ·rcases(P9 _ _).mp h.2 with q|q
  ·exact .inl (mO q)
  ·rcases e:bz (σ.own.get 1) with _|xs
   ·rw[e] at q;cases q
   ·rw[e] at q;have q:=(OA _ _).mp q;exact .inr ⟨xs,aU e,OE q.1,q.2⟩
theorem DS(e1:σ.own.get d=some (.dct false [(dD,.own l),(bZ,.an)]))(e2:σ.own.get l=some .ila):d≠l:=by
 rintro rfl
 rw[e1] at e2;cases e2
theorem v9(g:m9 σ₂'=true)(h1:V₂'.ρ[1]?=some aL)(h2:V'.ρ[l]?=some aL)(j:Nat)(hj:j<2) :
 ∃ o₂,σ₂'.own.get j=some o₂/\o₂≠.dead/\(∀ c d,(if j=0 then AO.dct false [(dD,.own l),(bZ,.an)] else .ila)≠.exc c d)/\TraO V₂' V' o₂ (if j=0 then AO.dct false [(dD,.own l),(bZ,.an)] else .ila):=by
 obtain⟨⟨x,g1,g2⟩,g3⟩:=r6 g
 match j with
 | 0=>exact⟨_,g1,nofun,nofun,.dct (.cons ⟨rfl,Tra.own h1 h2⟩ (.cons ⟨rfl,Tra.an g2⟩ .nil))⟩
 |
  1=>
  rcases g3 with g3|⟨xs,g3,g4,g5⟩
  ·exact⟨_,g3,nofun,nofun,.ila⟩
  ·exact⟨_,g3,nofun,nofun,.ilaN g4 g5⟩
 | j+2=>omega
noncomputable def tY(o:AO):Sg:=⟨.nd (some (.dct false [(dD,.own 1),(bZ,.an)])) (.nd (some o) .nil .nil) .nil,2,⟨[],0,[]⟩⟩
def Cq(m:Nat)(r:Out×Sg):Prop:=r.1=.v (.rg m)/\m9 r.2=true
theorem HW(m:Nat):(run cfg0 400 (.call 40 (.glob 1084) [.own 0,.int (.ofNat (m+1))]) (tY .ilaN)).Sat (Cq (m+1)):=pH (by kernel_rfl) ⟨by kernel_rfl,by kernel_rfl⟩
theorem HX(m:Nat):(run cfg0 400 (.call 40 (.glob 1084) [.own 0,.int (.ofNat (m+1))]) (tY (.lst []))).Sat (Cq (m+1)):=pH (by kernel_rfl) ⟨by kernel_rfl,by kernel_rfl⟩
theorem mZ(H:St X V σ s)(e1:σ.own.get i=some (.dct false [(dD,.own l),(bZ,.an)]))(e2:σ.own.get l=some .ila)(g:m9 σ₂'=true)(h1:V₂'.ρ[1]?=some aL)(h2:V.ρ[l]?=some aL):Back X V σ [i,l] [] [] V₂' σ₂' σ:=by
 have z:=v9 (V':=⟨V.ρ++[],V.φ,V.K,V.ds⟩) g h1 ((congrArg (λ r:List Addr=>r[l]?) (Pn V.ρ)).trans h2);refine⟨.nil,λ j hj=>(nomatch hj),PJ,rfl,H.big,rfl,λ J J J=>rfl,H.top,λ j i' e o eo nd=>?_,λ k j e=>am e⟩
 rcases j with _|_|j
 ·obtain rfl:=Oy e;obtain rfl:=Oy (e1.symm.trans eo);obtain⟨o₂,z1,z2,z3,z4⟩:=z 0 (by decide)
  exact⟨o₂,z1,z2,z3,λ ob=>z4.den⟩
 ·obtain rfl:=Oy e;obtain rfl:=Oy (e2.symm.trans eo);obtain⟨o₂,z1,z2,z3,z4⟩:=z 1 (by decide)
  exact⟨o₂,z1,z2,z3,λ ob=>z4.den⟩
 ·exact am e
theorem fw{a:Addr}(e:σ.own.get i=some o)(ea:V.ρ[i]?=some a)(nd:o≠.dead)(n1:∀ es,o≠.ns es)(n2:∀ c d,o≠.exc c d):HndAt V σ i a:=
 ⟨ea,⟨o,e,nd⟩,λ es q=>n1 es (Oy (e.symm.trans q)),λ c d q=>n2 c d (Oy (e.symm.trans q))⟩
theorem lO(e1:σ.own.get i=some (.dct false [(dD,.own l),(bZ,.an)]))(e2:σ.own.get l=some .ila)(x1:V.ρ[i]?=some aD)(y1:V.ρ[l]?=some aL):All2 (HndAt V σ) [i,l] [aD,aL]/\[i,l].Nodup:=
 ⟨.cons (fw e1 x1 nofun nofun nofun) (.cons (fw e2 y1 nofun nofun nofun) .nil),by simp [DS e1 e2]⟩
theorem m8{oD oL:Obj}{φ:List Addr}{k:Addr->Obj->Prop}(y1:V.ρ[l]?=some aL)(x2:s.heap.get? aD=some oD)(x3:DenO X false V oD (.dct false [(dD,.own l),(bZ,.an)]))(y2:s.heap.get? aL=some oL)(hox:∀ c d,o≠.exc c d)(hden:DenO X false ⟨[aD,aL],φ,k,[]⟩ oL o) :
 Tr.All (tY o).own (λ i=>i) (HandO X s ⟨[aD,aL],φ,k,[]⟩ 2):=by
 refine⟨λ o q=>?_,⟨λ o q=>?_,trivial,trivial⟩,trivial⟩
 ·obtain rfl:=Oy q;exact⟨Nat.zero_lt_two,nofun,aD,oD,rfl,x2,x3.tra (.dct (.cons ⟨rfl,Tra.own y1 rfl⟩ (.cons ⟨rfl,Tra.lit rfl⟩ .nil)))⟩
 ·obtain rfl:=Oy q;exact⟨Nat.one_lt_two,hox,aL,oL,rfl,y2,hden⟩
theorem kOf(H:St X V σ s){hnd:List Nat}{ρ:List Addr}(at_:All2 (HndAt V σ) hnd ρ){b:Addr}{o:Obj}(k:V.K b o):inK X V σ s ρ b o:=
 ⟨H.stays b o k,λ q=>(PZ q).elim λ j hj=>(at_.of_at hj).elim λ i r=>H.nb i b r.2.l r.2.r o k,λ q=>(H.soft b q).rec λ J J n=>n.3 o k,λ q=>((cp H).mp q).rec λ i es e=>H.nb i b ⟨_,e.1,nofun⟩ e.2 o k⟩
theorem qD(T:∀ out h0,TopC (X.into out h0) K cfg0 glb)(c115:w8 cfg0):ConTo X 1084 (lim 40 sf):=by
 intro as vs t V σ s A Φ d hc hd da hA H h;obtain⟨hdl,hc⟩:=cG hc;obtain⟨i,m,l,rfl,e,rfl⟩:=wr hc;obtain⟨e1,e2⟩:=fI e;obtain⟨aD,oD,x1,x2,x3⟩:=H.own i _ e1 nofun
 obtain⟨aL,oL,y1,y2,y3⟩:=H.own l _ e2 nofun
 have main:∀ o:AO,(∀ c d,o≠.exc c d)->DenO X false ⟨[aD,aL],[],inK X V σ s [aD,aL],[]⟩ oL o->(run cfg0 400 (.call 40 (.glob 1084) [.own 0,.int (.ofNat (m+1))]) (tY o)).Sat (Cq (m+1))->Pd (Mo X) A (.call (.ref 1084) ⟨vs,[]⟩) (PR X V σ Φ) s:=by
  intro o hox hden hs;have hh:Hand X V σ s [i,l] ⟨[aD,aL],[],inK X V σ s [aD,aL],[]⟩ (tY o):=by
   exact Hand.of rfl (lO e1 e2 x1 y1).1 (lO e1 e2 x1 y1).2 (show 2<=100000 by decide) (m8 y1 x2 x3 y2 hox hden) rfl rfl (λ j o e=>am e) rfl (λ j o e=>am e) nofun
  refine dZ T c115 H hA hd hdl (by decide) hh ?_ hs λ r s' q=>?_
  ·cases da with
   | cons d1 r=>
   cases r with
   | cons d2 r=>
   cases r
   refine .cons ?_ (.cons (Tra.lit rfl _ d2) .nil);exact Tra.own x1 rfl _ d1
  ·obtain⟨v,rfl,V₂',σ₂',av,hle,_,H',dv,q1,q2⟩:=iZ q λ J J z=>nomatch z.1
   cases q1
   obtain⟨B1,B2,B3,_⟩:=H.back hh hle H' (mZ H e1 e2 q2 (hle.ρ (i:=1) rfl) y1);exact⟨_,σ,.rg (m+1),B3,B2,B1,Tra.lit rfl _ dv,h⟩
 obtain⟨ws,n,w1,w2,w3⟩:=y3;rcases Nat.eq_zero_or_pos ws.size with q|q
 ·refine main (.lst []) nofun ⟨ws,n,w1,?_⟩ (HX m)
  rw[SR q];exact .nil
 ·exact main .ilaN nofun ⟨ws,n,w1,q,w2,w3⟩ (HW m)
end
end
section
universe u
open PySem PySem.W PyProof.Rows
noncomputable def T.map{α β:Type}(f:α->β):T α->T β
 | .leaf a=>.leaf (f a)
 | .split b t e=>.split b (t.map f) (e.map f)
 | .need b t=>.need b (t.map f)
 | .all k=>.all λ i=>(k i).map f
 | .both t e=>.both (t.map f) (e.map f)
 | .asm b t=>.asm b (t.map f)
 | .stuck w=>.stuck w
theorem T.sat_map{α β:Type}{f:α->β}{Φ:β->Prop}:∀ {t:T α},(t.map f).Sat Φ->t.Sat (λ a=>Φ (f a))
 | .leaf _,h=>h
 | .split _ _ _,h=>⟨λ e=>sat_map (h.1 e),λ e=>sat_map (h.2 e)⟩
 | .need _ _,h=>⟨h.1,sat_map h.2⟩
 | .all _,h=>λ i=>sat_map (h i)
 | .both _ _,h=>⟨sat_map h.1,sat_map h.2⟩
 | .asm _ _,h=>λ e=>sat_map (h e)
 | .stuck _,h=>h
inductive Ans where
 | w (l:List Nat)
 | b (x:Bool)
@[reducible] noncomputable def Ans.ctorIdx(o:Ans):Nat:=Ans.casesOn o (λ J=>0) (λ J=>1)
noncomputable def ju(x:AV):Option Bool:=(AV.casesOn x none (λ b=>some b) (λ b=>some b) aa aa aa aa aa aa aa aa aa aa none none aa none none ai aa)
noncomputable def exA(g:Sg)(i:Nat):Option Ans:=((g.own.get i).bind Az).bind λ p=>ifK (OC p.1 52) (((g.own.get p.2).bind AB).bind λ es=>(single es).bind λ q=>(qX q.2).bind λ w=>ifK (OC q.1 n9) (some (.w w)))
noncomputable def oU(r:Out×Sg):Option Ans:=(Out.casesOn r.1 (λ x=>(ju x).map .b) none aa (λ i=>exA r.2 i))
noncomputable def prT(g:Sg)(i:Nat):Option Ans:=((g.own.get i).bind ro).bind λ l=>(jG l).bind λ p=>(iF p.1).bind λ k=>ifK (au k bq) ((ju p.2).map .b)
noncomputable def prA(g:Sg)(x:AV):Option Ans:=match iF x with
 | some w=>some (.w w)
 | none=>(jW x).bind (prT g)
noncomputable def yf(r:Out×Sg):Option Ans:=(Out.casesOn r.1 (λ x=>prA r.2 x) none aa aa)
noncomputable def nV(d e:Desc):Sg:=⟨.nil,0,⟨aZ d 0++aZ e (aZ d 0).length,0,[]⟩⟩
noncomputable def ry:List Bool->T (Option Ans)->T (Option Ans)
 | [],t=>t
 | b::r,t=>.need b (ry r t)
noncomputable def nsK(d:Desc):List Bool:=(Desc.casesOn d (λ n=>[bP n||bP 1000000]) (λ J=>[]) (λ J=>[]) (λ J J J J=>[]) (λ J=>[]) (λ J J J J=>[]) (λ J=>[]) (λ J=>[]) [] [])
noncomputable def dEq:Desc->Desc->Bool
 | .int n,.int m=>bJ (n*1000000) (m*1000000)
 | .int n,.real m=>bJ (n*1000000) m
 | .real n,.int m=>bJ n (m*1000000)
 | .real n,.real m=>bJ n m
 | .bool a,.bool b=>a==b
 | .str b s m _,.str c t k _=>au (lZ b s (s+m)) (lZ c t (t+k))
 | .str b s m _,.name c=>au (lZ b s (s+m)) (c.map (·.toNat))
 | .name b,.str c t k _=>au (b.map (·.toNat)) (lZ c t (t+k))
 | .name b,.name c=>au (b.map (·.toNat)) (c.map (·.toNat))
 | .row _ n s m,.row _ n' s' m'=>bJ n n'&&(bJ s s'&&bJ m m')
 | .dict n,.dict m=>bJ n m
 | .oper b,.oper c=>au (b.map (·.toNat)) (c.map (·.toNat))
 | .mark,.mark=>true
 | .null,.null=>true
 | _,_=>false
noncomputable def dLt:Desc->Desc->Bool
 | .int n,.int m=>dW (n*1000000) (m*1000000)
 | .int n,.real m=>dW (n*1000000) m
 | .real n,.int m=>dW n (m*1000000)
 | .real n,.real m=>dW n m
 | .str b s m _,.str c t k _=>cZ (lZ b s (s+m)) (lZ c t (t+k))
 | _,_=>false
noncomputable def rZ(d e:Desc):Ans:=match Desc.bad d e with
 | true=>.w cu
 | false=>.b (dEq d e)
noncomputable def JP(d e:Desc):List Bool:=match d.isNull||e.isNull||d.unread with
 | true=>[]
 |
  false=>match e.unread with
  | true=>nsK d
  | false=>nsK d++nsK e
noncomputable def rG(d e:Desc):Ans:=match Desc.cmpT d e with
 | true=>.w aY
 |
  false=>match Desc.cmpB d e with
  | true=>.w cu
  | false=>.b (dLt d e)
noncomputable def JJ(d e:Desc):List Bool:=match Desc.cmpT d e with
 | true=>[]
 | false=>nsK d++nsK e
noncomputable def ltW(w:List Nat)(a g x y:Bool):Bool:=match au w wGt,au w wGe,au w wLt with
 | true,_,_=>g
 | _,true,_=>!x
 | _,_,true=>a
 | _,_,_=>!y
noncomputable def fS(w:List Nat)(d e:Desc):T (Option Ans):=match au w wEq,au w wNe with
 | true,_=>.leaf (some (match Desc.bad d e with|true=>.w cu|false=>.b (dEq d e==true)))
 | _,true=>.leaf (some (match Desc.bad d e with|true=>.w cu|false=>.b (dEq d e==false)))
 |
  _,_=>match Desc.cmpT d e,Desc.cmpB d e with
  | true,_=>.leaf (some (.w aY))
  | _,true=>.leaf (some (.w cu))
  |
   _,_=>match OC d.ord 1 with
   | true=>.split (dLt d e) (.split (dLt e d) (.leaf (some (.b (ltW w (dLt d e) (dLt e d) true true)))) (.leaf (some (.b (ltW w (dLt d e) (dLt e d) true false)))))
    (.split (dLt e d) (.leaf (some (.b (ltW w (dLt d e) (dLt e d) false true)))) (.leaf (some (.b (ltW w (dLt d e) (dLt e d) false false)))))
   | false=>.leaf (some (.b (ltW w (dLt d e) (dLt e d) (dLt d e) (dLt e d))))
theorem Desc.elim{P:Desc->Prop}(h1:∀ n,P (.int n))(h2:∀ n,P (.real n))(h3:P (.bool true))(h4:P (.bool false))(h5:∀ b,P (.name b))(h6:∀ n s m,P (.row false n s m))(h7:∀ n s m,P (.row true n s m))(h8:∀ n,P (.dict n))(h9:∀ b,P (.oper b))(h10:P .mark)(h11:P .null)
 (s1:P (.str [97,98,99,97,98] 0 5 3)) (s2:P (.str [97,98,99,97,98] 0 2 3)) (s3:P (.str [97,98,99,97,98] 3 2 3)) (s4:P (.str [97,98,99,97,98] 1 2 2)) (s5:P (.str [97,98] 0 2 2)) (s6:P (.str [97,98] 0 2 1)) (s7:P (.str [97,98,99,97,98] 0 2 0)) (s8:P (.str [97,98] 2 0 3)) :
 ∀ d:Desc,d.OK->P d
 | .int n,_=>h1 n
 | .real n,_=>h2 n
 | .bool true,_=>h3
 | .bool false,_=>h4
 | .name b,_=>h5 b
 | .row false n s m,_=>h6 n s m
 | .row true n s m,_=>h7 n s m
 | .dict n,_=>h8 n
 | .oper b,_=>h9 b
 | .mark,_=>h10
 | .null,_=>h11
 |
  .str b s m a,h=>by
  have h:(b,s,m,a)∈strT:=h;unfold strT at h;simp only[Po,Pl,or_false,Prod.mk.injEq] at h;rcases h with⟨rfl,rfl,rfl,rfl⟩|⟨rfl,rfl,rfl,rfl⟩|⟨rfl,rfl,rfl,rfl⟩|⟨rfl,rfl,rfl,rfl⟩|⟨rfl,rfl,rfl,rfl⟩|⟨rfl,rfl,rfl,rfl⟩|⟨rfl,rfl,rfl,rfl⟩|⟨rfl,rfl,rfl,rfl⟩<;>assumption
end
section
universe u
open PySem PySem.W PyProof.Rows
variable {o:AO} {x:AV} {a:Addr} {ans:Ans} {es:bN} {xs:List AV} {φ' φ0:List Addr} {i:Nat} {r:Qa}
section
variable {V V' V₂ V₂':Va} {σ σ' σ₂ σ₂':Sg} {s s':Shared} {hnd:List Nat} {Φ Φ₂:Out×Sg->Prop} {K:Frag} {glb:List (Nat×AV)}
noncomputable def shV(k:Nat)(x:AV):AV:=match qW x with
 | some i=>.frz (k+i)
 | none=>x
noncomputable def shO(k:Nat)(o:AO):AO:=(AO.casesOn o (λ J=>o) (λ xs=>.tup (xs.map (shV k))) (λ c d=>.inst c (k+d)) (λ J=>o) (λ es=>.atd (es.map λ p=>(p.1,shV k p.2))) (λ J J=>o) (λ J=>o) (λ J=>o) (λ J J=>o) (λ J J=>o) (λ J J=>o) (λ J J=>o) (λ J J=>o) (λ J J=>o) (λ J J J J=>o) (λ J J=>o) o (λ J J=>o) (λ J=>o) o o o o (λ J=>o) (λ J J=>o) (λ J=>o) (λ J=>o) (λ J J=>o) (λ J=>o) o)
theorem gn(d:Desc)(k:Nat):aZ d k=(aZ d 0).map (shO k):=by rcases d with⟨⟩<;>rfl
noncomputable def F0(x:AV):Bool:=match qW x with
 | some _=>true
 | none=>Fg x
noncomputable def tU(o:AO):Bool:=(AO.casesOn o ag (λ xs=>xs.all F0) (λ J J=>true) ag (λ es=>es.all λ p=>F0 p.2) ax (λ J=>true) ag ax ax ax ax ax ax bg ax false ax ag false false false false ag ax ag ag ax ag false)
theorem jo(d:Desc):(aZ d 0).all tU=true:=by rcases d with⟨⟩<;>rfl
theorem app_sh:(φ0++φ')[φ0.length+i]?=φ'[i]?:=by rw[OL (Pu _ _),PY]
theorem Tra.sh{K:Addr->Obj->Prop}(h:F0 x=true):Tra ⟨[],φ',K,[]⟩ ⟨[],φ0++φ',K,[]⟩ x (shV φ0.length x):=by
 have h:(match qW x with
  | some _=>true
  | none=>Fg x)=true:=h
 show Tra _ _ x (match qW x with
  | some i=>.frz (φ0.length+i)
  | none=>x)
 rcases e:qW x with _|i
 ·rw[e] at h;exact Tra.lit h
 ·obtain rfl:=sY e;exact λ v d=>d.inv.elim λ b q=>q.1▸.frz (app_sh.trans q.2)
theorem rJ(n:Nat)(es:bN):aX n (es.map λ p=>(p.1,shV φ0.length p.2))=(aX n es).map (shV φ0.length):=by
 induction es with
 | nil=>rfl
 |
  cons p r ih=>
  rw[O2,aK,aK];by_cases h:p.1=n
  ·rw[if_pos h,if_pos h];rfl
  ·rw[if_neg h,if_neg h];exact ih
theorem yK{p:AV->Bool}{n:Nat}(h:es.all (λ q=>p q.2)=true)(e:aX n es=some x):p x=true:=by
 induction es with
 | nil=>exact am e
 |
  cons q r ih=>
  refine aV h λ h1 h2=>?_;rw[aK] at e;by_cases c:q.1=n
  ·rw[if_pos c] at e;exact Oy e▸h1
  ·rw[if_neg c] at e;exact ih h2 e
theorem G9{K:Addr->Obj->Prop}{vs:List Value}(b:All2 (DenV ⟨[],φ',K,[]⟩) xs vs)(h:xs.all F0=true):All2 (DenV ⟨[],φ0++φ',K,[]⟩) (xs.map (shV φ0.length)) vs:=by
 induction b with
 | nil=>exact .nil
 | cons p r ih=>exact aV h λ h1 h2=>.cons (Tra.sh h1 _ p) (ih h2)
theorem KP{K:Addr->Obj->Prop}{m:Str->Option Value}(h:es.all (λ p=>F0 p.2)=true)(e:NsDen ⟨[],φ',K,[]⟩ es m):NsDen ⟨[],φ0++φ',K,[]⟩ (es.map λ p=>(p.1,shV φ0.length p.2)) m:=λ x hx=>by
 have:=e x hx;rw[rJ];rcases q:aX (nm x) es with _|v
 ·rw[q] at this;exact this
 ·rw[q] at this;exact λ hv=>(this λ e=>hv (by rw[e];rfl)).imp λ y r=>⟨r.1,Tra.sh (yK h q) _ r.2⟩
theorem A0{K:Addr->Obj->Prop}{ob:Obj}(h:tU o=true)(d:DenO X true ⟨[],φ',K,[]⟩ ob o):DenO X true ⟨[],φ0++φ',K,[]⟩ ob (shO φ0.length o):=
 ((AO.casesOn (motive:=λ o=>tU o=true->DenO X true ⟨[],φ',K,[]⟩ ob o->DenO X true ⟨[],φ0++φ',K,[]⟩ ob (shO φ0.length o)) o (λ J=>λ h J=>nof h) (λ xs=>λ h=>E2.imp λ vs n q=>⟨q.1,G9 q.2 h⟩) (λ c i=>λ J d=>⟨d.1,d.2.1,d.2.2.imp λ x q=>⟨app_sh.trans q.1,q.2⟩⟩) (λ J=>λ h J=>nof h) (λ es=>λ h=>E3.imp λ J J J q=>⟨q.1,q.2,q.3,KP h q.4,q.5,(Pa (as:=es) _).symm▸q.6⟩) (λ J J=>λ h J=>nof h) (λ b=>λ J d=>d) (λ J=>λ h J=>nof h) (λ J J=>λ h J=>nof h) (λ J J=>λ h J=>nof h) (λ J J=>λ h J=>nof h) (λ J J=>λ h J=>nof h) (λ J J=>λ h J=>nof h) (λ J J=>λ h J=>nof h) (λ J J J J=>λ h J=>nof h) (λ J J=>λ h J=>nof h) (λ h J=>nof h) (λ J J=>λ h J=>nof h) (λ J=>λ h J=>nof h) (λ h J=>nof h) (λ h J=>nof h) (λ h J=>nof h) (λ h J=>nof h) (λ J=>λ h J=>nof h) (λ J J=>λ h J=>nof h) (λ J=>λ h J=>nof h) (λ J=>λ h J=>nof h) (λ J J=>λ h J=>nof h) (λ J=>λ h J=>nof h) (λ h J=>nof h))) h d
theorem zd(h:tU o=true):FzOK X V a o:=by rcases o with⟨⟩<;>first|trivial|exact nof h
theorem HG{k:Nat}(h:tU o=true):FzOK X V a (shO k o):=by rcases o with⟨⟩<;>first|trivial|exact nof h
theorem ML{H:St X V σ s}(hb:σ.n<100000):(Tr.put' 40 σ.own σ.n o).get σ.n=some o:=Tr.put_self 40 _ _ _ (OI (Pm hb) (by decide))
theorem u0(H:St X V σ s){b:Addr}{o:Obj}(k:V.K b o):inK X V σ s [] b o:=
 ⟨H.stays b o k,nofun,λ q=>(H.soft b q).rec λ J J n=>n.3 o k,λ q=>((cp H).mp q).rec λ i es e=>H.nb i b ⟨_,e.1,nofun⟩ e.2 o k⟩
theorem k8(H:St X V σ s){d e:Desc}{t th t' th':Addr}(hd:OpdAt X V.K d t th)(he:OpdAt X V.K e t' th') :
 ∃ φ₂:List Addr,φ₂[0]?=some t/\φ₂[1]?=some th/\φ₂[(aZ d 0).length]?=some t'/\φ₂[(aZ d 0).length+1]?=some th'/\Hand X V σ s [] ⟨[],φ₂,inK X V σ s [],[]⟩ (nV d e):=by
 obtain⟨_,p,p0,p1,pl,pk⟩:=hd.mono (K':=inK X V σ s []) (u0 H);obtain⟨_,q,q0,q1,ql,qk⟩:=he.mono (K':=inK X V σ s []) (u0 H);have lft:∀ {i:Nat} {a:Addr},p[i]?=some a->(p++q)[i]?=some a:=λ e=>(OT (OJ.mp e).1).trans e;have rgt:∀ {i:Nat},(p++q)[(aZ d 0).length+i]?=q[i]?:=pl▸app_sh;refine⟨p++q,lft p0,lft p1,rgt.trans q0,rgt.trans q1,Hand.of rfl .nil PJ (Pk _) trivial rfl ?_ (λ j o x=>wT (x:(aZ d 0++aZ e (aZ d 0).length)[j]?=some o) (λ x=>?_) λ i ej hz=>?_) rfl (λ j o e=>am e) nofun⟩
 ·show(p++q).length=(aZ d 0++aZ e _).length;rw[OW,OW,pl,ql,gn e (aZ d 0).length,Pa]
 ·obtain⟨a,ob,h1,h2,h3⟩:=pk j o x;exact⟨a,ob,lft h1,h2,h3.mono (show Va.Le ⟨[],p,inK X V σ s [],[]⟩ ⟨[],p++q,inK X V σ s [],[]⟩ from⟨id,lft,id,id⟩),zd (OP.mp (jo d) o (O9 x))⟩
 ·subst ej;rw[gn e,Qj] at hz;exact bG hz λ o' x1 eo=>by
   subst eo;obtain⟨a,ob,h1,h2,h3⟩:=qk _ o' x1;have ok:=OP.mp (jo e) o' (O9 x1);exact⟨a,ob,rgt.trans h1,h2,pl▸A0 ok h3,HG ok⟩
theorem lV(H:St X V σ s)(h:Hand X V σ s [] V₂ σ₂)(hle:V₂.Le V₂')(H':St (X.into (X.out++dq V σ) s.heap) V₂' σ₂' s'){xs₂ xs:List AV}(hi:V₂'.ρ[i]?=some a)(e:σ₂'.own.get i=some (.tup xs₂))
 (ht:TraL V₂' ⟨V.ρ++[a],V.φ,V.K,V.ds⟩ xs₂ xs) (hs:(fj σ (.tup xs)).Sat Φ):PV X V σ Φ (.ref a) s':=by
 obtain⟨hb,hs⟩:=bk (cl hs).2;have hget:=Tr.get_put' 40 σ.own σ.n (.tup xs) (OI (Pm hb) (by decide))
 have B:Back X V σ [] [i] [a] V₂' σ₂' ⟨Tr.put' 40 σ.own σ.n (.tup xs),σ.n+1,σ.frz⟩:=by
  refine⟨.cons hi .nil,λ J J=>Pk _,by simp,rfl,hb,rfl,λ j hj J=>?_,λ j hj=>?_,λ j i e=>(by cases e),λ k j ek o eo nd=>?_⟩
  ·show(Tr.put' 40 σ.own σ.n _).get j=_;rw[hget,if_neg (OX hj)]
  ·show(Tr.put' 40 σ.own σ.n _).get j=_;have hj:σ.n+1<=j:=hj;rw[hget,if_neg (by omega)];exact H.top j (by omega)
  ·match k with
   |
    0=>
    cases ek
    have eo:(Tr.put' 40 σ.own σ.n _).get (σ.n+0)=_:=eo;rw[hget,if_pos (SQ _)] at eo;cases eo
    exact⟨_,e,nofun,nofun,λ ob d=>d.tra (.tup ht)⟩
   | k+1=>cases ek
 obtain⟨B1,B2,B3,_⟩:=H.back h hle H' B;refine⟨_,_,.own σ.n,B3,B2,B1,.own ?_,hs⟩;show(V.ρ++[a])[σ.n]?=_;rw[<-H.lenO,OL (OR _),Qm];rfl
theorem sj(H:St X V σ s)(h:Hand X V σ s [] V₂ σ₂)(hle:V₂.Le V₂')(H':St (X.into (X.out++dq V σ) s.heap) V₂' σ₂' s'){i d:Nat}{w:List Nat}(hi:V₂'.ρ[i]?=some a)(e1:σ₂'.own.get i=some (.exc 52 d))(e2:σ₂'.own.get d=some (.atd [(n9,.byt w)]))
 (hs:(j4 w σ).Sat Φ):PE X V σ Φ (.ref a) s':=by
 unfold j4 at hs;obtain⟨hb1,hs⟩:=bk hs;obtain⟨hb2,hs⟩:=bk hs;obtain⟨aD,oD,hd,_,_⟩:=H'.own d _ e2 nofun
 obtain⟨a',ob,x1,x2,x3⟩:=H'.own i _ e1 nofun
 rw[hi] at x1;cases x1
 obtain⟨_,_,aD',x4,_⟩:=x3;have x4:V₂'.ρ[d]?=some aD':=x4;rw[hd] at x4;cases x4
 have hb2:σ.n+1<100000:=hb2;have hg1:=Tr.get_put' 40 σ.own σ.n (.atd [(n9,.byt w)]) (OI (Pm hb1) (by decide))
 have hg2:=Tr.get_put' 40 (Tr.put' 40 σ.own σ.n (.atd [(n9,.byt w)])) (σ.n+1) (.exc 52 σ.n) (OI (Pm hb2) (by decide))
 have hne:d≠i:=by rintro rfl;rw[e1] at e2;cases e2
 have hρ0:(V.ρ++[aD,a])[σ.n]?=some aD:=by rw[<-H.lenO,OL (OR _),Qm];rfl
 have hρ1:(V.ρ++[aD,a])[σ.n+1]?=some a:=by rw[<-H.lenO,OL (Pu _ _),PY];rfl
 have B:Back X V σ [] [d,i] [aD,a] V₂' σ₂' ⟨Tr.put' 40 (Tr.put' 40 σ.own σ.n (.atd [(n9,.byt w)])) (σ.n+1) (.exc 52 σ.n),σ.n+1+1,σ.frz⟩:=by
  refine⟨.cons hd (.cons hi .nil),λ J J=>Pk _,by simp [hne],rfl,hb2,rfl,λ j hj J=>?_,λ j hj=>?_,λ j i e=>(by cases e),λ k j ek o eo nd=>?_⟩
  ·show(Tr.put' 40 (Tr.put' 40 σ.own σ.n _) _ _).get j=_;rw[hg2,if_neg (by omega),hg1,if_neg (OX hj)]
  ·show(Tr.put' 40 (Tr.put' 40 σ.own σ.n _) _ _).get j=_;have hj:σ.n+2<=j:=hj;rw[hg2,if_neg (by omega),hg1,if_neg (by omega)];exact H.top j (by omega)
  ·have eo:(Tr.put' 40 (Tr.put' 40 σ.own σ.n _) _ _).get (σ.n+k)=_:=eo
   match k with
   |
    0=>
    cases ek
    rw[hg2,if_neg (by omega),hg1,if_pos (SQ _)] at eo;cases eo
    exact⟨_,e2,nofun,nofun,λ ob d=>d.tra (.atd (.cons ⟨rfl,nofun,Tra.lit rfl,nofun⟩ .nil))⟩
   |
    1=>
    cases ek
    rw[hg2,if_pos rfl] at eo;cases eo
    exact⟨_,e1,nofun,λ c d e=>(by cases e;exact⟨_,rfl⟩),λ ob d=>d.tra (.exc hd hρ0)⟩
   | k+2=>cases ek
 obtain⟨B1,B2,B3,_⟩:=H.back h hle H' B;refine⟨_,_,σ.n+1,a,52,σ.n,B3,B2,B1,rfl,hρ1,?_,hs⟩;show(Tr.put' 40 (Tr.put' 40 σ.own σ.n _) _ _).get (σ.n+1)=_;rw[hg2,if_pos rfl]
theorem gB(H:St X V σ s)(h:Hand X V σ s [] V₂ σ₂)(hle:V₂.Le V₂')(H':St (X.into (X.out++dq V σ) s.heap) V₂' σ₂' s'){v:Value}{av:AV}(dv:DenV V av v)(hs:(val av σ).Sat Φ):PV X V σ Φ v s':=by
 obtain⟨B1,B2,B3,_⟩:=H.back h hle H' (nw:=[]) (nwA:=[]) (σ':=σ) ⟨.nil,λ J h=>(by cases h),PJ,rfl,H.big,rfl,λ J J J=>rfl,H.top,λ j i e=>(by cases e),λ k j e=>(by cases e)⟩
 exact⟨_,σ,av,B3,B2,B1,dv.mono B3,hs⟩
theorem jb{P:Option Ans->Prop}{t:T (Option Ans)}:∀ {l:List Bool},(∀ b∈l,b=true)->t.Sat P->(ry l t).Sat P
 | [],_,h=>h
 | b::r,k,h=>⟨k b (OZ ..),jb (λ b hb=>k b (OY _ hb)) h⟩
theorem gf(d:Desc):∀ b∈nsK d,b=true:=λ b hb=>by
 rcases d with n|⟨⟩
 ·rw[R4.mp hb,show bP 1000000=true by decide +kernel,S7]
 all_goals exact absurd hb Pl
theorem hU{b:Bool}(h:ju x=some b):Tra V V' x (.bool b):=λ v d=>
 ((AV.casesOn (motive_1:=λ x=>ju x=some b->J7 V x v->DenV V' (.bool b) v) x (λ h J=>am h) (λ a=>λ h q=>Oy h▸(q:v=.bool a)▸.bool a) (λ a=>λ h q=>Oy h▸(q:v=.bool a)▸.bool a) (λ J=>λ h J=>am h) (λ J=>λ h J=>am h) (λ J=>λ h J=>am h) (λ J=>λ h J=>am h) (λ J=>λ h J=>am h) (λ J=>λ h J=>am h) (λ J=>λ h J=>am h) (λ J=>λ h J=>am h) (λ J=>λ h J=>am h) (λ J=>λ h J=>am h) (λ h J=>am h) (λ h J=>am h) (λ J=>λ h J=>am h) (λ h J=>am h) (λ h J=>am h) (λ J J J=>λ h J=>am h) (λ J=>λ h J=>am h))) h d.inv
noncomputable def exK(Φ:Out×Sg->Prop)(σ:Sg):Ans->Prop
 | .w w=>(j4 w σ).Sat Φ
 | .b b=>(val (.bool b) σ).Sat Φ
noncomputable def prK(Φ:Out×Sg->Prop)(σ:Sg):Ans->Prop
 | .w w=>(val (.str w) σ).Sat Φ
 | .b b=>(dk b σ).Sat Φ
theorem vW(H:St X V σ s)(h:Hand X V σ s [] V₂ σ₂)(q:PR (X.into (X.out++dq V σ) s.heap) V₂ σ₂ (λ r=>oU r=some ans) r s')(hs:exK Φ σ ans):PR X V σ Φ r s':=by
 rcases r with e|f
 ·obtain⟨V₂',σ₂',i,a,c,d,hle,_,H',rfl,hi,he,z⟩:=q;exact aw (z:exA σ₂' i=some ans) λ p e1 z=>ay z λ q1 z=>aw z λ es e2 z=>aw z λ q e3 z=>aw z λ w e4 z=>ay z λ qn z=>by
   obtain rfl:=Oy z;have e2:=vw mu e2;rw[ch e3,show q=(n9,.byt w) from Prod.ext (OB qn) (Ai e4)] at e2
   exact sj H h hle H' hi ((vw (c:=λ p=>AO.exc p.1 p.2) uB e1).trans (by rw[OB q1])) e2 hs
 ·rcases f with _|_|_|v
  iterate 3 exact q.elim
  ·obtain⟨V₂',σ₂',av,hle,_,H',dv,z⟩:=q;exact bG (z:(ju av).map Ans.b=some ans) λ b z1 e=>by
    subst e;exact gB H h hle H' (hU (V':=V) z1 v dv) hs
theorem Cm(H:St X V σ s)(h:Hand X V σ s [] V₂ σ₂)(q:PR (X.into (X.out++dq V σ) s.heap) V₂ σ₂ (λ r=>yf r=some ans) r s')(hs:prK Φ σ ans):PR X V σ Φ r s':=by
 rcases r with e|f
 ·obtain⟨V₂',σ₂',i,a,c,d,hle,_,H',rfl,hi,he,z⟩:=q;exact am z
 ·rcases f with _|_|_|v
  iterate 3 exact q.elim
  ·obtain⟨V₂',σ₂',av,hle,_,H',dv,z⟩:=q;have z:(match iF av with
    | some w=>some (.w w)
    | none=>(jW av).bind (prT σ₂'))=some ans:=z
   rcases e:iF av with _|w
   ·rw[e] at z;exact aw z λ i ei z=>aw z λ l e1 z=>aw z λ p e2 z=>aw z λ k e3 z=>ay z λ qk z=>bG z λ b z1 e=>by
     subst e;have e1:=vw ik e1;rw[gP e2,jU e3,aC qk] at e1;obtain⟨a,rfl,hi⟩:=eJ ei dv;exact lV H h hle H' hi e1 (.cons (Tra.lit rfl) (.cons (hU z1) .nil)) hs
   ·rw[e] at z;obtain rfl:=Oy z;exact gB H h hle H' (Tra.lit rfl _ (jU e▸dv)) hs
end
end
section
universe u
open PySem PySem.W PyProof.Rows
variable {d e:Desc}
def eqP(d e:Desc):Prop:=(run cfg0 800 (.call 20 (.glob 387) [.frz 1,.frz ((aZ d 0).length+1)]) (nV d e)).map oU=ry (JP d e) (.leaf (some (rZ d e)))
def ltP(d e:Desc):Prop:=(run cfg0 800 (.call 20 (.glob 394) [.frz 1,.frz ((aZ d 0).length+1)]) (nV d e)).map oU=ry (JJ d e) (.leaf (some (rG d e)))
def trP(w:List Nat)(d e:Desc):Prop:=(run cfg0 800 (.call 20 (.glob 1094) [.str w,.frz 0,.frz (aZ d 0).length]) (nV d e)).map yf=fS w d e
noncomputable def trA(w:List Nat)(d e:Desc):=(run cfg0 800 (.call 20 (.glob 1094) [.str w,.frz 0,.frz (aZ d 0).length]) (nV d e)).map yf
noncomputable def gD(d e:Desc):=((run cfg0 800 (.call 20 (.glob 387) [.frz 1,.frz ((aZ d 0).length+1)]) (nV d e)).map oU,(run cfg0 800 (.call 20 (.glob 394) [.frz 1,.frz ((aZ d 0).length+1)]) (nV d e)).map oU,trA wEq d e,trA wNe d e,trA wGt d e,trA wGe d e,trA wLt d e,trA wLe d e)
noncomputable def gC(d e:Desc):=(ry (JP d e) (.leaf (some (rZ d e))),ry (JJ d e) (.leaf (some (rG d e))),fS wEq d e,fS wNe d e,fS wGt d e,fS wGe d e,fS wLt d e,fS wLe d e)
theorem Mw(n:Int):∀ e:Desc,e.OK->gD (.int n) e=gC (.int n) e:=by
 apply Desc.elim<;>(intros;kernel_rfl)
theorem Mr(n:Int):∀ e:Desc,e.OK->gD (.real n) e=gC (.real n) e:=by
 apply Desc.elim<;>(intros;kernel_rfl)
theorem Mq:∀ e:Desc,e.OK->gD (.bool true) e=gC (.bool true) e:=by
 apply Desc.elim<;>(intros;kernel_rfl)
theorem Mx:∀ e:Desc,e.OK->gD (.bool false) e=gC (.bool false) e:=by
 apply Desc.elim<;>(intros;kernel_rfl)
theorem Mu(b:List UInt8):∀ e:Desc,e.OK->gD (.name b) e=gC (.name b) e:=by
 apply Desc.elim<;>(intros;kernel_rfl)
theorem Mz(n s m:Int):∀ e:Desc,e.OK->gD (.row false n s m) e=gC (.row false n s m) e:=by
 apply Desc.elim<;>(intros;kernel_rfl)
theorem Ms(n s m:Int):∀ e:Desc,e.OK->gD (.row true n s m) e=gC (.row true n s m) e:=by
 apply Desc.elim<;>(intros;kernel_rfl)
theorem My(n:Int):∀ e:Desc,e.OK->gD (.dict n) e=gC (.dict n) e:=by
 apply Desc.elim<;>(intros;kernel_rfl)
theorem Mt(b:List UInt8):∀ e:Desc,e.OK->gD (.oper b) e=gC (.oper b) e:=by
 apply Desc.elim<;>(intros;kernel_rfl)
theorem Mv:∀ e:Desc,e.OK->gD (.mark) e=gC (.mark) e:=by
 apply Desc.elim<;>(intros;kernel_rfl)
theorem Mp:∀ e:Desc,e.OK->gD (.null) e=gC (.null) e:=by
 apply Desc.elim<;>(intros;kernel_rfl)
theorem Jc:∀ e:Desc,e.OK->gD (.str [97,98,99,97,98] 0 5 3) e=gC (.str [97,98,99,97,98] 0 5 3) e:=by
 apply Desc.elim<;>(intros;kernel_rfl)
theorem Jb:∀ e:Desc,e.OK->gD (.str [97,98,99,97,98] 0 2 3) e=gC (.str [97,98,99,97,98] 0 2 3) e:=by
 apply Desc.elim<;>(intros;kernel_rfl)
theorem Ja:∀ e:Desc,e.OK->gD (.str [97,98,99,97,98] 3 2 3) e=gC (.str [97,98,99,97,98] 3 2 3) e:=by
 apply Desc.elim<;>(intros;kernel_rfl)
theorem I9:∀ e:Desc,e.OK->gD (.str [97,98,99,97,98] 1 2 2) e=gC (.str [97,98,99,97,98] 1 2 2) e:=by
 apply Desc.elim<;>(intros;kernel_rfl)
theorem I8:∀ e:Desc,e.OK->gD (.str [97,98] 0 2 2) e=gC (.str [97,98] 0 2 2) e:=by
 apply Desc.elim<;>(intros;kernel_rfl)
theorem I7:∀ e:Desc,e.OK->gD (.str [97,98] 0 2 1) e=gC (.str [97,98] 0 2 1) e:=by
 apply Desc.elim<;>(intros;kernel_rfl)
theorem I6:∀ e:Desc,e.OK->gD (.str [97,98,99,97,98] 0 2 0) e=gC (.str [97,98,99,97,98] 0 2 0) e:=by
 apply Desc.elim<;>(intros;kernel_rfl)
theorem I5:∀ e:Desc,e.OK->gD (.str [97,98] 2 0 3) e=gC (.str [97,98] 2 0 3) e:=by
 apply Desc.elim<;>(intros;kernel_rfl)
theorem fe(hd:d.OK)(he:e.OK):gD d e=gC d e:=Desc.elim (P:=λ d=>∀ e:Desc,e.OK->gD d e=gC d e) Mw Mr Mq Mx Mu Mz Ms My Mt Mv Mp Jc Jb Ja I9 I8 I7 I6 I5 d hd e he
theorem DF(hd:d.OK)(he:e.OK):eqP d e:=show(gD d e).1=(gC d e).1 from congrArg (λ x=>x.1) (fe hd he)
theorem C6(hd:d.OK)(he:e.OK):ltP d e:=show(gD d e).2.1=(gC d e).2.1 from congrArg (λ x=>x.2.1) (fe hd he)
theorem xM(hd:d.OK)(he:e.OK):trP wEq d e:=show(gD d e).2.2.1=(gC d e).2.2.1 from congrArg (λ x=>x.2.2.1) (fe hd he)
theorem xH(hd:d.OK)(he:e.OK):trP wNe d e:=show(gD d e).2.2.2.1=(gC d e).2.2.2.1 from congrArg (λ x=>x.2.2.2.1) (fe hd he)
theorem xK(hd:d.OK)(he:e.OK):trP wGt d e:=show(gD d e).2.2.2.2.1=(gC d e).2.2.2.2.1 from congrArg (λ x=>x.2.2.2.2.1) (fe hd he)
theorem xL(hd:d.OK)(he:e.OK):trP wGe d e:=show(gD d e).2.2.2.2.2.1=(gC d e).2.2.2.2.2.1 from congrArg (λ x=>x.2.2.2.2.2.1) (fe hd he)
theorem xI(hd:d.OK)(he:e.OK):trP wLt d e:=show(gD d e).2.2.2.2.2.2.1=(gC d e).2.2.2.2.2.2.1 from congrArg (λ x=>x.2.2.2.2.2.2.1) (fe hd he)
theorem xJ(hd:d.OK)(he:e.OK):trP wLe d e:=show(gD d e).2.2.2.2.2.2.2=(gC d e).2.2.2.2.2.2.2 from congrArg (λ x=>x.2.2.2.2.2.2.2) (fe hd he)
end
section
universe u
open PySem PySem.W PyProof.Rows
variable {d e:Desc} {w:List Nat} {i k:Nat}
section
variable {V V' V₂ V₂':Va} {σ σ' σ₂ σ₂':Sg} {s s':Shared} {hnd:List Nat} {Φ Φ₂:Out×Sg->Prop} {K:Frag} {glb:List (Nat×AV)}
theorem pT(b c:List UInt8):b.map (λ x=>Int.ofNat x.toNat)=c.map (λ x=>Int.ofNat x.toNat) ↔ au (b.map (·.toNat)) (c.map (·.toNat))=true:=by
 rw[bo,show b.map (λ x=>Int.ofNat x.toNat)=(b.map (·.toNat)).map Int.ofNat by rw[Qg];rfl,show c.map (λ x=>Int.ofNat x.toNat)=(c.map (·.toNat)).map Int.ofNat by rw[Qg];rfl,decide_eq_true_iff]
 exact Re (λ J J q=>Int.ofNat.inj q)
theorem gU(b c:List Nat):b.map Int.ofNat=c.map Int.ofNat ↔ au b c=true:=by
 rw[bo,decide_eq_true_iff];exact Re (λ J J q=>Int.ofNat.inj q)
theorem iI(b:List UInt8):b.map (λ x=>Int.ofNat x.toNat)=(b.map (·.toNat)).map Int.ofNat:=by rw[Qg];rfl
theorem HM:Desc.eq d e=true ↔ d.key.1=e.key.1/\d.key.2=e.key.2:=by
 unfold Desc.eq;rw[decide_eq_true_iff];exact⟨λ q=>by rw[q];exact⟨rfl,rfl⟩,λ q=>Prod.ext q.1 q.2⟩
theorem uj(a b:Int):[a]=[b] ↔ bJ a b=true:=by unfold bJ;rw[decide_eq_true_iff];exact⟨λ h=>(Rb h).1,λ h=>by rw[h]⟩
theorem mc(a b c x y z:Int):[a,b,c]=[x,y,z] ↔ (bJ a x&&(bJ b y&&bJ c z))=true:=by
 unfold bJ;simp
set_option tactic.hygienic true in
theorem A9(d e:Desc):dEq d e=Desc.eq d e:=by
 rw[Bool.eq_iff_iff,HM];cases d<;>cases e<;>first
  | exact⟨λ h=>(by cases h),λ h=>absurd h.1 (OV rfl)⟩
  | exact⟨λ h=>⟨rfl,(uj _ _).mpr h⟩,λ h=>(uj _ _).mp h.2⟩
  | exact⟨λ h=>⟨rfl,(mc _ _ _ _ _ _).mpr h⟩,λ h=>(mc _ _ _ _ _ _).mp h.2⟩
  | exact⟨λ h=>⟨rfl,(pT _ _).mpr h⟩,λ h=>(pT _ _).mp h.2⟩
  | exact⟨λ h=>⟨rfl,(gU _ _).mpr h⟩,λ h=>(gU _ _).mp h.2⟩
  | exact⟨λ h=>⟨rfl,((gU _ _).mpr h).trans (iI _).symm⟩,λ h=>(gU _ _).mp (h.2.trans (iI _))⟩
  | exact⟨λ h=>⟨rfl,(iI _).trans ((gU _ _).mpr h)⟩,λ h=>(gU _ _).mp ((iI _).symm.trans h.2)⟩
  | exact⟨λ J=>⟨rfl,rfl⟩,λ J=>rfl⟩
  | (rename_i a b;rcases a with⟨⟩<;>rcases b with⟨⟩<;>first|exact⟨λ J=>⟨rfl,rfl⟩,λ J=>rfl⟩|exact⟨λ h=>OG h,λ h=>absurd h.2 (by decide)⟩)
theorem qC(h:Desc.cmpT d e=false):dLt d e=Desc.lt d e:=by
 cases d<;>cases e<;>first|rfl|cases h
theorem jq(d e:Desc):Desc.cmpT e d=Desc.cmpT d e:=by
 cases d<;>cases e<;>rfl
theorem JT(h:Desc.cmpT d e=false):d.ord=e.ord:=by
 cases d<;>cases e<;>first|rfl|cases h
theorem nl(d e:Desc):Desc.cmpB e d=Desc.cmpB d e:=Bool.or_comm _ _
theorem pB(H:St X V σ s)(h:thK σ i=some k):∃ d t a,V.ds[k]?=some d/\V.φ[i]?=some a/\OpdAt X V.K d t a:=by
 unfold thK at h;cases e:σ.frz.l[i]? with
 | none=>rw[e] at h;cases h
 |
  some o=>
  rw[e] at h;obtain⟨a,ob,h1,h2,h3,h4⟩:=H.frz i o e;cases o<;>first|(cases h;done)|skip
  all_goals cases h
  ·obtain⟨d,t,p,q⟩:=h4;exact⟨d,t,a,p,h1,q⟩
  ·obtain⟨d,t,p,q,_⟩:=h4;exact⟨d,t,a,p,h1,q⟩
  ·obtain⟨d,t,p,q,_⟩:=h4;exact⟨d,t,a,p,h1,q⟩
  ·obtain⟨d,t,p,q,_⟩:=h4;exact⟨d,t,a,p,h1,q⟩
theorem k9(H:St X V σ s){i k j:Nat}(h:yn σ i=some (k,j)):∃ d t th,V.ds[k]?=some d/\V.φ[i]?=some t/\V.φ[j]?=some th/\OpdAt X V.K d t th:=by
 have h:(σ.frz.l[i]?).bind Gw=some (k,j):=h;refine aw h λ o e h=>?_;rw[uy h] at e;obtain⟨a,ob,h1,h2,h3,d,th,p,q,r⟩:=H.frz i _ e;exact⟨d,a,th,p,h1,q,r⟩
theorem cP{a:Addr}{v:Value}(e:V.φ[i]?=some a)(d:DenV V (.frz i) v):v=.ref a:=by
 cases d with
 | frz q=>rw[e] at q;cases q;rfl
theorem v4(d e:Desc):∀ b∈JP d e,b=true:=by
 intro b hb;unfold JP at hb;split at hb
 ·cases hb
 ·split at hb
  ·exact gf d b hb
  ·rcases RM.mp hb with q|q
   ·exact gf d b q
   ·exact gf e b q
theorem uP(d e:Desc):∀ b∈JJ d e,b=true:=by
 intro b hb;unfold JJ at hb;split at hb
 ·cases hb
 ·rcases RM.mp hb with q|q
  ·exact gf d b q
  ·exact gf e b q
theorem we(T:∀ out h0,TopC (X.into out h0) K cfg0 glb)(c115:w8 cfg0):ConTo X 387 (lim 20 nB):=by
 intro as vs t V σ s A Φ d hc hd da hA H h;obtain⟨hdl,hc⟩:=cG hc;obtain⟨i,j,k,k',rfl,e1,e2,rfl⟩:=se hc;obtain⟨D,t,a,g1,g2,g3⟩:=pB H e1;obtain⟨E,t',a',g1',g2',g3'⟩:=pB H e2;obtain⟨σ1,S1,H1,h1⟩:∃ σ1,Same σ σ1/\St X V σ1 s/\exK Φ σ1 (rZ D E):=by
  unfold vY at h;obtain⟨σ1,S1,H1,h1⟩:=cJ H g1 g1' h;have e:Desc.ask 0 D E=Desc.bad D E:=rfl;rw[e] at h1;unfold rZ;cases q:Desc.bad D E with
  | true=>rw[q] at h1;exact⟨σ1,S1,H1,h1⟩
  |
   false=>
   rw[q] at h1;obtain⟨σ2,S2,H2,h2⟩:=cJ H1 g1 g1' h1;exact⟨σ2,S1.trans S2,H2,by rw[A9];exact h2⟩
 obtain⟨φ₂,p0,p1,p2,p3,hh⟩:=k8 H1 g3 g3';refine PD (dZ (Φ:=Φ) T c115 H1 (hA.mono .rfl S1.keep) hd hdl (by decide) hh (as₂:=[.frz 1,.frz ((aZ D 0).length+1)]) (N:=800) ?_ (Φ₂:=λ r=>oU r=some (rZ D E)) (Internal.T.sat_map (Φ:=λ x=>x=some (rZ D E)) ?_) λ r s' q=>vW H1 hh q h1) λ r s' q=>PR.trans .rfl S1.keep q
 ·cases da with
  | cons d1 r=>
  cases r with
  | cons d2 r=>
  cases r
  rw[cP g2 d1,cP g2' d2];exact .cons (.frz p1) (.cons (.frz p3) .nil)
 ·rw[show _=_ from DF g3.1 g3'.1]
  exact jb (v4 D E) rfl
theorem zo(T:∀ out h0,TopC (X.into out h0) K cfg0 glb)(c115:w8 cfg0):ConTo X 394 (lim 20 wq):=by
 intro as vs t V σ s A Φ d hc hd da hA H h;obtain⟨hdl,hc⟩:=cG hc;obtain⟨i,j,k,k',rfl,e1,e2,rfl⟩:=wo hc;obtain⟨D,t,a,g1,g2,g3⟩:=pB H e1;obtain⟨E,t',a',g1',g2',g3'⟩:=pB H e2;obtain⟨σ1,S1,H1,h1⟩:∃ σ1,Same σ σ1/\St X V σ1 s/\exK Φ σ1 (rG D E):=by
  unfold C8 at h;obtain⟨σ1,S1,H1,h1⟩:=iH (t:=2) H g1 g1' (jq D E) h;have e:Desc.ask 2 D E=Desc.cmpT D E:=rfl;rw[e] at h1;unfold rG;cases q:Desc.cmpT D E with
  | true=>rw[q] at h1;exact⟨σ1,S1,H1,h1⟩
  |
   false=>
   rw[q] at h1;obtain⟨σ2,S2,H2,h2⟩:=iH (t:=3) H1 g1 g1' (nl D E) h1;have e:Desc.ask 3 D E=Desc.cmpB D E:=rfl;rw[e] at h2;cases q2:Desc.cmpB D E with
   | true=>rw[q2] at h2;exact⟨σ2,S1.trans S2,H2,h2⟩
   |
    false=>
    rw[q2] at h2;obtain⟨σ3,S3,H3,h3⟩:=cJ H2 g1 g1' h2;exact⟨σ3,(S1.trans S2).trans S3,H3,by rw[qC q];exact h3⟩
 obtain⟨φ₂,p0,p1,p2,p3,hh⟩:=k8 H1 g3 g3';refine PD (dZ (Φ:=Φ) T c115 H1 (hA.mono .rfl S1.keep) hd hdl (by decide) hh (as₂:=[.frz 1,.frz ((aZ D 0).length+1)]) (N:=800) ?_ (Φ₂:=λ r=>oU r=some (rG D E)) (Internal.T.sat_map (Φ:=λ x=>x=some (rG D E)) ?_) λ r s' q=>vW H1 hh q h1) λ r s' q=>PR.trans .rfl S1.keep q
 ·cases da with
  | cons d1 r=>
  cases r with
  | cons d2 r=>
  cases r
  rw[cP g2 d1,cP g2' d2];exact .cons (.frz p1) (.cons (.frz p3) .nil)
 ·rw[show _=_ from C6 g3.1 g3'.1]
  exact jb (uP D E) rfl
noncomputable def eX(d e:Desc)(b:Bool):Ans:=match Desc.cmpT d e,Desc.cmpB d e with
 | true,_=>.w aY
 | _,true=>.w cu
 | _,_=>.b b
noncomputable def nF(d e:Desc)(b:Bool):Ans:=match Desc.bad d e with
 | true=>.w cu
 | false=>.b b
noncomputable def kN(w:List Nat)(d e:Desc):Ans:=match au w wEq,au w wNe with
 | true,_=>nF d e (dEq d e==true)
 | _,true=>nF d e (dEq d e==false)
 | _,_=>eX d e (ltW w (dLt d e) (dLt e d) (dLt d e) (dLt e d))
theorem gp{a b:Bool}(h:Desc.cmpT d e=false->a=b):eX d e a=eX d e b:=by
 unfold eX;cases q:Desc.cmpT d e with
 | true=>rfl
 | false=>rw[h q]
theorem qv(b:Bool):(b==true)=b:=by cases b<;>rfl
theorem v5(b:Bool):(b==false)=!b:=by cases b<;>rfl
theorem qZ(h:True):(fS w d e).Sat (λ x=>x=some (kN w d e)):=by
 unfold fS kN eX nF;cases au w wEq with
 | true=>dsimp only;cases Desc.bad d e<;>rfl
 |
  false=>cases au w wNe with
  | true=>dsimp only;cases Desc.bad d e<;>rfl
  |
   false=>
   dsimp only;cases Desc.cmpT d e with
   | true=>rfl
   |
    false=>cases Desc.cmpB d e with
    | true=>rfl
    |
     false=>
     dsimp only;cases OC d.ord 1 with
     | false=>rfl
     | true=>exact⟨λ a=>⟨λ b=>(by rw[a,b];exact rfl),λ b=>(by rw[a,b];exact rfl)⟩,λ a=>⟨λ b=>(by rw[a,b];exact rfl),λ b=>(by rw[a,b];exact rfl)⟩⟩
theorem ra{k k':Nat}{g:Sg}{t:R}(h:py w k k' g=some t):(w=wEq/\t=gI true k k' g)\/(w=wNe/\t=gI false k k' g)\/(w=wGt/\t=dm k k' k' k true g)\/(w=wGe/\t=dm k k' k k' false g)\/(w=wLt/\t=dm k k' k k' true g)\/(w=wLe/\t=dm k k' k' k false g):=by
 unfold py at h;rcases e1:au w wEq with _|_
 ·rw[e1] at h;dsimp only at h
  rcases e2:au w wNe with _|_
  ·rw[e2] at h;dsimp only at h
   rcases e3:au w wGt with _|_
   ·rw[e3] at h;dsimp only at h
    rcases e4:au w wGe with _|_
    ·rw[e4] at h;dsimp only at h
     rcases e5:au w wLt with _|_
     ·rw[e5] at h;exact ay h λ q h=>.inr (.inr (.inr (.inr (.inr ⟨aC q,(Oy h).symm⟩))))
     ·rw[e5] at h;exact .inr (.inr (.inr (.inr (.inl ⟨aC e5,(Oy h).symm⟩))))
    ·rw[e4] at h;exact .inr (.inr (.inr (.inl ⟨aC e4,(Oy h).symm⟩)))
   ·rw[e3] at h;exact .inr (.inr (.inl ⟨aC e3,(Oy h).symm⟩))
  ·rw[e2] at h;exact .inr (.inl ⟨aC e2,(Oy h).symm⟩)
 ·rw[e1] at h;exact .inl ⟨aC e1,(Oy h).symm⟩
theorem wd(T:∀ out h0,TopC (X.into out h0) K cfg0 glb)(c115:w8 cfg0):ConTo X 1094 (lim 20 nu):=by
 intro as vs t V σ s A Φ d hc hd da hA H h;obtain⟨hdl,hc'⟩:=cG hc;clear hc;have hc:=hc';clear hc';obtain⟨w,i,j,⟨k,i'⟩,⟨k',j'⟩,rfl,e1,e2,hz⟩:=sd hc;obtain⟨D,ta,th,g1,g2,g4,g3⟩:=k9 H e1;obtain⟨E,ta',th',g1',g2',g4',g3'⟩:=k9 H e2;have ltC:∀ {a b:Nat} {D' E':Desc} {e:Bool},V.ds[a]?=some D'->V.ds[b]?=some E'->(dm k k' a b e σ).Sat Φ->∃ σ1,Same σ σ1/\St X V σ1 s/\prK Φ σ1 (eX D E (Desc.lt D' E'==e)):=by
  intro a b D' E' e ga gb h;unfold dm at h;obtain⟨σ1,S1,H1,h1⟩:=iH (t:=2) H g1 g1' (jq D E) h;have e:Desc.ask 2 D E=Desc.cmpT D E:=rfl;rw[e] at h1;unfold eX;cases q:Desc.cmpT D E with
  | true=>rw[q] at h1;exact⟨σ1,S1,H1,h1⟩
  |
   false=>
   rw[q] at h1;obtain⟨σ2,S2,H2,h2⟩:=iH (t:=3) H1 g1 g1' (nl D E) h1;have e:Desc.ask 3 D E=Desc.cmpB D E:=rfl;rw[e] at h2;cases q2:Desc.cmpB D E with
   | true=>rw[q2] at h2;exact⟨σ2,S1.trans S2,H2,h2⟩
   |
    false=>
    rw[q2] at h2;obtain⟨σ3,S3,H3,h3⟩:=cJ H2 ga gb h2;exact⟨σ3,(S1.trans S2).trans S3,H3,h3⟩
 have eqC:∀ {e:Bool},(gI e k k' σ).Sat Φ->∃ σ1,Same σ σ1/\St X V σ1 s/\prK Φ σ1 (nF D E (dEq D E==e)):=by
  intro e h;unfold gI at h;obtain⟨σ1,S1,H1,h1⟩:=cJ H g1 g1' h;have e:Desc.ask 0 D E=Desc.bad D E:=rfl;rw[e] at h1;unfold nF;cases q:Desc.bad D E with
  | true=>rw[q] at h1;exact⟨σ1,S1,H1,h1⟩
  |
   false=>
   rw[q] at h1;obtain⟨σ2,S2,H2,h2⟩:=cJ H1 g1 g1' h1;exact⟨σ2,S1.trans S2,H2,by rw[A9];exact h2⟩
 have go:trP w D E->(∃ σ1,Same σ σ1/\St X V σ1 s/\prK Φ σ1 (kN w D E))->Pd (Mo X) A (.call (.ref 1094) ⟨vs,[]⟩) (PR X V σ Φ) s:=by
  intro hw ⟨σ1,S1,H1,h1⟩;obtain⟨φ₂,p0,p1,p2,p3,hh⟩:=k8 H1 g3 g3';refine PD (dZ (Φ:=Φ) T c115 H1 (hA.mono .rfl S1.keep) hd hdl (by decide) hh (as₂:=[.str w,.frz 0,.frz (aZ D 0).length]) (N:=800) ?_ (Φ₂:=λ r=>yf r=some (kN w D E)) (Internal.T.sat_map (Φ:=λ x=>x=some (kN w D E)) ?_) λ r s' q=>Cm H1 hh q h1) λ r s' q=>PR.trans .rfl S1.keep q
  ·cases da with
   | cons d0 r=>
   cases r with
   | cons d1 r=>
   cases r with
   | cons d2 r=>
   cases r
   rw[cP g2 d1,cP g2' d2];exact .cons (Tra.lit rfl _ d0) (.cons (.frz p0) (.cons (.frz p2) .nil))
  ·rw[show _=_ from hw]
   exact qZ trivial
 have lt2:Desc.cmpT D E=false->dLt E D=Desc.lt E D:=λ q=>qC (by rw[jq];exact q)
 rcases ra hz with⟨rfl,rfl⟩|⟨rfl,rfl⟩|⟨rfl,rfl⟩|⟨rfl,rfl⟩|⟨rfl,rfl⟩|⟨rfl,rfl⟩
 ·refine go (xM g3.1 g3'.1) (eqC h)
 ·refine go (xH g3.1 g3'.1) (eqC h)
 ·refine go (xK g3.1 g3'.1) ?_;obtain⟨σ1,S1,H1,h1⟩:=ltC g1' g1 h;refine⟨σ1,S1,H1,?_⟩;rw[show kN wGt D E=eX D E (Desc.lt E D==true) from gp λ q=>?_]
  ·exact h1
  ·rw[qv];exact lt2 q
 ·refine go (xL g3.1 g3'.1) ?_;obtain⟨σ1,S1,H1,h1⟩:=ltC g1 g1' h;refine⟨σ1,S1,H1,?_⟩;rw[show kN wGe D E=eX D E (Desc.lt D E==false) from gp λ q=>?_]
  ·exact h1
  ·rw[v5];exact congrArg (!·) (qC q)
 ·refine go (xI g3.1 g3'.1) ?_;obtain⟨σ1,S1,H1,h1⟩:=ltC g1 g1' h;refine⟨σ1,S1,H1,?_⟩;rw[show kN wLt D E=eX D E (Desc.lt D E==true) from gp λ q=>?_]
  ·exact h1
  ·rw[qv];exact qC q
 ·refine go (xJ g3.1 g3'.1) ?_;obtain⟨σ1,S1,H1,h1⟩:=ltC g1' g1 h;refine⟨σ1,S1,H1,?_⟩;rw[show kN wLe D E=eX D E (Desc.lt E D==false) from gp λ q=>?_]
  ·exact h1
  ·rw[v5];exact congrArg (!·) (lt2 q)
end
end
section
universe u
open PySem PySem.W PyProof.Rows
variable {x y:Int}
noncomputable def lU(x y:Int):Int:=if x%2=1/\y%2=1 then 1 else 0
set_option tactic.hygienic true in
theorem fy(hx:0<=x)(hy:0<=y):ON x y=2*ON (x/2) (y/2)+lU x y:=by
 rw[bitAnd_pp hx hy,bitAnd_pp (by omega) (by omega)]
 obtain⟨a,rfl⟩:=Int.eq_ofNat_of_zero_le hx;obtain⟨b,rfl⟩:=Int.eq_ofNat_of_zero_le hy;have e1:((a:Int)/2).toNat=a/2:=by omega
 have e2:((b:Int)/2).toNat=b/2:=by omega
 rw[e1,e2,TU,TU,<-Nat.and_div_two];have h:=@Nat.and_mod_two_eq_one a b;unfold lU;split<;>rename_i q<;>omega
theorem jv(y:Int):O3 y/2=O3 (y/2):=by unfold O3;omega
theorem gx(hx:0<=x)(y:Int):ON x y=2*ON (x/2) (y/2)+lU x y:=by
 by_cases hy:0<=y
 ·exact fy hx hy
 ·have e:=fy hx (bitNot_nonneg.mpr hy);rw[bitAnd_not,jv,bitAnd_not] at e;unfold lU at e ⊢;unfold O3 at e;split at e<;>split<;>omega
theorem bU(x y:Int):ON x y=2*ON (x/2) (y/2)+lU x y:=by
 by_cases hx:0<=x
 ·exact gx hx y
 ·have e:=gx (bitNot_nonneg.mpr hx) y;rw[Tp,bitAnd_not,jv,Tp (O3 _),bitAnd_not,Tp y,Tp (y/2)] at e;unfold lU at e ⊢;unfold O3 at e;split at e<;>split<;>omega
theorem kD:∀ (k:Nat) (x y:Int),ON (x%2^k) (y%2^k)=ON x y%2^k
 |
  0,x,y=>by
  rw[Int.pow_zero,Int.emod_one,Int.emod_one,Int.emod_one];rfl
 |
  k+1,x,y=>by
  have hp:(0:Int)<2^k:=UC (by decide)
  rw[bU x y,bU (x%_)];have hd:∀ z:Int,z%2^(k+1)/2=z/2%2^k:=λ z=>by
   rw[S6,Int.mul_comm];have:=SM z (2*2^k);generalize hP:(2:Int)^k=P at *
   have h1:=RV z (show(2*P)≠0 by omega)
   have h2:=Rh z (show 0<2*P by omega)
   have e:z/2=P*(z/(2*P))+z%(2*P)/2:=by
    rw[TJ] at this;omega
   rw[e,Int.add_comm,RG];exact(Int.emod_eq_of_lt (by omega) (by omega)).symm
  have hm:∀ z:Int,z%2^(k+1)%2=z%2:=λ z=>Int.emod_emod_of_dvd z (by rw[S6];exact Int.dvd_mul_left ..)
  rw[hd,hd,kD k];have hb:lU (x%2^(k+1)) (y%2^(k+1))=lU x y:=by unfold lU;rw[hm,hm]
  rw[hb];have h0:lU x y=0\/lU x y=1:=by unfold lU;split<;>simp
  generalize ON (x/2) (y/2)=z at *
  rw[S6];have:=SM z (2^k);generalize hP:(2:Int)^k=P at *
  have h1:=RV z (show P≠0 by omega)
  have h2:=Rh z hp;have e:2*z+lU x y=(2*(z%P)+lU x y)+(P*2)*(z/P):=by
   rw[Int.mul_comm P 2,TJ];omega
  rw[e,RG];exact(Int.emod_eq_of_lt (by omega) (by omega)).symm
theorem hV:∀ (k:Nat) (x y:Int),-2^k<=x->x<2^k->-2^k<=y->y<2^k->-2^k<=ON x y/\ON x y<2^k
 |
  0,x,y,h1,h2,h3,h4=>by
  rw[Int.pow_zero] at *
  have hx:x=0\/x=-1:=by omega
  have hy:y=0\/y=-1:=by omega
  rcases hx with rfl|rfl<;>rcases hy with rfl|rfl<;>decide
 |
  k+1,x,y,h1,h2,h3,h4=>by
  rw[S6] at *
  have:=hV k (x/2) (y/2) (by omega) (by omega) (by omega) (by omega)
  rw[bU x y];have h0:lU x y=0\/lU x y=1:=by unfold lU;split<;>simp
  generalize ON (x/2) (y/2)=z at *
  omega
theorem ia(h1:-2147483648<=x)(h2:x<2147483648)(h3:-2147483648<=y)(h4:y<2147483648)(a:Int)(b:Int)(hab:a+b*ON x y=a+b*ON x y) :
 Desc.signed (a+b*ON (x%4294967296) (y%4294967296))=Desc.signed (a+b*ON x y):=by
 have:=kD 32 x y;rw[show(2:Int)^32=4294967296 from rfl] at this
 rw[this];unfold Desc.signed;generalize ON x y=z;have e:=SM z 4294967296;have:a+b*(z%4294967296)+2147483648=(a+b*z+2147483648)+4294967296*(-(b*(z/4294967296))):=by
  have e:z%4294967296=z-4294967296*(z/4294967296):=by omega
  rw[e,Int.mul_sub,<-TJ,Int.mul_comm b 4294967296,TJ];generalize b*(z/4294967296)=q;generalize b*z=r;omega
 rw[this,RG]
theorem iX(h1:-2147483648<=x)(h2:x<2147483648):Desc.signed x=x:=by unfold Desc.signed;omega
theorem gN(x:Int):Desc.signed x=if x%4294967296<=2147483647 then x%4294967296 else x%4294967296-4294967296:=by
 unfold Desc.signed;split<;>omega
section
variable {V V' V₂ V₂':Va} {σ σ' σ₂ σ₂':Sg} {s s':Shared} {hnd:List Nat} {Φ Φ₂:Out×Sg->Prop} {K:Frag} {glb:List (Nat×AV)}
noncomputable def s0:Sg:=⟨.nil,0,⟨[],0,[]⟩⟩
theorem y9(H:St X V σ s):Hand X V σ s [] ⟨[],[],inK X V σ s [],[]⟩ s0:=
 Hand.of rfl .nil PJ (Pk _) trivial rfl rfl (λ j o e=>by cases e) rfl (λ j o e=>by cases e) nofun
noncomputable def c8(r:Out×Sg):Option Int:=match r.1 with
 | .v x=>(bI x).map (·.1)
 | _=>none
theorem qm(H:St X V σ s)(h:Hand X V σ s [] V₂ σ₂){i:Int}{r:Qa}(q:PR (X.into (X.out++dq V σ) s.heap) V₂ σ₂ (λ r=>c8 r=some i) r s'){av:AV}(dv:∀ t,DenV V av (.int i t))(hs:(val av σ).Sat Φ):PR X V σ Φ r s':=by
 obtain⟨v,rfl,V₂',σ₂',x,hle,_,H',dx,q⟩:=iZ q λ i g z=>nomatch z
 have q:(bI x).map (·.1)=some i:=q;obtain⟨⟨j,b⟩,q1,rfl⟩:=UB.mp q;obtain⟨t,rfl⟩:=bl q1 dx;exact gB H h hle H' (dv t) hs
theorem tv{k j:Nat}{v:Value}(d:DenV V (.ti 0 k j) v):∃ D t,V.ds[k]?=some D/\v=.int D.num t:=by
 cases d with
 | ti t h1 h2=>exact⟨_,t,h1,rfl⟩
theorem n6{D:Desc}(h:D.OK):-2147483648<=D.num/\D.num<2147483648:=by
 cases D<;>first|exact h|exact⟨(by show(-2147483648:Int)<=0;decide),(by show(0:Int)<2147483648;decide)⟩
noncomputable def swT(x:Int):T (Option Int):=.need true (.split (bY (x.fmod 4294967296) 2147483647) (.leaf (some (x.fmod 4294967296))) (.leaf (some (x.fmod 4294967296-4294967296))))
noncomputable def shT(n m:Int):T (Option Int):=.need true (.split (bY 32 m.natAbs) (.leaf (some 0)) (.split (bY 0 m)
 (.need (bY 0 m&&bY m 64&&bP (n.fmod 4294967296)) (swT (n.fmod 4294967296*2^m.toNat)))
 (.need (bY 0 (-m)) (swT (Int.fdiv (n.fmod 4294967296) (2^(-m).toNat))))))
theorem FZ(n m:Int):(run cfg0 800 (.call 20 (.glob 97) [.si n,.si m]) s0).map c8=shT n m:=by kernel_rfl
theorem tG(x:Int):(swT x).Sat (λ o=>o=some (Desc.signed x)):=by
 rw[gN];unfold swT bY;rw[Pv _ (by decide)]
 refine⟨rfl,λ h=>?_,λ h=>?_⟩
 ·have h:=of_decide_eq_true h;rw[if_pos h];exact rfl
 ·have h:=of_decide_eq_false h;rw[if_neg h];exact rfl
theorem lJ(h1:-18446744073709551616<x)(h2:x<18446744073709551616):bP x=true:=by
 unfold bP;exact SI (by show x.natAbs<_;omega)
theorem BZ{n m:Int}(h1:-2147483648<=n)(h2:n<2147483648):(shT n m).Sat (λ o=>o=some (Desc.shl n m)):=by
 unfold shT Desc.shl bY;rw[Pv _ (by decide)]
 have r1:=RV n (show(4294967296:Int)≠0 by decide)
 have r2:=Rh n (show(0:Int)<4294967296 by decide)
 refine⟨rfl,λ h=>?_,λ h=>⟨λ h'=>⟨?_,?_⟩,λ h'=>⟨?_,?_⟩⟩⟩
 ·have h:=of_decide_eq_true h;by_cases q:0<=m
  ·rw[if_pos q,if_pos (by omega)];exact rfl
  ·rw[if_neg q,if_pos (by omega)];exact rfl
 ·have h:=of_decide_eq_false h;have h':=of_decide_eq_true h';rw[OA,OA,decide_eq_true_iff,decide_eq_true_iff];exact⟨⟨h',by omega⟩,lJ (by omega) (by omega)⟩
 ·have h:=of_decide_eq_false h;have h':=of_decide_eq_true h';rw[if_pos h',if_neg (by omega)]
  have e:Desc.signed (n*2^m.toNat)=Desc.signed (n%4294967296*2^m.toNat):=by
   rw[gN,gN,Int.mul_emod (n%4294967296),Int.emod_emod_of_dvd n (Int.dvd_refl _),<-Int.mul_emod]
  rw[e];exact tG _
 ·have h':=of_decide_eq_false h';rw[decide_eq_true_iff];omega
 ·have h:=of_decide_eq_false h;have h':=of_decide_eq_false h';rw[if_neg h',if_neg (by omega),Pt _ (Qy (UC (by decide)))]
  exact tG _
theorem oX(T:∀ out h0,TopC (X.into out h0) K cfg0 glb)(c115:w8 cfg0):ConTo X 97 (lim 20 gr):=by
 intro as vs t V σ s A Φ d hc hd da hA H h;obtain⟨hdl,hc⟩:=cG hc;obtain⟨k,x,k',y,rfl,rfl⟩:=ny hc;cases da with
 | cons d1 r=>
 cases r with
 | cons d2 r=>
 cases r
 obtain⟨D,t1,g1,rfl⟩:=tv d1;obtain⟨E,t2,g2,rfl⟩:=tv d2;have o1:=n6 (H.dsok _ _ g1);refine dZ (Φ:=Φ) T c115 H hA hd hdl (by decide) (y9 H) (as₂:=[.si D.num,.si E.num]) (N:=800) (.cons (.si _ _) (.cons (.si _ _) .nil)) (Φ₂:=λ r=>c8 r=some (Desc.shl D.num E.num)) (Internal.T.sat_map (Φ:=λ x=>x=some (Desc.shl D.num E.num)) ?_) λ r s' q=>qm H (y9 H) q (λ t=>.ti (t:=4) t g1 g2) h
 rw[FZ];exact BZ o1.1 o1.2
end
end
section
universe u
open PySem PySem.W PyProof.Rows PySem.SeqAt
section
variable {V V' V₂ V₂':Va} {σ σ' σ₂ σ₂':Sg} {s s':Shared} {hnd:List Nat} {Φ Φ₂:Out×Sg->Prop} {K:Frag} {glb:List (Nat×AV)}
theorem vM(H:St X V σ s){h':Heap}{t:Nat}(k:∀ b o,s.heap.get? b=some o->h'.get? b=some o){a:Addr}(ha:s.heap.objs.size<=a):Fresh X V σ { s with heap:=h',toks:=t } a:=by
 have lt:∀ {b:Addr} {o:Obj},s.heap.get? b=some o->b≠a:=λ e q=>by subst q;exact absurd (Pq e) (PQ.mpr ha)
 refine⟨λ i l e=>absurd (H.there l e) (PQ.mpr ha),λ o q=>lt (H.stays a o q) rfl,λ q=>?_,?_,λ j c d b ob vs t' e eb eo ed et=>?_⟩
 ·obtain⟨_,_,_,_,_,q'⟩:=H.soft _ q;exact lt q' rfl
 ·obtain⟨b0,o0,h1,h2⟩:=H.hi;have:=Pq (H.stays _ _ (H.base _ _ h2));rw[beq_eq_false_iff_ne];intro q;have q:a=1:=q;rw[q] at ha;exact absurd (Pb this ha) (PQ.mpr h1)
 ·obtain⟨ob',vs',x1,x2,x3,x4⟩:=H.exc j c d b e eb;have eo:h'.get? b=some ob:=eo;rw[k _ _ x1] at eo;cases eo
  rw[ed] at x2;cases x2
  rcases x4 with x4|⟨t2,ot,ts,a1,a2,a3,a4,a5,a6⟩
  ·rw[et] at x4;cases x4
  ·rw[et] at a1;cases a1
   exact lt a3
theorem St.adopt(H:St X V σ s){a:Addr}{ob:Obj}{o:AO}(F:Fresh X V σ s a)(ha:s.heap.get? a=some ob)(hx:∀ c d,o≠.exc c d)(hd:DenO X false (V.push a) ob o)(hb:σ.n<100000) :
 St X (V.push a) ⟨Tr.put' 40 σ.own σ.n o,σ.n+1,σ.frz⟩ s/\∀ a',a'≠a->Fresh X V σ s a'->Fresh X (V.push a) ⟨Tr.put' 40 σ.own σ.n o,σ.n+1,σ.frz⟩ s a':=by
 have hle:=V.le_push a;have hget:=Tr.get_put' 40 σ.own σ.n o (OI (Pm hb) (by decide))
 have hlv:∀ {i:Nat} {b:Addr},Sg.live ⟨Tr.put' 40 σ.own σ.n o,σ.n+1,σ.frz⟩ i->(V.push a).ρ[i]?=some b->(V.ρ[i]?=some b/\σ.live i)\/(i=σ.n/\b=a):=λ {i b} ⟨o',e,nd⟩ eb=>by
  have e:(Tr.put' 40 σ.own σ.n o).get i=some o':=e;rw[hget] at e;have eb:(V.ρ++[a])[i]?=some b:=eb;by_cases q:i=σ.n
  ·subst q;rw[<-H.lenO,OL (OR _),Qm] at eb;cases eb;exact .inr ⟨rfl,rfl⟩
  ·rw[if_neg q] at e;have:=H.lt e;rw[OT (by rw[H.lenO];exact this)] at eb
   exact .inl ⟨eb,o',e,nd⟩
 have hself:(V.push a).ρ[σ.n]?=some a:=cb H;have oldx:∀ {i:Nat} {c d:Nat} {b:Addr},(Tr.put' 40 σ.own σ.n o).get i=some (.exc c d)->(V.push a).ρ[i]?=some b->σ.own.get i=some (.exc c d)/\V.ρ[i]?=some b:=λ {i c d b} e eb=>by
  have l:Sg.live ⟨Tr.put' 40 σ.own σ.n o,σ.n+1,σ.frz⟩ i:=⟨_,e,nofun⟩
  rw[hget] at e;by_cases q:i=σ.n
  ·rw[if_pos q] at e;exact absurd (Oy e) (hx c d)
  ·rw[if_neg q] at e;rcases hlv l eb with⟨x,_⟩|⟨x,_⟩
   ·exact⟨e,x⟩
   ·exact absurd x q
 refine⟨⟨?_,H.lenF,λ i q=>?_,hb,λ i o' e nd=>?_,λ i j b l1 l2 e1 e2=>?_,λ i b l e=>?_,λ i b l e=>?_,H.stays,λ j o' e=>?_,H.soft,λ i c d b e x=>?_,H.gens,H.os,H.lenD,H.base,H.hi,λ i b l e=>?_,H.dsok,H.facts⟩,λ a' ne F'=>⟨λ i l e=>?_,F'.nk,F'.out,F'.low,λ j c d b ob' vs t e eb eo ed et=>?_⟩⟩
 ·show(V.ρ++[a]).length=_;rw[OW,H.lenO];rfl
 ·show(Tr.put' 40 σ.own σ.n o).get i=none;have q':σ.n+1<=i:=q;rw[hget,if_neg (by omega)];exact H.top i (by omega)
 ·have e':(Tr.put' 40 σ.own σ.n o).get i=some o':=e;rw[hget] at e';by_cases q:i=σ.n
  ·rw[if_pos q] at e';cases e';subst q
   exact⟨a,ob,hself,ha,hd⟩
  ·rw[if_neg q] at e';obtain⟨b,ob',x,y,z⟩:=H.own i o' e' nd;exact⟨b,ob',hle.ρ x,y,z.mono hle⟩
 ·rcases hlv l1 e1 with⟨x,xl⟩|⟨rfl,rfl⟩<;>rcases hlv l2 e2 with⟨y,yl⟩|⟨rfl,y⟩
  ·exact H.nodup i j b xl yl x y
  ·subst y;exact absurd x (F.live i xl)
  ·exact absurd y (F.live j yl)
  ·rfl
 ·rcases hlv l e with⟨x,xl⟩|⟨_,rfl⟩
  ·exact H.nb i b xl x
  ·exact F.nk
 ·rcases hlv l e with⟨x,xl⟩|⟨_,rfl⟩
  ·exact H.nout i b xl x
  ·exact F.out
 ·obtain⟨b,ob',x,y,z,z'⟩:=H.frz j o' e;exact⟨b,ob',x,y,z.mono hle,z'.mono hle⟩
 ·obtain⟨e',x'⟩:=oldx e x;obtain⟨ob2,vs2,k1,k2,k3,k4⟩:=H.exc i c d b e' x';refine⟨ob2,vs2,k1,k2,k3,k4.imp_right λ⟨t,ot,ts,a1,a2,a3,a4,a5,a6⟩=>⟨t,ot,ts,a1,λ j l e3=>?_,a3,a4,a5,a6⟩⟩;rcases hlv l e3 with⟨y,yl⟩|⟨_,rfl⟩
  ·exact a2 j yl y
  ·exact F.far i c d b ob2 vs2 t e' x' k1 k2 a1 rfl
 ·rcases hlv l e with⟨x,xl⟩|⟨_,rfl⟩
  ·exact H.low i b xl x
  ·exact F.low
 ·rcases hlv l e with⟨x,xl⟩|⟨_,rfl⟩
  ·exact F'.live i xl x
  ·exact ne rfl
 ·obtain⟨e',x'⟩:=oldx e eb;exact F'.far j c d b ob' vs t e' x' eo ed et
noncomputable def HH(K:Frag)(fd:FuncData)(fi:FnI):Bool:=
 fd.closure.isEmpty&&(fd.globals==Pj&&(fd.builtins==Qh&&(codeIn K fd.code fd.qualname&&(fd.scope.kind==.function&&(!fd.scope.isCoroutine&&(!fd.scope.isGenerator &&
 (fd.params.posonlyargs.isEmpty&&(fd.params.kwonlyargs.isEmpty&&(fd.params.vararg.isNone&&(fd.params.kwarg.isNone&&(au (fd.params.args.map λ p=>nm p.arg) fi.params &&
 (gE (fd.params.args.map λ p=>nm p.arg)&&(gE (fd.scope.names.map λ p=>nm p.1)&&(fd.params.args.all (λ p=>okS p.arg&&(fd.scope.names.lookup p.arg==some .local||fd.scope.names.lookup p.arg==some .cell))&&(fd.scope.names.all (λ p=>okS p.1&&!(p.2==.free))&&(au (bf fd.scope.names) fi.cells&&HZ K fd.defaults []))))))))))))))))
structure FnCOK(K:Frag)(glb:List (Nat×AV))(a:Addr)(fi:FnI):Prop where
 ex:∃ (oc:Value) (od:Option Addr) (osl:Array (Option Value)) (fd:FuncData) (body:List Stmt),K.lookup a=some ⟨oc,od,.func fd,osl⟩/\fd.body=.stmts body/\HH K fd fi=true/\bc (cS ⟨fd.scope,glb⟩ 20) body=some fi.body
structure FnCP(K:Frag)(fd:FuncData)(fi:FnI):Prop where
 clo:fd.closure=[]
 glob:fd.globals=Pj
 bt:fd.builtins=Qh
 code:codeIn K fd.code fd.qualname=true
 kind:fd.scope.kind=.function
 co:fd.scope.isCoroutine=false
 gen:fd.scope.isGenerator=false
 pos:fd.params.posonlyargs=[]
 kwo:fd.params.kwonlyargs=[]
 va:fd.params.vararg=none
 kw:fd.params.kwarg=none
 par:(fd.params.args.map (·.arg)).map nm=fi.params
 nd:(fd.params.args.map (·.arg)).Nodup
 snd:(fd.scope.names.map λ p=>nm p.1).Nodup
 arg:∀ n∈fd.params.args.map (·.arg),okS n=true/\(fd.scope.names.lookup n=some .local\/fd.scope.names.lookup n=some .cell)
 oks:∀ p∈fd.scope.names,okS p.1=true
 free:∀ p∈fd.scope.names,p.2≠.free
 cells:bf fd.scope.names=fi.cells
 dfl:HZ K fd.defaults []=true
theorem pu{K:Frag}{fd:FuncData}{fi:FnI}(h:HH K fd fi=true):FnCP K fd fi:=
 aV h λ b1 h=>aV h λ b2 h=>aV h λ b3 h=>aV h λ b4 h=>aV h λ b5 h=>aV h λ b6 h=>aV h λ b7 h=>aV h λ b8 h=>aV h λ b9 h=>aV h λ b10 h=>aV h λ b11 h=>aV h λ b12 h=>aV h λ b13 h=>aV h λ b13' h=>aV h λ b14 h=>aV h λ b15 h=>aV h λ b16 b17=>
  ⟨O8.mp b1,Pf b2,Pf b3,b4,Pf b5,sx b6,sx b7,O8.mp b8,O8.mp b9,Px.mp b10,Px.mp b11,Qg.trans (aC b12),fG (Qg.symm▸dI b13),dI b13',
   λ n hn=>(Ro.mp hn).elim λ p r=>r.2▸aV (OP.mp b14 p r.1) λ a b=>⟨a,((P9 _ _).mp b).imp Pf Pf⟩,λ p hp=>aV (OP.mp b15 p hp) λ a J=>a,λ p hp=>aV (OP.mp b15 p hp) λ J b q=>by rw[q] at b;exact nof b,aC b16,b17⟩
theorem gq(names:List (Str×NameKind))(n:Nat)(acc:List (Str×Addr)):QD n names acc=QD n names []++acc:=by
 induction names generalizing n acc with
 | nil=>rfl
 |
  cons p r ih=>
  obtain⟨x,k⟩:=p;unfold QD;rcases e:k==.cell with _|_
  ·rw[if_neg O7,if_neg O7];exact ih n acc
  ·rw[if_pos rfl,if_pos rfl,ih (n+1) ((x,n)::acc),ih (n+1) [(x,n)],PH];rfl
noncomputable def fx:Nat->List Nat->List (Nat×Nat)
 | _,[]=>[]
 | i,n::r=>(n,i)::fx (i+1) r
theorem c9:∀ {names:List (Str×NameKind)} {x:Str} (n:Nat),(names.map λ p=>nm p.1).Nodup->(∀ p∈names,okS p.1=true)->okS x=true->(names.lookup x=some .cell->∃ j,(bf names)[j]?=some (nm x)/\(QD n names []).lookup x=some (n+j))/\(names.lookup x≠some .cell->(QD n names []).lookup x=none)
 | [],x,n,_,_,_=>⟨λ h=>(by cases h),λ J=>rfl⟩
 |
  (y,k)::r,x,n,hn,ho,hx=>by
  rw[O2,O6] at hn;have ho':=λ p hp=>ho p (OY _ hp);have hy:=ho _ (OZ ..);have hr:∀ z:Str,nm z∉(r.map λ p=>nm p.1)->r.lookup z=none:=λ z hz=>by
   cases e:r.lookup z with
   | none=>rfl
   | some v=>exact absurd (PP (f:=λ p:Str×NameKind=>nm p.1) (mem_of_lookup e)) hz
  rw[O4];by_cases q:x=y
  ·subst q;rw[beq_self_eq_true];have ihn:=λ m=>(c9 (x:=x) m hn.2 ho' hx).2 (by rw[hr x hn.1];nofun)
   constructor
   ·intro h;cases h
    refine⟨0,rfl,?_⟩;show(QD n ((x,.cell)::r) []).lookup x=_;unfold QD;rw[if_pos (by decide),gq,List.lookup_append,ihn,O4,beq_self_eq_true];rfl
   ·intro h;have:(k==NameKind.cell)=false:=by cases k<;>first|rfl|exact absurd rfl h
    unfold QD;rw[this,if_neg O7];exact ihn n
  ·have hne:(x==y)=false:=by rw[beq_eq_false_iff_ne];exact q
   rw[hne];dsimp only;unfold QD;cases hk:k==NameKind.cell with
   |
    true=>
    rw[if_pos rfl,gq,List.lookup_append];have:[(y,n)].lookup x=none:=by rw[O4,hne];rfl
    rw[this,Option.or_none];have ih:=c9 (x:=x) (n+1) hn.2 ho' hx;refine⟨λ h=>?_,ih.2⟩;obtain⟨j,e1,e2⟩:=ih.1 h;have:k=.cell:=Pf hk;subst this;exact⟨j+1,e1,by rw[e2];congr 1;omega⟩
   |
    false=>
    rw[if_neg O7];have ih:=c9 (x:=x) n hn.2 ho' hx;refine⟨λ h=>?_,ih.2⟩;obtain⟨j,e1,e2⟩:=ih.1 h;refine⟨j,?_,e2⟩;have:bf ((y,k)::r)=bf r:=by cases k<;>first|rfl|cases hk
    rw[this];exact e1
theorem jr:∀ {l:List Nat} {i j n:Nat},l.Nodup->l[j]?=some n->aX n (fx i l)=some (i+j)
 | [],i,j,n,_,h=>by cases h
 | m::r,i,0,n,hn,h=>by cases h;unfold fx;rw[aK,if_pos rfl];rfl
 |
  m::r,i,j+1,n,hn,h=>by
  rw[O6] at hn;have h:r[j]?=some n:=h;unfold fx;rw[aK,if_neg (by rintro rfl;exact hn.1 (O9 h)),jr hn.2 h]
  congr 1;omega
theorem eY:∀ {names:List (Str×NameKind)},(names.map λ p=>nm p.1).Nodup->(bf names).Nodup/\∀ n∈bf names,n∈names.map λ p=>nm p.1
 | [],_=>⟨PJ,λ J h=>by cases h⟩
 |
  (y,k)::r,h=>by
  rw[O2,O6] at h;obtain⟨i1,i2⟩:=eY h.2;by_cases q:k=.cell
  ·subst q;show(nm y::bf r).Nodup/\_;refine⟨O6.mpr ⟨λ q=>h.1 (i2 _ q),i1⟩,λ n hn=>?_⟩;rcases Po.mp hn with rfl|hn
   ·exact OZ ..
   ·exact OY _ (i2 n hn)
  ·have:bf ((y,k)::r)=bf r:=by cases k<;>first|rfl|exact absurd rfl q
   rw[this];exact⟨i1,λ n hn=>OY _ (i2 n hn)⟩
end
end
section
universe u
open PySem PySem.W PyProof.Rows PySem.SeqAt
variable {a c:Addr} {p:Addr×AO} {fi:FnI} {fd:FuncData} {as:List AV} {l ps:List Nat} {vs:List Value} {d:Nat} {kindOf:Str->Option NameKind}
noncomputable def cR(σ:Sg):List AO->Sg
 | []=>σ
 | o::r=>cR ⟨Tr.put' 40 σ.own σ.n o,σ.n+1,σ.frz⟩ r
noncomputable def fL(ps:List Nat)(as:List AV)(n:Nat):AO:=match aX n (gy ps as) with
 | some v=>.cel v
 | none=>.cel .hid
noncomputable def iy(cells:List Nat)(ps:List Nat)(as:List AV):bN:=(gy ps as).filter λ p=>!(cells.any (OC p.1))
section
variable {V V' V₂ V₂':Va} {σ σ' σ₂ σ₂':Sg} {s s' s₁:Shared} {hnd:List Nat} {Φ Φ₂:Out×Sg->Prop} {K:Frag} {glb:List (Nat×AV)}
theorem rh(V:Va)(a:Addr)(l:List Addr):(V.push a).pushL l=V.pushL (a::l):=by
 show(⟨(V.ρ++[a])++l,V.φ,V.K,V.ds⟩:Va)=⟨V.ρ++(a::l),V.φ,V.K,V.ds⟩;rw[PH];rfl
theorem wY(l:List (Addr×AO)){V:Va}(H:St X V σ s)(hF:∀ p∈l,Fresh X V σ s p.1)(hn:(l.map (·.1)).Nodup)(ho:∀ p∈l,(∀ c d,p.2≠.exc c d)/\∃ ob,s.heap.get? p.1=some ob/\∀ V',V.Le V'->DenO X false V' ob p.2)(hb:σ.n+l.length<=100000) :
 St X (V.pushL (l.map (·.1))) (cR σ (l.map (·.2))) s/\Keep σ (cR σ (l.map (·.2)))/\(cR σ (l.map (·.2))).n=σ.n+l.length/\∀ (i:Nat) o,σ.own.get i=some o->(cR σ (l.map (·.2))).own.get i=some o:=by
 induction l generalizing V σ with
 |
  nil=>
  have e:V=V.pushL []:=congrArg (λ r=>(⟨r,V.φ,V.K,V.ds⟩:Va)) (Pn _).symm;exact⟨Eq.mp (congrArg (λ W=>St X W σ s) e) H,.rfl,rfl,λ J J e=>e⟩
 |
  cons p r ih=>
  have hn:=O6.mp hn;have hb2:σ.n+1+r.length<=100000:=(Qs σ.n 1 r.length:σ.n+1+r.length=σ.n+r.length+1)▸hb;have hlt:σ.n<100000:=Pb (Nat.lt_of_succ_le (Pu (σ.n+1) r.length)) hb2;obtain⟨h1,ob,h2,h3⟩:=ho _ (OZ ..);obtain⟨H1,F1⟩:=H.adopt (hF _ (OZ ..)) h2 h1 (h3 _ (V.le_push p.1)) hlt;obtain⟨G1,G2,G3,G4⟩:=ih H1 (λ p' hp=>F1 p'.1 (λ q=>hn.1 (Ro.mpr ⟨p',hp,q⟩)) (hF p' (OY _ hp))) hn.2 (λ p' hp=>(ho p' (OY _ hp)).imp_right λ q=>q.imp λ ob x=>⟨x.1,λ V' hl=>x.2 V' ((V.le_push p.1).trans hl)⟩) hb2;exact⟨rh V p.1 _▸G1,(cq H hlt).trans G2,G3.trans (Qs σ.n 1 r.length),λ i oi e=>G4 i oi ((Tr.put_ne 40 _ _ _ (OX (H.lt e))).trans e)⟩
theorem so(l:List AO){i:Nat}(h:i<σ.n)(hb:σ.n+l.length<=100000):(cR σ l).own.get i=σ.own.get i:=by
 induction l generalizing σ with
 | nil=>rfl
 | cons o r ih=>exact(ih (Sl h) ((Qs σ.n 1 r.length:σ.n+1+r.length=σ.n+r.length+1)▸hb)).trans (Tr.put_ne 40 _ _ _ (OX h))
theorem ir:∀ (binds:List (Str×Value)) (m:Str->Option Value) (x:Str),(binds.map (·.1)).Nodup->bindL kindOf binds m x=if kindOf x=some .local then(match binds.lookup x with|some v=>some v|none=>m x) else m x
 | [],m,x,_=>by unfold bindL;split<;>rfl
 |
  (n,v)::r,m,x,hn=>by
  rw[O2,O6] at hn;unfold bindL;rw[ir r _ x hn.2,O4];by_cases q:x=n
  ·subst q;have:r.lookup x=none:=by
    cases e:r.lookup x with
    | none=>rfl
    | some y=>exact absurd (PP (f:=(·.1)) (mem_of_lookup e)) hn.1
   rw[this,beq_self_eq_true];by_cases k:kindOf x=some .local
   ·rw[if_pos k,if_pos k,if_pos k,if_pos rfl]
   ·rw[if_neg k,if_neg k,if_neg k]
  ·have hne:(x==n)=false:=by rw[beq_eq_false_iff_ne];exact q
   rw[hne];have:(if kindOf n=some NameKind.local then λ y=>if y=n then some v else m y else m) x=m x:=by
    split
    ·show(if x=n then some v else m x)=m x
     rw[if_neg q]
    ·rfl
   rw[this]
theorem iu:∀ (binds:List (Str×Value)) (m:Str->Option Value) (x:Str),(binds.map (·.1)).Nodup->bindC kindOf binds m x=if kindOf x=some .local then m x else(match binds.lookup x with|some v=>some v|none=>m x)
 | [],m,x,_=>by unfold bindC;split<;>rfl
 |
  (n,v)::r,m,x,hn=>by
  rw[O2,O6] at hn;unfold bindC;rw[iu r _ x hn.2,O4];by_cases q:x=n
  ·subst q;have:r.lookup x=none:=by
    cases e:r.lookup x with
    | none=>rfl
    | some y=>exact absurd (PP (f:=(·.1)) (mem_of_lookup e)) hn.1
   rw[this,beq_self_eq_true];by_cases k:kindOf x=some .local
   ·rw[if_pos k,if_pos k,if_pos k]
   ·rw[if_neg k,if_neg k,if_neg k,if_pos rfl]
  ·have hne:(x==n)=false:=by rw[beq_eq_false_iff_ne];exact q
   rw[hne];have:(if kindOf n=some NameKind.local then m else λ y=>if y=n then some v else m y) x=m x:=by
    split
    ·rfl
    ·show(if x=n then some v else m x)=m x
     rw[if_neg q]
   rw[this]
theorem ol{p:Nat->Bool}{n:Nat}{es:bN}:aX n (es.filter λ q=>p q.1)=if p n=true then aX n es else none:=by
 induction es with
 | nil=>exact(ite_self _).symm
 |
  cons q r ih=>
  rw[List.filter_cons];by_cases h:p q.1=true
  ·rw[if_pos h,aK,aK];by_cases e:q.1=n
   ·rw[if_pos e,if_pos e,<-e,if_pos h]
   ·rw[if_neg e,if_neg e];exact ih
  ·rw[if_neg h,ih,aK];by_cases e:q.1=n
   ·rw[if_neg (e▸h),if_neg (e▸h)]
   ·rw[if_neg e]
theorem uT{α:Type}{l:List (Str×α)}{n:Str}{c:α}(hn:(l.map (·.1)).Nodup)(h:(n,c)∈l):l.lookup n=some c:=by
 induction l with
 | nil=>exact absurd h Pl
 |
  cons p r ih=>
  have hn:=O6.mp hn;rw[O4];rcases Po.mp h with e|e
  ·rw[<-e,beq_self_eq_true]
  ·rw[show(n==p.1)=false from beq_eq_false_iff_ne.mpr λ q=>hn.1 (Ro.mpr ⟨_,e,q⟩)]
   exact ih hn.2 e
theorem cT{m:Nat}:∀ {l:List (Str×NameKind)},m∈bf l->∃ p∈l,nm p.1=m/\p.2=.cell
 | [],h=>by cases h
 |
  (y,k)::r,h=>by
  by_cases q:k=.cell
  ·subst q;have h:m∈nm y::bf r:=h;rcases Po.mp h with e|e
   ·exact⟨_,OZ ..,e.symm,rfl⟩
   ·obtain⟨p,p1,p2,p3⟩:=cT e;exact⟨p,OY _ p1,p2,p3⟩
  ·have:bf ((y,k)::r)=bf r:=by cases k<;>first|rfl|exact absurd rfl q
   rw[this] at h;obtain⟨p,p1,p2,p3⟩:=cT h;exact⟨p,OY _ p1,p2,p3⟩
noncomputable def wi(ps:List Nat)(as:List AV):Addr->List Nat->List (Addr×AO)
 | _,[]=>[]
 | c,n::r=>(c,fL ps as n)::wi ps as (c+1) r
theorem zz(c:Addr)(l:List Nat):(wi ps as c l).map (·.2)=l.map (fL ps as):=by
 induction l generalizing c with
 | nil=>rfl
 | cons n r ih=>exact congrArg (fL ps as n::·) (ih (c+1))
theorem zB{j:Nat}(h:j<l.length):((wi ps as c l).map (·.1))[j]?=some (c+j):=by
 induction l generalizing c j with
 | nil=>exact absurd h (SY _)
 |
  cons n r ih=>
  rcases j with _|j
  ·rfl
  ·exact(ih (c:=c+1) (Rj h)).trans (congrArg some (Qs c 1 j))
theorem qF(h:p∈wi ps as c l):∃ j n,l[j]?=some n/\p=(c+j,fL ps as n):=by
 induction l generalizing c with
 | nil=>exact absurd h Pl
 | cons n r ih=>exact(Po.mp h).elim (λ e=>⟨0,n,rfl,e⟩) λ h=>(ih h).rec λ j m e=>⟨j+1,m,e.1,e.2.trans (congrArg (·,fL ps as m) (Qs c 1 j))⟩
theorem o8(h:p∈wi ps as c l):c<=p.1:=by
 obtain⟨j,m,_,rfl⟩:=qF h;exact Pu _ _
theorem r9(c:Addr)(l:List Nat):((wi ps as c l).map (·.1)).Nodup:=by
 induction l generalizing c with
 | nil=>exact PJ
 | cons n r ih=>exact O6.mpr ⟨λ q=>(Ro.mp q).elim λ p q=>Ra c (OM (o8 q.1) (Pp q.2)),ih (c+1)⟩
theorem zA(c:Addr)(l:List Nat):(wi ps as c l).length=l.length:=by
 induction l generalizing c with
 | nil=>rfl
 | cons n r ih=>exact congrArg (·+1) (ih (c+1))
set_option tactic.hygienic true in
theorem jm(H:St X V σ s)(hB:HH K fd fi=true)(hA:AOK X V σ A d 2)(hdep:d%1000<60)(da:All2 (DenV V) as vs)(hlen:as.length=fi.params.length)(hb:σ.n+1+fi.cells.length<=100000)
 (x:InCallC s (Pr fd s.heap.objs.size a).locals (bindL (Pr fd s.heap.objs.size a).kindOf ((fd.params.args.map (·.arg)).zip vs) λ J=>none) (Pr fd s.heap.objs.size a).cells (bindC (Pr fd s.heap.objs.size a).kindOf ((fd.params.args.map (·.arg)).zip vs) λ J=>none) s₁) :
 ∃
  V₁,V.Le V₁/\Keep σ (cR σ (.ns (iy fi.cells fi.params as)::fi.cells.map (fL fi.params as)))/\St X V₁ (cR σ (.ns (iy fi.cells fi.params as)::fi.cells.map (fL fi.params as))) s₁ /\
  EnvOK (A.deeper (Pr fd s.heap.objs.size a)) V₁ ⟨σ.n,fx (σ.n+1) fi.cells,d+1⟩ ⟨fd.scope,glb⟩ (Pr fd s.heap.objs.size a)/\AOK X V₁ (cR σ (.ns (iy fi.cells fi.params as)::fi.cells.map (fL fi.params as))) (A.deeper (Pr fd s.heap.objs.size a)) (d+1) 0:=by
 refine bw λ F Y=>?_;have P:=pu hB;have hP:=P.par;have hC:=P.cells;have hnd:=P.nd;have hsn:=P.snd;have hok:∀ n∈fd.params.args.map (·.arg),okS n=true:=λ n hn=>(P.arg n hn).1;have harg:=λ n hn=>(P.arg n hn).2;have hos:=P.oks;generalize hN:fd.params.args.map (·.arg)=N at *
 have hlen':N.length=as.length:=by rw[hlen,<-hP,Pa]
 have hfst:(N.zip vs).map (·.1)=N:=by rw[List.map_fst_zip (by rw[<-da.length,hlen'];exact OR _)]
 have hnz:((N.zip vs).map (·.1)).Nodup:=by rw[hfst];exact hnd
 have hkind:(Pr fd s.heap.objs.size a).kindOf=λ n=>fd.scope.names.lookup n:=rfl;have hcells:(Pr fd s.heap.objs.size a).cells=QD (s.heap.objs.size+1) fd.scope.names []:=rfl;have hloc:(Pr fd s.heap.objs.size a).locals=s.heap.objs.size:=rfl;rw[hkind,hcells,hloc] at x;obtain⟨h',tk,rfl,hk⟩:=x.done;have G:=H.grow (t:=tk) hk;have cn:∀ {n:Str},okS n=true->(nm n∈fi.cells ↔ fd.scope.names.lookup n=some .cell):=λ {n} hn=>by
  have:=c9 (x:=n) (s.heap.objs.size+1) hsn hos hn
  constructor
  ·intro q;rw[<-hC] at q;obtain⟨p,p1,p2,p3⟩:=cT q;have e:=eP (hos p p1) hn p2;have:p=(n,.cell):=by rw[<-e,<-p3]
   subst this;exact uT (fG (by rw[Qg];exact hsn)) p1
  ·intro q;obtain⟨j,e1,_⟩:=this.1 q;rw[<-hC];exact O9 e1
 have hcnd:fi.cells.Nodup:=by rw[<-hC];exact(eY hsn).1
 have look1:∀ {n:Str},okS n=true->match aX (nm n) (gy fi.params as) with
  | some v=>∃ y,(N.zip vs).lookup n=some y/\DenV V v y
  | none=>(N.zip vs).lookup n=none:=λ {n} hn=>by
  rw[<-hP];exact qN hok da hlen' _ hn
 obtain⟨ob,ents,ep,n1,n2,n3,n4⟩:=x.toInCall.ns;have all:=wY ((s.heap.objs.size,.ns (iy fi.cells fi.params as))::wi fi.params as (s.heap.objs.size+1) fi.cells) G (λ p hp=>?_) ?_ (λ p hp=>?_) ?_
 ·rw[O2,O2,zz] at all;obtain⟨G1,G2,G3,G4⟩:=all;have hle:=V.le_pushL (s.heap.objs.size::(wi fi.params as (s.heap.objs.size+1) fi.cells).map (·.1));have r0:(V.pushL (s.heap.objs.size::(wi fi.params as (s.heap.objs.size+1) fi.cells).map (·.1))).ρ[σ.n]?=some s.heap.objs.size:=by
   show(V.ρ++_)[σ.n]?=_;rw[<-H.lenO,OL (OR _),Qm];rfl
  have rj:∀ {j:Nat},j<fi.cells.length->(V.pushL (s.heap.objs.size::(wi fi.params as (s.heap.objs.size+1) fi.cells).map (·.1))).ρ[σ.n+1+j]?=some (s.heap.objs.size+1+j):=λ {j} hj=>by
   show(V.ρ++_)[σ.n+1+j]?=_;rw[OL (by rw[H.lenO];omega),H.lenO,show σ.n+1+j-σ.n=j+1 by omega]
   exact zB hj
  have A1:=hA.mono hle G2;obtain⟨l,hf1,hf2⟩:=A1.frames;have hns0:(cR σ (.ns (iy fi.cells fi.params as)::fi.cells.map (fL fi.params as))).own.get σ.n=some (.ns (iy fi.cells fi.params as)):=by
   show(cR ⟨Tr.put' 40 σ.own σ.n _,σ.n+1,σ.frz⟩ _).own.get σ.n=_;rw[so _ (SG _) (by show σ.n+1+_<=_;rw[Pa];exact hb)]
   show(Tr.put' 40 σ.own σ.n _).get σ.n=_;rw[Tr.get_put' 40 _ _ _ (OI (show σ.n+1<=100000 by omega) (by decide)),if_pos rfl]
  refine Y ⟨_,hle,G2,G1,⟨λ n kd hn hl=>?_,P.kind,r0,P.glob,P.bt,λ n hn ⟨kd,e1,e2⟩=>?_,Pr fd s.heap.objs.size a::l,by show A.frames.map _=_;rw[hf1];rfl,_,OZ ..,rfl⟩,?_⟩
  ·have hm:=cK hn hos hl;have:=cL hn hos hl;rw[fR (P.free _ hm)];exact this
  ·have hl:=cL hn hos e1;have hm:=cK hn hos e1;obtain rfl:kd=.cell:=(fR (P.free _ hm)).symm.trans e2;obtain⟨j,f1,f2⟩:=(c9 (x:=n) (s.heap.objs.size+1) hsn hos hn).1 hl;rw[hC] at f1;refine⟨⟨_,f2⟩,λ i hi=>⟨_,?_,f2⟩⟩;rw[jr hcnd f1] at hi;cases hi
   exact rj (OJ.mp f1).1
  ·exact mY A1 hdep λ e he=>by
    obtain rfl:=R4.mp he;exact⟨λ q=>UG (P.kind.symm.trans q),_,rfl,.inr ⟨σ.n,_,r0,hns0⟩⟩
 ·refine vM H hk ?_;rcases Po.mp hp with rfl|hp
  ·exact OR _
  ·exact QB (o8 hp)
 ·rw[O2,O6];refine⟨λ q=>?_,r9 _ _⟩;obtain⟨p,hp,e⟩:=Ro.mp q;have:=o8 hp;have e:p.1=s.heap.objs.size:=e;rw[e] at this;exact Ra _ this
 ·rcases Po.mp hp with rfl|hp
  ·refine⟨nofun,ob,n1,λ V' hl=>?_⟩
   refine⟨ents,ep,n2,n3,λ n hn=>?_⟩;rw[n4 n,ir _ _ _ hnz];unfold iy;rw[ol (p:=λ m=>!(fi.cells.any (OC m)))];have l1:=look1 hn;by_cases c:nm n∈fi.cells
   ·have:(!(fi.cells.any (OC (nm n))))=false:=by
     rw[Bool.not_eq_false',List.any_eq_true];exact⟨_,c,Uq _⟩
    rw[this,if_neg O7,(cn hn).mp c,if_neg (by nofun)]
   ·have:(!(fi.cells.any (OC (nm n))))=true:=by
     rw[So,QQ];intro y hy q;exact c (OB q▸hy)
    rw[this,if_pos rfl];cases e:aX (nm n) (gy fi.params as) with
    |
     none=>
     rw[e] at l1;dsimp only at l1 ⊢;rw[l1];split<;>rfl
    |
     some v=>
     rw[e] at l1;dsimp only at l1 ⊢;obtain⟨y,y1,y2⟩:=l1;intro _;have hm:n∈N:=by
      have:=PP (f:=(·.1)) (mem_of_lookup y1);rw[hfst] at this;exact this
     have hloc:fd.scope.names.lookup n=some .local:=(harg n hm).resolve_right λ q=>c ((cn hn).mpr q);exact⟨y,by rw[if_pos hloc,y1],y2.mono hl⟩
  ·obtain⟨j,n,e1,rfl⟩:=qF hp;have hmn:n∈bf fd.scope.names:=by rw[hC];exact O9 e1
   obtain⟨p,p1,p2,p3⟩:=cT hmn;have hn:=hos p p1;have hlk:fd.scope.names.lookup p.1=some .cell:=(cn hn).mp (by rw[p2,<-hC];exact hmn)
   obtain⟨j',f1,f2⟩:=(c9 (x:=p.1) (s.heap.objs.size+1) hsn hos hn).1 hlk;rw[hC,p2] at f1;have:j'=j:=(Sp (OJ.mp f1).1 hcnd).mp (f1.trans e1.symm);subst this;obtain⟨o,o1,o2⟩:=x.cell _ _ f2;rw[iu _ _ _ hnz,if_neg (by rw[hlk];nofun)] at o2
   have l1:=look1 hn;rw[p2] at l1;unfold fL;refine⟨λ c d q=>?_,o,o1,λ V' hl=>?_⟩
   ·dsimp only at q;split at q<;>cases q
   ·dsimp only;split
    ·rename_i v e
     rw[e] at l1;obtain⟨y,y1,y2⟩:=l1;rw[y1] at o2;exact⟨_,o2,λ J=>⟨y,rfl,y2.mono hl⟩⟩
    ·exact⟨_,o2,λ q=>absurd rfl q⟩
 ·rw[Q1,zA];show σ.n+(fi.cells.length+1)<=_;omega
theorem fK{prog:Program}{w:World}{R:Qa->Shared->Prop}{o:Obj}{body:List Stmt}{vals:List Value}{binds:List (Str×Value)}
 (hroom:A.depth<Sa) (ho:s.heap.get? a=some o) (hdata:o.data=.func fd) (hlim:s.heap.NoLimit) (hcd:s.heap.CodeRec fd.code fd.qualname)
 (hbody:fd.body=.stmts body) (hbind:BindsTo s fd ⟨vals,[]⟩ binds) (hclo:fd.closure=[])
 (hkind:∀ x∈binds,fd.scope.names.lookup x.1=some .local\/(fd.scope.names.lookup x.1=some .cell/\((QD (s.heap.objs.size+1) fd.scope.names []).lookup x.1).isSome=true))
 (h:∀ s₁,InCallC s (Pr fd s.heap.objs.size a).locals (bindL (Pr fd s.heap.objs.size a).kindOf binds λ J=>none) (Pr fd s.heap.objs.size a).cells
  (bindC (Pr fd s.heap.objs.size a).kindOf binds λ J=>none) s₁->
  wpAny (model prog w) (A.deeper (Pr fd s.heap.objs.size a)) (execs body (Pr fd s.heap.objs.size a)) (λ f s'=>R (.ok (.ret (match f with | .ret v=>v|_=>.none))) s')
   (λ e s'=>wpAny (model prog w) (A.deeper (Pr fd s.heap.objs.size a)) (leaving (Pr fd s.heap.objs.size a) e) (λ J s''=>R (.error e) s'') (λ e' s''=>R (.error e') s'') s') s₁)
 (hco:fd.scope.isCoroutine=false) (hgen:fd.scope.isGenerator=false) (hk:fd.scope.kind=.function) :
 Pd (model prog w) A (.call (.ref a) ⟨vals,[]⟩) R s:=by
 refine codeAny_call_function hroom ho hdata hco hgen hbody hcd (hbind _ _ _ _ ?_);rw[hclo];refine RE hk hkind λ env he s' x=>?_;subst he;exact⟨hlim.keeps x.toInCall.keep,codeAny_func (h s' x)⟩
theorem Bg(X0:K.In s.heap)(P:FnCP K fd fi)(da:All2 (DenV V) as vs)(hlen:as.length=fi.params.length) :
 BindsTo s fd ⟨vs,[]⟩ ((fd.params.args.map (·.arg)).zip vs)/\(∀ x∈(fd.params.args.map (·.arg)).zip vs,fd.scope.names.lookup x.1=some .local\/(fd.scope.names.lookup x.1=some .cell/\((QD (s.heap.objs.size+1) fd.scope.names []).lookup x.1).isSome=true)):=by
 obtain⟨D,hD,hDq⟩:=qB (s:=s) X0 P.dfl;obtain rfl:=(hD V).nil_inv;have hl:vs.length=(fd.params.args.map (·.arg)).length:=da.length.symm.trans (hlen.trans ((congrArg Sw P.par).symm.trans (Pa _)));refine⟨?_,λ x hx=>?_⟩
 ·have:=qM P.pos rfl P.kwo P.va P.kw P.nd hDq (Pk _) (vs:=vs) ((congrArg (vs.length+·) (Nat.zero_sub _)).trans hl);rw[UN,Pn] at this;exact this
 ·have a:=P.arg x.1 (List.of_mem_zip hx).1;exact a.2.imp_right λ q=>⟨q,((c9 (x:=x.1) (s.heap.objs.size+1) P.snd P.oks a.1).1 q).elim λ j f=>by rw[f.2];rfl⟩
theorem zE(X0:K.In X.B)(hlim:X.B.NoLimit)(F:FnCOK K glb a fi){ih:Run}(hS:SS X glb ih)(da:All2 (DenV V) as vs)(hA:AOK X V σ A d 2)(H:St X V σ s)(hdep:d%1000<60)(hlen:as.length=fi.params.length)(hb:σ.n+1+fi.cells.length<=100000)
 (h:((ih (.ss ⟨σ.n,fx (σ.n+1) fi.cells,d+1⟩ fi.body) (cR σ (.ns (iy fi.cells fi.params as)::fi.cells.map (fL fi.params as)))).bind yb).Sat Φ) :
 Pd (Mo X) A (.call (.ref a) ⟨vs,[]⟩) (PR X V σ Φ) s:=by
 obtain⟨oc,od,osl,fd,body,hl,hbody,hB,hcs⟩:=F.ex;have XS:=X0.keeps H.bs;have P:=pu hB;obtain⟨hbind,hkind⟩:=Bg XS P da hlen;refine fK hA.room (XS _ _ hl) rfl (hlim.keeps H.bs) (codeRec_of XS P.code) hbody hbind P.clo hkind (λ s₁ x=>?_) P.co P.gen P.kind;obtain⟨V₁,hle,K1,H1,hv,hA'⟩:=jm (glb:=glb) H hB hA hdep da hlen hb x;exact qc hv hA' hle K1 (hS hcs rfl hv hA' H1 (T.sat_bind h))
end
end
section
universe u
open PySem PySem.W PyProof.Rows PySem.SeqAt
variable {B m n:Int} {d':Nat}
noncomputable def ltN(B n:Int):Bool:=bY 0 n&&dW n B
noncomputable def cM(B:Int):List AV->Sg->Option R
 |
  [x,y],g=>(match bI x,bI y with
  | some (n,_),some (m,_)=>some (.need (ltN B n&&ltN B m) (val (.si (ON n m)) g))
  | _,_=>none)
 | _,_=>none
noncomputable def o7(con:List (Nat×(Nat->List AV->Sg->Option R))):Cfg:=⟨fnL,clsL,gobL,con,false⟩
theorem bM(con:List (Nat×(Nat->List AV->Sg->Option R))):w8 (o7 con):=⟨_,rfl,rfl,rfl,rfl⟩
noncomputable def dG(L:Nat)(B n m:Int)(d:Nat):R:=(run (o7 [(1106,lim L (cM B))]) 800 (.ss ⟨0,fx 1 fiBoth.cells,d+1⟩ fiBoth.body) (cR s0 (.ns (iy fiBoth.cells fiBoth.params [.si n,.si m])::fiBoth.cells.map (fL fiBoth.params [.si n,.si m])))).bind yb
noncomputable def rH(B n m:Int):List Int->Int->T (Option Int)
 | [],acc=>.need true (.need true (.need (ltN B (n.fdiv 16)&&ltN B (m.fdiv 16)) (.need (bP 16||bP (ON (n.fdiv 16) (m.fdiv 16))) (.leaf (some (acc+16*ON (n.fdiv 16) (m.fdiv 16)))))))
 | b::r,acc=>.need true (.need true (.split (bJ ((n.fdiv b).fmod 2) 1) (.need true (.need true (.split (bJ ((m.fdiv b).fmod 2) 1) (rH B n m r (acc+b)) (rH B n m r acc)))) (rH B n m r acc)))
noncomputable def jt(B n m:Int):T (Option Int):=.split (bJ n 0) (.leaf (some 0)) (.split (bJ m 0) (.leaf (some 0)) (rH B n m [1,2,4,8] 0))
theorem II(n m:Int):(dG 50 1 n m 49).map c8=jt 1 n m:=by kernel_rfl
theorem IG(n m:Int):(dG 49 16 n m 48).map c8=jt 16 n m:=by kernel_rfl
theorem IF(n m:Int):(dG 48 256 n m 47).map c8=jt 256 n m:=by kernel_rfl
theorem IE(n m:Int):(dG 47 4096 n m 46).map c8=jt 4096 n m:=by kernel_rfl
theorem ID(n m:Int):(dG 46 65536 n m 45).map c8=jt 65536 n m:=by kernel_rfl
theorem IC(n m:Int):(dG 45 1048576 n m 44).map c8=jt 1048576 n m:=by kernel_rfl
theorem IB(n m:Int):(dG 44 16777216 n m 43).map c8=jt 16777216 n m:=by kernel_rfl
theorem IA(n m:Int):(dG 43 268435456 n m 42).map c8=jt 268435456 n m:=by kernel_rfl
theorem IJ:(run (o7 []) 800 (.ss ⟨0,fx 1 fiBoth.cells,51⟩ fiBoth.body) (cR s0 (.ns (iy fiBoth.cells fiBoth.params [.int 0,.int 0])::fiBoth.cells.map (fL fiBoth.params [.int 0,.int 0]))) |>.bind yb).map c8=.leaf (some 0):=by kernel_rfl
noncomputable def An(n m:Int):List Int->Int
 | []=>0
 | b::r=>(if (n/b)%2=1/\(m/b)%2=1 then b else 0)+An n m r
theorem gi{B n m x:Int}(hn:ltN B (n.fdiv 16)=true)(hm:ltN B (m.fdiv 16)=true):∀ (r:List Int) (acc:Int),(∀ b∈r,0<b)->acc+An n m r+16*ON (n.fdiv 16) (m.fdiv 16)=x->(rH B n m r acc).Sat (λ o=>o=some x)
 | [],acc,_,h=>⟨rfl,rfl,(by rw[hn,hm];rfl),(by rw[show bP 16=true by decide +kernel,Bool.true_or]),(by show some _=some x;rw[<-h];show _=some (acc+0+_);rw[Int.add_zero])⟩
 |
  b::r,acc,hb,h=>by
  have hb0:=hb b (OZ ..);have hr:=λ c hc=>hb c (OY _ hc);unfold rH bJ;rw[Pt _ (Qy hb0),Pt _ (Qy hb0),Pv _ (by decide),Pv _ (by decide)]
  unfold An at h;refine⟨rfl,rfl,λ e=>⟨rfl,rfl,λ e2=>?_,λ e2=>?_⟩,λ e=>?_⟩
  ·rw[if_pos ⟨of_decide_eq_true e,of_decide_eq_true e2⟩] at h;exact gi hn hm r (acc+b) hr (by rw[<-h];omega)
  ·rw[if_neg λ q=>of_decide_eq_false e2 q.2] at h;exact gi hn hm r acc hr (by rw[<-h];omega)
  ·rw[if_neg λ q=>of_decide_eq_false e q.1] at h;exact gi hn hm r acc hr (by rw[<-h];omega)
theorem Lk{p:Prop}[Decidable p](k:Int):(if p then k else 0)=k*(if p then 1 else 0):=by
 by_cases h:p
 ·rw[if_pos h,if_pos h,Int.mul_one]
 ·rw[if_neg h,if_neg h,Int.mul_zero]
theorem b16(a b c d z:Int):0+(a+(2*b+(4*c+(8*d+0))))+16*z=2*(2*(2*(2*z+d)+c)+b)+a:=by omega
theorem d4(z:Int):z/2/2=z/4:=Int.ediv_ediv_of_nonneg (by decide)
theorem d8(z:Int):z/2/2/2=z/8:=(congrArg (·/2) (d4 z)).trans (Int.ediv_ediv_of_nonneg (by decide))
theorem d16(z:Int):z/2/2/2/2=z/16:=(congrArg (·/2) (d8 z)).trans (Int.ediv_ediv_of_nonneg (by decide))
theorem wA(hn0:0<=n)(hn1:n<16*B)(hm0:0<=m)(hm1:m<16*B):(jt B n m).Sat (λ o=>o=some (ON n m)):=by
 unfold jt bJ;refine⟨λ e=>?_,λ J=>⟨λ e=>?_,λ J=>gi ?_ ?_ _ _ (by decide) ?_⟩⟩
 ·rw[of_decide_eq_true e,Tp,bitAnd_zero];exact rfl
 ·rw[of_decide_eq_true e,bitAnd_zero];exact rfl
 ·rw[Pt _ (by decide)]
  unfold ltN bY dW;rw[OA,decide_eq_true_iff,decide_eq_true_iff];omega
 ·rw[Pt _ (by decide)]
  unfold ltN bY dW;rw[OA,decide_eq_true_iff,decide_eq_true_iff];omega
 ·rw[Pt _ (by decide),Pt _ (by decide)]
  rw[bU n m,bU (n/2),bU (n/2/2),bU (n/2/2/2)];rw[d16,d16,d8,d8,d4,d4];unfold An An An An An lU;rw[Ur,Ur];generalize ON (n/16) (m/16)=z;rw[Lk 2,Lk 4,Lk 8];exact b16 _ _ _ _ _
section
variable {V V' V₂ V₂':Va} {σ σ' σ₂ σ₂':Sg} {s s' s₁:Shared} {hnd:List Nat} {Φ Φ₂:Out×Sg->Prop} {K:Frag} {glb:List (Nat×AV)}
theorem oh:ltN B n=true ↔ 0<=n/\n<B:=by
 unfold ltN bY dW;rw[OA,decide_eq_true_iff,decide_eq_true_iff]
set_option tactic.hygienic true in
theorem sg{as:List AV}{t:R}(h:cM B as σ=some t):∃ x y n a m b,as=[x,y]/\bI x=some (n,a)/\bI y=some (m,b)/\t=.need (ltN B n&&ltN B m) (val (.si (ON n m)) σ):=by
 unfold cM at h;split at h
 ·split at h
  ·rename_i x y _ _ n a m b e1 e2
   cases h
   exact⟨x,y,n,a,m,b,rfl,e1,e2,rfl⟩
  ·cases h
 ·cases h
theorem qS:∀ {as:List AV} {vs:List Value},as.all Fg=true->All2 (DenV V) as vs->All2 (DenV V') as vs
 | _,_,_,.nil=>.nil
 |
  _,_,h,.cons p q=>by
  rw[RH,OA] at h;exact .cons (Tra.lit h.1 _ p) (qS h.2 q)
theorem qK(T:∀ out h0,TopC (X.into out h0) K (o7 []) glb)(hlim:X.B.NoLimit)(F:FnCOK K glb 1106 fiBoth){con:List (Nat×(Nat->List AV->Sg->Option R))}(hcon:∀ a c,aX a con=some c->cO K a=true/\∀ out h0,ConTo (X.into out h0) a c)(h60:d'<60)(hr:∀ n m:Int,ltN B n=true->ltN B m=true->∃ as₂,as₂.length=2/\(∀ vs:List Value,(∃ t u,vs=[.int n t,.int m u])->All2 (DenV (⟨[],[],λ J J=>False,[]⟩:Va)) as₂ vs)/\as₂.all Fg=true /\
 (((run (o7 con) 800 (.ss ⟨0,fx 1 fiBoth.cells,d'+1⟩ fiBoth.body) (cR s0 (.ns (iy fiBoth.cells fiBoth.params as₂)::fiBoth.cells.map (fL fiBoth.params as₂)))).bind yb).map c8).Sat (λ o=>o=some (ON n m))):ConTo X 1106 (lim d' (cM B)):=by
 intro as vs t V σ s A Φ d hc hd da hA H h;obtain⟨hdl,hc⟩:=cG hc;obtain⟨x,y,n,a,m,b,rfl,e1,e2,rfl⟩:=sg hc;obtain⟨h1,h⟩:=h;rw[OA] at h1;cases da with
 | cons d1 r=>
 cases r with
 | cons d2 r=>
 cases r
 obtain⟨t1,rfl⟩:=bl e1 d1;obtain⟨t2,rfl⟩:=bl e2 d2;obtain⟨as₂,l2,da₂,lit,hr⟩:=hr n m h1.1 h1.2;have da₂:=da₂ _ ⟨t1,t2,rfl⟩;have da₂':All2 (DenV ⟨[],[],inK X V σ s [],[]⟩) as₂ [.int n t1,.int m t2]:=by
  exact qS lit da₂
 have hh:=y9 H;have e60:d'%1000=d':=by omega
 have S:=nS (fT (T (X.out++dq V σ) s.heap) (con':=con) λ a c e=>⟨(hcon a c e).1,(hcon a c e).2 _ _⟩) (bM con) 800;refine PD (zE (X:=X.into (X.out++dq V σ) s.heap) (Φ:=λ r=>c8 r=some (ON n m)) (T [] s.heap).T.inB hlim F S.S da₂' (hA.into H hd hdl (by omega)) (H.into hh) (by rw[e60];exact h60) (by rw[l2];rfl) (by decide) (Internal.T.sat_map hr)) λ r s' q=>qm H hh q (λ t=>.si _ t) h
set_option tactic.hygienic true in
theorem cN(T:∀ out h0,TopC (X.into out h0) K (o7 []) glb)(hlim:X.B.NoLimit)(F:FnCOK K glb 1106 fiBoth)(hk:cO K 1106=true){L:Nat}{B B':Int}(hB:B'=16*B)(ih:∀ out h0,ConTo (X.into out h0) 1106 (lim L (cM B)))(h60:d'<60)
 (hr:∀ n m,(dG L B n m d').map c8=jt B n m):ConTo X 1106 (lim d' (cM B')):=by
 subst hB;refine qK T hlim F (con:=[(1106,lim L (cM B))]) (λ a c e=>?_) h60 λ n m h1 h2=>⟨[.si n,.si m],rfl,λ vs ⟨t,u,e⟩=>by rw[e];exact .cons (.si n t) (.cons (.si m u) .nil),rfl,?_⟩
 ·rw[aK] at e;split at e
  ·rename_i q
   cases e;subst q
   exact⟨hk,ih⟩
  ·cases e
 ·have:=hr n m;unfold dG at this;rw[this];rw[oh] at h1 h2;exact wA h1.1 h1.2 h2.1 h2.2
theorem zr(T:∀ out h0,TopC (X.into out h0) K (o7 []) glb)(hlim:X.B.NoLimit)(F:FnCOK K glb 1106 fiBoth)(hk:cO K 1106=true):ConTo X 1106 (lim 42 (cM 4294967296)):=by
 have c0:∀ out h0,ConTo (X.into out h0) 1106 (lim 50 (cM 1)):=λ out h0=>qK (X:=X.into out h0) (λ o h=>T o h) hlim F (con:=[]) (λ a c e=>by cases e) (by decide) λ n m h1 h2=>by
  rw[oh] at h1 h2;obtain rfl:n=0:=by omega
  obtain rfl:m=0:=by omega
  refine⟨[.int 0,.int 0],rfl,λ vs ⟨t,u,e⟩=>by rw[e];exact .cons (.int 0 t) (.cons (.int 0 u) .nil),rfl,?_⟩
  rw[IJ];exact rfl
 have c1:∀ out h0,ConTo (X.into out h0) 1106 (lim 49 (cM 16)):=λ out h0=>cN (X:=X.into out h0) (λ o h=>T o h) hlim F hk (by decide) (λ o h=>c0 o h) (by decide) II
 have c2:∀ out h0,ConTo (X.into out h0) 1106 (lim 48 (cM 256)):=λ out h0=>cN (X:=X.into out h0) (λ o h=>T o h) hlim F hk (by decide) (λ o h=>c1 o h) (by decide) IG
 have c3:∀ out h0,ConTo (X.into out h0) 1106 (lim 47 (cM 4096)):=λ out h0=>cN (X:=X.into out h0) (λ o h=>T o h) hlim F hk (by decide) (λ o h=>c2 o h) (by decide) IF
 have c4:∀ out h0,ConTo (X.into out h0) 1106 (lim 46 (cM 65536)):=λ out h0=>cN (X:=X.into out h0) (λ o h=>T o h) hlim F hk (by decide) (λ o h=>c3 o h) (by decide) IE
 have c5:∀ out h0,ConTo (X.into out h0) 1106 (lim 45 (cM 1048576)):=λ out h0=>cN (X:=X.into out h0) (λ o h=>T o h) hlim F hk (by decide) (λ o h=>c4 o h) (by decide) ID
 have c6:∀ out h0,ConTo (X.into out h0) 1106 (lim 44 (cM 16777216)):=λ out h0=>cN (X:=X.into out h0) (λ o h=>T o h) hlim F hk (by decide) (λ o h=>c5 o h) (by decide) IC
 have c7:∀ out h0,ConTo (X.into out h0) 1106 (lim 43 (cM 268435456)):=λ out h0=>cN (X:=X.into out h0) (λ o h=>T o h) hlim F hk (by decide) (λ o h=>c6 o h) (by decide) IB
 intro as vs t V σ s A Φ d;exact cN (B:=268435456) (B':=4294967296) T hlim F hk (by decide) (λ o h=>c7 o h) (by decide) IA
end
end
section
universe u
open PySem PySem.W PyProof.Rows PySem.SeqAt
variable {m n x y z:Int}
inductive Kc where
 | I (n:Int)|B (b:Bool)|X
@[reducible] noncomputable def Kc.ctorIdx(o:Kc):Nat:=Kc.casesOn o (λ J=>0) (λ J=>1) 2
noncomputable def Kc.of:Desc->Kc
 | .int n=>.I n
 | .bool b=>.B b
 | _=>.X
noncomputable def Kc.ao:Kc->Nat->Nat->List AO
 | .I n,o,_=>aZ (.int n) o
 | .B b,o,_=>aZ (.bool b) o
 | .X,o,ix=>[.otp ix (o+1),.otx ix]
noncomputable def MW(c c':Kc):Sg:=⟨.nil,0,⟨c.ao 0 0++c'.ao (c.ao 0 0).length 1,2,[]⟩⟩
inductive Cn where
 | w (l:List Nat)|b (x:Bool)|i (x:Int)
@[reducible] noncomputable def Cn.ctorIdx(o:Cn):Nat:=Cn.casesOn o (λ J=>0) (λ J=>1) (λ J=>2)
noncomputable def On(k:List Nat)(x:AV):Option Cn:=match au k bq with
 | true=>(ju x).map .b
 | false=>ifK (au k bp) ((bI x).map λ p=>.i p.1)
noncomputable def zv(r:Out×Sg):Option Cn:=Jx r.1 λ v=>opB (iF v) (λ w=>some (.w w)) (j6 v λ i=>Jr (r.2.own.get i) λ xs=>(jG xs).bind λ p=>xd p.1 λ k=>On k p.2)
noncomputable def sgn(x:Int):T (Option Cn):=.need true (.leaf (some (.i (Int.fmod (x+2147483648) 4294967296-2147483648))))
noncomputable def cnI(t:Nat)(n m:Int):T (Option Cn):=match t with
 | 5=>.leaf (some (.i (-1-n)))
 | 4
  => .split (bY 0 (max (-32) (min 32 m)))
  (.need (bY 0 (max (-32) (min 32 m))&&bY (max (-32) (min 32 m)) 64&&bP 2) (.need (bP n||bP (2^(max (-32) (min 32 m)).toNat)) (sgn (n*2^(max (-32) (min 32 m)).toNat))))
  (.need true (.need (bY 0 (-(max (-32) (min 32 m)))&&bY (-(max (-32) (min 32 m))) 64&&bP 2) (.need (!(bJ (2^(-(max (-32) (min 32 m))).toNat) 0)&&bP (2^(-(max (-32) (min 32 m))).toNat)) (sgn (Int.fdiv (n.fmod 4294967296) (2^(-(max (-32) (min 32 m))).toNat))))))
 | _
  => .need true (.need true (.need (ltN 4294967296 (n.fmod 4294967296)&&ltN 4294967296 (m.fmod 4294967296)) (.need (bP 2||bP (ON (n.fmod 4294967296) (m.fmod 4294967296)))
  (sgn (match t with
   | 1=>ON (n.fmod 4294967296) (m.fmod 4294967296)
   | 2=>n+m-ON (n.fmod 4294967296) (m.fmod 4294967296)
   | _=>n+m-2*ON (n.fmod 4294967296) (m.fmod 4294967296))))))
noncomputable def cnB(t:Nat)(a b:Bool):Cn:=match t with
 | 1=>.b (a&&b)
 | 2=>.b (a||b)
 | 3=>.b (a != b)
 | 4=>.w aY
 | _=>.b (!a)
noncomputable def cnT(t:Nat):Kc->Kc->T (Option Cn)
 | .I n,.I m=>cnI t n m
 | .B a,.B b=>.leaf (some (cnB t a b))
 | .X,.X=>.both (.leaf (some (.w aY))) (.leaf (some (.w aY)))
 | _,_=>.leaf (some (.w aY))
noncomputable def LS:Cfg:=o7 [(1106,lim 42 (cM 4294967296))]
def cnP(t:Nat)(w:List Nat)(c c':Kc):Prop:=(run LS 800 (.call 20 (.glob 1113) [.str w,.frz 0,.frz (c.ao 0 0).length]) (MW c c')).map zv=cnT t c c'
theorem Kc.elim{P:Kc->Prop}(h1:∀ n,P (.I n))(h2:P (.B true))(h3:P (.B false))(h4:P .X):∀ c,P c
 | .I n=>h1 n
 | .B true=>h2
 | .B false=>h3
 | .X=>h4
set_option tactic.hygienic true in
theorem Om:∀ c c',cnP 1 Jq c c':=by
 refine Kc.elim ?_ ?_ ?_ ?_<;>intros<;>rename_i c'<;>revert c'<;>refine Kc.elim ?_ ?_ ?_ ?_<;>(intros;unfold cnP;kernel_rfl)
set_option tactic.hygienic true in
theorem Ol:∀ c c',cnP 2 wOr c c':=by
 refine Kc.elim ?_ ?_ ?_ ?_<;>intros<;>rename_i c'<;>revert c'<;>refine Kc.elim ?_ ?_ ?_ ?_<;>(intros;unfold cnP;kernel_rfl)
set_option tactic.hygienic true in
theorem Ok:∀ c c',cnP 3 Jp c c':=by
 refine Kc.elim ?_ ?_ ?_ ?_<;>intros<;>rename_i c'<;>revert c'<;>refine Kc.elim ?_ ?_ ?_ ?_<;>(intros;unfold cnP;kernel_rfl)
set_option tactic.hygienic true in
theorem Oj:∀ c c',cnP 4 pv c c':=by
 refine Kc.elim ?_ ?_ ?_ ?_<;>intros<;>rename_i c'<;>revert c'<;>refine Kc.elim ?_ ?_ ?_ ?_<;>(intros;unfold cnP;kernel_rfl)
set_option tactic.hygienic true in
theorem Oi:∀ c c',cnP 5 Ke c c':=by
 refine Kc.elim ?_ ?_ ?_ ?_<;>intros<;>rename_i c'<;>revert c'<;>refine Kc.elim ?_ ?_ ?_ ?_<;>(intros;unfold cnP;kernel_rfl)
theorem nU(h:Desc.signed x=y):(sgn x).Sat (λ o=>o=some (.i y)):=by
 refine⟨rfl,?_⟩;rw[Pv _ (by decide)]
 subst h;exact rfl
theorem Gj(h1:-2147483648<=x)(h2:x<2147483648)(h3:-2147483648<=y)(h4:y<2147483648):-2147483648<=RI x y/\RI x y<2147483648:=by
 have:=hV 31 (O3 x) (O3 y) (by unfold O3;omega (splitDisjunctions:=true)) (by unfold O3;omega (splitDisjunctions:=true)) (by unfold O3;omega (splitDisjunctions:=true)) (by unfold O3;omega (splitDisjunctions:=true))
 unfold RI;rw[show(2:Int)^31=2147483648 from rfl] at this
 generalize ON (O3 x) (O3 y)=z at *
 unfold O3;omega (splitDisjunctions:=true)
theorem sQ:∀ (k:Nat) (x y:Int),-2^k<=x->x<2^k->-2^k<=y->y<2^k->-2^k<=x+y-2*ON x y/\x+y-2*ON x y<2^k
 |
  0,x,y,h1,h2,h3,h4=>by
  rw[Int.pow_zero] at *
  have hx:x=0\/x=-1:=by omega (splitDisjunctions:=true)
  have hy:y=0\/y=-1:=by omega (splitDisjunctions:=true)
  rcases hx with rfl|rfl<;>rcases hy with rfl|rfl<;>decide
 |
  k+1,x,y,h1,h2,h3,h4=>by
  rw[S6] at *
  have:=sQ k (x/2) (y/2) (by omega (splitDisjunctions:=true)) (by omega (splitDisjunctions:=true)) (by omega (splitDisjunctions:=true)) (by omega (splitDisjunctions:=true))
  rw[bU x y];unfold lU;generalize ON (x/2) (y/2)=z at *
  split<;>omega (splitDisjunctions:=true)
theorem uQ(n:Int):ltN 4294967296 (n.fmod 4294967296)=true:=by
 rw[oh,Pv _ (by decide)]
 omega (splitDisjunctions:=true)
theorem KW(m:Int):max (-32) (min 32 m)<=64:=Int.max_le.mpr ⟨by decide,Qz (Int.min_le_left _ _) (by decide)⟩
theorem GX(m:Int):-(max (-32) (min 32 m))<=32:=Int.neg_le_of_neg_le (Int.le_max_left _ _)
theorem GS(h:0<=max (-32) (min 32 m)):0<=m:=by omega (splitDisjunctions:=true)
theorem GT(h:¬ 0<=max (-32) (min 32 m)):¬ 0<=m:=by omega (splitDisjunctions:=true)
theorem KU(h:¬ 0<=z):0<=-z:=Int.neg_nonneg_of_nonpos (Qy (Int.not_le.mp h))
theorem GV(h:-z<=32):-z<=64:=Qz h (by decide)
theorem GU(h:-z<=32):(-z).toNat<=32:=Int.toNat_le.mpr h
theorem KY(h:32<=m):max (-32) (min 32 m)=32:=by rw[Int.min_eq_left h];rfl
theorem GW(h0:0<=m)(q:¬ 32<=m):max (-32) (min 32 m)=m:=by rw[Int.min_eq_right (Qy (Int.not_le.mp q)),Int.max_eq_right (Qz (by decide) h0)]
theorem KV(h:m<=-32):-(max (-32) (min 32 m))=32:=by rw[Int.min_eq_right (Qz h (by decide)),Int.max_eq_left h];rfl
theorem CV(h0:¬ 0<=m)(q:¬ m<=-32):max (-32) (min 32 m)=m:=by rw[Int.min_eq_right (Qz (Qy (Int.not_le.mp h0)) (by decide)),Int.max_eq_right (Qy (Int.not_le.mp q))]
theorem NP(n:Int):(n*4294967296+2147483648)%4294967296=2147483648:=by rw[Int.add_comm,Int.add_mul_emod_self_right];rfl
theorem NQ(h0:0<=x)(h1:x<4294967296):x/4294967296=0:=Int.ediv_eq_zero_of_lt h0 h1
theorem Kw(h1:-2147483648<=n)(h2:n<2147483648):bP n=true:=lJ (by omega (splitDisjunctions:=true)) (by omega (splitDisjunctions:=true))
theorem Co{k:Nat}(h:k<=32):bP ((2:Int)^k)=true/\((2:Int)^k==0)=false/\¬ (2:Int)^k=0:=by
 have p1:(0:Int)<2^k:=UC (by decide)
 have p2:(2:Int)^k<=2^32:=(by have:=Nat.pow_le_pow_right (show 0<2 by decide) h;exact_mod_cast this)
 rw[show(2:Int)^32=4294967296 from rfl] at p2
 generalize (2:Int)^k=p at *
 exact⟨lJ (by omega (splitDisjunctions:=true)) (by omega (splitDisjunctions:=true)),beq_eq_false_iff_ne.mpr (by omega (splitDisjunctions:=true)),by omega (splitDisjunctions:=true)⟩
theorem D7(h1:-2147483648<=n)(h2:n<2147483648):(cnI 4 n m).Sat (λ o=>o=some (.i (Desc.shl n m))):=by
 show(T.split _ _ _).Sat _;have m1:n.fmod 4294967296=n%4294967296:=Pv _ (by decide)
 have f2:bP 2=true:=by decide +kernel
 unfold bY;unfold Desc.shl;refine⟨λ h=>⟨?_,?_,nU ?_⟩,λ h=>⟨rfl,?_,?_,nU ?_⟩⟩
 ·have h:=of_decide_eq_true h;rw[OA,OA,decide_eq_true_iff,decide_eq_true_iff];exact⟨⟨h,KW m⟩,f2⟩
 ·rw[Kw h1 h2,Bool.true_or]
 ·have hm0:=GS (of_decide_eq_true h);rw[if_pos hm0];by_cases q:32<=m
  ·rw[if_pos q,KY q,show(32:Int).toNat=32 from rfl,show(2:Int)^32=4294967296 from rfl]
   unfold Desc.signed;rw[NP];rfl
  ·rw[if_neg q,GW hm0 q]
 ·have h:=of_decide_eq_false h;rw[OA,OA,decide_eq_true_iff,decide_eq_true_iff];exact⟨⟨KU h,GV (GX m)⟩,f2⟩
 ·have q:=Co (GU (GX m));rw[OA,So];unfold bJ;exact⟨decide_eq_false q.2.2,q.1⟩
 ·have hm0:=GT (of_decide_eq_false h);rw[if_neg hm0,m1,Pt _ (Qy (UC (by decide)))]
  by_cases q:m<=-32
  ·rw[if_pos q,KV q,show(32:Int).toNat=32 from rfl,show(2:Int)^32=4294967296 from rfl,NQ (RV _ (by decide)) (Rh _ (by decide))]
   rfl
  ·rw[if_neg q,CV hm0 q]
theorem D6{t:Nat}(ht:t=1\/t=2\/t=3\/t=4\/t=5){d e:Desc}(h1:-2147483648<=d.num)(h2:d.num<2147483648)(h3:-2147483648<=e.num)(h4:e.num<2147483648):(cnI t d.num e.num).Sat (λ o=>o=some (.i (Desc.tok t d e))):=by
 have f2:bP 2=true:=by decide +kernel
 have key:∀ {x y:Int},Desc.signed x=y->(T.need true (.need true (.need (ltN 4294967296 (d.num.fmod 4294967296)&&ltN 4294967296 (e.num.fmod 4294967296)) (.need (bP 2||bP (ON (d.num.fmod 4294967296) (e.num.fmod 4294967296))) (sgn x))))).Sat (λ o=>o=some (.i y)):=λ h=>
  ⟨rfl,rfl,(by rw[uQ,uQ];rfl),(by rw[f2,Bool.true_or]),nU h⟩
 have m1:∀ z:Int,z.fmod 4294967296=z%4294967296:=λ z=>Pv _ (by decide)
 have rA:=hV 31 d.num e.num h1 h2 h3 h4;rw[show(2:Int)^31=2147483648 from rfl] at rA
 rcases ht with rfl|rfl|rfl|rfl|rfl
 ·refine key ?_;have:=ia h1 h2 h3 h4 0 1 rfl;rw[Int.one_mul,Int.one_mul,Int.zero_add,Int.zero_add] at this;rw[m1,m1];exact this.trans (iX rA.1 rA.2)
 ·refine key ?_;have:=ia h1 h2 h3 h4 (d.num+e.num) (-1) rfl;rw[m1,m1];have e1:∀ z:Int,d.num+e.num+-1*z=d.num+e.num-z:=λ z=>by omega (splitDisjunctions:=true)
  rw[e1,e1] at this;have r:=Gj h1 h2 h3 h4;exact this.trans ((congrArg Desc.signed (bitOr_and _ _).symm).trans (iX r.1 r.2))
 ·refine key ?_;have:=ia h1 h2 h3 h4 (d.num+e.num) (-2) rfl;rw[m1,m1];have e1:∀ z:Int,d.num+e.num+-2*z=d.num+e.num-2*z:=λ z=>by omega (splitDisjunctions:=true)
  rw[e1,e1] at this;have r:=sQ 31 d.num e.num h1 h2 h3 h4;rw[show(2:Int)^31=2147483648 from rfl] at r
  exact this.trans ((iX r.1 r.2).trans (bitXor_and _ _).symm)
 ·have ht:Desc.tok 4 d e=Desc.shl d.num e.num:=rfl;rw[ht];exact D7 h1 h2
 ·exact rfl
end
section
universe u
open PySem PySem.W PyProof.Rows PySem.SeqAt
variable {acc v v':AV} {D:Desc} {es es' r:bN}
section
variable {V V' V₂ V₂':Va} {σ σ' σ₂ σ₂':Sg} {s s' s₁:Shared} {hnd:List Nat} {Φ Φ₂:Out×Sg->Prop} {K:Frag} {glb:List (Nat×AV)}
theorem pe{X:Cx}{V V':Va}{ob:Obj}(d:DenO X false V ob (.atd es))(d':DenO X false V' ob (.atd es')){x:Str}(hx:okS x=true)(e:aX (nm x) es=some v)(e':aX (nm x) es'=some v')(h:v≠.hid)(h':v'≠.hid):∃ z,DenV V v z/\DenV V' v' z:=by
 obtain⟨en,n,ns,a1,_,_,a4,_⟩:=d;obtain⟨en',n',ns',b1,_,_,b4,_⟩:=d';obtain⟨rfl,_⟩:=Data.dict.inj (a1.symm.trans b1);have q:=a4 x hx;have r:=b4 x hx;rw[e] at q;rw[e'] at r;obtain⟨y,y1,y2⟩:=q h;obtain⟨y',r1,r2⟩:=r h';obtain rfl:=Oy (y1.symm.trans r1);exact⟨y,y2,r2⟩
theorem Ca{X:Cx}{V V':Va}{s:Shared}{v:Value}{C C':Nat}{x dx dx':Addr}{ox ox' od od':Obj}(I:InstIs X V s v C es x dx ox od)(I':InstIs X V' s v C' es' x dx' ox' od'):od'=od:=by
 obtain rfl:=Oy (I.hx.symm.trans I'.hx);obtain rfl:=Oy (I.dict.symm.trans I'.dict);exact Oy (I'.hd.symm.trans I.hd)
theorem iJ{x v:AV}:aX (nm "value") ((dC,x)::(cQ,v)::r)=some v:=by
 rw[aK,if_neg (show ¬ dC=nm "value" from GI),aK,if_pos (show cQ=nm "value" from rfl)]
theorem mC:aX (nm "kind") ((dC,v)::r)=some v:=by rw[aK,if_pos (show dC=nm "kind" from rfl)]
theorem sV{d:Desc}{v acc v' acc':AV}(h:some (bK d v acc)=some (bK d v' acc')):v=v':=
 Oy (congrArg (λ o:Option AO=>o.bind λ o=>(AB o).bind λ l=>(l.tail.head?).map λ p:Nat×AV=>p.2) h)
theorem FD{d:Desc}(e:(aZ d 0)[2]?=some (bK d v acc))(i:d.isI=true):v=.si d.num:=by
 rcases d with⟨⟩<;>first|exact nof i|exact(sV e).symm
theorem FE{d:Desc}(e:(aZ d 0)[2]?=some (bK d v acc))(i:d.isB=true):v=.bool d.truth:=by
 rcases d with⟨⟩<;>first|exact nof i|exact(sV e).symm
theorem j3(H:St X V σ s){D d:Desc}{t t' th:Addr}(h:OpdAt X V.K D t th)(h':OpdAt X V.K d t' th):D.kind=d.kind/\(D.isI=true->d.isI=true->D.num=d.num)/\(D.isB=true->d.isB=true->D.truth=d.truth):=by
 obtain⟨φ1,v1,acc1,dx1,ox1,od1,I1,e1⟩:=fY H.stays h;obtain⟨φ2,v2,acc2,dx2,ox2,od2,I2,e2⟩:=fY H.stays h';have D1:=I1.den;have D2:=I2.den;rw[Ca I1 I2] at D2;clear I1 I2 h h';refine⟨?_,λ i1 i2=>?_,λ i1 i2=>?_⟩
 ·obtain⟨z,w1,w2⟩:=pe (v:=.str D.kind) (v':=.str d.kind) D1 D2 lC mC mC nofun nofun
  obtain⟨a,b,q1,q2⟩:=gK rfl w1;obtain⟨a',b',r1,r2⟩:=gK rfl w2;rw[<-q2,<-r2,(Value.str.inj (q1.symm.trans r1)).1]
 ·rw[FD e1 i1] at D1;rw[FD e2 i2] at D2;obtain⟨z,w1,w2⟩:=pe (v:=.si D.num) (v':=.si d.num) D1 D2 iE iJ iJ nofun nofun
  obtain⟨t,q⟩:∃ t,z=.int D.num t:=w1.inv;obtain⟨t',r⟩:∃ t,z=.int d.num t:=w2.inv;exact(TM (q.symm.trans r)).1
 ·rw[FE e1 i1] at D1;rw[FE e2 i2] at D2;obtain⟨z,w1,w2⟩:=pe (v:=.bool D.truth) (v':=.bool d.truth) D1 D2 iE iJ iJ nofun nofun
  have q:z=.bool D.truth:=w1.inv;exact Rp (q.symm.trans w2.inv)
set_option tactic.hygienic true in
theorem qi(d:Desc):d.isI=au d.kind bp:=by
 cases d<;>first|rfl|(rename_i p _ _ _;cases p<;>rfl)
set_option tactic.hygienic true in
theorem qj(d:Desc):d.isB=au d.kind bq:=by
 cases d<;>first|rfl|(rename_i p _ _ _;cases p<;>rfl)
theorem qe{D d:Desc}(h:D.kind=d.kind):D.isI=d.isI/\D.isB=d.isB:=by
 rw[qi,qi,qj,qj,h];exact⟨rfl,rfl⟩
structure ThIs(X:Cx)(V:Va)(σ:Sg)(j:Nat)(th:Addr)(m:Nat)(d:Desc):Prop where
 ds:V.ds[m]?=some d
 at_:∃ t,OpdAt X V.K d t th
 o:(σ.frz.l[j]?=some (.oti m)/\d.isI=true)\/(σ.frz.l[j]?=some (.otb m d.truth)/\d.isB=true)\/(σ.frz.l[j]?=some (.otx m)/\d.isI=false/\d.isB=false)
set_option tactic.hygienic true in
theorem pQ(H:St X V σ s){j:Nat}{k:Option AO->Sg->R}{a:Addr}(ha:V.φ[j]?=some a){m0:Nat}(h0:thK σ j=some m0)(h:(lf σ j k).Sat Φ) :
 ∃ σ' m d,Keep σ σ'/\St X V σ' s/\σ'.own=σ.own/\σ'.n=σ.n/\ThIs X V σ' j a m d/\(k σ'.frz.l[j]? σ').Sat Φ/\(∀ j' m',thK σ j'=some m'->∃ m'',thK σ' j'=some m''):=by
 unfold lf at h;split at h
 ·rename_i m e
  have e:=vw Ax e;obtain⟨a',ob,h1,h2,_,d,t,h3,h4⟩:=H.frz j _ e;rw[ha] at h1;cases h1
  have hlt:=(OJ.mp e).1;rw[iY,iY,iY,iY] at h;have go:∀ o',thO (some o')=some m->(∀ ob,DenO X true V ob o')->FzOK X V a o'->(k (some o') ⟨σ.own,σ.n,⟨σ.frz.l.set j o',σ.frz.nd,σ.frz.facts⟩⟩).Sat Φ->((some o'=some (.oti m)/\d.isI=true)\/(some o'=some (.otb m d.truth)/\d.isB=true)\/(some o'=some (.otx m)/\d.isI=false/\d.isB=false))->∃ σ' m d,Keep σ σ'/\St X V σ' s/\σ'.own=σ.own/\σ'.n=σ.n/\ThIs X V σ' j a m d/\(k σ'.frz.l[j]? σ').Sat Φ/\(∀ j' m',thK σ j'=some m'->∃ m'',thK σ' j'=some m''):=λ o' ht hd hz hk hne=>by
   have hself:(σ.frz.l.set j o')[j]?=some o':=Ss hlt;refine⟨⟨σ.own,σ.n,⟨σ.frz.l.set j o',σ.frz.nd,σ.frz.facts⟩⟩,m,d,⟨λ i es e=>⟨es,e⟩,λ i c d e=>e⟩,H.closer e hd (λ a2 h5=>by rw[ha] at h5;cases h5;exact hz),rfl,rfl,⟨h3,⟨t,h4⟩,?_⟩,?_,λ j' m' q=>?_⟩
   ·rw[hself];exact hne
   ·show(k (σ.frz.l.set j o')[j]? _).Sat Φ;rw[hself];exact hk
   ·by_cases q2:j=j'
    ·subst q2;refine⟨m,?_⟩;show thO (σ.frz.l.set j o')[j]?=_;rw[hself];exact ht
    ·refine⟨m',?_⟩;show thO (σ.frz.l.set j o')[j']?=_;rw[List.getElem?_set_ne q2];exact q
  cases hI:d.isI with
  | true=>exact go (.oti m) rfl (λ J=>trivial) ⟨d,t,h3,h4,hI⟩ h.1 (.inl ⟨rfl,hI⟩)
  |
   false=>cases hB:d.isB with
   |
    true=>cases hT:d.truth with
    | true=>exact go (.otb m true) rfl (λ J=>trivial) ⟨d,t,h3,h4,hB,hT⟩ h.2.1 (.inr (.inl ⟨by rw[hT],hB⟩))
    | false=>exact go (.otb m false) rfl (λ J=>trivial) ⟨d,t,h3,h4,hB,hT⟩ h.2.2.1 (.inr (.inl ⟨by rw[hT],hB⟩))
   | false=>exact go (.otx m) rfl (λ J=>trivial) ⟨d,t,h3,h4,hI,hB⟩ h.2.2.2 (.inr (.inr ⟨rfl,hI,hB⟩))
 ·rename_i hne
  cases e:σ.frz.l[j]? with
  | none=>unfold thK at h0;rw[e] at h0;cases h0
  |
   some o=>
   have h0':=h0;unfold thK at h0';rw[e] at h0';obtain⟨a',ob,h1,h2,h3,h4⟩:=H.frz j o e;rw[ha] at h1;cases h1
   have fin:∀ {m d},ThIs X V σ j a m d->∃ σ' m d,Keep σ σ'/\St X V σ' s/\σ'.own=σ.own/\σ'.n=σ.n/\ThIs X V σ' j a m d/\(k σ'.frz.l[j]? σ').Sat Φ/\(∀ j' m',thK σ j'=some m'->∃ m'',thK σ' j'=some m''):=λ {m d} z=>⟨σ,m,d,.rfl,H,rfl,rfl,z,h,λ j' m' q=>⟨m',q⟩⟩;cases o<;>first|(cases h0';done)|skip
   ·rw[e] at hne;exact am hne.symm
   ·obtain⟨d,t,p,q,r⟩:=h4;exact fin ⟨p,⟨t,q⟩,.inl ⟨e,r⟩⟩
   ·obtain⟨d,t,p,q,r,r'⟩:=h4;exact fin ⟨p,⟨t,q⟩,.inr (.inl ⟨by rw[r'];exact e,r⟩)⟩
   ·obtain⟨d,t,p,q,r,r'⟩:=h4;exact fin ⟨p,⟨t,q⟩,.inr (.inr ⟨e,r,r'⟩)⟩
theorem Bb{K:Addr->Obj->Prop}{t th:Addr}(h:OpdAt X K D t th)(φ0:List Addr)(ix:Nat):∃ p:List Addr,p[0]?=some t/\p[1]?=some th/\p.length=((Kc.of D).ao φ0.length ix).length/\∀ (φ1:List Addr) (ds:List Desc),ds[ix]?=some D->∀ (j:Nat) o,((Kc.of D).ao φ0.length ix)[j]?=some o->
 ∃ a ob,(φ0++p++φ1)[φ0.length+j]?=some a/\K a ob/\DenO X true ⟨[],φ0++p++φ1,K,ds⟩ ob o/\FzOK X ⟨[],φ0++p++φ1,K,ds⟩ a o:=by
 have full:Kc.of D≠.X->((Kc.of D).ao φ0.length ix)=aZ D φ0.length:=by
  cases D<;>first|(intro _;rfl)|(intro q;exact absurd rfl q)
 obtain⟨ok,p,p0,p1,pl,pk⟩:=h;by_cases hX:Kc.of D=.X
 ·have hao:∀ o,(Kc.of D).ao o ix=[.otp ix (o+1),.otx ix]:=λ o=>by rw[hX];rfl
  have hp2:2<=p.length:=(OJ.mp p1).1;have hp0:(p.take 2)[0]?=some t:=by rw[Ub (by decide)];exact p0
  have hp1:(p.take 2)[1]?=some th:=by rw[Ub (by decide)];exact p1
  have hcls:D.isI=false/\D.isB=false:=by cases D<;>first|exact⟨rfl,rfl⟩|cases hX
  have hn0:∃ o0,(aZ D 0)[0]?=some o0:=by cases D<;>exact⟨_,rfl⟩
  have hn1:∃ o1,(aZ D 0)[1]?=some o1:=by cases D<;>exact⟨_,rfl⟩
  obtain⟨o0,hn0⟩:=hn0;obtain⟨o1,hn1⟩:=hn1;obtain⟨a0,ob0,g1,g2,_⟩:=pk 0 _ hn0;obtain⟨a1,ob1,f1,f2,_⟩:=pk 1 _ hn1;rw[p0] at g1;cases g1
  rw[p1] at f1;cases f1
  refine⟨p.take 2,hp0,hp1,by rw[hao,SH];show min 2 p.length=2;omega,λ φ1 ds hds j o e=>?_⟩
  rw[hao] at e;have at0:(φ0++p.take 2++φ1)[φ0.length]?=some t:=by
   rw[PH,OL (OR _),Qm,OT (OJ.mp hp0).1];exact hp0
  have at1:(φ0++p.take 2++φ1)[φ0.length+1]?=some th:=by
   rw[PH,OL (Pu _ _),PY,OT (OJ.mp hp1).1];exact hp1
  match j with
  | 0=>cases e;exact⟨t,ob0,at0,g2,trivial,D,th,hds,at1,ok,p,p0,p1,pl,pk⟩
  | 1=>cases e;exact⟨th,ob1,at1,f2,trivial,D,t,hds,⟨ok,p,p0,p1,pl,pk⟩,hcls.1,hcls.2⟩
  | j+2=>cases e
 ·refine⟨p,p0,p1,by rw[full hX,gn,Pa];exact pl,λ φ1 ds hds j o e=>?_⟩
  rw[full hX,gn,Qj] at e;obtain⟨o',x1,rfl⟩:=UB.mp e;obtain⟨a,ob,h1,h2,h3⟩:=pk _ o' x1;have okO:=OP.mp (jo D) o' (O9 x1);have hle:Va.Le ⟨[],φ0++p,K,[]⟩ ⟨[],φ0++p++φ1,K,ds⟩:=⟨id,λ {i a} e=>by show(φ0++p++φ1)[i]?=_;rw[OT (OJ.mp e).1];exact e,id,λ e=>by cases e⟩
  have hat:(φ0++p++φ1)[φ0.length+j]?=some a:=by
   rw[PH,OL (Pu _ _),PY,OT (OJ.mp h1).1];exact h1
  exact⟨a,ob,hat,h2,(A0 okO h3).mono hle,HG okO⟩
theorem zw(H:St X V σ s){d e:Desc}{t th t' th':Addr}(hd:OpdAt X V.K d t th)(he:OpdAt X V.K e t' th') :
 ∃ φ₂:List Addr,φ₂[0]?=some t/\φ₂[((Kc.of d).ao 0 0).length]?=some t'/\Hand X V σ s [] ⟨[],φ₂,inK X V σ s [],[d,e]⟩ (MW (Kc.of d) (Kc.of e)):=by
 have kk:∀ {b o},V.K b o->inK X V σ s [] b o:=λ {b o} k=>by
  refine⟨H.stays b o k,nofun,λ q=>?_,λ q=>?_⟩
  ·obtain⟨_,_,_,_,n,_⟩:=H.soft b q;exact n o k
  ·obtain⟨i,es,e1,e2⟩:=(cp H).mp q;exact H.nb i b ⟨_,e1,nofun⟩ e2 o k
 have od:=hd.mono (K':=inK X V σ s []) kk;have oe:=he.mono (K':=inK X V σ s []) kk;obtain⟨p,p0,p1,pl,pk⟩:=Bb od [] 0;obtain⟨q,q0,q1,ql,qk⟩:=Bb oe p 1;have pl':p.length=((Kc.of d).ao 0 0).length:=pl;refine⟨p++q,?_,?_,?_⟩
 ·rw[OT (OJ.mp p0).1];exact p0
 ·rw[<-pl',OL (OR _),Qm];exact q0
 ·refine Hand.of rfl .nil PJ (Pk _) trivial rfl ?_ (λ j o x=>?_) rfl (λ j o e=>?_) nofun
  ·show(p++q).length=((Kc.of d).ao 0 0++(Kc.of e).ao ((Kc.of d).ao 0 0).length 1).length;rw[OW,OW,ql,pl']
  ·have x:((Kc.of d).ao 0 0++(Kc.of e).ao ((Kc.of d).ao 0 0).length 1)[j]?=some o:=x;rcases Up j ((Kc.of d).ao 0 0).length with g|g
   ·rw[OT g] at x;have:=pk q [d,e] rfl j o x;rw[List.nil_append,show([]:List Addr).length+j=j from R6 j] at this
    exact this
   ·rw[OL g] at x;have:=qk [] [d,e] rfl (j-((Kc.of d).ao 0 0).length) o (by rw[pl'];exact x)
    rw[Pn,pl',Tf g] at this;exact this
  ·match j with
   | 0=>cases e;exact hd.1
   | 1=>cases e;exact he.1
   | j+2=>cases e
noncomputable def cnK(Φ:Out×Sg->Prop)(σ:Sg)(t k k':Nat):Cn->Prop
 | .w w=>(val (.str w) σ).Sat Φ
 | .b b=>(dk b σ).Sat Φ
 | .i _=>(vA (.ti t k k') σ).Sat Φ
theorem D5(H:St X V σ s)(h:Hand X V σ s [] V₂ σ₂){ans:Cn}{t k k':Nat}{d e:Desc}(hd:V.ds[k]?=some d)(he:V.ds[k']?=some e)(ha:∀ x,ans=.i x->x=Desc.tok t d e){r:Qa}(q:PR (X.into (X.out++dq V σ) s.heap) V₂ σ₂ (λ r=>zv r=some ans) r s')(hs:cnK Φ σ t k k' ans):PR X V σ Φ r s':=by
 obtain⟨v,rfl,V₂',σ₂',av,hle,J,H',dv,z⟩:=iZ q λ i g z=>nomatch z
 have z:zv (.v av,σ₂')=some ans:=z;refine ue z λ v' e z=>?_;obtain rfl:=Out.v.inj e;refine KH z (λ w e z=>?_) λ z=>cj z λ i e z=>Ak z λ xs e2 z=>aw z λ p e3 z=>fU z λ k0 e4 z=>?_
 ·obtain rfl:=Oy z;rw[jU e] at dv;exact gB H h hle H' (Tra.lit rfl _ dv) hs
 ·rw[e] at dv;obtain⟨a,rfl,hi⟩:=dv.inv;rw[gP e3,e4] at e2;have z:(match au k0 bq with|true=>(ju p.2).map .b|false=>ifK (au k0 bp) ((bI p.2).map λ p=>.i p.1))=some ans:=z
  rcases qk:au k0 bq with J|J
  ·rw[qk] at z;refine ay z λ qk z=>bG z λ pq z1 z=>?_;subst z;rw[aC qk] at e2;refine lV H h hle H' hi e2 (.cons (Tra.lit rfl) (.cons (λ v dv=>?_) .nil)) hs;obtain⟨tk,rfl⟩:=bl z1 dv;rw[ha pq.1 rfl];exact .ti tk hd he
  ·rw[qk] at z;refine bG z λ b z1 z=>?_;subst z;rw[aC qk] at e2;exact lV H h hle H' hi e2 (.cons (Tra.lit rfl) (.cons (hU z1) .nil)) hs
theorem xz{w:List Nat}{t:Nat}(h:xA w=some t):(t=1\/t=2\/t=3\/t=4\/t=5)/\∀ c c',cnP t w c c':=by
 unfold xA at h;rcases q:au w Jq with _|_
 ·rw[q] at h;dsimp only at h;clear q
  rcases q:au w wOr with _|_
  ·rw[q] at h;dsimp only at h;clear q
   rcases q:au w Jp with _|_
   ·rw[q] at h;dsimp only at h;clear q
    rcases q:au w pv with _|_
    ·rw[q] at h;exact ay h λ q h=>by cases h;cases aC q;exact⟨.inr (.inr (.inr (.inr rfl))),Oi⟩
    ·rw[q] at h;cases h;cases aC q;exact⟨.inr (.inr (.inr (.inl rfl))),Oj⟩
   ·rw[q] at h;cases h;cases aC q;exact⟨.inr (.inr (.inl rfl)),Ok⟩
  ·rw[q] at h;cases h;cases aC q;exact⟨.inr (.inl rfl),Ol⟩
 ·rw[q] at h;cases h;cases aC q;exact⟨.inl rfl,Om⟩
theorem kI{D d:Desc}(a:d.isI=true)(b:D.isI=d.isI)(c:D.isI=true->d.isI=true->D.num=d.num):Kc.of D=.I d.num:=by
 rw[<-c (b.trans a) a];rw[a] at b;rcases D with⟨⟩<;>first|rfl|exact nof b
theorem kB{D d:Desc}(a:d.isB=true)(b:D.isB=d.isB)(c:D.isB=true->d.isB=true->D.truth=d.truth):Kc.of D=.B d.truth:=by
 rw[<-c (b.trans a) a];rw[a] at b;rcases D with⟨⟩<;>first|rfl|exact nof b
theorem kX{D d:Desc}(a:d.isI=false)(b:d.isB=false)(c:D.isI=d.isI)(e:D.isB=d.isB):Kc.of D=.X:=by
 rw[a] at c;rw[b] at e;rcases D with⟨⟩<;>first|rfl|exact OG c|exact OG e
theorem oZ(T:∀ out h0,TopC (X.into out h0) K LS glb):ConTo X 1113 (lim 20 gw):=by
 intro as vs t V σ s A Φ d hc hd da hA H h;refine bw λ F Y=>?_;obtain⟨hdl,hc'⟩:=cG hc;clear hc;obtain⟨w,i,i',⟨k,j⟩,⟨k',j'⟩,tw,rfl,e1,e2,e3,⟨m0,e4⟩,⟨m0',e5⟩,rfl⟩:=nC hc';obtain⟨D,ta,th,g1,g2,g4,g3⟩:=k9 H e1;obtain⟨E,ta',th',g1',g2',g4',g3'⟩:=k9 H e2;obtain⟨σ1,m,d1,K1,H1,o1,n1,T1,h1,p1⟩:=pQ H g4 e4 h;obtain⟨m1',e5'⟩:=p1 _ _ e5;generalize hO:σ1.frz.l[j]?=O at h1;obtain⟨σ2,m',d2,K2,H2,o2,n2,T2,h2,p2⟩:=pQ H1 g4' e5' h1;obtain⟨t1,q1⟩:=T1.at_;obtain⟨t2,q2⟩:=T2.at_;have s1:=j3 H g3 q1;have s2:=j3 H g3' q2;have c1:=qe s1.1;have c2:=qe s2.1;obtain⟨w1,w2⟩:=xz e3;have x1:=T1.o;rw[hO] at x1;have x2:=T2.o;obtain⟨φ₂,f0,f1,hh⟩:=zw H2 g3 g3';have r1:=n6 (H.dsok _ _ T1.ds);have r2:=n6 (H.dsok _ _ T2.ds);obtain⟨ans,hsat,hans,hk⟩:∃ ans,(cnT tw (Kc.of D) (Kc.of E)).Sat (λ o=>o=some ans)/\(∀ x,ans=.i x->x=Desc.tok tw d1 d2)/\cnK Φ σ2 tw m m' ans:=by
  rcases x1 with⟨x1,y1⟩|⟨x1,y1⟩|⟨x1,y1,z1⟩<;>rcases x2 with⟨x2,y2⟩|⟨x2,y2⟩|⟨x2,y2,z2⟩<;>rw[x1,x2] at h2
  ·rw[kI y1 c1.1 s1.2.1,kI y2 c2.1 s2.2.1];exact⟨.i (Desc.tok tw d1 d2),D6 w1 r1.1 r1.2 r2.1 r2.2,λ x q=>by cases q;rfl,h2⟩
  ·rw[kI y1 c1.1 s1.2.1,kB y2 c2.2 s2.2.2];exact⟨.w aY,rfl,nofun,h2⟩
  ·rw[kI y1 c1.1 s1.2.1,kX y2 z2 c2.1 c2.2];exact⟨.w aY,rfl,nofun,h2⟩
  ·rw[kB y1 c1.2 s1.2.2,kI y2 c2.1 s2.2.1];exact⟨.w aY,rfl,nofun,h2⟩
  ·rw[kB y1 c1.2 s1.2.2,kB y2 c2.2 s2.2.2];rcases w1 with rfl|rfl|rfl|rfl|rfl
   ·exact⟨.b _,rfl,nofun,h2⟩
   ·exact⟨.b _,rfl,nofun,h2⟩
   ·exact⟨.b _,rfl,nofun,h2⟩
   ·exact⟨.w _,rfl,nofun,h2⟩
   ·exact⟨.b _,rfl,nofun,h2⟩
  ·rw[kB y1 c1.2 s1.2.2,kX y2 z2 c2.1 c2.2];exact⟨.w aY,rfl,nofun,h2⟩
  ·rw[kX y1 z1 c1.1 c1.2,kI y2 c2.1 s2.2.1];exact⟨.w aY,rfl,nofun,h2⟩
  ·rw[kX y1 z1 c1.1 c1.2,kB y2 c2.2 s2.2.2];exact⟨.w aY,rfl,nofun,h2⟩
  ·rw[kX y1 z1 c1.1 c1.2,kX y2 z2 c2.1 c2.2];exact⟨.w aY,⟨rfl,rfl⟩,nofun,h2⟩
 refine Y (PD (dZ (Φ:=Φ) T (bM _) H2 (hA.mono .rfl (K1.trans K2)) hd hdl (by decide) hh (as₂:=[.str w,.frz 0,.frz ((Kc.of D).ao 0 0).length]) (N:=800) ?_ (Φ₂:=λ r=>zv r=some ans) (Internal.T.sat_map (Φ:=λ x=>x=some ans) ?_) λ r s' q=>D5 H2 hh T1.ds T2.ds hans q hk) λ r s' q=>PR.trans .rfl (K1.trans K2) q)
 ·cases da with
  | cons d0 r=>
  cases r with
  | cons d1 r=>
  cases r with
  | cons d2 r=>
  cases r
  rw[cP g2 d1,cP g2' d2];exact .cons (Tra.lit rfl _ d0) (.cons (.frz f0) (.cons (.frz f1) .nil))
 ·rw[show _=_ from w2 _ _]
  exact hsat
end
end
section
universe u
open PySem PySem.W PyProof.Rows PySem.SeqAt
variable {n:Int} {t:Nat} {o:Out} {g:Sg}
inductive Op where
 | pick (k:Nat)|made (t h e:Nat) (n y:Int)
@[reducible] noncomputable def Op.ctorIdx(o:Op):Nat:=Op.casesOn o (λ J=>0) (λ J J J J J=>1)
noncomputable def ug(g:Sg)(t:Nat):Option Op:=Jr (g.own.get t) λ xs=>LB xs λ a w y d=>j6 a λ h=>xd w λ w=>ifK (Fh d) (Fj (g.own.get h) λ c e=>Fp (g.own.get e) λ es=>LB es λ p1 p2 p3 p4=>xd p1.2 λ k=>
 ifK (au w fC&&(au k bp&&(OC c 115&&(OC p1.1 dC&&(OC p2.1 cQ&&(OC p3.1 (nm "is_exec")&&(OC p4.1 (nm "access")&&(P5 2 t&&(P5 2 h&&(P5 2 e&&(i7 p3.2&&i7 p4.2)))))))))))
  ((bI p2.2).bind λ n=>(bI y).bind λ m=>some (.made t h e n.1 m.1)))
noncomputable def lc(r:Out×Sg):Option Op:=ifK (m9 r.2) (Jx r.1 λ v=>match nK v some with
 | some k=>some (.pick k)
 | none=>j6 v λ t=>ug r.2 t)
noncomputable def vL:Nat->Nat->List AV
 | 0,_=>[]
 | n+1,k=>.frz k::vL n (k+1)
noncomputable def MU:Sg:=⟨.nd (some (.dct false [(dD,.own 1),(bZ,.an)])) (.nd (some .ila) .nil .nil) .nil,2,⟨.lst (vL 49 1)::Pz 49 .dead,0,[]⟩⟩
noncomputable def LV:Cfg:=o7 [(1084,lim 40 sf)]
noncomputable def pP(b:Bool):R:=run LV 800 (.call 20 (.glob 1120) [.own 0,.frz 0,.bool b]) MU
noncomputable def yg:Nat->Nat->T (Option Op)
 | 0,_=>.asm false (.stuck 138)
 | n+1,k=>.both (.leaf (some (.pick k))) (yg n (k+1))
noncomputable def CZ:List Int->T (Option Op)
 | []=>.asm false (.stuck 138)
 | n::r=>.both (.leaf (some (.made 7 5 4 n (n*1000000)))) (CZ r)
noncomputable def Md:List Int:=[0,1,-1,2147483647,-2147483648,252645135,-5,31,-31,32,-32,4,-4,1431655765]
noncomputable def KG:Bool->T (Option Op)
 | false=>yg 49 1
 | true=>.both (yg 49 1) (.both (CZ Md) (.all λ i=>.asm (bY 0 i&&dW i 4294967296) (.need (bP (i-2147483648)||bP 1000000) (.leaf (some (.made 7 5 4 (i-2147483648) ((i-2147483648)*1000000)))))))
theorem KC:(pP true).map lc=KG true:=by kernel_rfl
theorem KD:(pP false).map lc=KG false:=by kernel_rfl
noncomputable def Gp:Option Op->Prop
 | some (.pick k)=>1<=k/\k<=49
 | some (.made _ _ _ n y)=>y=n*1000000/\-2147483648<=n/\n<2147483648
 | none=>False
theorem i3:∀ (n k:Nat),1<=k->k+n<=50->(yg n k).Sat Gp
 | 0,_,_,_=>nofun
 | n+1,k,h1,h2=>⟨⟨h1,by omega⟩,i3 n (k+1) (by omega) (by omega)⟩
theorem mB:∀ l:List Int,(∀ n∈l,-2147483648<=n/\n<2147483648)->(CZ l).Sat Gp
 | [],_=>nofun
 | n::r,h=>⟨⟨rfl,h n (OZ ..)⟩,mB r λ m hm=>h m (OY _ hm)⟩
theorem pO:∀ b,(KG b).Sat Gp
 | false=>i3 49 1 (OR _) (OR _)
 |
  true=>⟨i3 49 1 (OR _) (OR _),mB _ (by decide),λ i h=>by
  unfold bY dW at h;rw[OA,decide_eq_true_iff,decide_eq_true_iff] at h;exact⟨by rw[show bP 1000000=true by decide +kernel,S7],rfl,by omega,by omega⟩⟩
noncomputable def Ci:Value->Addr
 | .ref a=>a
 | _=>0
section
variable {V V' V₂ V₂':Va} {σ σ' σ₂ σ₂':Sg} {s s' s₁:Shared} {hnd:List Nat} {Φ Φ₂:Out×Sg->Prop} {K:Frag} {glb:List (Nat×AV)}
theorem mQ:∀ {vs:List Value} {k:Nat},(∀ v∈vs,∃ t,v=.ref t)->(∀ (j:Nat) v,vs[j]?=some v->V.φ[k+j]?=some (Ci v))->All2 (DenV V) (vL vs.length k) vs
 | [],_,_,_=>.nil
 |
  v::r,k,h,e=>by
  obtain⟨t,rfl⟩:=h v (OZ ..);refine .cons (.frz (e 0 _ rfl)) (mQ (λ v hv=>h v (OY _ hv)) λ j v hv=>?_);rw[TH,S5 1];exact e (j+1) v hv
theorem iq{w:Nat}(h:je σ w=true):σ.frz.l[w]?=some (.wld 49):=bB h λ J h=>aw h λ o e h=>aw h λ n e2 h=>ay h λ q J=>by rw[e,pU e2,OB q]
theorem rn{p:Op}(h:lc (o,g)=some p):m9 g=true:=ay h λ q J=>q
theorem ms{p:Op}(h:lc (o,g)=some p):(∃ k,o=.v (.frz k)/\p=.pick k)\/∃ t,o=.v (.own t)/\ug g t=some p:=
 ay h λ J h=>ue h λ v e h=>by
  rcases q:nK v some with _|k
  ·rw[q] at h;exact cj h λ t e2 h=>.inr ⟨t,by rw[<-e2];exact e,h⟩
  ·rw[q] at h;exact dj q λ k' e2 e3=>.inl ⟨k',by rw[<-e2];exact e,by rw[Oy e3];exact(Oy h).symm⟩
theorem ka{p:Op}(h:ug g t=some p):∃ th e n y,p=.made t th e n y/\∃ x x' c d b b',g.own.get t=some (.tup [.own th,.str fC,x',.bool true])/\g.own.get th=some (.inst 115 e)/\g.own.get e=some (.atd [(dC,.str bp),(cQ,x),(nm "is_exec",c),(nm "access",d)])/\bI x=some (n,b)/\bI x'=some (y,b')/\2<=t/\2<=th/\2<=e/\c≠.hid/\d≠.hid:=
 bw λ G K=>Ak h λ xs e1 h=>AR h λ a w y d e2 h=>cj h λ th e3 h=>fU h λ w' e4 h=>ay h λ e5 h=>mN h λ c e e6 h=>nG h λ es e7 h=>AR h λ p1 p2 p3 p4 e8 h=>fU h λ k e9 h=>ay h λ q h=>aw h λ n f1 h=>aw h λ m f2 h=>by
  obtain⟨a1,q⟩:=(OA _ _).mp q;obtain⟨a2,q⟩:=(OA _ _).mp q;obtain⟨a3,q⟩:=(OA _ _).mp q;obtain⟨a4,q⟩:=(OA _ _).mp q;obtain⟨a5,q⟩:=(OA _ _).mp q;obtain⟨a6,q⟩:=(OA _ _).mp q;obtain⟨a7,q⟩:=(OA _ _).mp q;obtain⟨a8,q⟩:=(OA _ _).mp q;obtain⟨a9,q⟩:=(OA _ _).mp q;obtain⟨a10,q⟩:=(OA _ _).mp q;obtain⟨a11,a12⟩:=(OA _ _).mp q;refine K ⟨th,e,n.1,m.1,(Oy h).symm,p2.2,y,p3.2,p4.2,n.2,m.2,?_,?_,?_,f1,f2,OE a8,OE a9,OE a10,λ z=>(by rw[z] at a11;cases a11),λ z=>(by rw[z] at a12;cases a12)⟩
  ·rw[e1,e2,e3,e4,aC a1,jf e5]
  ·rw[e6,OB a3]
  ·rw[e7,e8,<-OB a4,<-OB a5,<-OB a6,<-OB a7,<-aC a2,<-e9]
theorem j8{k:Nat}(h:lc (o,g)=some (.pick k)):o=.v (.frz k):=by
 rcases ms h with⟨k',e,q⟩|⟨t,e,q⟩
 ·cases q;exact e
 ·obtain⟨_,_,_,_,z,_⟩:=ka q;cases z
theorem j9{t th e:Nat}{n y:Int}(h:lc (o,g)=some (.made t th e n y)):∃ x x' c d b b',o=.v (.own t)/\g.own.get t=some (.tup [.own th,.str fC,x',.bool true])/\g.own.get th=some (.inst 115 e)/\g.own.get e=some (.atd [(dC,.str bp),(cQ,x),(nm "is_exec",c),(nm "access",d)])/\bI x=some (n,b)/\bI x'=some (y,b')/\2<=t/\2<=th/\2<=e/\c≠.hid/\d≠.hid:=by
 rcases ms h with⟨k',e,q⟩|⟨t',e',q⟩
 ·cases q
 ·obtain⟨th',e2,n',y',z,x,x',c,d,b,b',q1,q2,q3,q4,q5,q6,q7,q8,q9,q10⟩:=ka q;injection z with z1 z2 z3 z4 z5
  subst z1 z2 z3 z4 z5;exact⟨x,x',c,d,b,b',e',q1,q2,q3,q4,q5,q6,q7,q8,q9,q10⟩
theorem Tra.si{x:AV}{b:Bool}(h:bI x=some (n,b)):Tra V V' x (.si n):=λ v d=>by
 obtain⟨t,rfl⟩:=bl h d;exact .si n t
set_option tactic.hygienic true in
theorem oY(T:∀ out h0,TopC (X.into out h0) K LV glb):ConTo X 1120 (lim 20 gu):=by
 intro as vs t V σ s A Φ d hc hd da hA H h;refine bw λ F Y=>?_;obtain⟨hdl,hc'⟩:=cG hc;clear hc;obtain⟨i,w,b,l,rfl,e,ew,rfl⟩:=nz hc';obtain⟨e1,e2⟩:=fI e;obtain⟨aD,oD,x1,x2,x3⟩:=H.own i _ e1 nofun
 obtain⟨aL,oL,y1,y2,y3⟩:=H.own l _ e2 nofun
 obtain⟨aW,obW,w1,w2,_,ws,n,w4,w5,w6⟩:=H.frz w _ (iq ew);have hat:=lO e1 e2 x1 y1;have kk:∀ {b o},V.K b o->inK X V σ s [aD,aL] b o:=kOf H hat.1;have hws:∀ v∈ws.toList,∃ t,v=.ref t:=λ v hv=>by obtain⟨t,_,_,q,_⟩:=w6 v hv;exact⟨t,q⟩
 have hlen:(aW::ws.toList.map Ci).length=(AO.lst (vL 49 1)::Pz 49 AO.dead).length:=by
  rw[Q1,Pa,OH,w5,Q1,List.length_replicate]
 have hh:Hand X V σ s [i,l] ⟨[aD,aL],aW::ws.toList.map Ci,inK X V σ s [aD,aL],[]⟩ MU:=by
  refine Hand.of rfl hat.1 hat.2 (show 2<=100000 by decide) (m8 y1 x2 x3 y2 nofun (y3.tra .ila)) rfl hlen (λ j o ej=>?_) rfl (λ j o e=>am e) nofun
  ·have ej:(AO.lst (vL 49 1)::Pz 49 AO.dead)[j]?=some o:=ej;cases j with
   |
    zero=>
    cases ej
    refine⟨aW,_,rfl,kk w4,⟨ws,n,rfl,?_⟩,trivial⟩;have:=mQ (V:=⟨[aD,aL],aW::ws.toList.map Ci,inK X V σ s [aD,aL],[]⟩) (k:=1) hws λ j v hv=>?_
    ·rw[OH,w5] at this;exact this
    ·show(aW::ws.toList.map Ci)[1+j]?=_;rw[S5 1,Q8,Qj,hv];rfl
   |
    succ j=>
    rw[Q8,List.getElem?_replicate] at ej;split at ej
    ·rename_i hj
     cases ej
     have hj':j<ws.toList.length:=by rw[OH,w5];exact hj
     obtain⟨t,th,D,q1,_,p,p0,_,_,pk⟩:=w6 (ws.toList[j]) (List.getElem_mem hj');have hn0:∃ o0,(aZ D 0)[0]?=some o0:=by cases D<;>exact⟨_,rfl⟩
     obtain⟨o0,hn0⟩:=hn0;obtain⟨a0,ob0,g1,g2,_⟩:=pk 0 _ hn0;rw[p0] at g1;cases g1
     refine⟨t,ob0,?_,kk g2,trivial,trivial⟩;show(aW::ws.toList.map Ci)[j+1]?=_;rw[Q8,Qj,PT hj',q1];rfl
    ·cases ej
 refine Y (dZ T (bM _) H hA hd hdl (by decide) hh (as₂:=[.own 0,.frz 0,.bool b]) (N:=800) ?_ (Φ₂:=λ r=>Gp (lc r)) (Internal.T.sat_map (Φ:=Gp) ?_) λ r s' q=>?_)
 ·cases da with
  | cons d1 r=>
  cases r with
  | cons d2 r=>
  cases r with
  | cons d3 r=>
  cases r
  refine .cons (Tra.own x1 rfl _ d1) (.cons ?_ (.cons (Tra.lit rfl _ d3) .nil));rw[cP w1 d2];exact .frz rfl
 ·cases b
  ·have:=KD;unfold pP at this;rw[this];exact pO false
  ·have:=KC;unfold pP at this;rw[this];exact pO true
 ·obtain⟨v,rfl,V₂',σ₂',av,hle,_,H',dv,q2⟩:=iZ q λ i g z=>by
   cases e:lc (.ex i,g) with
   | none=>rw[e] at z;exact z
   |
    some p=>
    cases p with
    | pick k=>cases j8 e
    | made=>obtain⟨_,_,_,_,_,_,q,_⟩:=j9 e;cases q
  refine bw λ F Y=>?_;cases eo:lc (.v av,σ₂') with
  | none=>rw[eo] at q2;exact q2.elim
  |
   some p=>
   rw[eo] at q2;have gd:=rn eo;obtain⟨B1,B2,B3,B4⟩:=H.back hh hle H' (mZ H e1 e2 gd (hle.ρ (i:=1) rfl) y1);cases p with
   |
    pick k=>
    cases j8 eo
    have q2:1<=k/\k<=49:=q2;obtain⟨j,rfl⟩:∃ j,k=j+1:=⟨k-1,by omega⟩
    have hj':j<ws.toList.length:=by rw[OH,w5];omega
    obtain⟨t,th,D,q1,ho⟩:=w6 (ws.toList[j]) (List.getElem_mem hj');have:v=.ref t:=by
     refine cP (hle.φ (i:=j+1) ?_) dv;show(aW::ws.toList.map Ci)[j+1]?=_;rw[Q8,Qj,PT hj',q1];rfl
    subst this;exact Y (PV.trans B3 B2 (kZ B1 ho h))
   |
    made t0 h0 e0 n y=>
    obtain⟨x,x',c,d',b1,b2,ev,f1,f2,f3,f4,f5,l1,l2,l3,nh1,nh2⟩:=j9 eo;cases ev
    obtain⟨hy,r1,r2⟩:=q2;cases dv with
    | own ht=>
    rename_i aT
    obtain⟨aT',oT,u1,u2,u3⟩:=H'.own t0 _ f1 nofun
    rw[ht] at u1;cases u1
    obtain⟨aH,oH,v1,v2,v3⟩:=H'.own h0 _ f2 nofun
    obtain⟨aE,oE,k1,k2,k3⟩:=H'.own e0 _ f3 nofun
    have fr:∀ (j:Nat) a,σ₂'.live j->2<=j->V₂'.ρ[j]?=some a->Fresh X ⟨V.ρ++[],V.φ,V.K,V.ds⟩ σ s' a:=λ j a l1 l2 l3=>B4 j a l1 l2 nofun l3
    obtain⟨C1,C2⟩:=B1.freeze (λ a=>a=aT\/a=aH\/a=aE) λ a q=>by
     rcases q with rfl|rfl|rfl
     ·exact fr t0 _ ⟨_,f1,nofun⟩ l1 ht
     ·exact fr h0 _ ⟨_,f2,nofun⟩ l2 v1
     ·exact fr e0 _ ⟨_,f3,nofun⟩ l3 k1
    have hT:∀ KK:Addr->Obj->Prop,TraO V₂' ⟨[],[aT,aH,aE],KK,[]⟩ (.tup [.own h0,.str fC,x',.bool true]) (.tup [.frz 1,.str fC,.si (n*1000000),.bool true]):=λ KK=>.tup (.cons (λ v dv=>by
     cases dv with
     | own q=>rw[v1] at q;cases q;exact .frz rfl) (.cons (Tra.lit rfl) (.cons (by rw[<-hy];exact Tra.si f5) (.cons (Tra.lit rfl) .nil))))
    have hE:∀ KK:Addr->Obj->Prop,TraO V₂' ⟨[],[aT,aH,aE],KK,[]⟩ (.atd [(dC,.str bp),(cQ,x),(nm "is_exec",c),(nm "access",d')]) (bK (.int n) (.si n) .any):=λ KK=>
     .atd (.cons ⟨rfl,nofun,Tra.lit rfl,nofun⟩ (.cons ⟨rfl,nofun,Tra.si f4,λ q=>by have q:x=.hid:=q;rw[q] at f4;cases f4⟩ (.cons ⟨rfl,nofun,Tra.any,nh1⟩ (.cons ⟨rfl,nofun,Tra.any,nh2⟩ .nil))))
    refine Y (PV.trans (B3.trans C2) B2 (kZ C1 (d:=.int n) (t:=aT) (th:=aH) ⟨⟨r1,r2⟩,[aT,aH,aE],rfl,rfl,rfl,λ j o ej=>?_⟩ h))
    match j with
    |
     0=>
     cases ej
     refine⟨aT,oT,rfl,.inr ⟨.inl rfl,u2⟩,?_⟩;exact(u3.tra (hT _):DenO X false _ oT _)
    |
     1=>
     cases ej
     obtain⟨m1,m2,aE',m3,m4⟩:=v3;have m3:V₂'.ρ[e0]?=some aE':=m3;rw[k1] at m3;cases m3
     exact⟨aH,oH,rfl,.inr ⟨.inr (.inl rfl),v2⟩,m1,m2,aE,rfl,m4⟩
    |
     2=>
     cases ej
     refine⟨aE,oE,rfl,.inr ⟨.inr (.inr rfl),k2⟩,?_⟩;exact(k3.tra (hE _):DenO X false _ oE _)
    | j+3=>cases ej
end
end
section
noncomputable section
universe u
open PySem PySem.W PyProof.Rows PySem.SeqAt
noncomputable def HF:Sg:=⟨(.nd (some (.dct false [([108,101,102,116],.own 1),([109,105,120,101,100],.an)])) (.nd (some (.ila)) (.nd (some (.atd [(4462132085771319675759843879157882,.any),(19981477310864441465111165765373942572674711668,.own 4),(1953625102175116457827893364,.any),(9868192697191031767480898927791731376243,.any),(4421567343935268790221828282908788,.any),(931561041915505803372,.any),(1992310728402824173805633652,.any),(492581456707701,.any),(4178178602776656089194212322443380,.any),(2263110038209480833651179622,.own 7),(4705521387871457337782758134513774,.any),(8847345961511860042093755891865236799604,.any),(1088358410522472743027,.any),(218103924,.any),(4218743441326947787892097298727020,.any),(4097048712905672618450736738467942,.any),(1992310783743065191058767988,.any),(43026626400439732106088934217424902738957273520930932,.any),(2243767400339728661244543092,.any),(4664956104436593147986707547684974,.any),(83171641394643269281242721193569799978605399089819559133288,.any),(83171641394643269281497933739492300878769889055161058328677,.any),(4746086071678902861020754893340787,.none),(4137613783569509545679740471345268,.any),(1992310654615887461400707189,.any),(8507063959674352472947364387866244284533,.any)])) (.nd (some (.dct true [([101,113],.glob 549),([110,101],.glob 556),([103,116],.glob 570),([103,101],.glob 577),([108,116],.glob 563),([108,101],.glob 584),([97,110,100],.glob 598),([111,114],.glob 605),([120,111,114],.glob 612),([110,111,116],.glob 619),([98,105,116,115,104,105,102,116],.glob 626)])) .nil .nil) .nil) (.nd (some (.atd [(1014571416635477852277,.int 20),(4746085878250845509704760294375540,.own 6)])) .nil .nil)) (.nd (some (.inst 1042 3)) (.nd (some (.inst 496 5)) .nil .nil) (.nd (some (.lsA)) .nil .nil))),8,⟨[.wld 49],0,[]⟩⟩
noncomputable def Oh:List (Nat×(Nat->List AV->Sg->Option R)):=[(1084,lim 40 sf),(1120,lim 20 gu),(1094,lim 20 nu),(387,lim 20 nB),(394,lim 20 wq),(1113,lim 20 gw),(97,lim 20 gr)]
noncomputable def LU:Cfg:=o7 Oh
noncomputable def KQ(g:Sg)(q:Nat):Bool:=match bz (g.own.get q) with
 | some xs=>P5 8 q&&O0 xs.length 100000
 | none=>false
noncomputable def C0(g:Sg):Bool:=(Fj (g.own.get 2) λ c a=>ifK (OC c 1042&&OC a 3) (Fj (g.own.get 4) λ c2 b=>ifK (OC c2 496&&OC b 5) (Fp (g.own.get 3) λ es=>ifK (Fm es (dK 4 7)) (Fp (g.own.get 5) λ e2=>Kk e2 λ p q=>
 ifK (OC p.1 lq&&OC q.1 dU&&Lq p.2) (j6 q.2 λ q=>ifK (KQ g q) (Fn (g.own.get 7) λ b tab=>ifK (b&&BN tab rm) (some q))))))).isSome
noncomputable def fX(r:Out×Sg):Bool:=(match Gg r.1 with
 | none=>false
 | some x=>Fh x)&&(m9 r.2&&C0 r.2)
noncomputable def br:R:=run LU 3000 (.call 3 (.glob 1130) [.own 0,.own 2,.frz 0]) HF
theorem Ik:chk fX (nav [true] br)=true:=by kernel_rfl
theorem Ij:chk fX (nav [false,true] br)=true:=by kernel_rfl
theorem Ii:chk fX (nav [false,false,true] br)=true:=by kernel_rfl
theorem Ih:chk fX (nav [false,false,false,true] br)=true:=by kernel_rfl
theorem Ig:chk fX (nav [false,false,false,false,true] br)=true:=by kernel_rfl
theorem Ie:chk fX (nav [false,false,false,false,false,true] br)=true:=by kernel_rfl
theorem Ic:chk fX (nav [false,false,false,false,false,false,true] br)=true:=by kernel_rfl
theorem Ib:chk fX (nav [false,false,false,false,false,false,false,true] br)=true:=by kernel_rfl
theorem Ia:chk fX (nav [false,false,false,false,false,false,false,false,true] br)=true:=by kernel_rfl
theorem H9:chk fX (nav [false,false,false,false,false,false,false,false,false,true] br)=true:=by kernel_rfl
theorem DR:chk fX (nav [false,false,false,false,false,false,false,false,false,false,true] br)=true:=by kernel_rfl
theorem DQ:chk fX (nav [false,false,false,false,false,false,false,false,false,false,false] br)=true:=by kernel_rfl
theorem zm:chk fX br=true:=(p6 Ik (du (l:=[false]) (t:=br) Ij (du (l:=[false,false]) (t:=br) Ii (du (l:=[false,false,false]) (t:=br) Ih (du (l:=[false,false,false,false]) (t:=br) Ig (du (l:=[false,false,false,false,false]) (t:=br) Ie (du (l:=[false,false,false,false,false,false]) (t:=br) Ic (du (l:=[false,false,false,false,false,false,false]) (t:=br) Ib (du (l:=[false,false,false,false,false,false,false,false]) (t:=br) Ia (du (l:=[false,false,false,false,false,false,false,false,false]) (t:=br) H9 (du (l:=[false,false,false,false,false,false,false,false,false,false]) (t:=br) DR DQ)))))))))))
end
end
section
variable {v:AV} {es:bN} {l:List Nat} {i j:Nat} {W:Va}
noncomputable section
universe u
open PySem PySem.W PyProof.Rows PySem.SeqAt
section
variable {V V' V₂ V₂':Va} {σ σ' σ₂ σ₂':Sg} {s s' s₁:Shared} {hnd:List Nat} {Φ Φ₂:Out×Sg->Prop} {K:Frag} {glb:List (Nat×AV)}
theorem En{v w:AV}(h:ND v w=true):v=w:=bB h λ J h=>aw h λ p e h=>ay h λ q J=>eG e λ e1 e2=>by rw[kJ e1,kJ e2,OB q]
theorem pD{a b:List (List Nat×AV)}(h:BN a b=true):a=b:=(l0 (λ x y h=>have h:=(OA _ _).mp h;Prod.ext (aC h.1) (En h.2)) h).eq
theorem qt{es t:bN}(h:Fm es t=true):All2 (λ p q=>p.1=q.1/\JZ p.2 q.2=true) es t:=l0 (λ x y h=>have h:=(OA _ _).mp h;⟨OB h.1,h.2⟩) h
theorem yH(st t st' t':Nat):All2 (λ(q q':Nat×AV)=>q.1=q'.1/\((q.2=.any/\q'.2=.any)\/(q.2=.own st/\q'.2=.own st')\/(q.2=.own t/\q'.2=.own t')\/(q.2=.none/\q'.2=.none))) (dK st t) (dK st' t'):=
 .cons ⟨rfl,.inl ⟨rfl,rfl⟩⟩ (.cons ⟨rfl,.inr (.inl ⟨rfl,rfl⟩)⟩ (.cons ⟨rfl,.inl ⟨rfl,rfl⟩⟩ (.cons ⟨rfl,.inl ⟨rfl,rfl⟩⟩ (.cons ⟨rfl,.inl ⟨rfl,rfl⟩⟩ (.cons ⟨rfl,.inl ⟨rfl,rfl⟩⟩ (.cons ⟨rfl,.inl ⟨rfl,rfl⟩⟩ (.cons ⟨rfl,.inl ⟨rfl,rfl⟩⟩ (.cons ⟨rfl,.inl ⟨rfl,rfl⟩⟩ (.cons ⟨rfl,.inr (.inr (.inl ⟨rfl,rfl⟩))⟩ (.cons ⟨rfl,.inl ⟨rfl,rfl⟩⟩ (.cons ⟨rfl,.inl ⟨rfl,rfl⟩⟩ (.cons ⟨rfl,.inl ⟨rfl,rfl⟩⟩ (.cons ⟨rfl,.inl ⟨rfl,rfl⟩⟩ (.cons ⟨rfl,.inl ⟨rfl,rfl⟩⟩ (.cons ⟨rfl,.inl ⟨rfl,rfl⟩⟩ (.cons ⟨rfl,.inl ⟨rfl,rfl⟩⟩ (.cons ⟨rfl,.inl ⟨rfl,rfl⟩⟩ (.cons ⟨rfl,.inl ⟨rfl,rfl⟩⟩ (.cons ⟨rfl,.inl ⟨rfl,rfl⟩⟩ (.cons ⟨rfl,.inl ⟨rfl,rfl⟩⟩ (.cons ⟨rfl,.inl ⟨rfl,rfl⟩⟩ (.cons ⟨rfl,.inr (.inr (.inr ⟨rfl,rfl⟩))⟩ (.cons ⟨rfl,.inl ⟨rfl,rfl⟩⟩ (.cons ⟨rfl,.inl ⟨rfl,rfl⟩⟩ (.cons ⟨rfl,.inl ⟨rfl,rfl⟩⟩ (.nil))))))))))))))))))))))))))
theorem DK{st t st' t':Nat}{a b:Addr}(h1:V.ρ[st]?=some a)(h2:V'.ρ[st']?=some a)(h3:V.ρ[t]?=some b)(h4:V'.ρ[t']?=some b):∀ {es T T':bN},All2 (λ p q=>p.1=q.1/\JZ p.2 q.2=true) es T->
 All2 (λ(q q':Nat×AV)=>q.1=q'.1/\((q.2=.any/\q'.2=.any)\/(q.2=.own st/\q'.2=.own st')\/(q.2=.own t/\q'.2=.own t')\/(q.2=.none/\q'.2=.none))) T T'->All2 (λ p q=>p.1=q.1/\q.2≠.hid/\Tra V V' p.2 q.2/\p.2≠.hid) es T':=by
 intro es T T' h
 revert T'
 induction h with
 | nil=>intro T' d;cases d;exact .nil
 |
  @cons x y _ _ p _ ih=>
  intro T' d;obtain⟨z,r',rfl,⟨q1,q2⟩,r'⟩:=d.cons_inv;obtain⟨p1,p2⟩:=p;refine .cons ⟨p1.trans q1,?_⟩ (ih r');have own:∀ {i:Nat},JZ x.2 (.own i)=true->x.2=.own i:=λ {i} h=>bB h λ J h=>cj h λ k e h=>ay h λ q J=>by rw[e,OB q]
  rcases q2 with⟨g1,g2⟩|⟨g1,g2⟩|⟨g1,g2⟩|⟨g1,g2⟩<;>rw[g1] at p2<;>rw[g2]
  ·refine⟨nofun,Tra.any,λ q=>?_⟩
   rw[q] at p2;exact nof p2
  ·rw[own p2];exact⟨nofun,Tra.own h1 h2,nofun⟩
  ·rw[own p2];exact⟨nofun,Tra.own h3 h4,nofun⟩
  ·rw[mI p2];exact⟨nofun,Tra.lit rfl,nofun⟩
theorem p7{st t st' t':Nat}{a b:Addr}(h:Fm es (dK st t)=true)(h1:V.ρ[st]?=some a)(h2:V'.ρ[st']?=some a)(h3:V.ρ[t]?=some b)(h4:V'.ρ[t']?=some b):All2 (λ p q=>p.1=q.1/\q.2≠.hid/\Tra V V' p.2 q.2/\p.2≠.hid) es (dK st' t'):=
 DK h1 h2 h3 h4 (qt h) (yH st t st' t')
structure IsMach(σ:Sg)(m:Nat)(M:Mach):Prop where
 m:σ.own.get m=some (.inst 1042 M.a)
 a:∃ es,σ.own.get M.a=some (.atd es)/\Fm es (dK M.st M.t)=true
 st:σ.own.get M.st=some (.inst 496 M.sa)
 sa:σ.own.get M.sa=some (.atd [(lq,.int 20),(dU,.own M.q)])
 q:(∃ xs,σ.own.get M.q=some (.lst xs)/\xs.length<=100000)\/σ.own.get M.q=some .lsA
 t:σ.own.get M.t=some (.dct true rm)
theorem Aj{β:Type u}{k:Nat×AV->Nat×AV->Option β}{t:β}{P:Prop}(h:Kk es k=some t)(p:∀ a b,es=[a,b]->k a b=some t->P):P:=by
 rcases es with _|⟨x,_|⟨y,_|⟨z,r⟩⟩⟩
 ·cases h
 ·cases h
 ·exact p x y rfl h
 ·cases h
theorem mM(h:Lq v=true):v=.int 20:=bB h λ J h=>qo h λ i e h=>ay h λ q J=>by rw[e,of_decide_eq_true q]
theorem rP{o:Option AO}(h:Hn o=true):(∃ xs,o=some (.lst xs)/\xs.length<=100000)\/o=some .lsA:=
 uh h (λ xs e h=>aw e λ a e1 e2=>.inl ⟨xs,by rw[e1,ge e2],OU (OE h)⟩) λ h=>bB h λ J h=>aw h λ a e1 e2=>.inr (by rw[e1,uz e2])
theorem oG{m:Nat}{M:Mach}(h:vp σ m=some M):IsMach σ m M:=
 mN h λ c a e1 h=>ay h λ q1 h=>nG h λ es e2 h=>aw h λ v e3 h=>cj h λ st e4 h=>aw h λ w e5 h=>cj h λ t e6 h=>ay h λ q2 h=>mN h λ c2 sa e7 h=>ay h λ q3 h=>nc h λ b tab e8 h=>ay h λ q4 h=>
 nG h λ es2 e9 h=>Aj h λ p q e10 h=>ay h λ q5 h=>cj h λ qq e11 h=>ay h λ q6 h=>by
  cases h
  have q4:=(OA _ _).mp q4;have q5:=(OA _ _).mp q5;have q7:=(OA _ _).mp q5.1;refine⟨by rw[e1,OB q1],⟨es,e2,q2⟩,by rw[e7,OB q3],?_,rP q6,by rw[e8,q4.1,pD q4.2]⟩
  rw[e9,e10,<-OB q7.1,<-OB q7.2,<-mM q5.2,<-e11]
noncomputable def tE(o:Option AO):Nat:=opB o (λ o=>(AO.casesOn o (λ xs=>6) (λ J=>8) (λ c d=>if c=1042 then 2 else 4) (λ J=>8) (λ es=>if es.length=2 then 5 else 3) (λ b es=>if b then 7 else 0) (λ J=>8) (λ J=>8) (λ J J=>8) (λ J J=>8) (λ J J=>8) (λ J J=>8) (λ J J=>8) (λ J J=>8) (λ J J J J=>8) (λ J J=>8) 8 (λ J J=>8) (λ J=>8) 8 (1) 8 (6) (λ J=>8) (λ J J=>8) (λ J=>8) (λ J=>8) (λ J J=>8) (λ J=>8) 8)) 8
theorem uF{q:Nat}(h:KQ σ q=true):∃ xs,σ.own.get q=some (.lst xs)/\8<=q/\xs.length<=100000:=by
 unfold KQ at h;rcases e:bz (σ.own.get q) with _|xs
 ·rw[e] at h;cases h
 ·rw[e] at h;have h:=(OA _ _).mp h;exact⟨xs,aU e,OE h.1,OU (OE h.2)⟩
structure MachG(g:Sg)(q:Nat):Prop where
 m:g.own.get 2=some (.inst 1042 3)
 a:∃ es,g.own.get 3=some (.atd es)/\Fm es (dK 4 7)=true
 st:g.own.get 4=some (.inst 496 5)
 sa:g.own.get 5=some (.atd [(lq,.int 20),(dU,.own q)])
 q:∃ xs,g.own.get q=some (.lst xs)/\8<=q/\xs.length<=100000
 t:g.own.get 7=some (.dct true rm)
theorem rF(h:C0 σ=true):∃ q,MachG σ q:=by
 obtain⟨t,h⟩:=Pe.mp h;refine bw λ G K=>mN h λ c a e1 h=>ay h λ q1 h=>mN h λ c2 b e2 h=>ay h λ q2 h=>nG h λ es e3 h=>ay h λ q3 h=>nG h λ es2 e4 h=>Aj h λ p q e5 h=>ay h λ q5 h=>cj h λ qq e6 h=>ay h λ q6 h=>nc h λ b tab e7 h=>ay h λ q7 h=>?_;have q1:=(OA _ _).mp q1;have q2:=(OA _ _).mp q2;have q5:=(OA _ _).mp q5;have q8:=(OA _ _).mp q5.1;have q7:=(OA _ _).mp q7;refine K ⟨qq,by rw[e1,OB q1.1,OB q1.2],⟨es,e3,q3⟩,by rw[e2,OB q2.1,OB q2.2],?_,uF q6,by rw[e7,q7.1,pD q7.2]⟩
 rw[e4,e5,<-OB q8.1,<-OB q8.2,<-mM q5.2,<-e6]
def w9(X:Cx)(V₂' W:Va)(σ₂' σ':Sg)(j i:Nat):Prop:=∀ o,σ'.own.get i=some o->o≠.dead->∃ o₂,σ₂'.own.get j=some o₂/\o₂≠.dead/\(∀ c d,o≠.exc c d)/\∀ ob,DenO X false V₂' ob o₂->DenO X false W ob o
theorem fM{o o₂:AO}(e:σ'.own.get i=some o)(e₂:σ₂'.own.get j=some o₂)(nd:o₂≠.dead)(ne:∀ c d,o≠.exc c d)(t:TraO V₂' W o₂ o):w9 X V₂' W σ₂' σ' j i:=λ o' eo J=>by
 obtain rfl:=Oy (e.symm.trans eo);exact⟨o₂,e₂,nd,ne,λ ob d=>d.tra t⟩
theorem wK(e:σ'.own.get i=some .dead):w9 X V₂' W σ₂' σ' j i:=λ o eo nd=>absurd (Oy (eo.symm.trans e)) nd
theorem eZ{P:Nat->Nat->Prop}{k a:Nat}(h:P k a)(q:∀ j i:Nat,l[j]?=some i->P (j+(k+1)) i):∀ j i:Nat,(a::l)[j]?=some i->P (j+k) i:=λ j i e=>by
 rcases j with _|j
 ·obtain rfl:=Oy e;exact(R6 k).symm▸h
 ·exact(Nat.succ_add_eq_add_succ j k).symm▸q j i e
theorem rB(h:l.Nodup)(i j:Nat){a b:Nat}(ei:l[i]?=some a)(ej:l[j]?=some b)(ne:OC i j=false):a≠b:=by
 rintro rfl
 exact absurd ((Sp (OJ.mp ei).1 h).mp (ei.trans ej.symm)) (OV ne)
structure P4(t t':Tr)(a b c d:Nat)(x y z w:AO):Prop where
 old:∀ i,i≠a->i≠b->i≠c->i≠d->t'.get i=t.get i
 gd:t'.get d=some w
 gc:c≠d->t'.get c=some z
 gb:b≠c->b≠d->t'.get b=some y
 ga:a≠b->a≠c->a≠d->t'.get a=some x
theorem P4.of{t:Tr}{a b c d:Nat}{x y z w:AO}(fa:a+1<2^40)(fb:b+1<2^40)(fc:c+1<2^40)(fd:d+1<2^40):P4 t (Tr.put' 40 (Tr.put' 40 (Tr.put' 40 (Tr.put' 40 t a x) b y) c z) d w) a b c d x y z w where
 old:=λ i h1 h2 h3 h4=>by rw[Tr.get_put' 40 _ _ _ fd,if_neg h4,Tr.get_put' 40 _ _ _ fc,if_neg h3,Tr.get_put' 40 _ _ _ fb,if_neg h2,Tr.get_put' 40 _ _ _ fa,if_neg h1]
 gd:=by rw[Tr.get_put' 40 _ _ _ fd,if_pos rfl]
 gc:=λ h1=>by rw[Tr.get_put' 40 _ _ _ fd,if_neg h1,Tr.get_put' 40 _ _ _ fc,if_pos rfl]
 gb:=λ h1 h2=>by rw[Tr.get_put' 40 _ _ _ fd,if_neg h2,Tr.get_put' 40 _ _ _ fc,if_neg h1,Tr.get_put' 40 _ _ _ fb,if_pos rfl]
 ga:=λ h1 h2 h3=>by rw[Tr.get_put' 40 _ _ _ fd,if_neg h3,Tr.get_put' 40 _ _ _ fc,if_neg h2,Tr.get_put' 40 _ _ _ fb,if_neg h1,Tr.get_put' 40 _ _ _ fa,if_pos rfl]
theorem BL{W W':Va}:TraO W W' (.dct true rm) (.dct true rm):=.dct (.cons ⟨rfl,Tra.lit rfl⟩ (.cons ⟨rfl,Tra.lit rfl⟩ (.cons ⟨rfl,Tra.lit rfl⟩ (.cons ⟨rfl,Tra.lit rfl⟩ (.cons ⟨rfl,Tra.lit rfl⟩ (.cons ⟨rfl,Tra.lit rfl⟩ (.cons ⟨rfl,Tra.lit rfl⟩ (.cons ⟨rfl,Tra.lit rfl⟩ (.cons ⟨rfl,Tra.lit rfl⟩ (.cons ⟨rfl,Tra.lit rfl⟩ (.cons ⟨rfl,Tra.lit rfl⟩ (.nil))))))))))))
set_option tactic.hygienic true in
theorem zp(T:∀ out h0,TopC (X.into out h0) K LU glb):ConTo X 1130 (lim 3 Ec):=by
 intro as vs t V σ s A Φ d hc hd da hA H h;refine bw λ F Y=>?_;obtain⟨hdl,hc'⟩:=cG hc;clear hc;obtain⟨i,m,w,l,M,rfl,e,eM,ew,rfl⟩:=wt hc';obtain⟨e1,e2⟩:=fI e;obtain⟨m1,⟨es,m2,m3⟩,m4,m5,m6,m7⟩:=oG eM;obtain⟨oq,m6,hq1,hq2,hq3,hq4,hq5⟩:∃ oq,σ.own.get M.q=some oq/\(∀ V':Va,TraO V V' oq .lsA)/\(∀ es,oq≠.ns es)/\(∀ c d,oq≠.exc c d)/\oq≠.dead/\tE (some oq)=6:=by
  rcases m6 with⟨xs,q1,q2⟩|q1
  ·exact⟨_,q1,λ J=>.lstA q2,nofun,nofun,nofun,rfl⟩
  ·exact⟨_,q1,λ J=>.lsA,nofun,nofun,nofun,rfl⟩
 obtain⟨aD,oD,x1,x2,x3⟩:=H.own i _ e1 nofun
 obtain⟨aL,oL,y1,y2,y3⟩:=H.own l _ e2 nofun
 obtain⟨aM,oM,u1,u2,u3⟩:=H.own m _ m1 nofun
 obtain⟨aA,oA,v1,v2,v3⟩:=H.own M.a _ m2 nofun
 obtain⟨aS,oS,w1,w2,w3⟩:=H.own M.st _ m4 nofun
 obtain⟨aB,oB,k1,k2,k3⟩:=H.own M.sa _ m5 nofun
 obtain⟨aQ,oQ,p1,p2,p3⟩:=H.own M.q _ m6 hq4;obtain⟨aT,oT,t1,t2,t3⟩:=H.own M.t _ m7 nofun
 have hel:es.length=26:=by rw[(qt m3).length];rfl
 have hnd:[i,l,m,M.a,M.st,M.sa,M.q,M.t].Nodup:=by
  refine im (λ j=>tE (σ.own.get j)) ?_;show[tE (σ.own.get i),tE (σ.own.get l),tE (σ.own.get m),tE (σ.own.get M.a),tE (σ.own.get M.st),tE (σ.own.get M.sa),tE (σ.own.get M.q),tE (σ.own.get M.t)].Nodup;rw[e1,e2,m1,m2,m4,m5,m6,m7,hq5];have:tE (some (.atd es))=3:=if_neg (by rw[hel];decide)
  rw[this];show[0,1,2,3,4,5,6,7].Nodup
  decide
 obtain⟨aW,obW,z1,z2,_,ws,n,z4,z5,z6⟩:=H.frz w _ (iq ew);have hAt:All2 (HndAt V σ) [i,l,m,M.a,M.st,M.sa,M.q,M.t] [aD,aL,aM,aA,aS,aB,aQ,aT]:=.cons (fw e1 x1 nofun nofun nofun) (.cons (fw e2 y1 nofun nofun nofun) (.cons (fw m1 u1 nofun nofun nofun) (.cons (fw m2 v1 nofun nofun nofun) (.cons (fw m4 w1 nofun nofun nofun) (.cons (fw m5 k1 nofun nofun nofun) (.cons (fw m6 p1 hq4 hq2 hq3) (.cons (fw m7 t1 nofun nofun nofun) .nil)))))))
 have kk:∀ {b o},V.K b o->inK X V σ s [aD,aL,aM,aA,aS,aB,aQ,aT] b o:=kOf H hAt;have hh:Hand X V σ s [i,l,m,M.a,M.st,M.sa,M.q,M.t] ⟨[aD,aL,aM,aA,aS,aB,aQ,aT],[aW],inK X V σ s [aD,aL,aM,aA,aS,aB,aQ,aT],[]⟩ HF:=by
  refine Hand.of rfl hAt hnd (show 8<=100000 by decide) ?_ rfl rfl (λ j o ej=>?_) rfl (λ j o e=>by cases e) nofun
  ·have go:∀ (j:Nat) (o:AO) (a:Addr) (ob:Obj),j<8->(∀ c d,o≠.exc c d)->[aD,aL,aM,aA,aS,aB,aQ,aT][j]?=some a->s.heap.get? a=some ob->DenO X false ⟨[aD,aL,aM,aA,aS,aB,aQ,aT],[aW],inK X V σ s [aD,aL,aM,aA,aS,aB,aQ,aT],[]⟩ ob o->HandO X s ⟨[aD,aL,aM,aA,aS,aB,aQ,aT],[aW],inK X V σ s [aD,aL,aM,aA,aS,aB,aQ,aT],[]⟩ 8 j o:=λ j o a ob h1 h2 h3 h4 h5=>⟨h1,h2,a,ob,h3,h4,h5⟩;refine⟨λ o q=>?_,⟨λ o q=>?_,⟨λ o q=>?_,⟨λ o q=>?_,trivial,trivial⟩,trivial⟩,⟨λ o q=>?_,trivial,trivial⟩⟩,⟨λ o q=>?_,⟨λ o q=>?_,trivial,trivial⟩,⟨λ o q=>?_,trivial,trivial⟩⟩⟩<;>cases q
   ·exact go 0 _ aD oD (by decide) nofun rfl x2 (x3.tra (.dct (.cons ⟨rfl,Tra.own y1 rfl⟩ (.cons ⟨rfl,Tra.lit rfl⟩ .nil))))
   ·exact go 1 _ aL oL (by decide) nofun rfl y2 (y3.tra .ila)
   ·exact go 3 _ aA oA (by decide) nofun rfl v2 (v3.tra (.atd (p7 m3 w1 rfl t1 rfl)))
   ·exact go 7 _ aT oT (by decide) nofun rfl t2 (t3.tra (.dct (.cons ⟨rfl,Tra.lit rfl⟩ (.cons ⟨rfl,Tra.lit rfl⟩ (.cons ⟨rfl,Tra.lit rfl⟩ (.cons ⟨rfl,Tra.lit rfl⟩ (.cons ⟨rfl,Tra.lit rfl⟩ (.cons ⟨rfl,Tra.lit rfl⟩ (.cons ⟨rfl,Tra.lit rfl⟩ (.cons ⟨rfl,Tra.lit rfl⟩ (.cons ⟨rfl,Tra.lit rfl⟩ (.cons ⟨rfl,Tra.lit rfl⟩ (.cons ⟨rfl,Tra.lit rfl⟩ .nil)))))))))))))
   ·exact go 5 _ aB oB (by decide) nofun rfl k2 (k3.tra (.atd (.cons ⟨rfl,nofun,Tra.lit rfl,nofun⟩ (.cons ⟨rfl,nofun,Tra.own p1 rfl,nofun⟩ .nil))))
   ·exact go 2 _ aM oM (by decide) nofun rfl u2 (u3.tra (.inst v1 rfl))
   ·exact go 4 _ aS oS (by decide) nofun rfl w2 (w3.tra (.inst k1 rfl))
   ·exact go 6 _ aQ oQ (by decide) nofun rfl p2 (p3.tra (hq1 _))
  ·match j with
   |
    0=>
    cases ej
    exact⟨aW,_,rfl,kk z4,⟨ws,n,rfl,z5⟩,ws,n,kk z4,z5,λ v hv=>by obtain⟨t,th,d,q1,q2⟩:=z6 v hv;exact⟨t,th,d,q1,q2.mono kk⟩⟩
   | j+1=>cases ej
 obtain⟨hb,h⟩:=bk h;rw[bD,bD,bD] at h;refine Y (dZ T (bM _) H hA hd hdl (by decide) hh (as₂:=[.own 0,.own 2,.frz 0]) (N:=3000) ?_ (Φ₂:=λ r=>fX r=true) (lP (by have:=zm;unfold br at this;exact this)) λ r s' q=>?_)
 ·cases da with
  | cons d1 r=>
  cases r with
  | cons d2 r=>
  cases r with
  | cons d3 r=>
  cases r
  refine .cons (Tra.own x1 rfl _ d1) (.cons (Tra.own u1 rfl _ d2) (.cons ?_ .nil));rw[cP z1 d3];exact .frz rfl
 ·obtain⟨v,rfl,V₂',σ₂',av,hle,_,H',dv,q2⟩:=iZ q λ i g z=>by cases z
  refine bw λ F Y=>?_;have q2:(Fh av&&(m9 σ₂'&&C0 σ₂'))=true:=q2;obtain rfl:=jf ((OA _ _).mp q2).1
  ·have q2:=(OA _ _).mp ((OA _ _).mp q2).2;obtain⟨q,G⟩:=rF q2.2;obtain⟨g1,⟨es',g2,g3⟩,g4,g5,⟨xs,g6,g7,g8⟩,g9⟩:=G;obtain⟨aN,oN,n1,n2,n3⟩:=H'.own q _ g6 nofun
   have Q:P4 σ.own _ σ.n M.q M.sa M.a .lsA .dead (.atd [(lq,.int 20),(dU,.own σ.n)]) (.atd (dK M.st M.t)):=.of (OI (Pm hb) (by decide)) (H.fit m6) (H.fit m5) (H.fit m2)
   have rV:∀ {j:Nat} {a:Addr},V.ρ[j]?=some a->(V.ρ++[aN])[j]?=some a:=λ {j a} e=>by rw[OT (OJ.mp e).1];exact e
   have rN:(V.ρ++[aN])[σ.n]?=some aN:=by rw[<-H.lenO,OL (OR _),Qm];rfl
   have B:Back X V σ [i,l,m,M.a,M.st,M.sa,M.q,M.t] [q] [aN] V₂' σ₂' ⟨Tr.put' 40 (Tr.put' 40 (Tr.put' 40 (Tr.put' 40 σ.own σ.n .lsA) M.q .dead) M.sa (.atd [(lq,.int 20),(dU,.own σ.n)])) M.a (.atd (dK M.st M.t)),σ.n+1,σ.frz⟩:=by
    have pl:∀ {j x:Nat} {o:AO},[i,l,m,M.a,M.st,M.sa,M.q,M.t][j]?=some x->σ.own.get x=some o->OC j 6=false->OC j 5=false->OC j 3=false->(Tr.put' 40 (Tr.put' 40 (Tr.put' 40 (Tr.put' 40 σ.own σ.n .lsA) M.q .dead) M.sa (.atd [(lq,.int 20),(dU,.own σ.n)])) M.a (.atd (dK M.st M.t))).get x=some o:=λ {j x o} ej e b1 b2 b3=>(Q.old x (OX (H.lt e)) (rB hnd j 6 ej rfl b1) (rB hnd j 5 ej rfl b2) (rB hnd j 3 ej rfl b3)).trans e;have lt:∀ {x o},σ.own.get x=some o->σ.n≠x:=λ e=>(OX (H.lt e)).symm;refine⟨.cons n1 .nil,λ j hj=>R4.mp hj▸g7,O6.mpr ⟨Pl,PJ⟩,rfl,hb,rfl,λ j hj hn=>?_,λ j hj=>?_,?_,λ k j e o eo nd=>?_⟩
    ·exact Q.old j (OX hj) (λ q=>hn (q▸O9 (i:=6) rfl)) (λ q=>hn (q▸O9 (i:=5) rfl)) (λ q=>hn (q▸O9 (i:=3) rfl))
    ·have gt:∀ {x o},σ.own.get x=some o->j≠x:=λ e=>Qn (Pb (H.lt e) (QB hj));exact(Q.old j (Qn hj) (gt m6) (gt m5) (gt m2)).trans (H.top j (QB hj))
    ·have D:=v9 (V':=⟨V.ρ++[aN],V.φ,V.K,V.ds⟩) q2.1 (hle.ρ (i:=1) rfl) (rV y1);refine eZ (k:=0) (P:=w9 X V₂' ⟨V.ρ++[aN],V.φ,V.K,V.ds⟩ σ₂' ⟨_,_,_⟩) ?_ (eZ ?_ (eZ (fM (pl (j:=2) rfl m1 rfl rfl rfl) g1 nofun nofun (.inst (hle.ρ (i:=3) rfl) (rV v1)))
      (eZ (fM Q.gd g2 nofun nofun (.atd (p7 g3 (hle.ρ (i:=4) rfl) (rV w1) (hle.ρ (i:=7) rfl) (rV t1))))
      (eZ (fM (pl (j:=4) rfl m4 rfl rfl rfl) g4 nofun nofun (.inst (hle.ρ (i:=5) rfl) (rV k1)))
      (eZ (fM (Q.gc (rB hnd 5 3 rfl rfl rfl)) g5 nofun nofun (.atd (.cons ⟨rfl,nofun,Tra.lit rfl,nofun⟩ (.cons ⟨rfl,nofun,Tra.own n1 rN,nofun⟩ .nil))))
      (eZ (wK (Q.gb (rB hnd 6 5 rfl rfl rfl) (rB hnd 6 3 rfl rfl rfl)))
      (eZ (fM (pl (j:=7) rfl m7 rfl rfl rfl) g9 nofun nofun BL) λ j i=>am)))))))
     ·obtain⟨o₂,z1,z2,z3,z4⟩:=D 0 (by decide)
      exact fM (pl (j:=0) rfl e1 rfl rfl rfl) z1 z2 z3 z4
     ·obtain⟨o₂,z1,z2,z3,z4⟩:=D 1 (by decide)
      exact fM (pl (j:=1) rfl e2 rfl rfl rfl) z1 z2 z3 z4
    ·rcases k with _|k
     ·obtain rfl:=Oy e;obtain rfl:=Oy ((Q.ga (lt m6) (lt m5) (lt m2)).symm.trans eo);exact⟨_,g6,nofun,nofun,λ ob d=>d.tra (.lstA g8)⟩
     ·exact am e
   obtain⟨B1,B2,B3,_⟩:=H.back hh hle H' B;exact Y ⟨_,_,.bool true,B3,B2,B1,Tra.lit rfl _ dv,h⟩
end
end
end
section
noncomputable section
universe u
open PySem PySem.W PyProof.Rows PySem.SeqAt
noncomputable def Gf(r:Out×Sg):Option (Nat×Nat×AV×List AV):=Jx r.1 λ v=>j6 v λ d=>Fn (r.2.own.get d) λ b es=>(jG es).bind λ p=>j6 p.1.2 λ l=>((r.2.own.get l).bind jI).bind λ xs=>
 ifK (!b&&(au p.1.1 dD&&(au p.2.1 bZ&&(kF p.2.2&&(P5 xs.length 64&&xs.all kF))))) (some (d,l,p.2.2,xs))
noncomputable def Cr(r:Out×Sg):Bool:=(Gf r).isSome
noncomputable def wa:R:=run cfg0 3000 (.call 3 (.glob 1077) [.frz 0]) ⟨.nil,0,⟨[.scr],0,[]⟩⟩
theorem zn:chk Cr wa=true:=by kernel_rfl
section
variable {V V' V₂ V₂':Va} {σ σ' σ₂ σ₂':Sg} {s s' s₁:Shared} {hnd:List Nat} {Φ Φ₂:Out×Sg->Prop} {K:Frag} {glb:List (Nat×AV)}
theorem rl{o:Out}{g:Sg}(h:Cr (o,g)=true):∃ d l x xs,o=.v (.own d)/\g.own.get d=some (.dct false [(dD,.own l),(bZ,x)])/\g.own.get l=some (.lst xs)/\kF x=true/\xs.length<=64/\xs.all kF=true:=
 bB h λ J h=>ue h λ v e h=>cj h λ d e2 h=>nc h λ b es e3 h=>aw h λ p e4 h=>cj h λ l e5 h=>aw h λ xs e6 h=>aw e6 λ o6 e7 e8=>ay h λ a J=>by
  have a1:=(OA _ _).mp a;have a2:=(OA _ _).mp a1.2;have a3:=(OA _ _).mp a2.2;have a4:=(OA _ _).mp a3.2;have a5:=(OA _ _).mp a4.2;refine⟨d,l,p.2.2,xs,e.trans (congrArg _ e2),?_,by rw[e7,ge e8],a4.1,OE a5.1,a5.2⟩
  rw[e3,gP e4,<-aC a2.1,<-aC a3.1,<-e5,show b=false from by rcases b with _|_<;>first|rfl|cases a1.1]
set_option tactic.hygienic true in
theorem zq(T:∀ out h0,TopC (X.into out h0) K cfg0 glb)(c115:w8 cfg0):ConTo X 1077 (lim 3 Ed):=by
 intro as vs t V σ s A Φ d hc hd da hA H h;refine bw λ F Y=>?_;obtain⟨hdl,hc'⟩:=cG hc;clear hc;obtain⟨i,rfl,e1,rfl⟩:=wu hc';obtain⟨aS,oS,x1,x2,x3,_⟩:=H.frz i _ e1;have kk:∀ {b o},V.K b o->inK X V σ s [] b o:=kOf H .nil;have hh:Hand X V σ s [] ⟨[],[aS],inK X V σ s [],[]⟩ ⟨.nil,0,⟨[.scr],0,[]⟩⟩:=by
  refine Hand.of rfl .nil PJ (Pk _) trivial rfl rfl (λ j o e=>?_) rfl (λ j o e=>by cases e) nofun
  match j with
  | 0=>cases e;exact⟨aS,oS,rfl,kk x2,x3,trivial⟩
  | j+1=>cases e
 obtain⟨hb1,h⟩:=bk h;obtain⟨hb2,h⟩:=bk h;have hb2:σ.n+1<100000:=hb2;refine Y (dZ T c115 H hA hd hdl (by decide) hh (as₂:=[.frz 0]) (N:=3000) ?_ (Φ₂:=λ r=>Cr r=true) (lP (by have:=zn;unfold wa at this;exact this)) λ r s' q=>?_)
 ·cases da with
  | cons d1 r=>
  cases r
  rw[cP x1 d1];exact .cons (.frz rfl) .nil
 ·obtain⟨v,rfl,V₂',σ₂',av,hle,_,H',dv,q2⟩:=iZ q λ i g z=>by cases z
  refine bw λ F Y=>?_;obtain⟨dd,l,x,xs,eo,g1,g3,g4,g5,g6⟩:=rl q2;cases eo
  cases dv with
  | own hd=>
  rename_i aD
  obtain⟨aL,oL,n1,n2,n3⟩:=H'.own l _ g3 nofun
  have hne:l≠dd:=by rintro rfl;rw[g1] at g3;cases g3
  have f1:=λ j=>Tr.get_put' 40 σ.own σ.n .ila (OI (Pm hb1) (by decide)) j
  have f2:=λ j=>Tr.get_put' 40 (Tr.put' 40 σ.own σ.n .ila) (σ.n+1) (.dct false [(dD,.own σ.n),(bZ,.an)]) (OI (Pm hb2) (by decide)) j
  have ff:∀ j,(Tr.put' 40 (Tr.put' 40 σ.own σ.n .ila) (σ.n+1) (.dct false [(dD,.own σ.n),(bZ,.an)])).get j=if j=σ.n+1 then some (.dct false [(dD,.own σ.n),(bZ,.an)]) else if j=σ.n then some .ila else σ.own.get j:=λ j=>by rw[f2 j,f1 j]
  have r0:(V.ρ++[aL,aD])[σ.n]?=some aL:=by rw[<-H.lenO,OL (OR _),Qm];rfl
  have r1:(V.ρ++[aL,aD])[σ.n+1]?=some aD:=by rw[<-H.lenO,OL (Pu _ _),PY];rfl
  have B:Back X V σ [] [l,dd] [aL,aD] V₂' σ₂' ⟨Tr.put' 40 (Tr.put' 40 σ.own σ.n .ila) (σ.n+1) (.dct false [(dD,.own σ.n),(bZ,.an)]),σ.n+1+1,σ.frz⟩:=by
   refine⟨.cons n1 (.cons hd .nil),λ J J=>Pk _,by simp [hne],rfl,hb2,rfl,λ j hj J=>?_,λ j hj=>?_,λ j i' e=>(by cases e),λ k j e o eo nd=>?_⟩
   ·rw[ff,if_neg (by omega),if_neg (by omega)]
   ·have hj:σ.n+2<=j:=hj;rw[ff,if_neg (by omega),if_neg (by omega)];exact H.top j (by omega)
   ·rw[ff] at eo
    match k with
    |
     0=>
     cases e
     rw[if_neg (by omega),if_pos (SQ _)] at eo;cases eo
     exact⟨_,g3,nofun,nofun,λ ob d=>d.tra (.ilaN g5 g6)⟩
    |
     1=>
     cases e
     rw[if_pos rfl] at eo;cases eo
     exact⟨_,g1,nofun,nofun,λ ob d=>d.tra (.dct (.cons ⟨rfl,Tra.own n1 r0⟩ (.cons ⟨rfl,Tra.an g4⟩ .nil)))⟩
    | k+2=>cases e
  obtain⟨B1,B2,B3,_⟩:=H.back hh hle H' B;exact Y ⟨_,_,.own (σ.n+1),B3,B2,B1,.own r1,h⟩
end
end
end
section
universe u
open PySem PySem.W
open PySem.Sem (wp)
variable {c:Code} {prog:Program} {Q:VP} {w:World}
noncomputable def fZ:Code->Bool
 | .builtin id _=>!(PM.contains id)
 | _=>true
def lg(l:List (Code×Pos)):Prop:=∀ x∈l,fZ x.1=true
def wpN{α:Type}(M:Model)(A:Around)(t:Sem α)(Q:α->Shared->Prop)(E:VP)(s:Shared):Prop:=
 ∀ Γ p,Γ.In A->fZ Γ.code=true->lg Γ.below->wp M Γ t (λ a J s'=>Q a s') (λ e J s'=>E e s') p s
def d7(M:Model)(A:Around)(c:Code)(R:Qa->Shared->Prop)(s:Shared):Prop:=
 ∀ Γ p,Γ.code=c->Γ.Below A->fZ Γ.code=true->lg Γ.below->wpCode M Γ R p s
section
variable {α β:Type} {M:Model} {E:VP} {s:Shared}
theorem cY{t:Sem α}{Q:α->Shared->Prop}(h:wpAny M A t Q E s):wpN M A t Q E s:=λ Γ p hΓ J J=>h Γ p hΓ
theorem JS{R:Qa->Shared->Prop}(h:Pd M A c R s):d7 M A c R s:=λ Γ p hc hΓ J J=>h Γ p hc hΓ
theorem be{a:α}{Q:α->Shared->Prop}(h:Q a s):wpN M A (pure a) Q E s:=cY (OD h)
theorem bh{t:Sem α}{Q Q':α->Shared->Prop}{E':VP}(h:wpN M A t Q E s)(hQ:∀ a s,Q a s->Q' a s)(hE:∀ e s,E e s->E' e s):wpN M A t Q' E' s:=
 λ Γ p hΓ h1 h2=>RK M Γ t (λ a J s=>hQ a s) (λ e J s=>hE e s) p s (h Γ p hΓ h1 h2)
theorem ba{m:Sem α}{f:α->Sem β}{Q:β->Shared->Prop}(h:wpN M A m (λ a s'=>wpN M A (f a) Q E s') E s):wpN M A (m >>= f) Q E s:=λ Γ p hΓ h1 h2=>by
 rw[Sem.wp_bind'];exact RK M Γ m (λ a p' s' h'=>h' Γ p' hΓ h1 h2) (λ J J J h'=>h') p s (h Γ p hΓ h1 h2)
theorem aI{m:Sem α}{f:α->Sem β}{Q:β->Shared->Prop}(h:wpAny M A m (λ a s'=>wpN M A (f a) Q E s') E s):wpN M A (m >>= f) Q E s:=ba (cY h)
theorem Ag{m:Sem α}{k:Value->Sem α}{Q:α->Shared->Prop}(h:wpN M A m Q (λ e s'=>wpN M A (k e) Q E s') s):wpN M A (tryCatch m k) Q E s:=λ Γ p hΓ h1 h2=>by
 rw[Sem.wp_tryCatch'];exact RK M Γ m (λ J J J h'=>h') (λ e p' s' h'=>h' Γ p' hΓ h1 h2) p s (h Γ p hΓ h1 h2)
theorem nO{m:Sem α}{k:Value->Sem Unit}{Q:α->Shared->Prop}(h:wpN M A m Q (λ e s'=>wpN M A (k e) (λ J s''=>E e s'') E s') s):wpN M A (m.onRaise k) Q E s:=λ Γ p hΓ h1 h2=>by
 rw[Sem.wp_onRaise];exact RK M Γ m (λ J J J h'=>h') (λ e p' s' h'=>h' Γ p' hΓ h1 h2) p s (h Γ p hΓ h1 h2)
theorem By{m:Sem α}{Q:Except Value α->Shared->Prop}(h:wpN M A m (λ a=>Q (.ok a)) (λ e=>Q (.error e)) s):wpN M A m.attempt Q E s:=λ Γ p hΓ h1 h2=>by rw[Sem.wp_attempt];exact h Γ p hΓ h1 h2
theorem bx{vs:List Value}{m:Sem α}{Q:α->Shared->Prop}(h:wpN M A m Q E s):wpN M A (Rr vs m) Q E s:=λ Γ p hΓ h1 h2=>by rw[Sem.wp_holding];exact h Γ p hΓ h1 h2
theorem f9{Γ:Ctx}{p:Pos}(h1:fZ Γ.code=true)(h2:lg Γ.below):lg ((Γ.code,p)::Γ.below):=λ x hx=>by
 rcases Po.mp hx with rfl|hx
 ·exact h1
 ·exact h2 x hx
theorem l7(ok:fZ c=true)(hc:d7 M A c (λ r s'=>match r with | .ok (.ret v)=>Q v s' | .ok _=>False | .error e=>E e s') s):wpN M A (runValue c) Q E s:=λ Γ p hΓ h1 h2=>by
 rw[Sem.wp_runValue];exact hc _ p rfl (hΓ.enter c none p (by intro x;cases x)) ok (f9 h1 h2)
theorem fg{f:Value}{pos:List Value}{kw:List (Str×Value)}(hc:d7 M A (.call f ⟨pos,kw⟩) (λ r s'=>match r with | .ok (.ret v)=>Q v s' | .ok _=>False | .error e=>E e s') s):wpN M A (call f pos kw) Q E s:=l7 rfl hc
theorem cX{R R':Qa->Shared->Prop}(h:d7 M A c R s)(hR:∀ r s,R r s->R' r s):d7 M A c R' s:=λ Γ p hc hΓ h1 h2=>wpCode_mono hR (h Γ p hc hΓ h1 h2)
theorem bH{R:Qa->Shared->Prop}
 (h:wpN M (A.under c) (M.den c) (λ fin s'=>match fin with | .done f=>R (.ok f) s' | .again c'=>c'.quiet=true/\fZ c'=true/\d7 M A c' R s') (λ e s'=>R (.error e) s') s):d7 M A c R s:=λ Γ p hc hΓ h1 h2=>by
 rw[wpCode_iff_wp,hc];refine RK M Γ _ (λ fin p' s' h'=>?_) (λ J J J h'=>h') p s (h Γ p (hc▸hΓ.in) h1 h2);cases fin with
 | done f=>exact h'
 | again c'=>exact⟨h'.1,h'.2.2 (Γ.goto c') p' rfl (hΓ.goto c') h'.2.1 h2⟩
theorem d6{id:String}{args:Args}{b:P6}{R:Qa->Shared->Prop}(hb:RD table id=some b)
 (h:wpN (model prog w) (A.under (.builtin id args)) (b args)
  (λ fin s'=>match fin with | .done f=>R (.ok f) s' | .again c'=>c'.quiet=true/\fZ c'=true/\d7 (model prog w) A c' R s') (λ e s'=>R (.error e) s') s) :
 d7 (model prog w) A (.builtin id args) R s:=by
 refine bH ?_;show wpN _ _ (match RD table id with|some b=>b args|none=>unsupported ((withoutEnding? id "#data").getD id)) _ _ s
 rw[hb];exact h
theorem hH{body:List Stmt}{env:Env}{R:Qa->Shared->Prop}
 (h:wpN (model prog w) (A.deeper env) (execs body env) (λ f s'=>R (.ok (.ret (match f with | .ret v=>v|_=>.none))) s')
  (λ e s'=>wpN (model prog w) (A.deeper env) (leaving env e) (λ J s''=>R (.error e) s'') (λ e' s''=>R (.error e') s'') s') s) :
 d7 (model prog w) A (.func body env) R s:=by
 refine bH ?_;show wpN _ (A.deeper env) (do point;match <-(execs body env).onRaise (leaving env) with | .ret v=>ret v|_=>ret .none) _ _ s
 refine aI (wpAny_point (ba (nO (bh h (λ f s' h'=>?_) λ J J h'=>h'))));cases f<;>exact be h'
theorem mv{v:Value}{Q:Bool->Shared->Prop}(hg:A.guards=some [])(h:Q false s):wpN M A (Sv v) Q E s:=λ Γ p hΓ h1 h2=>by
 have hall:=f9 (p:=p) h1 h2;have hgu:guardsOf ((Γ.code,p)::Γ.below)=[]:=by rw[guardsOf_cons];exact hΓ.2.2.2.1 _ hg
 have hno:∀ x∈(Γ.code,p)::Γ.below,x.1.isGuard=false:=λ x hx=>by
  cases q:x.1.isGuard with
  | false=>rfl
  |
   true=>
   have:x.1∈guardsOf ((Γ.code,p)::Γ.below):=by
    unfold guardsOf;exact List.mem_filter.mpr ⟨PP hx,q⟩
   rw[hgu] at this;cases this
 unfold Sv;show Q (((Γ.code,p)::Γ.below).any _) s;rw[QQ.mpr ?_]
 ·exact h
 ·intro x hx;have g1:=hno x hx;have g2:=hall x hx;obtain⟨c,pp⟩:=x;dsimp only at g1 g2;cases c with
  |
   builtin id args=>
   have no:∀ y,guardIds.contains y=true->id≠y:=λ y hy q=>by subst q;exact absurd (hy.symm.trans g1) (by decide)
   have g3:PM.contains id=false:=by
    have g2:(!(PM.contains id))=true:=g2;rw[So] at g2;exact g2
   delta Builtin.Bytes.exported.match_1
   show ¬ (dite (id="bytearray.__contains__") _ _=true);rw[dif_neg (no "bytearray.__contains__" (by decide +kernel)),dif_neg (no "bytearray.__mod__" (by decide +kernel)),dif_neg (no "bytearray.__rmod__" (by decide +kernel)),dif_neg (no "_struct.pack_into.held" (by decide +kernel)),dif_neg (no "bytearray.find.held" (by decide +kernel))]
   obtain⟨as,kw⟩:=args;cases as with
   | nil=>exact O7
   | cons w r=>show ¬ (_&&PM.contains id)=true;rw[g3,Tk];exact O7
  | _=>exact O7
end
end
section
open PySem PySem.W PySem.Calls PyProof.Rows
open PySem.Sem (wp)
variable {XP:(Str->Option Value)->Heap->Prop} {loose:List Str} {tree:List Value->Sem Fin} {N:Nat} {q:Program} {s:Shared} {Xt:Shared->Bool} {w:World} {YP:World->Heap->Prop}
theorem me{prog:Program}{t:Sem Fin}{R:Qa->Shared->Prop}(hreg:s.asleep)
 (h:wpN (model prog w) callerA t (λ fin s'=>∃ f,fin=.done f/\(R (.ok f) s'/\SW s'.gens=false)) (λ e s'=>R (.error e) s'/\SW s'.gens=false) s) :
 ∃
  n r s' s'',runN (denote table) prog w n s ⟨t,.builtin "claim.caller" {},Se,[]⟩=.halted (outcomeOf r) s' /\
  schedN (denote table) prog w n (.single s ⟨t,.builtin "claim.caller" {},Se,[]⟩)=.halted (outcomeOf r) s'/\s'.forget=s''.forget/\R r s'':=by
 have h':wp (model prog w) ⟨.builtin "claim.caller" {},none,none,[],none⟩ t (Sem.finPost (model prog w) ⟨.builtin "claim.caller" {},none,none,[],none⟩ λ r s'=>R r s'/\SW s'.gens=false)
  (λ e J s'=>R (.error e) s'/\SW s'.gens=false) Se s:=by
  refine RK _ _ t (λ fin p' s' h'=>?_) (λ J J J h'=>h') Se s (h _ Se caller_in (by decide +kernel) (λ x hx=>by cases hx))
  obtain⟨f,rfl,hf⟩:=h';exact hf
 obtain⟨n,r,s₁,s₂,hs,hn,hfo,hR⟩:=wp_halts_full (M:=model prog w) (R:=R) hreg h';exact⟨n,r,s₂,s₁,hn,hs,hfo,hR⟩
theorem wk{c:ClaimW}{free:Addr->Prop}{gens:Prop}{kept:Heap->Prop}(hz:s.asleep)(hgens:s.gens=#[])
 (hspec:∀ args,c.pre args=true->Uh args=true->
  ∀ ord:List DictEntry->List DictEntry,(∀ l,(ord l).Perm l)->
  ∃
   vs s₁,layAllW c.records (classAt s.heap) w.params ord args s=some (vs,s₁) /\
   wpN (model c.prog w) callerA (tree vs) (λ fin s'=>∃ f,fin=.done f/\(c.Ends s args vs s₁ (.ok f) s'/\s'.os=s.os/\AllBare s'.gens/\kept s'.heap))
    (λ e s'=>c.Ends s args vs s₁ (.error e) s'/\s'.os=s.os/\AllBare s'.gens/\kept s'.heap) s₁) :
 c.CallFrom (λ vs=>⟨tree vs,.builtin "claim.caller" {},Se,[]⟩) w free gens kept s:=by
 intro args hpre hlay ord hord;refine bw λ F Y=>?_;obtain⟨vs,s₁,hlaid,hcode⟩:=hspec args hpre hlay ord hord;have hal:=layAllW_rest _ _ _ hlaid;obtain⟨k,r,s',s'',hrun,hsched,hfo,hcase,hos,hkp⟩:=me (prog:=c.prog) (w:=w) (t:=tree vs) (s:=s₁)
  (R:=λ r s'=>c.Ends s args vs s₁ r s'/\s'.os=s.os/\kept s'.heap)
  (Shared.asleep_of_life hal.2.2.2 hz)
  (bh hcode (by
   rintro fin s' ⟨f,e,h1,h2,h3,h4⟩
   exact⟨f,e,⟨h1,h2,h4⟩,Td h3⟩) (by
   rintro e s' ⟨h1,h2,h3,h4⟩
   exact⟨⟨h1,h2,h4⟩,Td h3⟩))
 obtain⟨eh,_,_,eo,_⟩:=Shared.forget_eq hfo;have hcase:=hcase.congr eh;have hkp:kept s'.heap:=by first|exact eh▸hkp|(rw[eh] at hkp;exact hkp)|(rw[<-eh] at hkp;exact hkp)
 rw[<-eo] at hos;have hlife:s'.heap.life=s.heap.life:=(runN_life _ _ _ hrun).trans hal.2.2.2;refine Y ⟨vs,s₁,hlaid,k,_,s',hsched,?_,(λ J i x hx=>by rw[hgens] at hx;simp at hx),hkp,by rw[hlife],Shared.rest_eq hos⟩
 exact hcase.imp (QJ λ v h=>⟨congrArg outcomeOf h.1,h.2.1,h.2.2.1,h.2.2.2.1,λ b o y J=>h.2.2.2.2.1 b o y,h.2.2.2.2.2⟩)
  (QJ λ e=>QJ λ ob=>QJ λ cls h=>⟨congrArg outcomeOf h.1,h.2.1,h.2.2.1,h.2.2.2.1,h.2.2.2.2.1,λ b o y J=>h.2.2.2.2.2 b o y⟩)
theorem KB{r:RowW}{run:Value->List Value->Sem Value}{loose defs kps:List Str}{writes:Bool}{α:Type}{Yf:Shared->α}{Ya:World->α}
 (left:LeftO r.prog q loose Xt Yf Ya N) (hY:∀ w s,Yf s=Ya w->YP w s.heap) (hYk:∀ w h h',YP w h->(∀ b o,h.get? b=some o->h'.get? b=some o)->YP w h') (hX:∀ s,Xt s=true->XP (s.heap.nsMap Pj) s.heap) (hXk:∀ mg h h',XP mg h->(∀ b o,h.get? b=some o->h'.get? b=some o)->XP mg h')
 (hRf:∀ s,Xt s=true->RecFacts r.records s.heap) (hwr:(!writes||r.records.isEmpty)=true) (ok:(chainsOk q&&opensWell r.prog&&(frees r&&r.within.isEmpty))=true) (hb:r.prog.bare) (hw:r.promised)
 (ht:∀ vs (w:World) (s:Shared) mg f (Q:Fin->Shared->Prop) (E:VP),s.heap.Ns Pj mg->mg r.name=some f->wpN (model r.prog w) callerA (run f vs) (λ v s'=>Q (.done (.ret v)) s') E s->wpN (model r.prog w) callerA (tree vs) Q E s)
 (pin:∀ w s,s.heap.isNs Pj=true->Ground q loose [] XP w s (s.heap.nsMap Pj) (s.heap.nsMap Qh) s.heap->∀ n∈defs,isTheDefsW r.prog s.heap n)
 (call:∀ (w:World) (s₀ s₁:Shared) (mg mb:Str->Option Value),Ground q loose r.records XP w s₀ mg mb s₁.heap->YP w s₁.heap->∀ (args:List WData) (vs:List Value) (as:List Addr),
  r.claim.pre args=true->Uh args=true->Laid r.records w s₀ s₁ args vs as->Rg<s₀.heap.objs.size->∃ f,mg r.name=some f /\
   wpN (model r.prog w) callerA (run f vs) (λ v s'=>GoodWG r.claim (classAt s₀.heap) (TK s₀.heap) args s₁ (.ok (.ret v)) s')
    (λ e s'=>GoodWG r.claim (classAt s₀.heap) (TK s₀.heap) args s₁ (.error e) s') s₁):r.claim.HoldsOpenBy (λ vs=>⟨tree vs,.builtin "claim.caller" {},Se,[]⟩) defs kps writes:=by
 obtain⟨ok,k5⟩:=QR.mp ok;obtain⟨hch,o1⟩:=QR.mp ok;obtain⟨k5,k6⟩:=QR.mp k5;obtain⟨hsame,hu,ha,hap,hm⟩:=frees_parts k5;refine⟨⟨hb,o1,by show r.makers.map _=[];rw[hm];rfl⟩,hw.witness,λ w=>⟨(left.behind hX hch w).1,λ s' hs'=>?_⟩⟩
 refine bw λ F Y=>?_;obtain⟨s₀,hf,hg0,s,hT,hz,hgens,hg,G00,y⟩:=(left.behind (XP:=λ mg h=>XP mg h/\RecFacts r.records h) (λ s hs=>⟨hX s hs,hRf s hs⟩) hch w).2 s' hs';have G0:Ground q loose [] XP w s (s.heap.nsMap Pj) (s.heap.nsMap Qh) s.heap:=⟨G00.T,G00.B,G00.D,G00.TE,G00.TD,G00.W,G00.X.1,G00.cls,G00.has,G00.apart,G00.once,G00.K⟩;have RF:=G00.X.2;have hT':=hT;refine Y ⟨s₀,hf,hg0,s,hT,pin w s hg G0,RF.1,RF.2.1,?_⟩;have hgens:s.gens=#[]:=SR (beq_iff_eq.mp hgens);have G:Ground q loose r.records XP w s _ _ s.heap:=RF.ground G0;refine wk (c:=r.claim) hz hgens λ args hpre hlay ord hord=>?_;refine bw λ F Y=>?_;obtain⟨⟨vs,s₁⟩,hlaid⟩:=Pe.mp (layAllW_isSome (P:=w.params) (ord:=ord) G.has args r.args s (pre_splitW hpre).1);have keeps:=layAllW_keeps _ _ _ hlaid;have hal:=layAllW_rest _ _ _ hlaid;obtain⟨as,hrd,hin,hold⟩:=reads_layAllW hord _ _ _ hlaid hlay s₁.heap (λ J J e=>e);have L:Laid r.records w s s₁ args vs as:=⟨⟨ord,hord,hlaid⟩,hrd,hin,hold,keeps,hal.1.trans hgens,hal.2.2.1⟩;have G₁:=G.keeps hXk keeps;obtain⟨f,hf,h⟩:=call w s s₁ _ _ G₁ (hYk _ _ _ (hY w s y) keeps) args vs as hpre hlay L G.low;have hi:=ident_freeW hu ha hap;have hwi:r.claim.within=[]:=O8.mp k6;exact Y ⟨vs,s₁,hlaid,ht vs w s₁ _ f _ _ G₁.T.g hf (bh h (λ v s' g=>⟨_,rfl,have z:=g.laid (c:=r.claim) hsame hwi hi L;⟨z.1,z.2.1,z.2.2,λ q=>⟨namesKept_of hT' hg kps keeps g.2.1.old,noTable hwr q⟩⟩⟩) λ e s' g=>have z:=g.laid (c:=r.claim) hsame hwi hi L;⟨z.1,z.2.1,z.2.2,λ q=>⟨namesKept_of hT' hg kps keeps g.2.1.old,noTable hwr q⟩⟩)⟩
abbrev WalkB(q:Program)(loose:List Str)(XP:(Str->Option Value)->Heap->Prop)(YP:World->Heap->Prop)(r:RowW)(d:DefRec)(kwd:List (Str×Expr))(run:Value->List Value->Sem Value):Prop:=
 ∀
  (w:World) (s₀ s₁:Shared) (mg mb:Str->Option Value),Ground q loose r.records XP w s₀ mg mb s₁.heap->YP w s₁.heap->∀ (a:Addr) (o:Obj) (pm cd doc dV kV:Value),s₁.heap.get? a=some o->
  o.data=.func { docDef d.name d.params d.body d.scope pm cd doc with defaults:=dV,kwdefaults:=kV }->s₁.heap.CodeRec cd d.name->Dflts mg s₁.heap d.params kwd dV kV->mg d.name=some (.ref a)->s₁.gens=#[]->
  ∀
   (args:List WData) (vals:List Value) (as:List Addr),r.claim.pre args=true->Uh args=true->ReadsAllW r.records (classAt s₀.heap) s₁.heap vals args as->WellAll w.params s₁.heap vals args->(∀ a∈as,(a==Rg)=false)->
   wpN (model r.prog w) callerA (run (.ref a) vals) (λ v s'=>GoodWG r.claim (classAt s₀.heap) (TK s₀.heap) args s₁ (.ok (.ret v)) s')
    (λ e s'=>GoodWG r.claim (classAt s₀.heap) (TK s₀.heap) args s₁ (.error e) s') s₁
end
end Internal
namespace Z
open PySem PySem.W PySem.Calls PyProof.Rows Internal
theorem holds_openN{r:OpenRow}{α:Type}{Yf:Shared->α}{Ya:World->α}{d:DefRec}{kwd:List (Str×Expr)}
 (left:LeftO r.prog q loose Xt Yf Ya N) (hY:∀ w s,Yf s=Ya w->YP w s.heap) (hYk:∀ w h h',YP w h->(∀ b o,h.get? b=some o->h'.get? b=some o)->YP w h')
 (hX:∀ s,Xt s=true->XP (s.heap.nsMap Pj) s.heap) (hXk:∀ mg h h',XP mg h->(∀ b o,h.get? b=some o->h'.get? b=some o)->XP mg h')
 (hdef:defOf q r.name=some (d,kwd)) (hp:r.prog.theDef r.name=some (d.params,d.body,d.scope)) (hk:kwWritten? d.params.kwonlyargs d.params.kw_defaults=some kwd) (hRf:∀ s,Xt s=true->RecFacts r.records s.heap) (hwr:(!r.writes||r.records.isEmpty)=true)
 (k1:r.wellSaid=true) (ok:(chainsOk q&&opensWell r.prog&&(frees r.toRowW&&r.within.isEmpty))=true) (hb:r.prog.bare) (hw:r.toRowW.promised)
 (call:WalkB q loose XP YP r.toRowW d kwd λ f vs=>UL f vs):r.Holds:=by
 refine⟨k1,hw,KB (r:=r.toRowW) (run:=λ f vs=>UL f vs) (tree:=λ vs=>do match <-nsGet mainNs r.name with
  | some f=>do ret (<-UL f vs)
  | none=>unsupported "claim.caller:no-such-global") left hY hYk hX hXk hRf hwr ok hb hw
  (λ vs w s mg f Q E hg hf h=>aI (wpAny_nsGet hg (by rw[hf];exact ba (bh h (λ J J x=>be x) λ J J x=>x))))
  (λ w s hg G n hn=>?_) λ w s₀ s₁ mg mb G Y args vs as hpre hlay L low=>?_⟩
 ·obtain rfl:n=r.name:=by split at hn<;>simp_all
  exact pinned_of_view hg G hdef hp hk
 ·obtain⟨a,o,pm,cd,doc,dV,kV,h1,h2,h3,h4,h5⟩:=G.fn hdef;exact⟨.ref a,h1,call w s₀ s₁ mg mb G Y a o pm cd doc dV kV h2 h3 h4 h5 (defOf_name hdef▸h1) L.gens args vs as hpre hlay L.reads L.well (L.low low)⟩
end Z
namespace Internal
section
universe u
open PySem PySem.W PySem.Calls PyProof.Rows
open PySem.Sem (wp)
variable {a:Addr} {args:Args} {Q:Flow->Shared->Prop} {fd:FuncData} {binds:List (Str×Value)} {body:List Stmt} {o:Obj}
section
variable {α β:Type} {M:Model} {A:Around} {E:VP} {s:Shared} {env:Env} {prog:Program} {w:World}
set_option tactic.hygienic true in
theorem fq{st rest}
 (h:wpN M A (exec st env) (λ f s'=>match f with | .next=>wpN M A (execs rest env) Q E s'|f=>Q f s') E s) :
 wpN M A (execs (st::rest) env) Q E s:=λ Γ p hΓ h1 h2=>by
 rw[execs_cons,Sem.wp_bind'];refine RK M Γ _ (λ f p' s' h'=>?_) (λ J J J h'=>h') _ _ (h Γ p hΓ h1 h2);cases f<;>first|exact h' Γ p' hΓ h1 h2|exact h'
theorem xc{st rest}
 (h:wpAny M A (exec st env) (λ f s'=>match f with | .next=>wpN M A (execs rest env) Q E s'|f=>Q f s') E s) :
 wpN M A (execs (st::rest) env) Q E s:=fq (cY h)
theorem cf{R:Qa->Shared->Prop}(hroom:A.depth<Sa)
 (ho:s.heap.get? a=some o)
 (hd':o.data=.func fd) (hco:fd.scope.isCoroutine=false) (hgen:fd.scope.isGenerator=false) (hbody:fd.body=.stmts body) (hcd:s.heap.CodeRec fd.code fd.qualname)
 (h:wpAny (model prog w) A.in1 (bindArgs fd args) (λ binds s₁=>
  wpAny (model prog w) A.in1 (newFunctionEnv fd.scope fd.globals fd.closure binds (fd.qualname++".<locals>.") (some a) fd.code none fd.builtins)
   (λ env s₂=>s₂.heap.NoLimit/\d7 (model prog w) A (.func body env) R s₂) (λ e s'=>R (.error e) s') s₁) (λ e s'=>R (.error e) s') s) :
 d7 (model prog w) A (.call (.ref a) args) R s:=by
 refine bH (cY ?_);show wpAny _ A.in1 (callAny (.ref a) args) _ _ s;simp only[callAny];refine Oz (QT ho ?_);obtain⟨c,oc,vs,tq,hc,hoc,hdc,hq⟩:=hcd;simp only[hd',callFunction,hco,hgen,hbody,hc];rw[hc] at h;refine Oz (m:=field (.ref c) 1) (PI hoc hdc hq (Oz (OD ?_)));exact Oz (OF h (λ binds s₁ h₁=>Oz (OF h₁ (λ env s₂ h₂=>Oz (wpAny_enterFrame h₂.1 hroom
  (OD (And.intro rfl ⟨rfl,h₂.2⟩)))) λ J J h'=>h')) λ J J h'=>h')
theorem xk{R:Qa->Shared->Prop}
 (hroom:A.depth<Sa) (ho:s.heap.get? a=some o) (hdata:o.data=.func fd) (hlim:s.heap.NoLimit) (hcd:s.heap.CodeRec fd.code fd.qualname)
 (hbody:fd.body=.stmts body) (hbind:BindsTo s fd args binds)
 (hcell:∀ x∈fd.scope.names,x.2≠.cell) (hloc:∀ x∈binds,fd.scope.names.lookup x.1=some .local)
 (h:∀ h₀,h₀.Ns s.heap.objs.size (λ x=>binds.reverse.lookup x)->(∀ b o,s.heap.get? b=some o->h₀.get? b=some o)->
  wpN (model prog w) (A.deeper (Tn fd s.heap.objs.size a)) (execs body (Tn fd s.heap.objs.size a)) (λ f s'=>R (.ok (.ret (match f with | .ret v=>v|_=>.none))) s')
   (λ e s'=>wpN (model prog w) (A.deeper (Tn fd s.heap.objs.size a)) (leaving (Tn fd s.heap.objs.size a) e) (λ J s''=>R (.error e) s'') (λ e' s''=>R (.error e') s'') s')
   { s with heap:=h₀,toks:=s.toks+binds.length })
 (hco:fd.scope.isCoroutine=false:=by rfl) (hgen:fd.scope.isGenerator=false:=by rfl) (hk:fd.scope.kind=.function:=by rfl) :
 d7 (model prog w) A (.call (.ref a) args) R s:=by
 refine cf hroom ho hdata hco hgen hbody hcd (hbind _ _ _ _ ?_);refine wpAny_newFunctionEnv hcell hloc (λ h₀ hns₀ hsb₀=>⟨hlim.fresh _ hsb₀,hH (h h₀ hns₀ λ b o e=>?_)⟩) hk;exact hsb₀.extBut b o (OX (Pq e)) (OO _ e)
theorem sC{R:Qa->Shared->Prop}{vals:List Value}
 (hroom:A.depth<Sa) (ho:s.heap.get? a=some o) (hdata:o.data=.func fd) (hlim:s.heap.NoLimit) (hcd:s.heap.CodeRec fd.code fd.qualname)
 (hbody:fd.body=.stmts body) (hbind:bindArgs fd ⟨vals,[]⟩=pure binds) (hclo:fd.closure=[])
 (hkind:∀ x∈binds,fd.scope.names.lookup x.1=some .local\/(fd.scope.names.lookup x.1=some .cell/\((QD (s.heap.objs.size+1) fd.scope.names []).lookup x.1).isSome=true))
 (h:∀ s₁,InCallC s (Pr fd s.heap.objs.size a).locals (bindL (Pr fd s.heap.objs.size a).kindOf binds λ J=>none) (Pr fd s.heap.objs.size a).cells
  (bindC (Pr fd s.heap.objs.size a).kindOf binds λ J=>none) s₁->
  wpN (model prog w) (A.deeper (Pr fd s.heap.objs.size a)) (execs body (Pr fd s.heap.objs.size a)) (λ f s'=>R (.ok (.ret (match f with | .ret v=>v|_=>.none))) s')
   (λ e s'=>wpN (model prog w) (A.deeper (Pr fd s.heap.objs.size a)) (leaving (Pr fd s.heap.objs.size a) e) (λ J s''=>R (.error e) s'') (λ e' s''=>R (.error e') s'') s') s₁)
 (hco:fd.scope.isCoroutine=false:=by rfl) (hgen:fd.scope.isGenerator=false:=by rfl) (hk:fd.scope.kind=.function:=by rfl) :
 d7 (model prog w) A (.call (.ref a) ⟨vals,[]⟩) R s:=by
 refine cf hroom ho hdata hco hgen hbody hcd ?_;rw[hbind,hclo];refine OD (RE hk hkind λ env he s' x=>?_);subst he;exact⟨hlim.keeps x.toInCall.keep,hH (h s' x)⟩
theorem sS{Q:List Value->Shared->Prop}(h:Q [] s):wpN M A (evalAll []) Q E s:=be h
theorem sr{x:Sem Value}{rest:List (Sem Value)}{Q:List Value->Shared->Prop}
 (h:wpN M A x (λ v s₁=>wpN M A (evalAll rest) (λ vs s₂=>Q (v::vs) s₂) E s₁) E s):wpN M A (evalAll (x::rest)) Q E s:=by
 rw[evalAll];exact ba (bh h (λ v s₁ h₁=>ba (bx (bh h₁ (λ vs s₂ h₂=>be h₂) λ J J x=>x))) λ J J x=>x)
end
end
section
universe u
open PySem PySem.W PySem.Calls PyProof.Rows
open PySem.Sem (wp)
variable {c:Bool}
theorem AG:mroOf (.type "bytearray")=pure [.type "bytearray",.type "object"]:=by rw[mroOf_type];kernel_rfl
theorem lm:QU (.type "bytearray") "__new__"=pure (some (.builtin "bytearray.__new__")):=by rw[PO,Pg];kernel_rfl
theorem mz:Slot "bytearray" "__init__" "bytearray.__init__":=
 .of (owner:="bytearray") (n:="__init__") (by rw[PO,Pg];kernel_rfl) (by decide +kernel) (by decide +kernel) (by decide +kernel)
  (by first|exact .inl (by decide +kernel)|exact .inr (by decide +kernel)) (by rw[P1];kernel_rfl)
theorem na_called:TypeCalled "bytearray" "bytearray.__new__" "bytearray.__init__":=
 ⟨by decide +kernel,by decide +kernel,⟨_,_,AG⟩,madeBy_type AG lm (by decide +kernel),by decide +kernel,by rw[P1];kernel_rfl,mz⟩
theorem n8(a:Value):checkTypeCall "bytearray" ⟨[a],[]⟩=pure ():=by kernel_rfl
theorem rC(a:Value):Qe "bytearray.__new__" ⟨[.type "bytearray",a],[]⟩=pure ():=by kernel_rfl
theorem mA:RD table "bytearray.__new__"=some P6.«list.__new__»:=entryFor_alias (id':="list.__new__") (by kernel_rfl) (by decide +kernel) (by decide +kernel) (by kernel_rfl)
theorem io:plainId "bytearray.__new__"=true:=by decide +kernel
theorem lp:RD table "bytearray.__init__"=some P6.«bytearray.__init__»:=SB (by kernel_rfl)
theorem CT(v:Value):Builtin.Bytes.bindOptional "bytearray.__init__" "bytearray" ["source","encoding","errors"] [v] []=pure [some v,none,none]:=by kernel_rfl
set_option maxRecDepth 1000000 in
set_option maxHeartbeats 4000000 in
theorem yz:("bytearray.__new__".splitOn ".__new__").headD ""="bytearray":=by simp +decide [String.splitOn,String.splitOnAux]
theorem AE:Tu (.type "bytearray") (.type "bytearray")=pure true:=by rw[P1];kernel_rfl
section
variable {α β:Type} {M:Model} {A:Around} {E:VP} {s:Shared} {env:Env} {prog:Program} {w:World}
theorem GQ(a:Value){Q₁:VP}(h:Q₁ (.ref s.heap.objs.size) { s with heap:=s.heap.push { cls:=.type "bytearray",data:=.bytearray #[] 0 } }) :
 Pd (model prog w) A (.call (.builtin "bytearray.__new__") ⟨[.type "bytearray",a],[]⟩) (wants Q₁ E) s:=by
 refine codeAny_of_tree ?_;show wpAny _ A.in1 (do Qe "bytearray.__new__" ⟨[.type "bytearray",a],[]⟩;again (.builtin "bytearray.__new__" ⟨[.type "bytearray",a],[]⟩)) _ _ s
 refine Oz (Pi (rC a) (OD ⟨plainId_quiet io _,codeAny_builtin_stack mA rfl λ p st=>?_⟩));rw[SV io _];have hsub:=AE;have hown:=yz;obtain⟨hp,g,d,tk,os⟩:=s;simp only[hown]
 wp_walk
 exact h
theorem bj{α:Type}{a b:Sem α}{Q:α->Shared->Prop}(hc:c=false)(h:wpN M A b Q E s):wpN M A (if c=true then a else b) Q E s:=by
 subst hc;exact h
theorem Bx{α:Type}{a b:Sem α}{Q:α->Shared->Prop}(hc:c=true)(h:wpN M A a Q E s):wpN M A (if c=true then a else b) Q E s:=by
 subst hc;exact h
theorem AF(a:Args):fZ (.builtin "type.__call__" a)=true:=by show(!(PM.contains "type.__call__"))=true;decide +kernel
theorem GP(a:Args):fZ (.builtin "bytearray.__init__" a)=true:=by show(!(PM.contains "bytearray.__init__"))=true;decide +kernel
theorem CU(a b:Value):Tc "bytearray.__init__" ⟨[a,b],[]⟩:=by unfold Tc;kernel_rfl
structure Src(prog:Program)(w:World)(s:Shared)(src:Value)(b:Array UInt8):Prop where
 str:∀ (A:Around) (E:VP) (Q:Option Str->Shared->Prop),Q none s->wpAny (model prog w) A (asStr? src) Q E s
 idx:∀ (A:Around) (E:VP) (Q:Option Value->Shared->Prop),Q none s->wpAny (model prog w) A (specialOf src "__index__") Q E s
 buf:∀ (A:Around) (E:VP) (Q:Option (Array UInt8)->Shared->Prop),Q (some b) s->wpAny (model prog w) A (Qr "bytearray.__init__" src true) Q E s
theorem CR{S:Addr}{src:Value}{b:Array UInt8}{Q:Fin->Shared->Prop}(hz:b.size<=P8)(hg:A.guards=some [])(hS:s.heap.get? S=some { cls:=.type "bytearray",data:=.bytearray #[] 0 })
 (hsrc:Src prog w { s with heap:=s.heap.update S (Ui λ J=>#[]) } src b)
 (h:∀ h',h'.get? S=some { cls:=.type "bytearray",data:=.bytearray b 0 }->(∀ c o,c≠S->s.heap.get? c=some o->h'.get? c=some o)->Q (.done (.ret .none)) { s with heap:=h' }) :
 wpN (model prog w) A (P6.«bytearray.__init__» ⟨[.ref S,src],[]⟩) Q E s:=by
 have hT:s.TypeIs (.ref S) "bytearray":=⟨_,hS,rfl⟩;unfold P6.«bytearray.__init__»;refine aI ?_;unfold QZ;refine Oz (cI hT hZ (by decide +kernel) (by decide +kernel) (OD ?_))
 refine bj rfl ?_;refine aI (Pi (CT _) ?_);refine aI (Pi (a:=()) rfl ?_);refine aI (Pi (a:=()) rfl ?_);refine ba ?_;show wpN _ _ (Sv (.ref S) >>= _) _ _ _;refine ba (mv hg ?_);refine cY ?_;show wpAny _ _ (Builtin.Bytes.exportsOf (.ref S) >>= _) _ _ _;refine Oz ?_;show wpAny _ _ (load S >>= _) _ _ _;refine Oz (QT hS (OD (OD ?_)));refine bj rfl (cY ?_);have w1:∀ {s:Shared} {c b:Array UInt8} {Q:Unit->Shared->Prop},s.heap.get? S=some { cls:=.type "bytearray",data:=.bytearray c 0 }->b.size<=P8->Q () { s with heap:=s.heap.update S (Ui λ J=>b) }->wpAny (model prog w) A (UP (.ref S) λ J=>b) Q E s:=λ {s c b Q} hS hz q=>by
  unfold UP updateBytearray;refine Oz (QT hS ?_);dsimp only;refine Oz (wpAny_update hS ?_);exact wpAny_lookBehind (PG _ hS rfl) (if_neg (PQ.mpr hz)) q
 refine Oz (w1 hS (Pk _) ?_);have hS1:=PG (Ui λ J=>#[]) hS rfl;dsimp only;refine Oz (hsrc.str _ _ _ ?_);refine P3 rfl ?_;refine Oz (OD ?_);refine Oz (hsrc.idx _ _ _ ?_);refine P3 rfl ?_;refine Oz (hsrc.buf _ _ _ ?_);dsimp only;refine Oz (Sc ?_);refine Oz (w1 hS1 hz ?_);refine OD (h _ (PG _ hS1 rfl) λ c o hc e=>?_);rw[P0 _ _ (Sf hc),P0 _ _ (Sf hc)];exact e
theorem tP(b:Array UInt8)(t:Tok):Src prog w s (.bytes b t) b:=by
 refine⟨λ A E Q q=>Oz (Pi (a:=()) rfl (OD q)),λ A E Q q=>Q5 (T:="bytes") rfl (by rw[PO,Pg];kernel_rfl) q,λ A E Q q=>?_⟩
 have l1:QU (.type "bytes") "__buffer__"=pure (some (.builtin "bytes.__buffer__")):=by rw[PO,Pg];kernel_rfl
 have l2:QU (.type "bytes") "__release_buffer__"=pure none:=by rw[PO,Pg];kernel_rfl
 unfold Qr;refine Oz (Q5 (T:="bytes") rfl l1 ?_);refine Oz ?_;unfold Q9;refine Oz (Q5 (T:="bytes") rfl l1 ?_);refine P3 (by decide +kernel) ?_
 refine wpAny_isInstance_val (T:="bytes") (U:=("bytes.__buffer__".dropRight ("__buffer__".length+1))) (b:=true) rfl (by rw[show("bytes.__buffer__".dropRight ("__buffer__".length+1))="bytes" by decide +kernel];exact F.bm_sub) ?_
 refine P3 rfl ?_;refine Oz (Q5 (T:="bytes") rfl l1 ?_);refine Oz ?_;unfold QZ Q9;refine Oz (Oz (Q5 (T:="bytes") rfl l2 (OD (OD ?_))));refine P3 rfl ?_;refine Oz ?_;unfold QN Rk;refine Oz (OD (OD (OD q)))
theorem BY{l:Addr}{o:Obj}{b:Array UInt8}{n:Nat}(ho:s.heap.get? l=some o)(hc:o.cls=.type "bytearray")(hd:o.data=.bytearray b n):Src prog w s (.ref l) b:=by
 have hT:s.TypeIs (.ref l) "bytearray":=⟨o,ho,hc⟩;refine⟨λ A E Q q=>?_,λ A E Q q=>PX hT jy q,λ A E Q q=>?_⟩
 ·show wpAny _ _ (load l >>= _) _ _ _;refine Oz (QT ho ?_);rw[hd];exact OD q
 ·unfold Qr;refine Oz (PX hT dO ?_);refine Oz (cI hT dO (by decide +kernel) (by decide +kernel) ?_)
  refine P3 rfl ?_;refine Oz (PX hT dO ?_);refine Oz ?_;unfold QZ;refine Oz (cI hT hZ (by decide +kernel) (by decide +kernel) (OD ?_))
  refine P3 rfl ?_;refine Oz ?_;unfold QN Rk;refine Oz (Oz (QT ho ?_));rw[hd];exact OD (OD (OD q))
theorem uI{src:Value}{b:Array UInt8}{Q:VP}(hz:b.size<=P8)(hg:A.guards=some [])(hsrc:∀ h',(∀ c o,s.heap.get? c=some o->h'.get? c=some o)->Src prog w { s with heap:=h' } src b)
 (h:∀ h',h'.get? s.heap.objs.size=some { cls:=.type "bytearray",data:=.bytearray b 0 }->(∀ c o,s.heap.get? c=some o->h'.get? c=some o)->Q (.ref s.heap.objs.size) { s with heap:=h' }) :
 wpN (model prog w) A (call (.type "bytearray") [src]) Q E s:=by
 obtain⟨c,tl,hmro⟩:=na_called.mro;have hmade:=na_called.made;have hsub:=na_called.sub;refine fg (bH ?_);show wpN _ _ (callAny (.type "bytearray") _) _ _ _;refine be ⟨R1 _ (by decide +kernel),AF _,d6 F.entry_type_call ?_⟩
 rw[Around.under_plain (weight_type_call_type "bytearray" [src] []) rfl];unfold P6.«type.__call__»;dsimp only;refine bj na_called.notType ?_;refine bj na_called.canCreate ?_;refine aI (Pi (n8 src) ?_);refine aI (Pi hmro ?_);refine bj rfl ?_;refine aI (Pi hmade ?_);dsimp only;refine aI (OD ?_);refine aI (OQ (Rz (PD (GQ (E:=λ J J=>False) src (Q₁:=λ v s'=>v=.ref s.heap.objs.size/\s'={ s with heap:=s.heap.push { cls:=.type "bytearray",data:=.bytearray #[] 0 } }) ⟨rfl,rfl⟩) λ r s' z=>?_)))
 rcases r with e|f
 ·exact z.elim
 cases f<;>first|exact z.elim|skip
 obtain⟨rfl,rfl⟩:=z;have hS:(s.heap.push { cls:=.type "bytearray",data:=.bytearray #[] 0 }).get? s.heap.objs.size=some { cls:=.type "bytearray",data:=.bytearray #[] 0 }:=Ph _ rfl;have hT:Shared.TypeIs { s with heap:=s.heap.push { cls:=.type "bytearray",data:=.bytearray #[] 0 } } (.ref s.heap.objs.size) "bytearray":=⟨_,hS,rfl⟩
 refine aI (Qd hT AE ?_);refine bj rfl ?_;refine ba (bx ?_);unfold callSpecial?;refine aI (PX hT na_called.init.lookup ?_);dsimp only;refine bx ?_;refine aI (Pi (na_called.init.bind _) ?_);dsimp only;refine ba (fg (bH ?_));show wpN _ _ (do Qe "bytearray.__init__" ⟨[.ref s.heap.objs.size,src],[]⟩;again (.builtin "bytearray.__init__" ⟨[.ref s.heap.objs.size,src],[]⟩)) _ _ _
 refine aI (na_called.init.check _ _ _ _ _ _ _ _ hT (CU _ _) (be ⟨plainId_quiet na_called.init.plain _,GP _,d6 lp ?_⟩));rw[SV na_called.init.plain _];refine CR hz hg hS (hsrc _ λ c o e=>?_) λ h' h1 h2=>?_
 ·rw[P0 _ _ (Sf (OX (Pq e)))];exact OO _ e
 ·refine be ?_;dsimp only;refine bj rfl (be ?_);exact h h' h1 λ c o e=>h2 c o (OX (Pq e)) (OO _ e)
end
end
section
universe u
open PySem PySem.W PySem.Calls PyProof.Rows
variable {fs:List (Sg->R)} {es:List Expr} {M:Model} {f:Value}
section
variable {X:Cx} {cfg:Cfg} {glb:List (Nat×AV)} {ih:Run} {c:FC} {k:CC} {n:Nat} {env:Env} {pos:Pos} {σ:Sg} {Φ:Out×Sg->Prop} {V:Va} {s:Shared} {A:Around} {K:Frag}
theorem xx{α:Type}{vs:List Value}{m:Sem α}{Q:α->Shared->Prop}{E:VP}(h:wpN M A m Q E s):wpN M A (m.keep vs) Q E s:=
 λ Γ p hΓ h1 h2=>by rw[Sem.wp_keep];exact h Γ p hΓ h1 h2
theorem tW{α:Type}{m:Sem Value}{f:Value->Sem α}{kont:AV->Sg->R}{Q:α->Shared->Prop}
 (h:wpN M A m (PV X V σ λ r=>(ul kont r).Sat Φ) (PE X V σ λ r=>(ul kont r).Sat Φ) s)
 (hf:∀ V' σ' av v s',V.Le V'->Keep σ σ'->St X V' σ' s'->DenV V' av v->(kont av σ').Sat Φ->wpN M A (f v) Q (PE X V' σ' Φ) s') :
 wpN M A (m >>= f) Q (PE X V σ Φ) s:=
 ba (bh h (λ v s' ⟨V',σ',av,a,b,c,d,e⟩=>bh (hf V' σ' av v s' a b c d e) (λ J J q=>q) λ J J=>PE.trans a b) λ J J ⟨V',σ',i,x,c,d,a,b,r1,r2,r3,r4,r5⟩=>⟨V',σ',i,x,c,d,a,b,r1,r2,r3,r4,r5⟩)
def EN(X:Cx)(A:Around)(c:FC)(k:CC)(env:Env)(e:Expr)(f:Sg->R):Prop:=∀ {σ:Sg} {Φ:Out×Sg->Prop} {V:Va} {s:Shared},
 EnvOK A V c k env->AOK X V σ A c.dep 0->St X V σ s->(f σ).Sat Φ->wpN (Mo X) A (eval e env) (PV X V σ Φ) (PE X V σ Φ) s
theorem EN.plain{r:Run}(hE:SE X glb r){e:Expr}{x:E}(he:cE k n e=some x)(hk:k.glb=glb):EN X A c k env e (λ σ=>r (.e c x) σ):=λ hv hA H h=>cY (hE he hk hv hA H h)
noncomputable def zi:List (Sg->R)->Sg->(List AV->Sg->R)->R
 | [],g,k=>k [] g
 | f::r,g,k=>onV (f g) λ v g=>zi r g λ vs g=>k (v::vs) g
inductive ENs(X:Cx)(A:Around)(c:FC)(k:CC)(env:Env):List Expr->List (Sg->R)->Prop
 | nil:ENs X A c k env [] []
 | cons {e:Expr} {f:Sg->R} {es:List Expr} {fs:List (Sg->R)}:((∃ n x,cE k n e=some x)/\EN X A c k env e f)->ENs X A c k env es fs->ENs X A c k env (e::es) (f::fs)
theorem oV:∀ {es:List Expr} {fs:List (Sg->R)} {σ:Sg} {V:Va} {s:Shared} {kont:List AV->Sg->R},ENs X A c k env es fs->EnvOK A V c k env->AOK X V σ A c.dep 0->St X V σ s->
 (zi fs σ kont).Sat Φ->wpN (Mo X) A (spliced (RJ pos (Qk es env))) (PL X V σ λ l g=>(kont l g).Sat Φ) (PE X V σ Φ) s
 | _,_,σ,V,s,kont,.nil,_,_,H,h=>be ⟨V,σ,[],.rfl,.rfl,H,.nil,h⟩
 |
  _,_,σ,V,s,kont,.cons (e:=e) (es:=es) ⟨⟨n,x,hc⟩,he⟩ hr,hv,hA,H,h=>by
  rw[bV hc];show wpN _ _ (eval e env >>= λ v=>_) _ _ _;refine tW (he hv hA H (aG h)) λ V' σ' av v s' l1 l2 H' dv h'=>?_;refine ba (m:=pure [v]) (be ?_);refine ba (bx (bh (oV hr (hv.mono l1) (hA.mono l1 l2) H' h') (λ vs s'' q=>?_) λ J J q=>q));obtain⟨V₂,σ₂,avs,a,b,c',d,e'⟩:=q;exact be ⟨V₂,σ₂,av::avs,l1.trans a,l2.trans b,c',.cons (dv.mono a) d,e'⟩
theorem ENs.all(h:ENs X A c k env es fs):∀ e∈es,∃ n x,cE k n e=some x:=by
 induction h with
 | nil=>intro e he;cases he
 | cons a _ ih=>
  intro e he;rcases Po.mp he with rfl|he
  ·exact a.1
  ·exact ih e he
theorem zY{Q:List Value->Shared->Prop}{E:VP}(hf:∀ e∈es,∃ n x,cE k n e=some x)(h:wpN (Mo X) A (spliced (RJ pos (Qk es env))) Q E s) :
 wpN (Mo X) A (evalArgs f true (RJ pos (Qk es env)) []) (λ a s'=>∃ vs,a=⟨vs,[]⟩/\Q vs s') E s:=by
 cases es with
 |
  nil=>
  unfold evalArgs;show wpN (Mo X) A (spliced [] >>= _) _ E s;exact ba (bh h (λ vs s' q=>bx (ba (be (ba (be (be ⟨vs,rfl,q⟩)))))) λ J J q=>q)
 |
  cons e r=>
  obtain⟨n,x,hx⟩:=hf e (OZ ..);rw[bV hx] at h ⊢;unfold evalArgs;show wpN (Mo X) A (spliced ((false,eval e env)::_) >>= _) _ E s;exact ba (bh h (λ vs s' q=>bx (ba (be (ba (be (be ⟨vs,rfl,q⟩)))))) λ J J q=>q)
theorem CK(hf:∀ e∈es,∃ n x,cE k n e=some x):(RJ pos (Qk es env)).any (·.1)=false:=by
 induction es with
 | nil=>rfl
 |
  cons e r ih=>
  obtain⟨n,x,hx⟩:=hf e (OZ ..);rw[bV hx];show(false||(RJ pos (Qk r env)).any (·.1))=false
  rw[ih λ e he=>hf e (OY _ he)];rfl
theorem nt{P:Heap->Prop}{first:List Value}{args:List (Bool×Sem Value)}{keywords:List (Option Str×Sem Value)}{Q:VP}{E:VP}(hplain:(args.any (·.1)||keywords.any (·.1.isNone))=false)
 (hk:∀ h,P h->∃ k,(k=Keeper.frame\/k=Keeper.machine\/k=Keeper.boundFrame)/\Looks M h (Q3 f) k)
 (h:wpN M A (evalArgs f true args keywords) (λ a s₁=>P s₁.heap/\wpN M A (call f (first++a.pos) a.kw) Q E s₁) E s):wpN M A (Ut pos f first args keywords) Q E s:=by
 unfold Ut;refine ba (bx (bh h (λ a s₁ h₁=>aI (OS ?_)) λ J J x=>x));obtain⟨k,hk',L⟩:=hk _ h₁.1;simp only[hplain];refine aI (L.here ?_);have tail:∀ {t:Sem Value},wpN M A t Q E s₁->wpN M A (t >>= λ r=>Rr [r] point >>= λ J=>pure r) Q E s₁:=
  λ ht=>ba (bh ht (λ r s₂ hr=>ba (bx (cY (wpAny_point (be hr))))) λ J J x=>x)
 have marked (mk:Value):wpN M A (callMarked mk f (first++a.pos) a.kw) Q E s₁:=by unfold callMarked;exact xx h₁.2
 rcases hk' with rfl|rfl|rfl<;>dsimp only<;>first|exact tail h₁.2|(split<;>first|exact tail h₁.2|exact tail (marked _))
theorem EN.call{f:Expr}{ff:Sg->R}{kc:AV->List AV->Sg->R}(hn:∃ id p,f=.Name id p)(hf:EN X A c k env f ff)(he:ENs X A c k env es fs)
 (hc:∀ {V:Va} {σ:Sg} {s:Shared} {Φ:Out×Sg->Prop} {fv:AV} {vf:Value} {avs:List AV} {vs:List Value},AOK X V σ A c.dep 0->St X V σ s->DenV V fv vf->All2 (DenV V) avs vs->(kc fv avs σ).Sat Φ->
  (∃ kp,(kp=Keeper.frame\/kp=Keeper.machine\/kp=Keeper.boundFrame)/\Looks (Mo X) s.heap (Q3 vf) kp)/\wpN (Mo X) A (call vf vs) (PV X V σ Φ) (PE X V σ Φ) s) :
 EN X A c k env (.Call f es [] pos) (λ σ=>onV (ff σ) λ fv g=>zi fs g λ avs g=>kc fv avs g):=by
 obtain⟨id,p,rfl⟩:=hn;intro σ Φ V s hv hA H h;rw[arm_eval_Call_Name'];refine tW (hf hv hA H (aG h)) λ V1 σ1 av va s1 l1 k1 H1 d1 h1=>?_;refine bh (Q:=PV X V1 σ1 Φ) (E:=PE X V1 σ1 Φ) ?_ (λ J J q=>q.trans l1 k1) λ J J q=>q;refine nt (first:=[]) (P:=λ h=>∃ kp,(kp=Keeper.frame\/kp=Keeper.machine\/kp=Keeper.boundFrame)/\Looks (Mo X) h (Q3 va) kp) (by rw[CK he.all];rfl) (λ J q=>q) ?_
 refine bh (zY he.all (oV he (hv.mono l1) (hA.mono l1 k1) H1 h1)) (λ a s' q=>?_) λ J J q=>q;obtain⟨vs,rfl,V',σ',avs,l2,k2,H',d,h'⟩:=q;obtain⟨x,y⟩:=hc ((hA.mono l1 k1).mono l2 k2) H' (d1.mono l2) d h';exact⟨x,bh y (λ J J q=>q.trans l2 k2) λ J J q=>q.trans l2 k2⟩
theorem EN.tup{cx:Nat}(he:ENs X A c k env es fs):EN X A c k env (.Tuple es cx pos) (λ σ=>zi fs σ λ vs g=>fj g (.tup vs)):=by
 intro σ Φ V s hv hA H h;rw[arm_eval_Tuple];refine aI (OS (ba (bh (oV he hv hA H h) (λ vs s1 q=>cY ?_) λ J J q=>q)));obtain⟨V1,σ1,avs,l1,k1,H1,d1,h1⟩:=q;have hf:sz avs=true:=(cl h1).1;exact wpAny_newTuple ((eQ (o:=.tup avs) (ob:={ cls:=.type "tuple",data:=.seq vs.toArray }) H1 ⟨vs.toArray,_,rfl,by simpa using d1.mono λ J J d=>d.mono (V1.le_push _)⟩ rfl (by intros;nofun) h1).trans l1 k1) (d1.fits hf)
noncomputable def IU(g:Sg)(x:AV):Bool:=match qX x with
 | some b=>P5 b.length 1000
 |
  none=>match (g.get x).bind pV with
  | some b=>P5 b.length 1000
  | none=>false
theorem wI{x:AV}{vx:Value}{E:VP}{d m:Nat}(hA:AOK X V σ A d m)(H:St X V σ s)(dx:DenV V x vx)(hz:IU σ x=true)(h:(zR σ x).Sat Φ) :
 wpN (Mo X) A (call (.type "bytearray") [vx]) (PV X V σ Φ) E s:=by
 have fin:∀ {b:List Nat} {bs:Array UInt8},bs.toList.map (·.toNat)=b->(fj σ (.bar b)).Sat Φ->∀ h':Heap,h'.get? s.heap.objs.size=some { cls:=.type "bytearray",data:=.bytearray bs 0 }->(∀ c o,s.heap.get? c=some o->h'.get? c=some o)->PV X V σ Φ (.ref s.heap.objs.size) { s with heap:=h' }:=λ {b bs} hb hs h' g1 g2=>
  (bk (cl hs).2).elim λ hb1 hs=>⟨_,_,.own σ.n,V.le_push _,cq H hb1,H.new (o:=.bar b) (t:=s.toks) (OU (Pq g1)) g2 (OR _) g1 nofun ⟨bs,rfl,hb⟩ hb1,.own (cb H),hs⟩
 have hle:∀ {b:List Nat} {bs:Array UInt8},bs.toList.map (·.toNat)=b->P5 b.length 1000=true->bs.size<=P8:=λ {b bs} hb hl=>
  ce (OH.symm.trans ((Pa _).symm.trans (congrArg Sw hb))▸OI (OE hl) (by decide))
 have hz:(match qX x with
  | some b=>P5 b.length 1000
  |
   none=>match (σ.get x).bind pV with
   | some b=>P5 b.length 1000
   | none=>false)=true:=hz
 have h:(match qX x with
  | some b=>fj σ (.bar b)
  | none=>on ((σ.get x).bind pV) λ b=>fj σ (.bar b)).Sat Φ:=h
 rcases e:qX x with _|b
 ·rw[e] at h hz;refine bn h λ b e2 h=>?_;rw[e2] at hz;obtain⟨f,l,ob,rfl,g,bs,rfl,hbs⟩:=aJ H (vw kb e2) nofun dx
  exact uI (hle hbs hz) hA.guards (λ h' k=>BY (k _ _ g) rfl rfl) (fin hbs h)
 ·rw[e] at h hz;obtain⟨bb,t,rfl,e⟩:=wz e dx;exact uI (hle e hz) hA.guards (λ h' J=>tP _ t) (fin e h)
end
end
section
universe u
open PySem PySem.W PySem.Calls PyProof.Rows
variable {b:List Stmt} {p:Pos} {f:Sg->R} {st:Stmt}
section
variable {prog:Program} {w:World} {A:Around} {C:Addr} {R:Qa->Shared->Prop} {h:Heap} {g:Array GenState} {d:Drawn} {t:Nat} {os:OsState}
theorem rE{rest:List Value}{kw:List (Str×Value)}{init:Value}(Y:Makes (model prog w) h C)(hi:Looks (model prog w) h (QU (.ref C) "__init__") (some init))
 (hb:∀ self,Looks (model prog w) h (bindSpecial init self) (init,[self])) (hne:(some init != some (Value.builtin "object.__init__"))=true\/(rest=[]/\kw=[]))
 (hq:d7 (model prog w) (A.under (.builtin "type.__call__" ⟨.ref C::rest,kw⟩)) (.call init ⟨.ref (h.objs.size+1)::rest,kw⟩) (InitBack (h.objs.size+1) R) ⟨(h.push Tw).push (instObj C h.objs.size),g,d,t,os⟩) :
 d7 (model prog w) A (.call (.ref C) ⟨rest,kw⟩) R ⟨h,g,d,t,os⟩:=by
 have Y':=Y;obtain⟨⟨oc,od,cd,sl,hC,e1,e2,e4⟩,made,base,self,top,call,typ⟩:=Y;refine bH ?_;show wpN _ _ (PySem.load C >>= _) _ _ _;refine aI (QT hC ?_);show wpN _ _ (Sk (.ref C) _) _ _ _;unfold Sk;refine aI (call.at ?_);dsimp only;rw[tc_bind];refine aI (OD (aI (OD ?_)));refine be (a:=Fin.again (.call (.builtin "type.__call__") ⟨.ref C::rest,kw⟩)) ⟨rfl,rfl,bH ?_⟩;show wpN _ _ (do Qe "type.__call__" ⟨.ref C::rest,kw⟩;again (.builtin "type.__call__" ⟨.ref C::rest,kw⟩)) _ _ _
 refine aI (check_slot tc_kind tc_split typ (tc_args _ _ _) (be ⟨R1 _ (by decide +kernel),AF _,d6 entry_typeCall ?_⟩))
 unfold P6.«type.__call__»;dsimp only;have hm:Looks (model prog w) h (mroOf (.ref C)) cd.mro:=((Tm (part:=none) hC).andThen .now).andThen .now;refine bj rfl ?_;refine aI (hm.at ?_);refine bj e4 ?_;refine aI (made.at ?_);dsimp only;refine aI (OD ?_);refine aI (OQ (Rz (new_K Y' hi hne ?_)));have k:∀ b o,h.get? b=some o->((h.push Tw).push (instObj C h.objs.size)).get? b=some o:=λ b o e=>OO _ (OO _ e);have hx:((h.push Tw).push (instObj C h.objs.size)).get? (h.objs.size+1)=some (instObj C h.objs.size):=by heap_get
 have t1:Looks (model prog w) ((h.push Tw).push (instObj C h.objs.size)) (typeOf (.ref (h.objs.size+1))) (.ref C):=(Tm hx).andThen .now;have s1:=self.keeps k;have i1:=hi.keeps k;have b1:=(hb (.ref (h.objs.size+1))).keeps k;unfold QI;refine aI (t1.at ?_ |> Oz)
 refine s1.at ?_;refine bj rfl ?_;refine ba (bx ?_);unfold callSpecial? specialOf;refine aI (Oz (t1.at (i1.at ?_)));dsimp only;refine bx ?_;refine aI (b1.at ?_);dsimp only;refine ba (fg (cX hq λ r s' z=>?_));rcases r with e|(v|_|_|_)<;>first|exact z|exact z.elim|skip
 obtain⟨rfl,z⟩:=z;refine be ?_;dsimp only;exact bj rfl (be z)
end
section
variable {X:Cx} {cfg:Cfg} {glb:List (Nat×AV)} {ih:Run} {c:FC} {k:CC} {n:Nat} {env:Env} {pos:Pos} {σ:Sg} {Φ:Out×Sg->Prop} {V:Va} {s:Shared} {A:Around} {K:Frag}
theorem tR(T:TopC X K cfg glb)(c115:w8 cfg)(N:Nat):HypS X cfg glb (run cfg N):=by
 have P:=pL T.T;have hP:∀ m,m<N->Prim X cfg glb (run cfg m):=λ m J=>kY T.T c115;have S:=λ m=>nS T c115 m;have Y:Hyp X cfg glb (run cfg N):=⟨(S N).E,(S N).T,(S N).C,wh P (λ m hm=>(S m).E) (λ m hm=>(S m).T) hP,kY T.T c115⟩;exact⟨Y,(S N).S,P,qE P (λ m hm=>(S m).E) (λ m hm=>(S m).T) hP,uS P λ m hm=>(S m).S⟩
def TN(X:Cx)(A:Around)(c:FC)(k:CC)(env:Env)(st:Stmt)(f:Sg->R):Prop:=∀ {σ:Sg} {Φ:Out×Sg->Prop} {V:Va} {s:Shared},
 EnvOK A V c k env->AOK X V σ A c.dep 0->St X V σ s->(f σ).Sat Φ->wpN (Mo X) A (exec st env) (PF X V σ Φ) (PE X V σ Φ) s
def SN(X:Cx)(A:Around)(c:FC)(k:CC)(env:Env)(b:List Stmt)(f:Sg->R):Prop:=∀ {σ:Sg} {Φ:Out×Sg->Prop} {V:Va} {s:Shared},
 EnvOK A V c k env->AOK X V σ A c.dep 0->St X V σ s->(f σ).Sat Φ->wpN (Mo X) A (execs b env) (PF X V σ Φ) (PE X V σ Φ) s
noncomputable def B8(f1 f2:Sg->R)(σ:Sg):R:=(f1 σ).bind λ r=>match r.1 with
 | .nx=>f2 r.2
 | _=>.leaf r
theorem TN.plain(Z:HypS X cfg glb ih){x:S}(he:cS k n st=some x)(hk:k.glb=glb):TN X A c k env st (λ σ=>dT cfg ih c x σ):=λ hv hA H h=>cY (pE Z hk hv hA H he h)
theorem SN.plain{r:Run}(hS:SS X glb r){x:List S}(he:bc (cS k n) b=some x)(hk:k.glb=glb):SN X A c k env b (λ σ=>r (.ss c x) σ):=λ hv hA H h=>cY (hS he hk hv hA H h)
set_option tactic.hygienic true in
theorem SN.cons{f1 f2:Sg->R}(h1:TN X A c k env st f1)(h2:SN X A c k env b f2):SN X A c k env (st::b) (B8 f1 f2):=by
 intro σ Φ V s hv hA H h;refine fq (bh (h1 hv hA H (T.sat_bind h)) (λ f s1 q=>?_) λ J J ⟨V',σ',i,x,c,d,a,b,r1,r2,r3,r4,r5⟩=>⟨V',σ',i,x,c,d,a,b,r1,r2,r3,r4,r5⟩);obtain⟨V1,σ1,l1,k1,H1,h1⟩:=q;cases f with
 | next=>exact bh (h2 (hv.mono l1) (hA.mono l1 k1) H1 h1) (λ J J q=>q.trans l1 k1) λ J J q=>q.trans l1 k1
 |
  ret v=>
  obtain⟨av,dv,h1⟩:=h1;exact⟨V1,σ1,l1,k1,H1,av,dv,h1⟩
 | _=>exact h1.elim
theorem kE{M:Model}{t e:Expr}(h1:Qu e (some t) pos.line env=pure false)(h2:PS [t] e env=pure none)(h3:∀ x p,t≠.Starred x p){Q:Flow->Shared->Prop}{E:VP}
 (h:wpN M A (eval e env >>= λ v=>Qi t env v) (λ J s'=>Q .next s') E s):wpN M A (exec (.Assign [t] e pos) env) Q E s:=by
 rw[SX];refine aI (OS ?_);show wpN _ _ (Qu e (some t) pos.line env >>= _) _ _ _;rw[h1,h2];refine aI (OD ?_);have e3:(TZ [t] env).map (·.2)=[Qi t env]:=by cases t<;>first|rfl|exact absurd rfl (h3 _ _)
 rw[e3];show wpN _ _ (eval e env >>= λ v=>(pure none:Sem (Option (List Str))) >>= λ w=>Un env v w [Qi t env]) _ _ _;have e4:(λ v=>(pure none:Sem (Option (List Str))) >>= λ w=>Un env v w [Qi t env])=λ v=>(Qi t env v >>= λ J=>(pure Flow.next:Sem Flow)):=by
  funext v;rfl
 rw[e4,<-S8];exact ba (bh h (λ J J q=>be q) λ J J q=>q)
theorem TN.asgA(Z:HypS X cfg glb ih){o e:Expr}{xo:E}{m:Str}(ho:cE k n o=some xo)(hm:okS m=true)(he:EN X A c k env e f)(hsw:Qu e (some (.Attribute o m p)) pos.line env=pure false/\PS [.Attribute o m p] e env=pure none)(hk:k.glb=glb) :
 TN X A c k env (.Assign [.Attribute o m p] e pos) (λ σ=>onV (f σ) λ v g=>onV (ih (.e c xo) g) λ ov g=>fV cfg g ov (nm m) v done):=by
 intro σ Φ V s hv hA H h;refine kE hsw.1 hsw.2 (by intros;nofun) ?_
 refine tW (he hv hA H (aG h)) λ V1 σ1 av va s1 l1 k1 H1 d1 h1=>cY ?_;rw[arm_assign_Attribute];refine fB (OQ (Z.Y.E ho hk (hv.mono l1) (hA.mono l1 k1) H1 (aG h1))) λ V2 σ2 bv vb s2 l2 k2 H2 d2 h2=>?_;refine Oz (OS (Oz (OQ (OF (Z.P.satt ((hA.mono l1 k1).mono l2 k2) H2 d2 (d1.mono l2) hm h2) (λ J s3 q=>?_) λ J J q=>q))));exact wpAny_release (((PN.nx q).trans l2 k2).trans l1 k1)
theorem TN.asg(Z:HypS X cfg glb ih){t e:Expr}{xt:Tg}(hsw:∀ V,EnvOK A V c k env->Qu e (some t) pos.line env=pure false/\PS [t] e env=pure none)(ht:tgT k t=some xt)(he:EN X A c k env e f) :
 TN X A c k env (.Assign [t] e pos) (λ σ=>onV (f σ) λ v g=>Bl cfg c xt v g done):=by
 intro σ Φ V s hv hA H h;refine kE (hsw V hv).1 (hsw V hv).2 (by intro x p q;subst q;cases ht) ?_
 refine tW (he hv hA H (aG h)) λ V1 σ1 av va s1 l1 k1 H1 d1 h1=>cY ?_;exact OF (lW Z.P ht (hv.mono l1) (hA.mono l1 k1) H1 d1 h1) (λ J J q=>(PN.nx q).trans l1 k1) λ J J q=>q
set_option tactic.hygienic true in
theorem TN.asgR(Z:HypS X cfg glb ih){ts vs:List Expr}{ns:List Str}{xts:List Tg}{y z:Nat}{p q:Pos}{xs:List E}(hs:bc (cE k n) vs=some xs)(hn:bc (ft k (ip ts)) ts=some ns)
 (hsw:((ns.length==2||ns.length==3)&&vs.length==ns.length&&ns.eraseDups.length==ns.length&&!(vs.all (foldedForSure 8))&&!(vs.all (constantsAlone 8)))=true) (ht:bc (tgN k) ts=some xts)
 (he:EN X A c k env (.Tuple vs z q) f):TN X A c k env (.Assign [.Tuple ts y p] (.Tuple vs z q) pos) (λ σ=>onV (f σ) λ v g=>(match dJ cfg g v with
  | some l=>(match OC l.length xts.length&&OC (c.dep/1000) 0 with|true=>xm c xts.reverse l.reverse g done|false=>.stuck 116)
  | none=>.stuck 115)):=by
 intro σ Φ V s hv hA H h;obtain⟨h1,h2,h3⟩:=ly hv (bu hn);rw[ht] at h3;cases h3
 rw[SX];refine aI (OS ?_);show wpN _ _ (eval (.Tuple vs z q) env >>= λ v=>PS [.Tuple ts y p] (.Tuple vs z q) env >>= λ w=>Un env v w _) _ _ _;rw[iT hv hs hn hsw];refine tW (he hv hA H (aG h)) λ V1 σ1 av va s1 l1 k1 H1 d1 h1=>cY ?_;refine Oz (OD (Oz (Sc ?_)));split at h1
 ·rename_i l e
  split at h1
  ·rename_i hlen
   rw[OA] at hlen;have hdd:=OB hlen.2;have hlen:=OB hlen.1;rw[Pa] at hlen;rw[<-hlen];refine Oz (OF (Z.P.unp (hA.mono l1 k1) hdd H1 d1 e) (λ vs' s2 r=>?_) λ J J r=>r);obtain⟨H2,dl⟩:=r;rw[<-List.map_reverse] at h1;refine Oz (OF (qO (λ m hm=>h2 m (Sz.mp hm)) (ii dl) (hv.mono l1) H2 h1) (λ J s3 r=>OD ((PN.nx r).trans l1 k1)) λ J J r=>r)
  ·exact h1.elim
 ·exact h1.elim
def CN(X:Cx)(a:Nat)(F:Nat->List AV->Sg->R):Prop:=∀ {d:Nat} {as:List AV} {vs:List Value} {σ:Sg} {Φ:Out×Sg->Prop} {V:Va} {s:Shared} {A:Around},
 All2 (DenV V) as vs->AOK X V σ A d 2->St X V σ s->(F d as σ).Sat Φ->d7 (Mo X) A (.call (.ref a) ⟨vs,[]⟩) (PR X V σ Φ) s
noncomputable def G6(F:Nat->List AV->Sg->R)(a d:Nat)(as:List AV)(g:Sg):R:=aR (O0 (d%1000) 60) (g.new (.atd []) λ dd g=>g.new (.inst a dd) λ x g=>onV (F (d+1) (.own x::as) g) (Dr x))
theorem CN.make(X0:K.In X.B){a:Nat}{ci:ClsI}(Y:ClsOK K a ci){F:Nat->List AV->Sg->R}(hF:CN X ci.init F):CN X a (G6 F a):=by
 intro d as vs σ Φ V s A da hA H h;have X0:=X0.keeps H.bs;refine az h λ hd h=>?_;obtain⟨hb1,h⟩:=bk h;obtain⟨hb2,h⟩:=bk h;have N1:=H.add (ob:=Tw) (o:=.atd []) rfl rfl ⟨#[],0,[],rfl,λ J he=>absurd he (by intro q;cases q with|mk q=>cases q),List.Pairwise.nil,.nil,λ x hx=>absurd rfl hx,OR _⟩ hb1 nofun
 have N2:=N1.H.add (ob:=instObj a s.heap.objs.size) (o:=.inst a σ.n) N1.e rfl ⟨rfl,rfl,s.heap.objs.size,(Va.le_push _ _).ρ N1.p,rfl⟩ hb2 nofun
 have LE:=(V.le_push s.heap.objs.size).trans (Va.le_push (V.push s.heap.objs.size) (s.heap.objs.size+1));have KK:=N1.k.trans N2.k;exact rE (init:=.ref ci.init) (makes_of X0 Y.mks) (R2 X0 Y.ini) (λ self=>bind_fn X0 self Y.inif) (.inl rfl)
  (cX (hF (.cons (.own N2.p) (da.mono λ J J z=>z.mono LE)) ((kM hA (OE hd)).mono LE KK) N2.H (aG h)) λ r s' z=>og LE KK N2.p vD z)
noncomputable def zO(fi:FnI)(B:FC->Sg->R)(d:Nat)(as:List AV)(σ:Sg):R:=aR (O0 (d%1000) 60&&OC as.length fi.params.length&&P5 (σ.n+1+fi.cells.length) 100000) ((B ⟨σ.n,fx (σ.n+1) fi.cells,d+1⟩ (cR σ (.ns (iy fi.cells fi.params as)::fi.cells.map (fL fi.params as)))).bind yb)
structure FnB(K:Frag)(glb:List (Nat×AV))(a:Addr)(fi:FnI)(body:List Stmt)(sc:Scope):Prop where
 ex:∃ (oc:Value) (od:Option Addr) (osl:Array (Option Value)) (fd:FuncData),K.lookup a=some ⟨oc,od,.func fd,osl⟩/\fd.body=.stmts body/\fd.scope=sc/\HH K fd fi=true
theorem CN.fn(X0:K.In X.B)(hlim:X.B.NoLimit){a:Addr}{fi:FnI}{body:List Stmt}{sc:Scope}(F:FnB K glb a fi body sc){B:FC->Sg->R}(hB:∀ {A:Around} {c:FC} {env:Env},SN X A c ⟨sc,glb⟩ env body (B c)):CN X a (zO fi B):=by
 intro d as vs σ Φ V s A da hA H h;obtain⟨oc,od,osl,fd,hl,hbody,rfl,hB0⟩:=F.ex;have XS:=X0.keeps H.bs;refine az h λ hq h=>aV hq λ hq hb=>aV hq λ hdep hlen=>?_;have hlen:=OB hlen;have P:=pu hB0;obtain⟨hbind,hkind⟩:=Bg XS P da hlen;refine cf hA.room (XS _ _ hl) rfl P.co P.gen hbody (codeRec_of XS P.code) (hbind _ _ _ _ ?_);rw[P.clo];refine RE P.kind hkind λ env he s₁ x=>⟨(hlim.keeps H.bs).keeps x.toInCall.keep,hH ?_⟩;subst he;obtain⟨V₁,hle,K1,H1,hv,hA'⟩:=jm (glb:=glb) H hB0 hA (OE hdep) da hlen (OE hb) x;refine bh (hB hv hA' H1 (T.sat_bind h)) (λ f s1 z=>?_) λ x s1 z=>cY (z.rec λ V2 σ2 i xa cc dd l2 k2 H2 e hi he h2=>?_)
 ·exact z.rec λ V2 σ2 l2 k2 H2 h2=>by
   rcases f with _|_|_|v
   ·exact⟨V2,σ2,.none,hle.trans l2,K1.trans k2,H2,.none,h2⟩
   ·exact h2.elim
   ·exact h2.elim
   ·exact h2.rec λ av r=>⟨V2,σ2,av,hle.trans l2,K1.trans k2,H2,r.1,r.2⟩
 ·subst e;exact Oz (gR (hv.mono l2) (hA'.mono l2 k2) H2 he hi λ h3 H3 tb=>bQ H3 he hi λ h4 H4 J=>⟨V2,σ2,i,xa,cc,dd,hle.trans l2,K1.trans k2,H4,rfl,hi,he,h2⟩)
end
end
section
variable {e:Expr} {q:Pos} {id:Str}
noncomputable section
universe u
open PySem PySem.W PySem.Calls PyProof.Rows
noncomputable def vR:Stmt->List Stmt
 | .FunctionDef _ _ b _ _ _ _ _ _ _=>b
 | _=>[]
noncomputable def LD:Stmt->Scope
 | .FunctionDef _ _ _ _ _ _ sc _ _ _=>sc
 | _=>PySem.Challenge.pw_on0275_01.main.scope
noncomputable def exN:Expr:=.Constant .none 0 ⟨0,0,0,0⟩
noncomputable def jH:Expr->List Expr
 | .Call _ as _ _=>as
 | .Tuple es _ _=>es
 | _=>[]
noncomputable def pFn:Expr->Expr
 | .Call f _ _ _=>f
 | _=>exN
noncomputable def Fc:Stmt->Expr
 | .Assign _ e _=>e
 | _=>exN
noncomputable def NS:Stmt->Expr
 | .Assign [.Attribute o _ _] _ _=>o
 | _=>exN
noncomputable def pNm:Stmt->Nat
 | .Assign [.Attribute _ m _] _ _=>nm m
 | _=>0
noncomputable def pTs:Stmt->List Expr
 | .Assign [.Tuple ts _ _] _ _=>ts
 | _=>[]
noncomputable def xj:List Expr->Nat->Expr
 | e::_,0=>e
 | _::r,n+1=>xj r n
 | [],_=>exN
noncomputable def cEx(sc:Scope)(e:Expr):E:=(cE ⟨sc,glb⟩ 45 e).getD (.cst .none)
noncomputable def cSt(sc:Scope)(st:Stmt):S:=(cS ⟨sc,glb⟩ 20 st).getD .pass
noncomputable def It(sc:Scope)(b:List Stmt):List S:=(bc (cS ⟨sc,glb⟩ 20) b).getD []
noncomputable def Fo(sc:Scope)(ts:List Expr):List Tg:=(bc (tgN ⟨sc,glb⟩) ts).getD []
noncomputable def r0:Run:=run cfg0 1500
noncomputable def i0(c:FC)(sc:Scope)(e:Expr)(σ:Sg):R:=r0 (.e c (cEx sc e)) σ
noncomputable def Lo(b:Bi):Bool:=(Bi.casesOn b false false false false false false false false false false false false (true) false false false false false)
theorem Ht{b:Bi}:Lo b=true->b=.bytearray:=(Bi.casesOn (motive:=λ b=>Lo b=true->b=.bytearray) b nof nof nof nof nof nof nof nof nof nof nof nof (λ J=>rfl) nof nof nof nof nof)
noncomputable def Os(fv:AV)(avs:List AV)(g:Sg):R:=on (vBi fv) λ b=>on (single avs) λ x=>aR (Lo b&&IU g x) (zR g x)
noncomputable def Mh(c:FC)(sc:Scope)(e:Expr)(σ:Sg):R:=onV (i0 c sc (pFn e) σ) λ fv g=>zi [i0 c sc (xj (jH e) 0)] g λ avs g=>Os fv avs g
noncomputable def tyB:List Stmt:=vR (ig (o5 (ig mr 18)) 0)
noncomputable def lY:Scope:=LD (ig (o5 (ig mr 18)) 0)
noncomputable def gl:FnI:=mD 18 0 []
noncomputable def MM(c:FC)(σ:Sg):R:=onV (Mh c lY (Fc (ig tyB 1)) σ) λ v g=>onV (r0 (.e c (cEx lY (NS (ig tyB 1)))) g) λ ov g=>fV cfg0 g ov (pNm (ig tyB 1)) v done
noncomputable def tyF:Nat->List AV->Sg->R:=zO gl λ c=>B8 (λ σ=>dT cfg0 r0 c (cSt lY (ig tyB 0)) σ) (B8 (MM c) λ σ=>r0 (.ss c (It lY (tyB.drop 2))) σ)
noncomputable def FO(d:Nat)(fv:AV)(avs:List AV)(g:Sg):R:=match fv with
 | .glob 136=>G6 tyF 136 d avs g
 | _=>.stuck 183
noncomputable def BK(c:FC)(sc:Scope)(e:Expr)(σ:Sg):R:=onV (i0 c sc (pFn e) σ) λ fv g=>zi [i0 c sc (xj (jH e) 0),Mh c sc (xj (jH e) 1),i0 c sc (xj (jH e) 2),i0 c sc (xj (jH e) 3)] g λ avs g=>FO c.dep fv avs g
noncomputable def woB:List Stmt:=vR (ig mr 88)
noncomputable def jD:Scope:=LD (ig mr 88)
noncomputable def fJ:FnI:=fD 88 []
noncomputable def MI(c:FC)(σ:Sg):R:=onV (zi [BK c jD (xj (jH (Fc (ig woB 2))) 0),BK c jD (xj (jH (Fc (ig woB 2))) 1)] σ λ vs g=>fj g (.tup vs)) λ v g=>(match dJ cfg0 g v with
 | some l=>(match OC l.length (Fo jD (pTs (ig woB 2))).length&&OC (c.dep/1000) 0 with|true=>xm c (Fo jD (pTs (ig woB 2))).reverse l.reverse g done|false=>.stuck 116)
 | none=>.stuck 115)
noncomputable def woF:Nat->List AV->Sg->R:=zO fJ λ c=>B8 (λ σ=>dT cfg0 r0 c (cSt jD (ig woB 0)) σ) (B8 (λ σ=>dT cfg0 r0 c (cSt jD (ig woB 1)) σ) (B8 (MI c) λ σ=>r0 (.ss c (It jD (woB.drop 3))) σ))
section
variable {X:Cx} {cfg:Cfg} {ih:Run} {c:FC} {k:CC} {n:Nat} {env:Env} {pos:Pos} {σ:Sg} {Φ:Out×Sg->Prop} {V:Va} {s:Shared} {A:Around} {K:Frag} {sc:Scope}
theorem cU(h:(cE ⟨sc,glb⟩ 45 e).isSome=true):cE ⟨sc,glb⟩ 45 e=some (cEx sc e):=by
 unfold cEx;obtain⟨x,hx⟩:=Pe.mp h;rw[hx];rfl
theorem lR{e:Stmt}(h:(cS ⟨sc,glb⟩ 20 e).isSome=true):cS ⟨sc,glb⟩ 20 e=some (cSt sc e):=by
 unfold cSt;obtain⟨x,hx⟩:=Pe.mp h;rw[hx];rfl
theorem js{b:List Stmt}(h:(bc (cS ⟨sc,glb⟩ 20) b).isSome=true):bc (cS ⟨sc,glb⟩ 20) b=some (It sc b):=by
 unfold It;obtain⟨x,hx⟩:=Pe.mp h;rw[hx];rfl
theorem nv{b:List Expr}(h:(bc (tgN ⟨sc,glb⟩) b).isSome=true):bc (tgN ⟨sc,glb⟩) b=some (Fo sc b):=by
 unfold Fo;obtain⟨x,hx⟩:=Pe.mp h;rw[hx];rfl
theorem fh(hE:SE X glb r0)(h:(cE ⟨sc,glb⟩ 45 e).isSome=true):(∃ n x,cE ⟨sc,glb⟩ n e=some x)/\EN X A c ⟨sc,glb⟩ env e (i0 c sc e):=
 ⟨⟨45,_,cU h⟩,EN.plain hE (cU h) rfl⟩
theorem Bh(hE:SE X glb r0){e a:Expr}(he:e=.Call (.Name id q) [a] [] pos)(h0:(cE ⟨sc,glb⟩ 45 e).isSome=true)(h1:(cE ⟨sc,glb⟩ 45 (.Name id q)).isSome=true)(h2:(cE ⟨sc,glb⟩ 45 a).isSome=true) :
 (∃ n x,cE ⟨sc,glb⟩ n e=some x)/\EN X A c ⟨sc,glb⟩ env e (Mh c sc e):=by
 refine⟨⟨45,_,cU h0⟩,?_⟩;subst he;refine EN.call ⟨id,q,rfl⟩ (fh hE h1).2 (.cons (fh hE h2) .nil) λ {V σ s Φ fv vf avs vs} hA H df da h=>?_;refine bn h λ b e h=>bn h λ x e1 h=>az h λ q hz=>?_;have q:=(OA _ _).mp q;obtain rfl:=Ht q.1;obtain rfl:=qP e df;obtain⟨v,rfl,d1⟩:=fE e1 da;exact⟨ve (b:=.bytearray),wI hA H d1 q.2 hz⟩
theorem xE:∃ a1 o m p id q e pos pos' a3 a4,tyB=[a1,.Assign [.Attribute o m p] (.Call (.Name id q) [e] [] pos) pos',a3,a4]/\okS m=true/\(cE ⟨lY,glb⟩ 45 o).isSome=true/\(cE ⟨lY,glb⟩ 45 (.Call (.Name id q) [e] [] pos)).isSome=true/\(cE ⟨lY,glb⟩ 45 (.Name id q)).isSome=true/\(cE ⟨lY,glb⟩ 45 e).isSome=true/\(cS ⟨lY,glb⟩ 20 a1).isSome=true/\(bc (cS ⟨lY,glb⟩ 20) [a3,a4]).isSome=true:=
 ⟨_,_,_,_,_,_,_,_,_,_,_,rfl,by kernel_rfl,by kernel_rfl,by kernel_rfl,by kernel_rfl,by kernel_rfl,by kernel_rfl,by kernel_rfl⟩
theorem Kj(T:TopC X K cfg0 glb)(hF:FnB K glb 133 gl tyB lY):CN X 133 tyF:=by
 have S:=nS T (bM []) 1500;have Z:=tR T (bM []) 1500;intro d as vs σ Φ V s A da hA H h;unfold tyF at h;refine CN.fn T.T.inB T.lim hF (λ {A c env}=>?_) da hA H h;obtain⟨a1,o,m,p,id,q,e,pos,pos',a3,a4,hb,f1,f2,f3,f4,f5,f6,f7⟩:=xE;unfold MM;rw[hb];refine SN.cons (TN.plain Z (lR f6) rfl) (SN.cons (TN.asgA Z (cU f2) f1 (Bh S.E rfl f3 f4 f5).2 ⟨rfl,rfl⟩ rfl) (SN.plain S.S (js f7) rfl))
theorem tx(T:TopC X K cfg0 glb)(hF:FnB K glb 133 gl tyB lY){e a0 b1 a2 a3:Expr}{id id':Str}{q q':Pos}{pos':Pos}(he:e=.Call (.Name id q) [a0,.Call (.Name id' q') [b1] [] pos',a2,a3] [] pos)(h0:(cE ⟨sc,glb⟩ 45 e).isSome=true)(h1:(cE ⟨sc,glb⟩ 45 (.Name id q)).isSome=true)
 (g0:(cE ⟨sc,glb⟩ 45 a0).isSome=true) (g1:(cE ⟨sc,glb⟩ 45 (.Call (.Name id' q') [b1] [] pos')).isSome=true) (g1':(cE ⟨sc,glb⟩ 45 (.Name id' q')).isSome=true) (g1'':(cE ⟨sc,glb⟩ 45 b1).isSome=true) (g2:(cE ⟨sc,glb⟩ 45 a2).isSome=true) (g3:(cE ⟨sc,glb⟩ 45 a3).isSome=true) :
 (∃ n x,cE ⟨sc,glb⟩ n e=some x)/\EN X A c ⟨sc,glb⟩ env e (BK c sc e):=by
 have S:=nS T (bM []) 1500;refine⟨⟨45,_,cU h0⟩,?_⟩;subst he;refine EN.call ⟨id,q,rfl⟩ (fh S.E h1).2 (.cons (fh S.E g0) (.cons (Bh S.E rfl g1 g1' g1'') (.cons (fh S.E g2) (.cons (fh S.E g3) .nil)))) λ {V σ s Φ fv vf avs vs} hA H df da h=>?_;unfold FO at h;split at h
 ·cases df
  obtain⟨ci,hci,hx,hi⟩:∃ ci,aX 136 cfg0.cls=some ci/\ci.isExc=false/\ci.init=133:=⟨_,rfl,rfl,rfl⟩;refine⟨lD (T.T.inB.keeps H.bs) (T.T.keep 136 (.inr (.inl (by rw[hci];rfl)))),fg (cX (CN.make T.T.inB (T.T.cls 136 ci hci hx) (F:=tyF) (by rw[hi];exact Kj T hF) da (hA.up (by omega)) H h) λ r s' z=>?_)⟩
  rcases r with e|(v|_|_|_)<;>exact z
 ·exact h.elim
theorem xB:∃ s1 s2 ts y p vs z q pos rest id1 q1 a0 i1 r1 b1 p1 a2 a3 pos1 id2 q2 c0 i2 r2 d1 p2 c2 c3 pos2,woB=s1::s2::.Assign [.Tuple ts y p] (.Tuple vs z q) pos::rest/\vs=[.Call (.Name id1 q1) [a0,.Call (.Name i1 r1) [b1] [] p1,a2,a3] [] pos1,.Call (.Name id2 q2) [c0,.Call (.Name i2 r2) [d1] [] p2,c2,c3] [] pos2] /\
 (∃ ns,bc (ft ⟨jD,glb⟩ (ip ts)) ts=some ns/\((ns.length==2||ns.length==3)&&vs.length==ns.length&&ns.eraseDups.length==ns.length&&!(vs.all (foldedForSure 8))&&!(vs.all (constantsAlone 8)))=true)/\(bc (tgN ⟨jD,glb⟩) ts).isSome=true/\(bc (cE ⟨jD,glb⟩ 45) vs).isSome=true /\
 [.Call (.Name id1 q1) [a0,.Call (.Name i1 r1) [b1] [] p1,a2,a3] [] pos1,.Name id1 q1,a0,.Call (.Name i1 r1) [b1] [] p1,.Name i1 r1,b1,a2,a3].all (λ e=>(cE ⟨jD,glb⟩ 45 e).isSome)=true /\
 [.Call (.Name id2 q2) [c0,.Call (.Name i2 r2) [d1] [] p2,c2,c3] [] pos2,.Name id2 q2,c0,.Call (.Name i2 r2) [d1] [] p2,.Name i2 r2,d1,c2,c3].all (λ e=>(cE ⟨jD,glb⟩ 45 e).isSome)=true /\
 (cS ⟨jD,glb⟩ 20 s1).isSome=true/\(cS ⟨jD,glb⟩ 20 s2).isSome=true/\(bc (cS ⟨jD,glb⟩ 20) rest).isSome=true:=
 ⟨_,_,_,_,_,_,_,_,_,_,_,_,_,_,_,_,_,_,_,_,_,_,_,_,_,_,_,_,_,_,rfl,rfl,⟨_,rfl,by decide +kernel⟩,by kernel_rfl,by kernel_rfl,by kernel_rfl,by kernel_rfl,by kernel_rfl,by kernel_rfl,by kernel_rfl⟩
theorem Kd(T:TopC X K cfg0 glb)(hF:FnB K glb 133 gl tyB lY)(hW:FnB K glb 1089 fJ woB jD):CN X 1089 woF:=by
 have S:=nS T (bM []) 1500;have Z:=tR T (bM []) 1500;intro d as vs σ Φ V s A da hA H h;unfold woF at h;refine CN.fn T.T.inB T.lim hW (λ {A c env}=>?_) da hA H h;obtain⟨s1,s2,ts,y,p,vs,z,q,pos,rest,id1,q1,a0,i1,r1,b1,p1,a2,a3,pos1,id2,q2,c0,i2,r2,d1,p2,c2,c3,pos2,hb,hvs,⟨ns,hn,hsw⟩,ht,hxs,g1,g2,k1,k2,k3⟩:=xB;simp only[RH,List.all_nil,TL,OA] at g1 g2;obtain⟨e1,e2,e3,e4,e5,e6,e7,e8⟩:=g1;obtain⟨f1,f2,f3,f4,f5,f6,f7,f8⟩:=g2;obtain⟨xs,hxs⟩:=Pe.mp hxs;unfold MI;rw[hb];have hv:jH (Fc (ig (s1::s2::.Assign [.Tuple ts y p] (.Tuple vs z q) pos::rest) 2))=vs:=rfl;rw[hv];have h3:TN X A c ⟨jD,glb⟩ env (.Assign [.Tuple ts y p] (.Tuple vs z q) pos) _:=TN.asgR Z hxs hn hsw (nv ht) (EN.tup (hvs▸ENs.cons (tx T hF rfl e1 e2 e3 e4 e5 e6 e7 e8) (.cons (tx T hF rfl f1 f2 f3 f4 f5 f6 f7 f8) .nil)));subst hvs;intro σ' Φ' V' s' hv' hA' H' h';exact SN.cons (TN.plain Z (lR k1) rfl) (SN.cons (TN.plain Z (lR k2) rfl) (SN.cons h3 (SN.plain S.S (js k3) rfl))) hv' hA' H' h'
end
end
end
section
variable {o:AO} {x:AV} {φ:List Addr} {ob:Obj}
noncomputable section
universe u
open PySem PySem.W PySem.Calls PyProof.Rows
noncomputable def DA(ix:List Nat)(x y:AV):Bool:=match y with
 | .none=>oF x
 | .bool b=>(zN x λ a=>ifK (a==b) (some ())).isSome
 | .int n=>(Hw x λ i=>ifK (bJ i n) (some ())).isSome
 | .si n=>(Hw x λ i=>ifK (bJ i n) (some ())).isSome
 | .str m=>(xd x λ l=>ifK (au l m) (some ())).isSome
 | .byt m=>((lS x).bind λ p=>ifK (p.2&&au p.1 m) (some ())).isSome
 | .sy m=>((lS x).bind λ p=>ifK (p.2&&au p.1 (m.map (·.toNat))) (some ())).isSome
 | .frz j=>(j6 x λ i=>(ix[j]?).bind λ k=>ifK (OC i k) (some ())).isSome
 | .any=>i7 x
 | _=>false
noncomputable def AP(ix:List Nat):List AV->List AV->Bool:=xu (DA ix)
noncomputable def AQ(ix:List Nat):bN->bN->Bool:=xu λ p q=>OC p.1 q.1&&(i7 p.2&&(i7 q.2&&DA ix p.2 q.2))
noncomputable def qr(ix:List Nat)(o o':AO):Bool:=opB (two (ro o) (ro o')) (λ p=>AP ix p.1 p.2) (opB (two (rq o) (rq o')) (λ p=>OC p.1.1 p.2.1&&((ix[p.2.2]?).bind λ k=>ifK (OC p.1.2 k) (some ())).isSome)
 (opB (two (AB o) (AB o')) (λ p=>AQ ix p.1 p.2) ((two (pV o) (pV o')).bind λ p=>ifK (au p.1 p.2) (some ())).isSome))
noncomputable def At(g:Sg)(ix:List Nat):List Nat->List AO->Bool:=xu λ i o=>opB (g.own.get i) (λ o'=>qr ix o' o) false
noncomputable def okD:Desc->Bool
 | .int n=>bY (-2147483648) n&&dW n 2147483648
 | .str b s m a=>strT.any λ(b',s',m',a')=>au b b'&&OC s s'&&OC m m'&&OC a a'
 | _=>true
noncomputable def pd:AV->Nat
 | .own i=>i
 | _=>0
noncomputable def iD:AV->Int
 | .int i=>i
 | _=>0
noncomputable def IY:AV->List Nat
 | .byt b=>b
 | _=>[]
noncomputable def fO(g:Sg)(i k:Nat):AV:=match g.own.get i with
 |
  some (.inst _ d)=>(match g.own.get d with
  | some (.atd es)=>(match es[k]? with|some p=>p.2|none=>.none)
  | _=>.none)
 | _=>.none
noncomputable def eW(g:Sg)(i:Nat):Nat:=match g.own.get i with
 | some (.inst _ d)=>d
 | _=>0
noncomputable def Mi(g:Sg)(i:Nat):List Nat:=match g.own.get i with
 | some (.bar b)=>b
 | _=>[]
noncomputable def BC(g:Sg)(i k:Nat):AV:=match g.own.get i with
 | some (.tup xs)=>(match xs[k]? with|some x=>x|none=>.none)
 | _=>.none
noncomputable def Mj:AV->List Nat
 | .str b=>b
 | _=>[]
noncomputable def jn(g:Sg)(t:Nat):Desc×List Nat:=
 let th:=pd (BC g t 0)
 let k:=Mj (fO g th 0)
 let v:=fO g th 1
 let e:=eW g th
 let o:=pd v
 let b:=pd (fO g o 0)
 match au k bp,au k bq,au k (Desc.real 0).kind,au k F4,au k (Desc.name []).kind,au k (Desc.row false 0 0 0).kind,au k (Desc.row true 0 0 0).kind with
 | true,_,_,_,_,_,_=>(.int (iD v),[t,th,e])
 | _,true,_,_,_,_,_=>(.bool (match v with | .bool true=>true|_=>false),[t,th,e])
 | _,_,true,_,_,_,_=>(.real (iD v),[t,th,e])
 | _,_,_,true,_,_,_=>(.str (Mi g (pd (fO g b 1))) (iD (fO g o 1)).toNat (iD (fO g o 2)).toNat (iD (fO g th 3)).toNat,[t,th,e,o,eW g o,b,eW g b,pd (fO g b 1)])
 | _,_,_,_,true,_,_=>(.name ((IY v).map UInt8.ofNat),[t,th,e])
 | _,_,_,_,_,true,_=>(.row false (iD (fO g b 0)) (iD (fO g o 1)) (iD (fO g o 2)),[t,th,e,o,eW g o,b,eW g b,pd (BC g t 2)])
 | _,_,_,_,_,_,true=>(.row true (iD (fO g b 0)) (iD (fO g o 1)) (iD (fO g o 2)),[t,th,e,o,eW g o,b,eW g b,pd (BC g t 2)])
 |
  _,_,_,_,_,_,_=>match au k (Desc.dict 0).kind,au k (Desc.oper []).kind,au k Desc.mark.kind with
  | true,_,_=>(.dict (iD (fO g o 0)),[t,th,e,o,eW g o])
  | _,true,_=>(.oper ((IY v).map UInt8.ofNat),[t,th,e])
  | _,_,true=>(.mark,[t,th,e])
  | _,_,_=>(.null,[t,th,e])
noncomputable def Ct(g:Sg):AV->Bool
 | .own t=>okD (jn g t).1&&OC ((jn g t).2.headD 0) t&&At g (jn g t).2 (jn g t).2 (aZ (jn g t).1 0)
 | _=>false
noncomputable def xC(r:Out×Sg):Bool:=match r.1 with
 |
  .v (.own l)=>(match r.2.own.get l with
  | some (.lst xs)=>OC xs.length 49&&xs.all (Ct r.2)
  | _=>false)
 | _=>false
theorem Bz:chk xC (woF 3 [] s0)=true:=by kernel_rfl
section
variable {X:Cx} {V V' V₂ V₂':Va} {σ σ' σ₂ σ₂':Sg} {s s' s₁:Shared} {hnd:List Nat} {Φ Φ₂:Out×Sg->Prop} {A:Around} {K:Frag} {g:Sg} {ix:List Nat}
def Hi(V:Va)(ix:List Nat)(φ:List Addr):Prop:=∀ (j k:Nat),ix[j]?=some k->∃ a,φ[j]?=some a/\V.ρ[k]?=some a
theorem nD{p:List Nat×Bool}(h:lS x=some p)(q:p.2=true):x=.byt p.1:=by
 rcases x with⟨⟩<;>first|(cases h;first|rfl|cases q)|cases h
theorem mR{K:Addr->Obj->Prop}(hx:Hi V ix φ){x y:AV}(h:DA ix x y=true):Tra V ⟨[],φ,K,[]⟩ x y:=by
 have un:∀ {o:Option Unit},o.isSome=true->o=some ():=λ {o} h=>by
  rcases o with _|u
  ·cases h
  ·rfl
 rcases y with⟨⟩<;>first|(cases h;done)|skip
 ·rw[mI h];exact Tra.lit rfl
 ·exact pa (un h) λ a e h=>ay h λ q J=>by rw[e,Pf q];exact Tra.lit rfl
 ·exact qo (un h) λ a e h=>ay h λ q J=>by rw[e,of_decide_eq_true q];exact Tra.lit rfl
 ·exact qo (un h) λ a e h=>ay h λ q J=>by rw[e,of_decide_eq_true q];exact Tra.si (b:=true) rfl
 ·exact fU (un h) λ a e h=>ay h λ q J=>by rw[e,aC q];exact Tra.lit rfl
 ·refine aw (un h) λ p e h=>ay h λ q J=>?_;have q:=(OA _ _).mp q;rw[nD e q.1,aC q.2];exact Tra.lit rfl
 ·refine aw (un h) λ p e h=>ay h λ q J=>?_;have q:=(OA _ _).mp q;rw[nD e q.1];intro v d;obtain⟨b,t,rfl,e⟩:=d.inv;exact .sy t ((Re (λ J J q=>Uv.mp q)).mp (e.trans (aC q.2)))
 ·refine cj (un h) λ i e h=>aw h λ k ek h=>ay h λ q J=>?_;obtain⟨a,h1,h2⟩:=hx _ _ ek;rw[e,OB q];intro v d;obtain⟨a',rfl,q⟩:=d.inv;obtain rfl:=Oy (h2.symm.trans q);exact .frz h1
 ·exact Tra.any
theorem rT{K:Addr->Obj->Prop}(hx:Hi V ix φ){xs ys:List AV}(h:AP ix xs ys=true):TraL V ⟨[],φ,K,[]⟩ xs ys:=l0 (λ J J h=>mR hx h) h
theorem mw(h:i7 x=true):x≠.hid:=by rintro rfl;cases h
theorem rU{K:Addr->Obj->Prop}(hx:Hi V ix φ){xs ys:bN}(h:AQ ix xs ys=true):All2 (λ p q=>p.1=q.1/\q.2≠.hid/\Tra V ⟨[],φ,K,[]⟩ p.2 q.2/\p.2≠.hid) xs ys:=
 l0 (λ J J h=>have h1:=(OA _ _).mp h;have h2:=(OA _ _).mp h1.2;have h3:=(OA _ _).mp h2.2;⟨OB h1.1,mw h3.1,mR hx h3.2,mw h2.1⟩) h
theorem rS{K:Addr->Obj->Prop}(hx:Hi V ix φ){o o':AO}(h:qr ix o o'=true)(d:DenO X false V ob o):DenO X true ⟨[],φ,K,[]⟩ ob o':=by
 refine uh h (λ p e h=>eG e λ e1 e2=>?_) λ h=>uh h (λ p e h=>eG e λ e1 e2=>?_) λ h=>uh h (λ p e h=>eG e λ e1 e2=>?_) λ h=>bB h λ J h=>aw h λ p e h=>eG e λ e1 e2=>ay h λ q J=>?_
 ·rw[ik e1] at d;rw[ik e2]
  exact(d.tra (.tup (rT hx h)):DenO X false _ ob _)
 ·rw[lh e1] at d;rw[lh e2]
  have h:=(OA _ _).mp h;refine bB h.2 λ J h2=>aw h2 λ k ek h2=>ay h2 λ q J=>?_;obtain⟨a,g1,g2⟩:=hx _ _ ek;obtain⟨m1,m2,a',m3,m4⟩:=d;have m3:V.ρ[p.1.2]?=some a':=m3;rw[OB q,g2] at m3;obtain rfl:=Oy m3;rw[<-OB h.1];exact⟨m1,m2,a,g1,m4⟩
 ·rw[mu e1] at d;rw[mu e2]
  exact(d.tra (.atd (rU hx h)):DenO X false _ ob _)
 ·rw[kb e1,aC q] at d;rw[kb e2];exact d
theorem uv{is:List Nat}{os:List AO}(h:At g ix is os=true):is.length=os.length/\∀ (j:Nat) o,os[j]?=some o->∃ i o',is[j]?=some i/\g.own.get i=some o'/\qr ix o' o=true:=
 have a:All2 (λ i o=>∃ o',g.own.get i=some o'/\qr ix o' o=true) is os:=l0 (λ i o h=>uh h (λ o' e q=>⟨o',e,q⟩) nof) h
 ⟨a.length,λ j o e=>(a.of_at e).elim λ i q=>q.2.elim λ o' z=>⟨i,o',⟨q.1,z.1,z.2⟩⟩⟩
theorem Gq{d:Desc}(h:okD d=true):d.OK:=by
 cases d with
 |
  int n=>
  unfold okD bY dW at h;rw[OA] at h;exact⟨of_decide_eq_true h.1,of_decide_eq_true h.2⟩
 |
  str b s m a=>
  obtain⟨⟨b',s',m',a'⟩,hm,q⟩:=T9.mp h;simp only[OA] at q;obtain⟨⟨⟨q1,q2⟩,q3⟩,q4⟩:=q;rw[aC q1,OB q2,OB q3,OB q4];exact hm
 | _=>trivial
set_option tactic.hygienic true in
theorem Gl(H:St X V g s){K:Addr->Obj->Prop}(hK:∀ (i:Nat) a ob,g.live i->V.ρ[i]?=some a->s.heap.get? a=some ob->K a ob)(h:Ct g x=true){v:Value}(dv:DenV V x v):∃ t th d,v=.ref t/\OpdAt X K d t th:=by
 unfold Ct at h;split at h
 ·rename_i t0
  simp only[OA] at h;obtain⟨⟨h1,h2⟩,h3⟩:=h;generalize hd:(jn g t0).1=d at *
  generalize hi:(jn g t0).2=ix at *
  obtain⟨hl,hat⟩:=uv h3;have hown:∀ (j k:Nat),ix[j]?=some k->∃ a ob o',V.ρ[k]?=some a/\s.heap.get? a=some ob/\g.own.get k=some o'/\o'≠.dead/\DenO X false V ob o':=λ j k e=>by
   have hj:j<(aZ d 0).length:=by rw[<-hl];exact(OJ.mp e).1
   obtain⟨i,o',e1,e2,e3⟩:=hat j _ (PT hj);rw[e] at e1;cases e1
   have nd:o'≠.dead:=by rintro rfl;exact nof e3
   obtain⟨a,ob,x1,x2,x3⟩:=H.own k o' e2 nd;exact⟨a,ob,o',x1,x2,e2,nd,x3⟩
  have hx:Hi V ix (ix.map λ k=>(V.ρ[k]?).getD 0):=λ j k e=>by
   obtain⟨a,_,_,x1,_⟩:=hown j k e;refine⟨a,?_,x1⟩;rw[Qj,e];show some ((V.ρ[k]?).getD 0)=_;rw[x1];rfl
  have hlen:2<=ix.length:=by rw[hl];cases d<;>exact(by show 2<=_;simp [aZ])
  obtain⟨a0,f0,g0⟩:=hx 0 _ (PT (show 0<ix.length by omega))
  obtain⟨a1,f1,g1⟩:=hx 1 _ (PT (show 1<ix.length by omega))
  have h0:ix[0]'(by omega)=t0:=by
   have:=OB h2;cases ix with
   | nil=>exact absurd hlen (by decide)
   | cons a r=>exact this
  rw[h0] at g0;cases dv with
  | own q=>
  rw[g0] at q;cases q
  refine⟨_,a1,d,rfl,Gq h1,_,f0,f1,by rw[Pa,hl],λ j o ej=>?_⟩
  obtain⟨i,o',e1,e2,e3⟩:=hat j o ej;obtain⟨a,ob,o2,x1,x2,x3,x4,x5⟩:=hown j i e1;rw[e2] at x3;cases x3
  refine⟨a,ob,?_,hK i a ob ⟨o',e2,x4⟩ x1 x2,rS hx e3 x5⟩;rw[Qj,e1];show some ((V.ρ[i]?).getD 0)=_;rw[x1];rfl
 ·cases h
theorem St.addF(H:St X V σ s){a:Addr}(hk:V.K a ob)(hd:DenO X true V ob o)(hf:FzOK X V a o):St X ⟨V.ρ,V.φ++[a],V.K,V.ds⟩ ⟨σ.own,σ.n,⟨σ.frz.l++[o],σ.frz.nd,σ.frz.facts⟩⟩ s/\V.Le ⟨V.ρ,V.φ++[a],V.K,V.ds⟩:=by
 have hle:V.Le ⟨V.ρ,V.φ++[a],V.K,V.ds⟩:=⟨id,λ {i b} e=>by
  show(V.φ++[a])[i]?=some b;rw[OT (OJ.mp e).1];exact e,id,id⟩
 refine⟨⟨H.lenO,?_,H.top,H.big,λ i o e nd=>?_,H.nodup,H.nb,H.nout,H.stays,λ j o' e=>?_,H.soft,λ i c d b e x=>?_,H.gens,H.os,H.lenD,H.base,H.hi,H.low,H.dsok,H.facts⟩,hle⟩
 ·show(V.φ++[a]).length=(σ.frz.l++[o]).length;rw[OW,OW,H.lenF];rfl
 ·obtain⟨b,ob',x,y,z⟩:=H.own i o e nd;exact⟨b,ob',x,y,z.mono hle⟩
 ·have e:(σ.frz.l++[o])[j]?=some o':=e;rcases Up j σ.frz.l.length with q|q
  ·rw[OT q] at e;obtain⟨b,ob',x,y,z,w⟩:=H.frz j o' e;exact⟨b,ob',hle.φ x,y,z.mono hle,w.mono hle⟩
  ·rw[OL q] at e;have hj:j-σ.frz.l.length=0:=by
    apply Nat.eq_zero_of_not_pos;intro q2;rw[List.getElem?_eq_none (show[o].length<=j-σ.frz.l.length from q2)] at e;cases e
   rw[hj] at e;cases e
   refine⟨a,ob,?_,hk,hd.mono hle,hf.mono hle⟩;show(V.φ++[a])[j]?=_;rw[show j=V.φ.length by rw[H.lenF];omega,OL (OR _),Qm];rfl
 ·obtain⟨ob2,vs,h1,h2,h3,h4⟩:=H.exc i c d b e x;exact⟨ob2,vs,h1,h2,h3,h4⟩
theorem FA(T:TopC X K cfg0 glb)(hF:FnB K glb 133 gl tyB lY)(hW:FnB K glb 1089 fJ woB jD){d:Nat}{as:List AV}{vs:List Value}{t:R}(ht:t=woF d as σ)(da:All2 (DenV V) as vs)(hA:AOK X V σ A d 2)(H:St X V σ s)(h:t.Sat Φ):d7 (Mo X) A (.call (.ref 1089) ⟨vs,[]⟩) (PR X V σ Φ) s:=by
 subst ht;exact Kd T hF hW da hA H h
noncomputable def sU(d:Nat)(as:List AV)(g:Sg):R:=match as,P5 d 3 with
 | [],true=>app g.frz.l [.wld 49] λ l=>val (.frz g.frz.l.length) ⟨g.own,g.n,⟨l,g.frz.nd,g.frz.facts⟩⟩
 | _,_=>.stuck 184
set_option tactic.hygienic true in
theorem xy(T:∀ out h0,TopC (X.into out h0) K cfg0 glb)(hF:FnB K glb 133 gl tyB lY)(hW:FnB K glb 1089 fJ woB jD):CN X 1089 sU:=by
 intro d as vs σ Φ V s A da hA H h;unfold sU at h;split at h
 ·rename_i hd3
  have hd3:=OE hd3;rw[dQ] at h;cases da
  have hh:=y9 H;obtain⟨t,ht⟩:∃ t,t=woF 3 [] s0:=⟨_,rfl⟩;have hw:chk xC t=true:=by rw[ht];exact Bz
  have hA2:AOK (X.into (X.out++dq V σ) s.heap) ⟨[],[],inK X V σ s [],[]⟩ s0 A 3 2:=hA.into H (by omega) hd3 (by decide)
  refine cX (FA (T (X.out++dq V σ) s.heap) hF hW ht .nil hA2 (H.into hh) (lP hw)) λ r s' q=>?_;obtain⟨v,rfl,V₂',σ₂',av,hle,_,H',dv,q2⟩:=iZ q λ i g z=>by cases z
  have q2:xC (.v av,σ₂')=true:=q2;unfold xC at q2;split at q2
  ·rename_i l eav
   split at q2
   ·rename_i xs e1
    rw[OA] at q2;obtain⟨hl,hall⟩:=q2;have hl:=OB hl;cases eav
    cases dv with
    | own hL=>
    rename_i aL
    obtain⟨aL',oL,n1,n2,ws,n,rfl,n4⟩:=H'.own l _ e1 nofun
    rw[hL] at n1;cases n1
    obtain⟨B1,B2,B3,B4⟩:=H.back hh hle H' (nw:=[]) (nwA:=[]) (σ':=σ) ⟨.nil,λ J h=>(by cases h),PJ,rfl,H.big,rfl,λ J J J=>rfl,H.top,λ j i e=>(by cases e),λ k j e=>(by cases e)⟩
    obtain⟨C1,C2⟩:=B1.freeze (λ a=>∃ j,σ₂'.live j/\V₂'.ρ[j]?=some a) λ a ⟨j,l1,l2⟩=>B4 j a l1 (Pk _) nofun l2
    have hop:∀ v∈ws.toList,∃ t th d,v=Value.ref t/\OpdAt X (λ b o=>V.K b o\/((∃ j,σ₂'.live j/\V₂'.ρ[j]?=some b)/\s'.heap.get? b=some o)) d t th:=λ v hv=>by
     obtain⟨j,hj⟩:=PZ hv;obtain⟨x,hx,dx⟩:=n4.of_at hj;exact Gl (X:=X.into (X.out++dq V σ) s.heap) H' (λ i a ob l1 l2 l3=>.inr ⟨⟨i,l1,l2⟩,l3⟩) (OP.mp hall x (O9 hx)) dx
    have hsz:ws.size=49:=by rw[<-OH,<-n4.length];exact hl
    obtain⟨D1,D2⟩:=C1.addF (a:=aL) (ob:=bT ws n) (o:=.wld 49) (.inr ⟨⟨l,⟨_,e1,nofun⟩,hL⟩,n2⟩) ⟨ws,n,rfl,hsz⟩ ⟨ws,n,.inr ⟨⟨l,⟨_,e1,nofun⟩,hL⟩,n2⟩,hsz,hop⟩
    refine⟨_,⟨σ.own,σ.n,⟨σ.frz.l++[AO.wld 49],σ.frz.nd,σ.frz.facts⟩⟩,.frz σ.frz.l.length,(B3.trans C2).trans D2,⟨λ i es e=>⟨es,e⟩,λ i c d e=>e⟩,D1,.frz ?_,h⟩;show(V.φ++[aL])[σ.frz.l.length]?=_;rw[<-H.lenF,OL (OR _),Qm];rfl
   ·cases q2
  ·cases q2
 ·exact h.elim
end
end
end
section
noncomputable section
universe u
open PySem PySem.W PySem.Calls PyProof.Rows
noncomputable def conL:List (Nat×(Nat->List AV->Sg->Option R)):=[(1084,lim 40 sf),(1120,lim 20 gu),(1094,lim 20 nu),(387,lim 20 nB),(394,lim 20 wq),(1113,lim 20 gw),(97,lim 20 gr),(1077,lim 3 Ed),(1130,lim 3 Ec)]
noncomputable def rL:Run:=run (o7 conL) 1500
noncomputable def laB:List Stmt:=vR (ig mr 96)
noncomputable def nJ:Scope:=LD (ig mr 96)
noncomputable def Ah(d:Nat)(fv:AV)(avs:List AV)(g:Sg):R:=match fv with
 | .glob 1089=>sU d avs g
 | _=>.stuck 185
noncomputable def Nb(c:FC)(σ:Sg):R:=onV (zi [λ σ=>rL (.e c (cEx nJ (xj (jH (Fc (ig laB 0))) 0))) σ,λ σ=>onV (rL (.e c (cEx nJ (pFn (xj (jH (Fc (ig laB 0))) 1)))) σ) λ fv g=>zi [] g λ avs g=>Ah c.dep fv avs g] σ λ vs g=>fj g (.tup vs)) λ v g=>Bl (o7 conL) c (.tup (Fo nJ (pTs (ig laB 0)))) v g done
noncomputable def laF:Nat->List AV->Sg->R:=zO ze λ c=>B8 (Nb c) λ σ=>rL (.ss c (It nJ (laB.drop 1))) σ
noncomputable def Ky(r:Out×Sg):Bool:=match Gg r.1 with
 | none=>false
 | some x=>Fh x
noncomputable def sLaw:Sg:=⟨.nil,0,⟨[.scr],0,[]⟩⟩
theorem Dc:chk Ky (laF 0 [.frz 0] sLaw)=true:=by kernel_rfl
section
variable {X:Cx} {cfg:Cfg} {ih:Run} {c:FC} {k:CC} {n:Nat} {env:Env} {pos:Pos} {σ:Sg} {Φ:Out×Sg->Prop} {V:Va} {s:Shared} {A:Around} {K:Frag} {sc:Scope}
theorem yP:∃ ts y p z q pos e1 id q2 pos2 rest,laB=.Assign [.Tuple ts y p] (.Tuple [e1,.Call (.Name id q2) [] [] pos2] z q) pos::rest/\ts.any (oO ⟨nJ,glb⟩)=true/\(bc (tgN ⟨nJ,glb⟩) ts).isSome=true/\(cE ⟨nJ,glb⟩ 45 e1).isSome=true/\(cE ⟨nJ,glb⟩ 45 (.Name id q2)).isSome=true /\
 (cE ⟨nJ,glb⟩ 45 (.Call (.Name id q2) [] [] pos2)).isSome=true/\(bc (cE ⟨nJ,glb⟩ 45) [e1,.Call (.Name id q2) [] [] pos2]).isSome=true/\(bc (cS ⟨nJ,glb⟩ 20) rest).isSome=true:=
 ⟨_,_,_,_,_,_,_,_,_,_,_,rfl,by kernel_rfl,by kernel_rfl,by kernel_rfl,by kernel_rfl,by kernel_rfl,by kernel_rfl,by kernel_rfl⟩
theorem Li(T:∀ out h0,TopC (X.into out h0) K cfg0 glb)(T3:TopC X K (o7 conL) glb)(hF:FnB K glb 133 gl tyB lY)(hW:FnB K glb 1089 fJ woB jD)(hk:cO K 1089=true)(hL:FnB K glb 1135 ze laB nJ):CN X 1135 laF:=by
 have S:=nS T3 (bM conL) 1500;have Z:=tR T3 (bM conL) 1500;intro d as vs σ Φ V s A da hA H h;unfold laF at h;refine CN.fn T3.T.inB T3.lim hL (λ {A c env}=>?_) da hA H h;obtain⟨ts,y,p,z,q,pos,e1,id,q2,pos2,rest,hb,hc,ht,g1,g2,g3,g4,g5⟩:=yP;obtain⟨xs,hxs⟩:=Pe.mp g4;unfold Nb;rw[hb];intro σ' Φ' V' s' hv' hA' H' h';refine SN.cons (f1:=λ σ=>_) (TN.asg Z (λ V hv=>⟨rfl,jY hv hxs hc⟩) (show(bc (tgN ⟨nJ,glb⟩) ts).map Tg.tup=some (.tup (Fo nJ ts)) by rw[nv ht];rfl) (EN.tup (.cons ⟨⟨45,_,cU g1⟩,EN.plain S.E (cU g1) rfl⟩ (.cons ⟨⟨45,_,cU g3⟩,EN.call ⟨id,q2,rfl⟩ (EN.plain S.E (cU g2) rfl) .nil λ {V σ s Φ fv vf avs vs} hA H df da h=>?_⟩ .nil)))) (SN.plain S.S (js g5) rfl) hv' hA' H' h'
 unfold Ah at h;split at h
 ·cases df
  exact⟨lD (T3.T.inB.keeps H.bs) hk,fg (cX (xy T hF hW da (hA.up (by omega)) H h) λ r s' z=>(by rcases r with e|(v|_|_|_)<;>exact z))⟩
 ·exact h.elim
end
end
end
end Internal
set_option tactic.hygienic true
namespace Hd
section
open PySem PySem.W PySem.Calls PyProof.Rows
variable {M N n:Nat} {p' pos:Pos} {r s s':Shared} {w:World}
noncomputable abbrev pw:=PySem.Challenge.pw_on0275_01
noncomputable def vN:Value:=.none
noncomputable def sA(x:String)(t:Nat):Value:=.str (Rm x) t
noncomputable def iA(x:Int):Value:=.int x 0
noncomputable def jA(x:Int)(t:Nat):Value:=.int x t
noncomputable def rA(a:Nat):Value:=.ref a
noncomputable def tA(l:List Value):Obj:=⟨.type "tuple",none,.seq l.toArray 0,#[]⟩
noncomputable def tN:Obj:=tA []
noncomputable def tkL:List String->Nat->List Value
 | [],_=>[]
 | x::r,t=>sA x t::tkL r (t+1)
noncomputable def tS(t:Nat)(l:List String):Obj:=tA (tkL l t)
noncomputable def fA(l:List Value):Obj:=⟨.none,none,.fields l.toArray,#[]⟩
noncomputable def fN:Obj:=fA []
noncomputable def lA(l:List (Nat×Nat×Nat)):Obj:=fA (l.flatMap λ(a,b,c)=>[iA a,iA b,rA c])
noncomputable def cA(n q:String)(t ln na fl:Nat)(b:Bool)(r1 r2:Nat)(x y z:Value)(tl:Nat):Obj:=
 ⟨.type "code",none,.fields [sA n t,sA q (t+1),sA "/claim/cut.py" (t+2),iA ln,iA na,iA 0,iA 0,iA fl,rA r1,.bool b,iA 181,rA r2,vN,x,y,z,iA tl,iA ln,sA "/claim/cut.py" (tl+1)].toArray,#[]⟩
noncomputable def frA(l:List (Option Value)):Obj:=⟨.type "frame",none,.plain,l.toArray⟩
noncomputable def gA(c:String)(l:List Value):Obj:=⟨.type c,none,.fields l.toArray,#[]⟩
noncomputable def enA(P:Params)(l:List (String×Nat×Value)):Array DictEntry:=(l.map λ(x,t,v)=>⟨PyData.keyHash P (Rm x),sA x t,v⟩).toArray
noncomputable def dA(P:Params)(l:List (String×Nat×Value))(n:Nat):Obj:=⟨.type "dict",none,.dict (enA P l) n,#[]⟩
noncomputable def eA(P:Params)(l:List (String×Nat×Value))(n:Nat):Obj:=⟨.none,none,.dict (enA P l) n,#[]⟩
noncomputable def kA(nm:String)(bs mro:List Value)(ns:Nat)(sub:List Value)(sl:List (Option Value)):Obj:=
 ⟨.type "type",none,.cls { name:=Rm nm,bases:=bs,mro:=mro,ns:=ns,qualname:=Rm nm,subclasses:=sub },sl.toArray⟩
noncomputable def fdA(st:Stmt)(q:String):FuncData:=match st with
 | .FunctionDef n a b _ _ _ sc _ _ _=>{ name:=n,qualname:=Rm q,params:=a,body:=.stmts b,scope:=sc,globals:=0,closure:=[],defaults:=.none,kwdefaults:=.none }
 | _=>Se
noncomputable def pA(st:Stmt)(q:String):Obj:=⟨.none,none,.func (fdA st q),#[]⟩
noncomputable def qA(st:Stmt)(q:String)(df md cd:Value):Obj:=⟨.type "function",none,.func { fdA st q with globals:=3,defaults:=df,pyModule:=md,code:=cd },#[]⟩
noncomputable def KO:List Stmt->Nat->Stmt
 | [],_=>.Pass Se
 | x::_,0=>x
 | _::r,n+1=>KO r n
noncomputable def aS(k:Nat):Stmt:=KO pw.main.body k
noncomputable def bS(k j:Nat):Stmt:=match aS k with
 | .ClassDef _ _ _ b _ _ _ _ _ _ _=>KO b j
 | _=>.Pass Se
noncomputable def cB(n:Str)(q:String)(t ln na b:Nat)(x y z:Value)(tl:Nat):Obj:=
 ⟨.type "code",none,.fields [.str n t,sA q (t+1),sA "/claim/cut.py" (t+2),iA ln,iA na,iA 0,iA 0,iA 3,rA b,.bool true,iA 181,rA (b+1),vN,x,y,z,iA tl,iA ln,sA "/claim/cut.py" (tl+1)].toArray,#[]⟩
noncomputable def F5(st:Stmt)(q:String)(b t:Nat)(df md:Value):List Obj:=match st with
 | .FunctionDef n a _ _ _ _ _ _ _ p=>[tN,fN,pA st q,cB n q t p.line (a.posonlyargs.length+a.args.length) b vN vN (rA (b+2)) (t+3),qA st q df md (rA (b+3))]
 | _=>[]
noncomputable def F7(st:Stmt)(q:String)(b t:Nat)(vs:List String)(df md:Value):List Obj:=match st with
 | .FunctionDef n a _ _ _ _ _ _ _ p=>[tN,fN,tS (t+3) vs,tN,pA st q,cB n q t p.line (a.posonlyargs.length+a.args.length) b (rA (b+2)) (rA (b+3)) (rA (b+4)) (t+3+vs.length),qA st q df md (rA (b+5))]
 | _=>[]
noncomputable def Lu:List Obj->Nat->BT->BT
 | [],_,t=>t
 | o::r,i,t=>Lu r (i+1) (t.ins i o)
noncomputable def jM:List (List Obj)->Nat->BT->BT
 | [],_,t=>t
 | l::r,i,t=>jM r (i+l.length) (Lu l i t)
noncomputable def kS:List (Nat×Obj)->BT->BT
 | [],t=>t
 | (i,o)::r,t=>kS r (t.ins i o)
noncomputable def mq0:Value:=sA "postcore.machine" 1031
noncomputable def mq1:Value:=sA "postcore.objects" 310
noncomputable def mq2:Value:=sA "postcore.stacks" 691
noncomputable def mq3:Value:=sA "postcore.mathops" 847
noncomputable def mq4:Value:=sA "law_on0275_01" 1609
noncomputable def mq5:Value:=sA "postcore.base" 194
noncomputable def mq6:Value:=sA "postcore.scanner" 975
noncomputable def mgL:List (String×Nat×Value):=[("__doc__",166,vN),("__package__",167,vN),("__loader__",168,.builtin "__main__.__loader__#opaque"),("__spec__",169,vN),("__annotations__",170,rA 6),("__builtins__",171,rA 4),("__file__",173,sA "/claim/cut.py" 172),("__cached__",174,vN),("_wall",193,rA 21),("GRAIN",197,jA 1000000 196),("MOST_INT",203,jA 2147483647 202),("PostError",232,rA 39),("PsError",248,rA 52),("Quit",264,rA 64),("BadText",280,rA 76),("octets_of",286,rA 83),("WORD_SIZE",292,jA 4294967296 291),("signed_word",300,rA 90),("shifted",309,rA 97),("RUN_ONLY",313,jA 1 312),("READ_ONLY",315,jA 2 314),("UNLIMITED",317,jA 3 316),("Thing",352,rA 115),("Text",387,rA 136),("Row",422,rA 157),("DictBody",474,rA 192),("Span",507,rA 213),("integer",514,rA 224),("real",521,rA 231),("boolean",528,rA 238),("name",536,rA 246),("operator_thing",543,rA 253),("mark",549,rA 260),("null",555,rA 267),("of_packed",563,rA 275),("of_dict",570,rA 282),("is_number",577,rA 289),("in_millionths",584,rA 296),("is_in_array",591,rA 303),("access_of",598,rA 310),("can_read",605,rA 317),("can_run",612,rA 324),("check_part",621,rA 331),("part_of",630,rA 338),("with_span",638,rA 345),("is_text_span",645,rA 352),("item",653,rA 359),("octets_of_span",660,rA 366),("thing_octets",667,rA 373),("key_of",674,rA 380),("equal_things",682,rA 387),("less_than",690,rA 394),("Stack",816,rA 496),("need",824,rA 507),("stack_pop_kind",832,rA 514),("pop_any",839,rA 521),("pop_integer",846,rA 528),("mathops_integers",856,rA 535),("mathops_things",864,rA 542),("op_eq",873,rA 549),("op_ne",882,rA 556),("op_lt",891,rA 563),("op_gt",900,rA 570),("op_ge",909,rA 577),("op_le",918,rA 584),("mathops_alike",927,rA 591),("op_and",937,rA 598),("op_or",947,rA 605),("op_xor",957,rA 612),("op_not",965,rA 619),("op_bitshift",974,rA 626),("OctetSource",1030,rA 666),("FIRST_SEED",1034,jA 1 1033),("Frame",1093,rA 715),("ProcFrame",1145,rA 757),("SourceFrame",1196,rA 798),("ThingFrame",1244,rA 838),("machine_lookup",1253,rA 847),("MachineCore",1534,rA 1042),("MOST_COST",1540,jA 16777216 1539),("Limits",1608,rA 1064),("_law_words",1622,rA 1069),("_law_integers",1634,rA 1070),("_law_reals",1644,rA 1071),("_law_bits",1665,rA 1072),("_law_deck",1671,rA 1077),("_law_draw",1679,rA 1084),("_law_world",1685,rA 1089),("_law_truth",1691,rA 1094),("_law_signed",1698,rA 1101),("_law_both",1704,rA 1106),("_law_counted",1718,rA 1113),("_law_operand",1729,rA 1120),("_law_called",1735,rA 1125),("_law_deed_right",1741,rA 1130),("law",1747,rA 1135)]
noncomputable def ltL:List (Nat×Nat×Nat):=[(1,0,20),(7,0,27),(11,0,48),(13,0,60),(15,0,72),(17,0,82),(25,0,89),(28,0,96),(37,0,103),(44,0,125),(51,0,146),(58,0,167),(73,0,202),(79,0,223),(81,0,230),(83,0,237),(85,0,245),(87,0,252),(89,0,259),(91,0,266),(93,0,274),(95,0,281),(97,0,288),(99,0,295),(105,0,302),(107,0,309),(109,0,316),(111,0,323),(113,0,330),(116,0,337),(119,0,344),(121,0,351),(123,0,358),(128,0,365),(130,0,372),(138,0,379),(152,0,386),(156,0,393),(163,0,400),(219,0,506),(222,0,513),(226,0,520),(228,0,527),(231,0,534),(235,0,541),(239,0,548),(242,0,555),(245,0,562),(248,0,569),(251,0,576),(254,0,583),(257,0,590),(262,0,597),(265,0,604),(268,0,611),(271,0,618),(277,0,625),(281,0,632),(301,0,676),(317,0,725),(338,0,765),(359,0,806),(374,0,846),(379,0,853),(571,0,1052),(593,0,1076),(598,0,1083),(603,0,1088),(626,0,1093),(639,0,1100),(641,0,1105),(646,0,1112),(660,0,1119),(666,0,1124),(673,0,1129),(694,0,1134)]
noncomputable def mgA(P:Params)(nm:Value)(k n:Nat):Obj:=⟨.type "dict",none,.dict (enA P (("__name__",165,nm)::mgL.take k)) n,#[]⟩
noncomputable def L0(P:Params):List (List Obj):=[
 [tN,fN,cA "<module>" "<module>" 182 1 0 0 false 11 12 vN vN vN 185,frA [some (rA 13),some (rA 3),some (rA 3),none,some (sA "__main__" 164),none,some (rA 0)]]]
noncomputable def T0(P:Params):BT:=jM (L0 P) 11 (Lu (QL P).objs.toList 0 .nil)
noncomputable def L1(P:Params):List (List Obj):=[
 F7 (aS 0) "_wall" 15 187 ["k"] vN (sA "__main__" 164),
 [tA [.type "Exception"],gA "builtin_function_or_method" [.builtin "type.__prepare__",.type "type"],dA P [("__module__",211,sA "postcore.base" 194),("__qualname__",213,sA "PostError" 212),("__firstlineno__",215,jA 7 214),("__init__",223,rA 36),("__static_attributes__",225,rA 37)] 5,tN,lA [(9,4,35)],cA "PostError" "PostError" 206 7 0 0 false 25 26 vN vN vN 209,frA [some (rA 27),some (rA 3),some (rA 24),none,some mq5,none,some (rA 0)],tA [vN]],
 F7 (bS 4 0) "PostError.__init__" 30 216 ["self","told"] (rA 29) mq5,
 [tS 224 ["told"],dA P [("__module__",211,sA "postcore.base" 194),("__firstlineno__",215,jA 7 214),("__init__",223,rA 36),("__static_attributes__",225,rA 37),("__weakref__",227,rA 40),("__doc__",228,vN)] 3,kA "PostError" [.type "Exception"] [rA 39,.type "Exception",.type "BaseException",.type "object"] 38 [rA 52,rA 64,rA 76] [some (rA 22),none,some (sA "PostError" 204),some (sA "PostError" 212),some (.builtin "Exception.__new__"),some (.bool true)],gA "getset_descriptor" [sA "__weakref__" 226,rA 39,.builtin "ExceptionGroup.__weakref__",vN],gA "super" [rA 39,rA 39,rA 39],gA "builtin_function_or_method" [.builtin "object.__init_subclass__",rA 39],tA [rA 39],gA "builtin_function_or_method" [.builtin "type.__prepare__",.type "type"],dA P [("__module__",240,sA "postcore.base" 194),("__qualname__",242,sA "PsError" 241),("__firstlineno__",244,jA 11 243),("__static_attributes__",245,rA 50)] 4,tN,fN,cA "PsError" "PsError" 235 11 0 0 false 46 47 vN vN vN 238,frA [some (rA 48),some (rA 3),some (rA 45),none,some mq5,none,some (rA 0)],tN,dA P [("__module__",240,sA "postcore.base" 194),("__firstlineno__",244,jA 11 243),("__static_attributes__",245,rA 50),("__doc__",246,vN)] 2,kA "PsError" [rA 39] [rA 52,rA 39,.type "Exception",.type "BaseException",.type "object"] 51 [] [some (rA 43),none,some (sA "PsError" 233),some (sA "PsError" 241),some (.builtin "Exception.__new__"),some (.bool true)],gA "super" [rA 52,rA 52,rA 52],gA "builtin_function_or_method" [.builtin "object.__init_subclass__",rA 52],tA [rA 39],gA "builtin_function_or_method" [.builtin "type.__prepare__",.type "type"],dA P [("__module__",256,sA "postcore.base" 194),("__qualname__",258,sA "Quit" 257),("__firstlineno__",260,jA 13 259),("__static_attributes__",261,rA 62)] 4,tN,fN,cA "Quit" "Quit" 251 13 0 0 false 58 59 vN vN vN 254,frA [some (rA 60),some (rA 3),some (rA 57),none,some mq5,none,some (rA 0)],tN,dA P [("__module__",256,sA "postcore.base" 194),("__firstlineno__",260,jA 13 259),("__static_attributes__",261,rA 62),("__doc__",262,vN)] 2,kA "Quit" [rA 39] [rA 64,rA 39,.type "Exception",.type "BaseException",.type "object"] 63 [] [some (rA 55),none,some (sA "Quit" 249),some (sA "Quit" 257),some (.builtin "Exception.__new__"),some (.bool true)],gA "super" [rA 64,rA 64,rA 64],gA "builtin_function_or_method" [.builtin "object.__init_subclass__",rA 64],tA [rA 39],gA "builtin_function_or_method" [.builtin "type.__prepare__",.type "type"],dA P [("__module__",272,sA "postcore.base" 194),("__qualname__",274,sA "BadText" 273),("__firstlineno__",276,jA 15 275),("__static_attributes__",277,rA 74)] 4,tN,fN,cA "BadText" "BadText" 267 15 0 0 false 70 71 vN vN vN 270,frA [some (rA 72),some (rA 3),some (rA 69),none,some mq5,none,some (rA 0)],tN,dA P [("__module__",272,sA "postcore.base" 194),("__firstlineno__",276,jA 15 275),("__static_attributes__",277,rA 74),("__doc__",278,vN)] 2,kA "BadText" [rA 39] [rA 76,rA 39,.type "Exception",.type "BaseException",.type "object"] 75 [] [some (rA 67),none,some (sA "BadText" 265),some (sA "BadText" 273),some (.builtin "Exception.__new__"),some (.bool true)],gA "super" [rA 76,rA 76,rA 76],gA "builtin_function_or_method" [.builtin "object.__init_subclass__",rA 76]],
 F5 (aS 8) "octets_of" 79 281 vN mq5,
 F7 (aS 11) "signed_word" 84 293 ["number","found"] vN (sA "postcore.numbers" 287)]
noncomputable def T1(P:Params):BT:=kS [(2,eA P [("type.__subclasses__.Exception.0",229,iA 39),("type.__subclasses__.Exception.n",230,iA 1)] 2),(3,mgA P (sA "postcore.numbers" 287) 18 19),(12,lA (ltL.take 7))] (jM (L1 P) 15 (T0 P))
noncomputable def L2(P:Params):List (List Obj):=[
 F7 (aS 12) "shifted" 91 301 ["number","by","bits"] vN (sA "postcore.numbers" 287),
 [tN,gA "builtin_function_or_method" [.builtin "type.__prepare__",.type "type"],dA P [("__module__",325,sA "postcore.objects" 310),("__qualname__",327,sA "Thing" 326),("__firstlineno__",329,jA 37 328),("__init__",340,rA 112),("__static_attributes__",345,rA 113)] 5,tN,lA [(39,4,111)],cA "Thing" "Thing" 320 37 0 0 false 101 102 vN vN vN 323,frA [some (rA 103),some (rA 3),some (rA 100),none,some mq1,none,some (rA 0)],tA [.bool false,jA 3 316]],
 F7 (bS 17 0) "Thing.__init__" 106 330 ["self","kind","value","is_exec","access"] (rA 105) mq1,
 [tS 341 ["access","is_exec","kind","value"],dA P [("__module__",325,sA "postcore.objects" 310),("__firstlineno__",329,jA 37 328),("__init__",340,rA 112),("__static_attributes__",345,rA 113),("__dict__",347,rA 116),("__weakref__",349,rA 117),("__doc__",350,vN)] 4,kA "Thing" [.type "object"] [rA 115,.type "object"] 114 [] [none,none,some (sA "Thing" 318),some (sA "Thing" 326),some (.builtin "object.__new__"),some (.bool true)],gA "getset_descriptor" [sA "__dict__" 346,rA 115,.builtin "function.__dict__",.builtin "function.__dict__#set"],gA "getset_descriptor" [sA "__weakref__" 348,rA 115,.builtin "ExceptionGroup.__weakref__",vN],gA "super" [rA 115,rA 115,rA 115],gA "builtin_function_or_method" [.builtin "object.__init_subclass__",rA 115],tN,gA "builtin_function_or_method" [.builtin "type.__prepare__",.type "type"],dA P [("__module__",360,sA "postcore.objects" 310),("__qualname__",362,sA "Text" 361),("__firstlineno__",364,jA 44 363),("__init__",375,rA 133),("__static_attributes__",380,rA 134)] 5,tN,lA [(46,4,132)],cA "Text" "Text" 355 44 0 0 false 123 124 vN vN vN 358,frA [some (rA 125),some (rA 3),some (rA 122),none,some mq1,none,some (rA 0)]],
 F7 (bS 18 0) "Text.__init__" 127 365 ["self","number","octets","is_global","level"] vN mq1,
 [tS 376 ["is_global","level","number","octets"],dA P [("__module__",360,sA "postcore.objects" 310),("__firstlineno__",364,jA 44 363),("__init__",375,rA 133),("__static_attributes__",380,rA 134),("__dict__",382,rA 137),("__weakref__",384,rA 138),("__doc__",385,vN)] 4,kA "Text" [.type "object"] [rA 136,.type "object"] 135 [] [none,none,some (sA "Text" 353),some (sA "Text" 361),some (.builtin "object.__new__"),some (.bool true)],gA "getset_descriptor" [sA "__dict__" 381,rA 136,.builtin "function.__dict__",.builtin "function.__dict__#set"],gA "getset_descriptor" [sA "__weakref__" 383,rA 136,.builtin "ExceptionGroup.__weakref__",vN],gA "super" [rA 136,rA 136,rA 136],gA "builtin_function_or_method" [.builtin "object.__init_subclass__",rA 136],tN,gA "builtin_function_or_method" [.builtin "type.__prepare__",.type "type"],dA P [("__module__",395,sA "postcore.objects" 310),("__qualname__",397,sA "Row" 396),("__firstlineno__",399,jA 51 398),("__init__",410,rA 154),("__static_attributes__",415,rA 155)] 5,tN,lA [(53,4,153)],cA "Row" "Row" 390 51 0 0 false 144 145 vN vN vN 393,frA [some (rA 146),some (rA 3),some (rA 143),none,some mq1,none,some (rA 0)]],
 F7 (bS 19 0) "Row.__init__" 148 400 ["self","number","things","is_global","level"] vN mq1,
 [tS 411 ["is_global","level","number","things"],dA P [("__module__",395,sA "postcore.objects" 310),("__firstlineno__",399,jA 51 398),("__init__",410,rA 154),("__static_attributes__",415,rA 155),("__dict__",417,rA 158),("__weakref__",419,rA 159),("__doc__",420,vN)] 4,kA "Row" [.type "object"] [rA 157,.type "object"] 156 [] [none,none,some (sA "Row" 388),some (sA "Row" 396),some (.builtin "object.__new__"),some (.bool true)],gA "getset_descriptor" [sA "__dict__" 416,rA 157,.builtin "function.__dict__",.builtin "function.__dict__#set"],gA "getset_descriptor" [sA "__weakref__" 418,rA 157,.builtin "ExceptionGroup.__weakref__",vN],gA "super" [rA 157,rA 157,rA 157],gA "builtin_function_or_method" [.builtin "object.__init_subclass__",rA 157],tN,gA "builtin_function_or_method" [.builtin "type.__prepare__",.type "type"],dA P [("__module__",430,sA "postcore.objects" 310),("__qualname__",432,sA "DictBody" 431),("__firstlineno__",434,jA 58 433),("__init__",445,rA 175),("get",453,rA 182),("pairs",460,rA 189),("__static_attributes__",467,rA 190)] 7,tN,lA [(60,4,174),(68,4,181),(71,4,188)],cA "DictBody" "DictBody" 425 58 0 0 false 165 166 vN vN vN 428,frA [some (rA 167),some (rA 3),some (rA 164),none,some mq1,none,some (rA 0)]],
 F7 (bS 20 0) "DictBody.__init__" 169 435 ["self","number","most","is_global","level"] vN mq1,
 F7 (bS 20 1) "DictBody.get" 176 446 ["self","key"] vN mq1,
 F7 (bS 20 2) "DictBody.pairs" 183 454 ["self"] vN mq1,
 [tS 461 ["access","entries","is_global","level","most","number"],dA P [("__module__",430,sA "postcore.objects" 310),("__firstlineno__",434,jA 58 433),("__init__",445,rA 175),("get",453,rA 182),("pairs",460,rA 189),("__static_attributes__",467,rA 190),("__dict__",469,rA 193),("__weakref__",471,rA 194),("__doc__",472,vN)] 4,kA "DictBody" [.type "object"] [rA 192,.type "object"] 191 [] [none,none,some (sA "DictBody" 423),some (sA "DictBody" 431),some (.builtin "object.__new__"),some (.bool true)],gA "getset_descriptor" [sA "__dict__" 468,rA 192,.builtin "function.__dict__",.builtin "function.__dict__#set"],gA "getset_descriptor" [sA "__weakref__" 470,rA 192,.builtin "ExceptionGroup.__weakref__",vN],gA "super" [rA 192,rA 192,rA 192],gA "builtin_function_or_method" [.builtin "object.__init_subclass__",rA 192]]]
noncomputable def T2(P:Params):BT:=kS [(3,mgA P mq1 26 27),(12,lA (ltL.take 12))] (jM (L2 P) 91 (T1 P))
noncomputable def L3(P:Params):List (List Obj):=[
 [tN,gA "builtin_function_or_method" [.builtin "type.__prepare__",.type "type"],dA P [("__module__",482,sA "postcore.objects" 310),("__qualname__",484,sA "Span" 483),("__firstlineno__",486,jA 73 485),("__init__",496,rA 210),("__static_attributes__",500,rA 211)] 5,tN,lA [(75,4,209)],cA "Span" "Span" 477 73 0 0 false 200 201 vN vN vN 480,frA [some (rA 202),some (rA 3),some (rA 199),none,some mq1,none,some (rA 0)]],
 F7 (bS 21 0) "Span.__init__" 204 487 ["self","body","start","many"] vN mq1,
 [tS 497 ["body","many","start"],dA P [("__module__",482,sA "postcore.objects" 310),("__firstlineno__",486,jA 73 485),("__init__",496,rA 210),("__static_attributes__",500,rA 211),("__dict__",502,rA 214),("__weakref__",504,rA 215),("__doc__",505,vN)] 4,kA "Span" [.type "object"] [rA 213,.type "object"] 212 [] [none,none,some (sA "Span" 475),some (sA "Span" 483),some (.builtin "object.__new__"),some (.bool true)],gA "getset_descriptor" [sA "__dict__" 501,rA 213,.builtin "function.__dict__",.builtin "function.__dict__#set"],gA "getset_descriptor" [sA "__weakref__" 503,rA 213,.builtin "ExceptionGroup.__weakref__",vN],gA "super" [rA 213,rA 213,rA 213],gA "builtin_function_or_method" [.builtin "object.__init_subclass__",rA 213]],
 F7 (aS 22) "integer" 218 508 ["number"] vN mq1,
 F7 (aS 23) "real" 225 515 ["millionths"] vN mq1,
 F7 (aS 24) "boolean" 232 522 ["truth"] vN mq1,
 [tA [.bool false]],
 F7 (aS 25) "name" 240 529 ["octets","is_exec"] (rA 239) mq1,
 F7 (aS 26) "operator_thing" 247 537 ["octets"] vN mq1,
 F7 (aS 27) "mark" 254 544 [] vN mq1,
 F7 (aS 28) "null" 261 550 [] vN mq1,
 [tA [.bool false]],
 F7 (aS 29) "of_packed" 269 556 ["row","is_exec"] (rA 268) mq1,
 F7 (aS 30) "of_dict" 276 564 ["body"] vN mq1,
 F7 (aS 31) "is_number" 283 571 ["thing"] vN mq1,
 F7 (aS 32) "in_millionths" 290 578 ["thing"] vN mq1,
 F7 (aS 33) "is_in_array" 297 585 ["thing"] vN mq1,
 F7 (aS 34) "access_of" 304 592 ["thing"] vN mq1,
 F7 (aS 35) "can_read" 311 599 ["thing"] vN mq1,
 F7 (aS 36) "can_run" 318 606 ["thing"] vN mq1,
 F7 (aS 37) "check_part" 325 613 ["span","start","many"] vN mq1,
 F7 (aS 38) "part_of" 332 622 ["span","start","many"] vN mq1,
 F7 (aS 39) "with_span" 339 631 ["thing","span"] vN mq1,
 F7 (aS 40) "is_text_span" 346 639 ["span"] vN mq1,
 F7 (aS 41) "item" 353 646 ["span","at"] vN mq1,
 F7 (aS 42) "octets_of_span" 360 654 ["span"] vN mq1,
 F7 (aS 43) "thing_octets" 367 661 ["thing"] vN mq1,
 F7 (aS 44) "key_of" 374 668 ["thing"] vN mq1,
 F7 (aS 45) "equal_things" 381 675 ["one","other"] vN mq1,
 F7 (aS 46) "less_than" 388 683 ["one","other"] vN mq1]
noncomputable def T3(P:Params):BT:=kS [(3,mgA P mq2 52 53),(12,lA (ltL.take 38))] (jM (L3 P) 197 (T2 P))
noncomputable def L4(P:Params):List (List Obj):=[
 [tN,gA "builtin_function_or_method" [.builtin "type.__prepare__",.type "type"],dA P [("__module__",700,sA "postcore.stacks" 691),("__qualname__",702,sA "Stack" 701),("__firstlineno__",704,jA 163 703),("__init__",712,rA 408),("many",720,rA 416),("push",728,rA 423),("push_all",736,rA 430),("pop",743,rA 437),("at",751,rA 444),("top",759,rA 451),("take",767,rA 458),("cut",775,rA 465),("rolled",784,rA 472),("to_mark",791,rA 479),("snapshot",798,rA 486),("put_back",806,rA 493),("__static_attributes__",809,rA 494)] 17,tN,lA [(165,4,407),(170,4,414),(173,4,422),(178,4,429),(183,4,436),(188,4,443),(195,4,450),(202,4,457),(205,4,464),(208,4,471),(211,4,478),(214,4,485),(217,4,492)],cA "Stack" "Stack" 695 163 0 0 false 398 399 vN vN vN 698,frA [some (rA 400),some (rA 3),some (rA 397),none,some mq2,none,some (rA 0)]],
 F7 (bS 48 0) "Stack.__init__" 402 705 ["self","most"] vN mq2,
 [tN,fN,tS 716 ["self"],tN,pA (bS 48 1) "Stack.many",cA "many" "Stack.many" 713 169 1 3 true 409 410 (rA 411) (rA 412) (rA 413) 717,qA (bS 48 1) "Stack.many" vN mq2 (rA 414),gA "property" [rA 415,vN,vN,vN,sA "many" 720,.bool false]],
 F7 (bS 48 2) "Stack.push" 417 721 ["self","thing"] vN mq2,
 F7 (bS 48 3) "Stack.push_all" 424 729 ["self","things"] vN mq2,
 F7 (bS 48 4) "Stack.pop" 431 737 ["self"] vN mq2,
 F7 (bS 48 5) "Stack.at" 438 744 ["self","depth"] vN mq2,
 F7 (bS 48 6) "Stack.top" 445 752 ["self","many"] vN mq2,
 F7 (bS 48 7) "Stack.take" 452 760 ["self","many"] vN mq2,
 F7 (bS 48 8) "Stack.cut" 459 768 ["self","many"] vN mq2,
 F7 (bS 48 9) "Stack.rolled" 466 776 ["self","many","by"] vN mq2,
 F7 (bS 48 10) "Stack.to_mark" 473 785 ["self"] vN mq2,
 F7 (bS 48 11) "Stack.snapshot" 480 792 ["self"] vN mq2,
 F7 (bS 48 12) "Stack.put_back" 487 799 ["self","snapshot"] vN mq2,
 [tS 807 ["most","things"],dA P [("__module__",700,sA "postcore.stacks" 691),("__firstlineno__",704,jA 163 703),("__init__",712,rA 408),("many",720,rA 416),("push",728,rA 423),("push_all",736,rA 430),("pop",743,rA 437),("at",751,rA 444),("top",759,rA 451),("take",767,rA 458),("cut",775,rA 465),("rolled",784,rA 472),("to_mark",791,rA 479),("snapshot",798,rA 486),("put_back",806,rA 493),("__static_attributes__",809,rA 494),("__dict__",811,rA 497),("__weakref__",813,rA 498),("__doc__",814,vN)] 4,kA "Stack" [.type "object"] [rA 496,.type "object"] 495 [] [none,none,some (sA "Stack" 693),some (sA "Stack" 701),some (.builtin "object.__new__"),some (.bool true)],gA "getset_descriptor" [sA "__dict__" 810,rA 496,.builtin "function.__dict__",.builtin "function.__dict__#set"],gA "getset_descriptor" [sA "__weakref__" 812,rA 496,.builtin "ExceptionGroup.__weakref__",vN],gA "super" [rA 496,rA 496,rA 496],gA "builtin_function_or_method" [.builtin "object.__init_subclass__",rA 496]],
 F7 (aS 49) "need" 501 817 ["machine","many"] vN mq2,
 F7 (aS 50) "stack_pop_kind" 508 825 ["machine","kinds"] vN mq2,
 F7 (aS 51) "pop_any" 515 833 ["machine"] vN mq2,
 F7 (aS 52) "pop_integer" 522 840 ["machine"] vN mq2,
 F7 (aS 54) "mathops_integers" 529 849 ["machine","other"] vN mq3,
 F7 (aS 55) "mathops_things" 536 857 ["machine","other"] vN mq3,
 F7 (aS 56) "op_eq" 543 865 ["machine","one","other"] vN mq3,
 F7 (aS 57) "op_ne" 550 874 ["machine","one","other"] vN mq3,
 F7 (aS 58) "op_lt" 557 883 ["machine","one","other"] vN mq3,
 F7 (aS 59) "op_gt" 564 892 ["machine","one","other"] vN mq3,
 F7 (aS 60) "op_ge" 571 901 ["machine","one","other"] vN mq3]
noncomputable def T4(P:Params):BT:=kS [(3,mgA P mq3 64 65),(12,lA (ltL.take 50))] (jM (L4 P) 395 (T3 P))
noncomputable def L5(P:Params):List (List Obj):=[
 F7 (aS 61) "op_le" 578 910 ["machine","one","other"] vN mq3,
 F7 (aS 62) "mathops_alike" 585 919 ["machine","one","other"] vN mq3,
 F7 (aS 63) "op_and" 592 928 ["machine","kind","one","other"] vN mq3,
 F7 (aS 64) "op_or" 599 938 ["machine","kind","one","other"] vN mq3,
 F7 (aS 65) "op_xor" 606 948 ["machine","kind","one","other"] vN mq3,
 F7 (aS 66) "op_not" 613 958 ["machine","thing"] vN mq3,
 F7 (aS 67) "op_bitshift" 620 966 ["machine","one","other"] vN mq3,
 [tN,gA "builtin_function_or_method" [.builtin "type.__prepare__",.type "type"],dA P [("__module__",984,sA "postcore.scanner" 975),("__qualname__",986,sA "OctetSource" 985),("__firstlineno__",988,jA 281 987),("__init__",998,rA 641),("place",1006,rA 649),("next",1013,rA 656),("back",1020,rA 663),("__static_attributes__",1023,rA 664)] 8,tN,lA [(283,4,640),(288,4,647),(291,4,655),(297,4,662)],cA "OctetSource" "OctetSource" 979 281 0 0 false 630 631 vN vN vN 982,frA [some (rA 632),some (rA 3),some (rA 629),none,some mq6,none,some (rA 0)],tA [jA 0 989]],
 F7 (bS 69 0) "OctetSource.__init__" 635 990 ["self","octets","at"] (rA 634) mq6,
 [tN,fN,tS 1002 ["self"],tN,pA (bS 69 1) "OctetSource.place",cA "place" "OctetSource.place" 999 287 1 3 true 642 643 (rA 644) (rA 645) (rA 646) 1003,qA (bS 69 1) "OctetSource.place" vN mq6 (rA 647),gA "property" [rA 648,vN,vN,vN,sA "place" 1006,.bool false]],
 F7 (bS 69 2) "OctetSource.next" 650 1007 ["self"] vN mq6,
 F7 (bS 69 3) "OctetSource.back" 657 1014 ["self"] vN mq6,
 [tS 1021 ["at","octets"],dA P [("__module__",984,sA "postcore.scanner" 975),("__firstlineno__",988,jA 281 987),("__init__",998,rA 641),("place",1006,rA 649),("next",1013,rA 656),("back",1020,rA 663),("__static_attributes__",1023,rA 664),("__dict__",1025,rA 667),("__weakref__",1027,rA 668),("__doc__",1028,vN)] 4,kA "OctetSource" [.type "object"] [rA 666,.type "object"] 665 [] [none,none,some (sA "OctetSource" 977),some (sA "OctetSource" 985),some (.builtin "object.__new__"),some (.bool true)],gA "getset_descriptor" [sA "__dict__" 1024,rA 666,.builtin "function.__dict__",.builtin "function.__dict__#set"],gA "getset_descriptor" [sA "__weakref__" 1026,rA 666,.builtin "ExceptionGroup.__weakref__",vN],gA "super" [rA 666,rA 666,rA 666],gA "builtin_function_or_method" [.builtin "object.__init_subclass__",rA 666],tN,gA "builtin_function_or_method" [.builtin "type.__prepare__",.type "type"],dA P [("__module__",1042,sA "postcore.machine" 1031),("__qualname__",1044,sA "Frame" 1043),("__firstlineno__",1046,jA 301 1045),("__init__",1054,rA 684),("step",1062,rA 691),("left",1070,rA 698),("thing",1077,rA 705),("things",1084,rA 712),("__static_attributes__",1086,rA 713)] 9,tN,lA [(303,4,683),(306,4,690),(309,4,697),(312,4,704),(315,4,711)],cA "Frame" "Frame" 1037 301 0 0 false 674 675 vN vN vN 1040,frA [some (rA 676),some (rA 3),some (rA 673),none,some mq0,none,some (rA 0)]],
 F7 (bS 72 0) "Frame.__init__" 678 1047 ["self","word"] vN mq0,
 F7 (bS 72 1) "Frame.step" 685 1055 ["self","machine"] vN mq0,
 F7 (bS 72 2) "Frame.left" 692 1063 ["self","machine"] vN mq0,
 F7 (bS 72 3) "Frame.thing" 699 1071 ["self"] vN mq0,
 F7 (bS 72 4) "Frame.things" 706 1078 ["self"] vN mq0,
 [tS 1085 ["word"],dA P [("__module__",1042,sA "postcore.machine" 1031),("__firstlineno__",1046,jA 301 1045),("__init__",1054,rA 684),("step",1062,rA 691),("left",1070,rA 698),("thing",1077,rA 705),("things",1084,rA 712),("__static_attributes__",1086,rA 713),("__dict__",1088,rA 716),("__weakref__",1090,rA 717),("__doc__",1091,vN)] 4,kA "Frame" [.type "object"] [rA 715,.type "object"] 714 [] [none,none,some (sA "Frame" 1035),some (sA "Frame" 1043),some (.builtin "object.__new__"),some (.bool true)],gA "getset_descriptor" [sA "__dict__" 1087,rA 715,.builtin "function.__dict__",.builtin "function.__dict__#set"],gA "getset_descriptor" [sA "__weakref__" 1089,rA 715,.builtin "ExceptionGroup.__weakref__",vN],gA "super" [rA 715,rA 715,rA 715],gA "builtin_function_or_method" [.builtin "object.__init_subclass__",rA 715]]]
noncomputable def T5(P:Params):BT:=kS [(3,mgA P mq0 74 75),(12,lA (ltL.take 59))] (jM (L5 P) 578 (T4 P))
noncomputable def L6(P:Params):List (List Obj):=[
 [tA [rA 715],gA "builtin_function_or_method" [.builtin "type.__prepare__",.type "type"],dA P [("__module__",1101,sA "postcore.machine" 1031),("__qualname__",1103,sA "ProcFrame" 1102),("__firstlineno__",1105,jA 317 1104),("__init__",1113,rA 733),("step",1123,rA 740),("thing",1131,rA 747),("things",1138,rA 754),("__static_attributes__",1142,rA 755)] 8,tN,lA [(319,4,732),(324,4,739),(332,4,746),(336,4,753)],cA "ProcFrame" "ProcFrame" 1096 317 0 0 false 723 724 vN vN vN 1099,frA [some (rA 725),some (rA 3),some (rA 722),none,some mq0,none,some (rA 0)]],
 F7 (bS 73 0) "ProcFrame.__init__" 727 1106 ["self","proc"] vN mq0,
 F7 (bS 73 1) "ProcFrame.step" 734 1114 ["self","machine","span","here"] vN mq0,
 F7 (bS 73 2) "ProcFrame.thing" 741 1124 ["self","span"] vN mq0,
 F7 (bS 73 3) "ProcFrame.things" 748 1132 ["self"] vN mq0,
 [tS 1139 ["at","proc","word"],dA P [("__module__",1101,sA "postcore.machine" 1031),("__firstlineno__",1105,jA 317 1104),("__init__",1113,rA 733),("step",1123,rA 740),("thing",1131,rA 747),("things",1138,rA 754),("__static_attributes__",1142,rA 755),("__doc__",1143,vN)] 2,kA "ProcFrame" [rA 715] [rA 757,rA 715,.type "object"] 756 [] [some (rA 720),none,some (sA "ProcFrame" 1094),some (sA "ProcFrame" 1102),some (.builtin "object.__new__"),some (.bool true)],gA "super" [rA 757,rA 757,rA 757],gA "builtin_function_or_method" [.builtin "object.__init_subclass__",rA 757],tA [rA 715],gA "builtin_function_or_method" [.builtin "type.__prepare__",.type "type"],dA P [("__module__",1153,sA "postcore.machine" 1031),("__qualname__",1155,sA "SourceFrame" 1154),("__firstlineno__",1157,jA 338 1156),("__init__",1166,rA 774),("step",1175,rA 781),("thing",1182,rA 788),("things",1189,rA 795),("__static_attributes__",1193,rA 796)] 8,tN,lA [(340,4,773),(345,4,780),(354,4,787),(357,4,794)],cA "SourceFrame" "SourceFrame" 1148 338 0 0 false 763 764 vN vN vN 1151,frA [some (rA 765),some (rA 3),some (rA 762),none,some mq0,none,some (rA 0)],tA [vN]],
 F7 (bS 74 0) "SourceFrame.__init__" 768 1158 ["self","source","file"] (rA 767) mq0,
 F7 (bS 74 1) "SourceFrame.step" 775 1167 ["self","machine","here"] vN mq0,
 F7 (bS 74 2) "SourceFrame.thing" 782 1176 ["self"] vN mq0,
 F7 (bS 74 3) "SourceFrame.things" 789 1183 ["self"] vN mq0,
 [tS 1190 ["file","source","word"],dA P [("__module__",1153,sA "postcore.machine" 1031),("__firstlineno__",1157,jA 338 1156),("__init__",1166,rA 774),("step",1175,rA 781),("thing",1182,rA 788),("things",1189,rA 795),("__static_attributes__",1193,rA 796),("__doc__",1194,vN)] 2,kA "SourceFrame" [rA 715] [rA 798,rA 715,.type "object"] 797 [] [some (rA 760),none,some (sA "SourceFrame" 1146),some (sA "SourceFrame" 1154),some (.builtin "object.__new__"),some (.bool true)],gA "super" [rA 798,rA 798,rA 798],gA "builtin_function_or_method" [.builtin "object.__init_subclass__",rA 798],tA [rA 715],gA "builtin_function_or_method" [.builtin "type.__prepare__",.type "type"],dA P [("__module__",1204,sA "postcore.machine" 1031),("__qualname__",1206,sA "ThingFrame" 1205),("__firstlineno__",1208,jA 359 1207),("__init__",1216,rA 814),("step",1224,rA 821),("thing",1231,rA 828),("things",1238,rA 835),("__static_attributes__",1241,rA 836)] 8,tN,lA [(361,4,813),(365,4,820),(369,4,827),(372,4,834)],cA "ThingFrame" "ThingFrame" 1199 359 0 0 false 804 805 vN vN vN 1202,frA [some (rA 806),some (rA 3),some (rA 803),none,some mq0,none,some (rA 0)]],
 F7 (bS 75 0) "ThingFrame.__init__" 808 1209 ["self","held"] vN mq0,
 F7 (bS 75 1) "ThingFrame.step" 815 1217 ["self","machine"] vN mq0,
 F7 (bS 75 2) "ThingFrame.thing" 822 1225 ["self"] vN mq0,
 F7 (bS 75 3) "ThingFrame.things" 829 1232 ["self"] vN mq0,
 [tS 1239 ["held","word"],dA P [("__module__",1204,sA "postcore.machine" 1031),("__firstlineno__",1208,jA 359 1207),("__init__",1216,rA 814),("step",1224,rA 821),("thing",1231,rA 828),("things",1238,rA 835),("__static_attributes__",1241,rA 836),("__doc__",1242,vN)] 2,kA "ThingFrame" [rA 715] [rA 838,rA 715,.type "object"] 837 [] [some (rA 801),none,some (sA "ThingFrame" 1197),some (sA "ThingFrame" 1205),some (.builtin "object.__new__"),some (.bool true)],gA "super" [rA 838,rA 838,rA 838],gA "builtin_function_or_method" [.builtin "object.__init_subclass__",rA 838],tN,fN,tS 1248 ["machine","found"],tS 1250 ["machine"],pA (aS 76) "machine_lookup",cA "machine_lookup" "machine_lookup" 1245 374 1 3 true 841 842 (rA 843) (rA 844) (rA 845) 1251,qA (aS 76) "machine_lookup" vN mq0 (rA 846)]]
noncomputable def T6(P:Params):BT:=kS [(3,mgA P mq0 78 79),(12,lA (ltL.take 63)),(715,kA "Frame" [.type "object"] [rA 715,.type "object"] 714 [rA 757,rA 798,rA 838] [none,none,some (sA "Frame" 1035),some (sA "Frame" 1043),some (.builtin "object.__new__"),some (.bool true)])] (jM (L6 P) 720 (T5 P))
noncomputable def L7(P:Params):List (List Obj):=[
 [tN,gA "builtin_function_or_method" [.builtin "type.__prepare__",.type "type"],dA P [("__module__",1261,sA "postcore.machine" 1031),("__qualname__",1263,sA "MachineCore" 1262),("__firstlineno__",1265,jA 379 1264),("__init__",1278,rA 861),("begin",1291,rA 868),("push_frame",1299,rA 875),("drop",1308,rA 882),("cut_frames",1317,rA 889),("frames_row",1324,rA 896),("place_of_frame",1334,rA 905),("stop",1342,rA 912),("trace",1351,rA 919),("push_operand",1359,rA 926),("met",1367,rA 933),("execute",1375,rA 940),("run_proc",1383,rA 947),("run_source",1391,rA 954),("lookup",1399,rA 961),("value_of",1408,rA 968),("run_name",1417,rA 975),("call",1428,rA 982),("scanned",1436,rA 989),("tell",1444,rA 996),("failed",1454,rA 1003),("step",1463,rA 1010),("go_on",1474,rA 1018),("run",1483,rA 1025),("run_thing",1492,rA 1032),("install",1500,rA 1039),("__static_attributes__",1527,rA 1040)] 30,tN,lA [(381,4,860),(384,4,867),(412,4,874),(417,4,881),(423,4,888),(428,4,895),(431,4,904),(439,4,911),(448,4,918),(452,4,925),(456,4,932),(468,4,939),(474,4,946),(480,4,953),(488,4,960),(491,4,967),(497,4,974),(506,4,981),(521,4,988),(524,4,995),(528,4,1002),(536,4,1009),(547,4,1017),(560,4,1024),(564,4,1031),(567,4,1038)],cA "MachineCore" "MachineCore" 1256 379 0 0 false 851 852 vN vN vN 1259,frA [some (rA 853),some (rA 3),some (rA 850),none,some mq0,none,some (rA 0)]],
 F7 (bS 77 0) "MachineCore.__init__" 855 1266 ["self","memory","operands","dicts","scanner","limits","disk"] vN mq0,
 F7 (bS 77 1) "MachineCore.begin" 862 1279 ["self","memory","operands","dicts","scanner","limits","disk"] vN mq0,
 F7 (bS 77 2) "MachineCore.push_frame" 869 1292 ["self","frame"] vN mq0,
 F7 (bS 77 3) "MachineCore.drop" 876 1300 ["self","frame","at"] vN mq0,
 F7 (bS 77 4) "MachineCore.cut_frames" 883 1309 ["self","many","frame"] vN mq0,
 F7 (bS 77 5) "MachineCore.frames_row" 890 1318 ["self"] vN mq0,
 [tN,tA [rA 897]],
 F7 (bS 77 6) "MachineCore.place_of_frame" 899 1325 ["self","words","barriers","at"] (rA 898) mq0,
 F7 (bS 77 7) "MachineCore.stop" 906 1335 ["self","at"] vN mq0,
 F7 (bS 77 8) "MachineCore.trace" 913 1343 ["self","word","thing"] vN mq0,
 F7 (bS 77 9) "MachineCore.push_operand" 920 1352 ["self","thing"] vN mq0,
 F7 (bS 77 10) "MachineCore.met" 927 1360 ["self","thing"] vN mq0,
 F7 (bS 77 11) "MachineCore.execute" 934 1368 ["self","thing"] vN mq0,
 F7 (bS 77 12) "MachineCore.run_proc" 941 1376 ["self","thing"] vN mq0,
 F7 (bS 77 13) "MachineCore.run_source" 948 1384 ["self","thing"] vN mq0,
 F7 (bS 77 14) "MachineCore.lookup" 955 1392 ["self","octets"] vN mq0,
 F7 (bS 77 15) "MachineCore.value_of" 962 1400 ["self","thing","found"] vN mq0,
 F7 (bS 77 16) "MachineCore.run_name" 969 1409 ["self","thing","value"] vN mq0,
 F7 (bS 77 17) "MachineCore.call" 976 1418 ["self","thing","act","kept","error"] vN mq0,
 F7 (bS 77 18) "MachineCore.scanned" 983 1429 ["self","source"] vN mq0,
 F7 (bS 77 19) "MachineCore.tell" 990 1437 ["self","octets"] vN mq0,
 F7 (bS 77 20) "MachineCore.failed" 997 1445 ["self","told","thing","act"] vN mq0,
 F7 (bS 77 21) "MachineCore.step" 1004 1455 ["self","frame","error"] vN mq0,
 [tA [jA 0 1464]],
 F7 (bS 77 22) "MachineCore.go_on" 1012 1465 ["self","most_steps","depth","last"] (rA 1011) mq0,
 F7 (bS 77 23) "MachineCore.run" 1019 1475 ["self","octets","most_steps"] vN mq0,
 F7 (bS 77 24) "MachineCore.run_thing" 1026 1484 ["self","thing","most_steps"] vN mq0,
 F7 (bS 77 25) "MachineCore.install" 1033 1493 ["self","tables"] vN mq0,
 [tS 1501 ["current","device","dicts","disk","errors","fault","files","fonts","frames","globals","gs","gstack","is_packing","is_stopped","limits","memory","operands","out","random","resources","scanner","steps","system","table","tracer","user"],dA P [("__module__",1261,sA "postcore.machine" 1031),("__firstlineno__",1265,jA 379 1264),("__init__",1278,rA 861),("begin",1291,rA 868),("push_frame",1299,rA 875),("drop",1308,rA 882),("cut_frames",1317,rA 889),("frames_row",1324,rA 896),("place_of_frame",1334,rA 905),("stop",1342,rA 912),("trace",1351,rA 919),("push_operand",1359,rA 926),("met",1367,rA 933),("execute",1375,rA 940),("run_proc",1383,rA 947),("run_source",1391,rA 954),("lookup",1399,rA 961),("value_of",1408,rA 968),("run_name",1417,rA 975),("call",1428,rA 982),("scanned",1436,rA 989),("tell",1444,rA 996),("failed",1454,rA 1003),("step",1463,rA 1010),("go_on",1474,rA 1018),("run",1483,rA 1025),("run_thing",1492,rA 1032),("install",1500,rA 1039),("__static_attributes__",1527,rA 1040),("__dict__",1529,rA 1043),("__weakref__",1531,rA 1044),("__doc__",1532,vN)] 4,kA "MachineCore" [.type "object"] [rA 1042,.type "object"] 1041 [] [none,none,some (sA "MachineCore" 1254),some (sA "MachineCore" 1262),some (.builtin "object.__new__"),some (.bool true)],gA "getset_descriptor" [sA "__dict__" 1528,rA 1042,.builtin "function.__dict__",.builtin "function.__dict__#set"],gA "getset_descriptor" [sA "__weakref__" 1530,rA 1042,.builtin "ExceptionGroup.__weakref__",vN],gA "super" [rA 1042,rA 1042,rA 1042],gA "builtin_function_or_method" [.builtin "object.__init_subclass__",rA 1042]]]
noncomputable def T7(P:Params):BT:=kS [(3,mgA P mq0 79 80),(12,lA (ltL.take 64))] (jM (L7 P) 848 (T6 P))
noncomputable def L8(P:Params):List (List Obj):=[
 [tN,gA "builtin_function_or_method" [.builtin "type.__prepare__",.type "type"],dA P [("__module__",1548,sA "postcore.memory" 1535),("__qualname__",1550,sA "Limits" 1549),("__firstlineno__",1552,jA 571 1551),("__init__",1586,rA 1061),("__static_attributes__",1601,rA 1062)] 5,tN,lA [(573,4,1060)],cA "Limits" "Limits" 1543 571 0 0 false 1050 1051 vN vN vN 1546,frA [some (rA 1052),some (rA 3),some (rA 1049),none,some (sA "postcore.memory" 1535),none,some (rA 0)],tA [jA 500 1553,jA 20 1554,jA 250 1555,jA 15 1556,jA 31 1557,jA 65535 1558,jA 65535 1559,jA 65535 1560,jA 127 1561,jA 1500 1562,jA 11 1563,jA 15 1564,jA 600 1565,jA 16777216 1539]],
 F7 (bS 80 0) "Limits.__init__" 1055 1566 ["self","operands","dicts","frames","saves","gstates","text","row","entries","word","path","dash","files","system","vm"] (rA 1054) (sA "postcore.memory" 1535),
 [tS 1587 ["dash","dicts","entries","files","frames","gstates","operands","path","row","saves","system","text","vm","word"],dA P [("__module__",1548,sA "postcore.memory" 1535),("__firstlineno__",1552,jA 571 1551),("__init__",1586,rA 1061),("__static_attributes__",1601,rA 1062),("__dict__",1603,rA 1065),("__weakref__",1605,rA 1066),("__doc__",1606,vN)] 4,kA "Limits" [.type "object"] [rA 1064,.type "object"] 1063 [] [none,none,some (sA "Limits" 1541),some (sA "Limits" 1549),some (.builtin "object.__new__"),some (.bool true)],gA "getset_descriptor" [sA "__dict__" 1602,rA 1064,.builtin "function.__dict__",.builtin "function.__dict__#set"],gA "getset_descriptor" [sA "__weakref__" 1604,rA 1064,.builtin "ExceptionGroup.__weakref__",vN],gA "super" [rA 1064,rA 1064,rA 1064],gA "builtin_function_or_method" [.builtin "object.__init_subclass__",rA 1064],tS 1611 ["eq","ne","gt","ge","lt","le","and","or","xor","not","bitshift"],tA [jA 0 1623,jA 1 1624,jA (-1) 1626,jA 2 1627,jA 2147483647 1628,jA (-2147483648) 1630,jA 6 1631,jA (-7) 1633],tA [jA 0 1635,jA 1000000 1636,jA (-1000000) 1638,jA 500000 1639,jA 2147483647000000 1640,jA 2147483648000000 1641,jA 1 1642,jA 6000000 1643],tA [jA 0 1645,jA 1 1646,jA (-1) 1648,jA 2147483647 1649,jA (-2147483648) 1651,jA 252645135 1652,jA (-5) 1654,jA 31 1655,jA (-31) 1657,jA 32 1658,jA (-32) 1660,jA 4 1661,jA (-4) 1663,jA 1431655765 1664]],
 F5 (aS 86) "_law_deck" 1073 1666 vN mq4,
 F7 (aS 87) "_law_draw" 1078 1672 ["deck","many"] vN mq4,
 F5 (aS 88) "_law_world" 1085 1680 vN mq4,
 F5 (aS 89) "_law_truth" 1090 1686 vN mq4,
 F7 (aS 90) "_law_signed" 1095 1692 ["number"] vN mq4,
 F5 (aS 91) "_law_both" 1102 1699 vN mq4,
 F7 (aS 92) "_law_counted" 1107 1705 ["word","one","two","kind","near","far","by","shared"] vN mq4,
 F7 (aS 93) "_law_operand" 1114 1719 ["deck","world","is_bits","way","number"] vN mq4,
 F5 (aS 94) "_law_called" 1121 1730 vN mq4,
 F5 (aS 95) "_law_deed_right" 1126 1736 vN mq4,
 F5 (aS 96) "law" 1131 1742 vN mq4]
noncomputable def T8(P:Params):BT:=kS [(3,mgA P mq4 96 97),(12,lA (ltL.take 76))] (jM (L8 P) 1047 (T7 P))
noncomputable def sT(T:Params->BT)(n k:Nat)(w:World)(os:OsState):SharedT:=⟨T w.params,n,(QL w.params).life,#[],boot_drawn,k,os⟩
noncomputable def oW:Env:={ scope:=pw.main.scope,locals:=mainNs,globals:=mainNs,cells:=[],code:=.ref 13,frame:=some 14 }
noncomputable def bodyH:List Stmt:=behindTheImports pw
noncomputable def cE:Code:=.body bodyH oW
noncomputable abbrev frH:List Frame:=[topFrame ⟨0,0,0,0⟩]
theorem sg0(w:World)(os:OsState):segRunT Pw pw w 11 (some (.ref 6)) 1 3036 (sT T0 15 187 w os) (piecesOf ((bodyH.drop 0).take 48) oW cE ⟨0,0,0,0⟩ frH)=some (.next,sT T3 395 693 w os,cE,⟨162,0,162,8⟩):=by kernel_rfl
theorem sg1(w:World)(os:OsState):segRunT Pw pw w 11 (some (.ref 6)) 1 3035 (sT T3 395 693 w os) (piecesOf ((bodyH.drop 48).take 29) oW cE ⟨162,0,162,8⟩ frH)=some (.next,sT T6 848 1254 w os,cE,⟨374,0,378,16⟩):=by kernel_rfl
theorem sg2(w:World)(os:OsState):segRunT Pw pw w 11 (some (.ref 6)) 1 1819 (sT T6 848 1254 w os) (piecesOf ((bodyH.drop 77).take 20) oW cE ⟨374,0,378,16⟩ frH)=some (.next,sT T8 1136 1748 w os,cE,⟨694,0,710,101⟩):=by kernel_rfl
theorem tV{s s':SharedT}{a m b:Nat}(e:n+N=M)(f:a+m=b)(h:segRunT Pw pw w 11 (some (.ref 6)) 1 n s (piecesOf ((bodyH.drop a).take m) oW cE pos frH)=some (.next,s',cE,p'))
 (k:R8 Pw pw w 11 (some (.ref 6)) N s'.abs (restOf (bodyH.drop b) oW cE p' frH)=some r):R8 Pw pw w 11 (some (.ref 6)) M s.abs (restOf (bodyH.drop a) oW cE pos frH)=some r:=by
 subst e f;have e:bodyH.drop a=(bodyH.drop a).take m++bodyH.drop (a+m):=(Qq m (bodyH.drop a)).symm.trans (congrArg _ List.drop_drop);exact(congrArg (λ l=>R8 Pw pw w 11 (some (.ref 6)) (n+N) s.abs (restOf l oW cE pos frH)) e).trans (piece_app (segRun_of h) k)
noncomputable def sB(w:World)(os:OsState):Shared:=⟨QL w.params,#[],boot_drawn,boot_toks,os⟩
noncomputable abbrev hF(P:Params):Heap:=absHeap (T8 P) 1136 (QL P).life
noncomputable abbrev sF(w:World)(os:OsState):Shared:=⟨hF w.params,#[],boot_drawn,1748,os⟩
theorem Kt(w:World)(os:OsState):(sT T8 1136 1748 w os).abs=sF w os:=by kernel_rfl
theorem Kx(w:World)(os:OsState):topGo Pw pw w 11 (some (.ref 6)) 12 (sB w os) (topStub pw)=some ((sT T0 15 187 w os).abs,⟨denote Pw cE,cE,⟨0,0,0,0⟩,frH⟩):=by kernel_rfl
theorem Eg(w:World)(os:OsState):segRun Pw pw w 11 (some (.ref 6)) 1 1 (sT T0 15 187 w os).abs (blockOf bodyH oW cE ⟨0,0,0,0⟩ frH)=some (.next,(sT T0 15 187 w os).abs,cE,⟨0,0,0,0⟩):=by kernel_rfl
theorem LG(w:World)(os:OsState):R8 Pw pw w 11 (some (.ref 6)) 2 (sT T8 1136 1748 w os).abs (restOf (bodyH.drop 97) oW cE ⟨694,0,710,101⟩ frH)=some ((sT T8 1136 1748 w os).abs):=by kernel_rfl
theorem Ly{t t':Thread}(e:n+N=M)(h:topGo Pw pw w 11 (some (.ref 6)) n s t=some (s',t'))(k:R8 Pw pw w 11 (some (.ref 6)) N s' t'=some r):R8 Pw pw w 11 (some (.ref 6)) M s t=some r:=by
 subst e;exact go_top h k
theorem zQ(e:n+N=M)(h:segRun Pw pw w 11 (some (.ref 6)) 1 n s (blockOf bodyH oW cE pos frH)=some (.next,s',cE,p'))
 (k:R8 Pw pw w 11 (some (.ref 6)) N s' (restOf bodyH oW cE p' frH)=some r):R8 Pw pw w 11 (some (.ref 6)) M s ⟨denote Pw cE,cE,pos,frH⟩=some r:=by
 subst e;exact piece_block h k
theorem rn2(w:World)(os:OsState):R8 Pw pw w 11 (some (.ref 6)) 1821 (sT T6 848 1254 w os).abs (restOf (bodyH.drop 77) oW cE ⟨374,0,378,16⟩ frH)=some (sT T8 1136 1748 w os).abs:=tV (N:=2) rfl rfl (sg2 w os) (LG w os)
theorem rn1(w:World)(os:OsState):R8 Pw pw w 11 (some (.ref 6)) 4856 (sT T3 395 693 w os).abs (restOf (bodyH.drop 48) oW cE ⟨162,0,162,8⟩ frH)=some (sT T8 1136 1748 w os).abs:=tV (N:=1821) rfl rfl (sg1 w os) (rn2 w os)
theorem rn0(w:World)(os:OsState):R8 Pw pw w 11 (some (.ref 6)) 7892 (sT T0 15 187 w os).abs (restOf (bodyH.drop 0) oW cE ⟨0,0,0,0⟩ frH)=some (sT T8 1136 1748 w os).abs:=tV (N:=4856) rfl rfl (sg0 w os) (rn1 w os)
theorem Ku(w:World)(os:OsState):R8 Pw pw w 11 (some (.ref 6)) 7905 (sB w os) (topStub pw)=some (sF w os):=(Ly (N:=7893) rfl (Kx w os) (zQ (N:=7892) rfl (Eg w os) (rn0 w os))).trans (congrArg some (Kt w os))
theorem NN(w:World):((QL w.params).isNs Pj&&(#[]:Array GenState).size==0)=true:=by kernel_rfl
theorem NM(w:World):(QL w.params).objs.size=11:=by kernel_rfl
theorem NL(w:World):(QL w.params).nsMap Pj "__annotations__"=some (.ref 6):=by kernel_rfl
noncomputable abbrev rowH:OpenRow:=PySem.Challenge.rw_on0275_01.row
noncomputable def qH:Program:={ pw with main:={ pw.main with body:=pw.main.body.drop 96 } }
noncomputable def kg:List Str:=((mgL.drop 8).take 88).map λ x=>Rm x.1
noncomputable def xtH(s:Shared):Bool:=xlAt qH [] s&&recOk (RowW.records rowH.toRowW) s
theorem Oa(w:World)(os:OsState):staticsOk (RQ pw.main.body) (QL w.params) (sF w os).heap=true:=by kernel_rfl
theorem N9(w:World)(os:OsState):namesBound pw (sF w os).heap=true:=by kernel_rfl
theorem N8(w:World)(os:OsState):gensDone (sF w os)=true:=by kernel_rfl
theorem N7(w:World)(os:OsState):laidKept (QL w.params) (sF w os).heap=true:=by kernel_rfl
theorem Lg(w:World)(os:OsState):openSeen qH kg (RQ pw.main.body) xtH true (sF w os)=openGood qH kg:=by kernel_rfl
theorem Gk(w:World):(fencedOpening Pw pw w 10000).map (λ s=>(s.heap,s.gens,s.drawn,s.toks))=some (QL w.params,Array.mk [],boot_drawn,boot_toks):=boot_open (by kernel_rfl) rfl (λ s=>by kernel_rfl) w
theorem Ow{a b c d:Bool}(h:a=true)(i:b=true)(j:c=true)(k:d=true):(a&&b&&c&&d)=true:=by rw[h,i,j,k];rfl
theorem Ha(w:World):(λ os=>((staticsOk (RQ pw.main.body) (QL w.params) (sF w os).heap&&namesBound pw (sF w os).heap&&gensDone (sF w os)&&laidKept (QL w.params) (sF w os).heap),
 openSeen qH kg (RQ pw.main.body) xtH true (sF w os),(sF w os).heap))=λ _=>(true,openGood qH kg,hF w.params):=
 funext λ os=>looks_pair (Ow (Oa w os) (N9 w os) (N8 w os) (N7 w os)) (looks_pair (Lg w os) (Eq.refl (hF w.params)))
theorem Hc:LeftO pw qH kg xtH (λ s=>s.heap) (λ w=>hF w.params) 10000:=
 LeftO.of_pieces (H₁:=hF) Gk (λ w=>looks_pair (NN w) (looks_pair (NM w) (NL w))) Ku rfl Ha
noncomputable def kfA(T:BT)(n:Nat)(l:List Nat):Frag:=l.filterMap λ a=>match O0 a n,(T.get a).bind alive with
 | true,some o=>some (a,o)
 | _,_=>none
theorem yQ{T:BT}{li:Life}:∀ l:List Nat,(kfA T n l).In (absHeap T n li)
 | [],a,o,h=>by cases h
 |
  b::l,a,o,h=>by
  have h:List.lookup a (kfA T n (b::l))=some o:=h;unfold kfA at h;rw[List.filterMap_cons] at h;rcases q:O0 b n with _|_
  ·rw[q] at h;exact yQ l a o h
  ·rcases q2:(T.get b).bind alive with _|o'
   ·rw[q,q2] at h;exact yQ l a o h
   ·rw[q,q2] at h;have h:List.lookup a ((b,o')::kfA T n l)=some o:=h;rw[O4] at h;rcases e:a==b with _|_
    ·rw[e] at h;exact yQ l a o h
    ·rw[e] at h;obtain rfl:=Oy h;obtain rfl:=Pf e;obtain⟨o2,g,al⟩:=Option.bind_eq_some_iff.mp q2;exact(abs_get (OE q) g).trans al
noncomputable def KF(P:Params):Frag:=kfA (T8 P) 1136 [0,1,3,6,9,13,17,20,21,22,24,27,29,32,35,36,37,38,39,43,45,48,51,52,55,57,60,63,64,67,69,72,75,76,82,83,86,89,90,93,96,97,100,103,105,108,111,112,113,114,115,122,125,129,132,133,134,135,136,143,146,150,153,154,155,156,157,164,167,171,174,175,178,181,182,185,188,189,190,191,192,199,202,206,209,210,211,212,213,220,223,224,227,230,231,234,237,238,239,242,245,246,249,252,253,259,260,266,267,268,271,274,275,278,281,282,285,288,289,292,295,296,299,302,303,306,309,310,313,316,317,320,323,324,327,330,331,334,337,338,341,344,345,348,351,352,355,358,359,362,365,366,369,372,373,376,379,380,383,386,387,390,393,394,397,400,404,407,408,411,414,415,416,419,422,423,426,429,430,433,436,437,440,443,444,447,450,451,454,457,458,461,464,465,468,471,472,475,478,479,482,485,486,489,492,493,494,495,496,503,506,507,510,513,514,517,520,521,524,527,528,531,534,535,538,541,542,545,548,549,552,555,556,559,562,563,566,569,570,573,576,577,580,583,584,587,590,591,594,597,598,601,604,605,608,611,612,615,618,619,622,625,626,629,632,634,637,640,641,644,647,648,649,652,655,656,659,662,663,664,665,666,673,676,680,683,684,687,690,691,694,697,698,701,704,705,708,711,712,713,714,715,720,722,725,729,732,733,736,739,740,743,746,747,750,753,754,755,756,757,760,762,765,767,770,773,774,777,780,781,784,787,788,791,794,795,796,797,798,801,803,806,810,813,814,817,820,821,824,827,828,831,834,835,836,837,838,843,844,846,847,850,853,857,860,861,864,867,868,871,874,875,878,881,882,885,888,889,892,895,896,898,901,904,905,908,911,912,915,918,919,922,925,926,929,932,933,936,939,940,943,946,947,950,953,954,957,960,961,964,967,968,971,974,975,978,981,982,985,988,989,992,995,996,999,1002,1003,1006,1009,1010,1011,1014,1017,1018,1021,1024,1025,1028,1031,1032,1035,1038,1039,1040,1041,1042,1049,1052,1054,1057,1060,1061,1062,1063,1064,1069,1070,1071,1072,1076,1077,1080,1083,1084,1088,1089,1093,1094,1097,1100,1101,1105,1106,1109,1112,1113,1116,1119,1120,1124,1125,1129,1130,1134,1135]
noncomputable abbrev lawH:OpenLaw:=PySem.Challenge.rw_on0275_01
theorem hd0:(defOf qH rowH.name).isSome=true:=by kernel_rfl
noncomputable def dH:DefRec×List (Str×Expr):=(defOf qH rowH.name).get hd0
theorem hd1:defOf qH rowH.name=some (dH.1,dH.2):=(Option.some_get hd0).symm
theorem hd2:rowH.prog.theDef rowH.name=some (dH.1.params,dH.1.body,dH.1.scope):=by kernel_rfl
theorem hd3:kwWritten? dH.1.params.kwonlyargs dH.1.params.kw_defaults=some dH.2:=by kernel_rfl
theorem hd4:(!rowH.writes||rowH.records.isEmpty)=true:=by kernel_rfl
theorem w0:namesResolve pw=true:=by kernel_rfl
theorem w0a:(namesMeet pw pw.main.body λ _ n=>attrL n)=true:=by kernel_rfl
theorem w0b:noRoadLSs { strict:=!(RQ pw.main.body).all cThrough.contains,foot:=none,bare:=(["vars","dir","locals"]:List Str).filter (readsOut pw pw.main.body) } pw.main.body=true:=by kernel_rfl
theorem w1:looksOpen lawH.row.prog=true:=Tt (Tt (Tt (Tt (Tt (by kernel_rfl) (by kernel_rfl)) w0) (by kernel_rfl)) w0b) w0a
theorem w2:lawH.row.partSaid=true:=by
 unfold OpenRow.partSaid;rw[w1]
 kernel_rfl
theorem w3:lawH.row.wellSaid=true:=by
 unfold OpenRow.wellSaid;rw[w2]
 kernel_rfl
theorem hd5:lawH.wellSaid=true:=by
 unfold OpenLaw.wellSaid;rw[w3]
 iterate 17 (refine Tt ?_ (by kernel_rfl))
 kernel_rfl
theorem hd6:(chainsOk qH&&opensWell rowH.prog&&(frees rowH.toRowW&&rowH.within.isEmpty))=true:=by kernel_rfl
theorem hd7:rowH.toRowW.promised:=⟨[.list []],by decide +kernel,by decide +kernel⟩
theorem hd8:rowH.prog.bare:=⟨rfl,rfl,rfl,rfl,rfl,by decide +kernel⟩
theorem head_h(walk:Internal.WalkB qH kg (XL qH []) (λ w h=>(KF w.params).In h) rowH.toRowW dH.1 dH.2 λ f vs=>UL f vs):lawH.Holds:=
 holds_law hd5 λ said=>Z.holds_openN (q:=qH) (Yf:=λ s=>s.heap) (Ya:=λ w=>hF w.params) (YP:=λ w h=>(KF w.params).In h) Hc (λ w s e=>e▸yQ _) (λ w h h' x k=>Frag.In.keeps x k)
  (λ s e=>xl_of s (QR.mp e).1) XL.keeps hd1 hd2 hd3 (λ s e=>recFacts_of (QR.mp e).2) hd4 said hd6 hd8 hd7 walk
end
end Hd
set_option tactic.hygienic false
namespace Internal
section
universe u
open PySem PySem.W PySem.Calls PyProof.Rows
variable {c:ClassData} {d:Data} {fi:FnI} {fd:FuncData} {con:List (Nat×(Nat->List AV->Sg->Option R))} {l:List (Option Value)} {C a:Nat} {o:Obj} {P:Prop}
noncomputable def fnD(d:Data):Option FuncData:=(QM d none aa ae ae ai ae aa (λ a=>some a) aa aa none)
theorem LF{c:FuncData}(h:fnD d=some c):d=.func c:=(QM (motive:=λ d=>fnD d=some c->d=.func c) d am ac af af ak af ac (λ a h=>congrArg Data.func (Oy h)) ac ac am) h
noncomputable def LR(d:Data):Option ClassData:=(QM d none aa ae ae ai ae aa aa (λ a=>some a) aa none)
theorem Iq(h:LR d=some c):d=.cls c:=(QM (motive:=λ d=>LR d=some c->d=.cls c) d am ac af af ak af ac ac (λ a h=>congrArg Data.cls (Oy h)) ac am) h
noncomputable def sqD(d:Data):Option (Array Value):=(QM d none aa (λ a J=>some a) ae ai ae aa aa aa aa none)
theorem Kq{c:Array Value}(h:sqD d=some c):∃ n,d=.seq c n:=(QM (motive:=λ d=>sqD d=some c->∃ n,d=.seq c n) d am ac (λ a n h=>⟨n,congrArg (Data.seq · n) (Oy h)⟩) af ak af ac ac ac ac am) h
noncomputable def zf(K:Frag)(a:Addr):Option FuncData:=(K.lookup a).bind λ o=>fnD o.data
theorem vU{K:Frag}{a:Addr}(h:zf K a=some fd):∃ oc od osl,K.lookup a=some ⟨oc,od,.func fd,osl⟩:=
 aw h λ o e h=>⟨o.cls,o.dict,o.slots,e.trans (congrArg (λ d=>some (Obj.mk o.cls o.dict d o.slots)) (LF h))⟩
noncomputable def Fk(fd:FuncData):List Stmt:=FuncBody.casesOn fd.body (λ b=>b) (λ J=>[])
noncomputable def jg(b:FuncBody):Bool:=FuncBody.casesOn b (λ J=>true) ag
theorem vQ(h:jg fd.body=true):fd.body=.stmts (Fk fd):=
 FuncBody.casesOn (motive:=λ b=>jg b=true->b=.stmts (FuncBody.casesOn b (λ b=>b) (λ J=>[]))) fd.body (λ J J=>rfl) (λ J=>nof) h
theorem nH{α:Type}{o:Option α}{f:α->Bool}(h:o.any f=true)(p:∀ a,o=some a->f a=true->P):P:=
 QX (motive:=λ o=>o.any f=true->(∀ a,o=some a->f a=true->P)->P) o (λ h J=>nof h) (λ a h p=>p a rfl h) h p
noncomputable def DC(K:Frag)(p:Nat×FnI):Bool:=(zf K p.1).any λ fd=>jg fd.body&&fnB K fd p.2
noncomputable def Fl(K:Frag)(p:Nat×FnI):Option (List S):=(zf K p.1).bind λ fd=>bc (cS ⟨fd.scope,glb⟩ 20) (Fk fd)
theorem Mn{K:Frag}{f:FuncData->Bool}(h:(zf K a).any (λ fd=>jg fd.body&&f fd)=true)(p:∀ fd oc od osl,zf K a=some fd->K.lookup a=some ⟨oc,od,.func fd,osl⟩->fd.body=.stmts (Fk fd)->f fd=true->P):P:=
 nH h λ fd e h=>aV h λ h1 h2=>by
  obtain⟨oc,od,osl,hl⟩:=vU e;exact p fd oc od osl e hl (vQ h1) h2
theorem pb{α:Type}{K:Frag}{f:FuncData->Option α}{x:Option α}(e:zf K a=some fd)(h:(zf K a).bind f=x):f fd=x:=(congrArg (λ o=>o.bind f) e).symm.trans h
theorem LC{K:Frag}(h1:fnL.all (DC K)=true)(h2:fnL.map (Fl K)=fnL.map λ p=>some p.2.body):∀ a fi,aX a fnL=some fi->FnOK K glb a fi:=λ a fi h=>
 Mn (OP.mp h1 _ (bC h)) λ fd oc od osl e hl hs hf=>⟨oc,od,osl,fd,_,hl,hs,hf,pb e (List.map_inj_left.mp h2 _ (bC h))⟩
noncomputable def Kn(v:Value):Option Str:=(Qp v none none none aa ae ae (λ s J=>some s) ae aa aa aa)
theorem FR{v:Value}{s:Str}(h:Kn v=some s):∃ t,v=.str s t:=(Qp (motive:=λ v=>Kn v=some s->∃ t,v=.str s t) v am am am ac af af (λ j t h=>⟨t,congrArg (Value.str · t) (Oy h)⟩) af ac ac ac) h
noncomputable def Oe(x:AV)(v:Value):Bool:=(iG x).any λ i=>(xD v).any (bJ i)
noncomputable def Od(x:AV)(v:Value):Bool:=(iF x).any λ l=>(Kn v).any λ s=>au s.cps.toList l
noncomputable def Dx(xs:List AV)(vs:List Value):Bool:=match xs with
 | []=>vs.isEmpty
 |
  x::r=>match vs with
  | []=>false
  | v::t=>(Oe x v||Od x v)&&Dx r t
noncomputable def Lx(K:Frag)(p:Nat×List AV):Bool:=(K.lookup p.1).any λ o=>o.cls==.type "tuple"&&(o.dict.isNone&&(o.slots.toList.isEmpty&&(sqD o.data).any λ vs=>Dx p.2 vs.toList))
theorem vH{V:Va}{xs:List AV}{vs:List Value}(h:Dx xs vs=true):All2 (DenV V) xs vs:=by
 induction xs generalizing vs with
 | nil=>
  rcases vs with _|⟨v,t⟩;· exact .nil
  ·exact nof h
 |
  cons x r ih=>
  rcases vs with _|⟨v,t⟩
  ·exact nof h
  ·refine aV h λ h1 h2=>.cons ?_ (ih h2);rcases(P9 ..).mp h1 with h1|h1
   ·refine nH h1 λ i e h1=>nH h1 λ j e' h1=>?_;obtain⟨t,rfl⟩:=sW e';rw[ie e,of_decide_eq_true h1];exact .int _ _
   ·refine nH h1 λ l e h1=>nH h1 λ s e' h1=>?_;obtain⟨t,rfl⟩:=FR e';rw[jU e];exact .str _ (aC h1)
theorem Au{a:Value}(h1:o.cls=a)(h2:o.data=d)(h3:o.slots.toList=l):o=⟨a,o.dict,d,⟨l⟩⟩:=by
 subst h1 h2 h3;rfl
theorem y5{α:Type}{o:Option α}(h:o.isNone=true):o=none:=QX (motive:=λ o=>o.isNone=true->o=none) o (λ J=>rfl) (λ J=>nof) h
theorem vr{α:Type}{o:List α}(h:o.isEmpty=true):o=[]:=Rq (motive:=λ o=>o.isEmpty=true->o=[]) o (λ J=>rfl) (λ J J=>nof) h
theorem Dw{X:Cx}{K:Frag}(hK:K.In X.B)(h:gobL.all (Lx K)=true):cy X ⟨fnL,clsL,gobL,con,false⟩:=λ a xs e=>
 nH (OP.mp h _ (bC e)) λ o hl h=>aV h λ h1 h=>aV h λ h2 h=>aV h λ h3 h=>nH h λ vs h4 h=>by
  obtain⟨n,r4⟩:=Kq h4;have q:=Au (Pf h1) r4 (vr h3);rw[y5 h2] at q;exact⟨vs,n,hK _ _ (hl.trans (congrArg some q)),λ V=>vH h⟩
noncomputable def jP(K:Frag)(a:Nat)(fi:FnI):Bool:=(zf K a).any λ fd=>jg fd.body&&HH K fd fi
noncomputable def DD(K:Frag)(a:Nat):Option (List Stmt×Scope):=(zf K a).bind λ fd=>some (Fk fd,fd.scope)
theorem vS{K:Frag}{body:List Stmt}{sc:Scope}(h1:jP K a fi=true)(h2:DD K a=some (body,sc)):FnB K glb a fi body sc:=
 Mn h1 λ fd oc od osl e hl hs hf=>by
  have h:=Oy (pb (f:=λ fd=>some (Fk fd,fd.scope)) e h2);have ha:Fk fd=body:=congrArg R7 h;have hb:fd.scope=sc:=congrArg Prod.snd h;subst ha hb;exact⟨oc,od,osl,fd,hl,hs,rfl,hf⟩
theorem AS{K:Frag}(h1:jP K a fi=true)(h2:Fl K (a,fi)=some fi.body):FnCOK K glb a fi:=
 Mn h1 λ fd oc od osl e hl hs hf=>⟨oc,od,osl,fd,_,hl,hs,hf,pb e h2⟩
noncomputable def Km(l:List Value):Bool:=(l.take (l.length-3)).all gj&&(l.drop (l.length-3)==[.type "Exception",.type "BaseException",.type "object"])
noncomputable def MQ(l:List (Option Value)):Option (Option Value×Option Value×Option Value×Option Value×Option Value):=hdK l λ k0 r=>hdK r λ k1 r=>hdK r λ k2 r=>hdK r λ k3 r=>hdK r λ x r=>ifK (x==some (.builtin "Exception.__new__")) ((single r).map λ k5=>(k0,k1,k2,k3,k5))
theorem Kr{p:Option Value×Option Value×Option Value×Option Value×Option Value}(h:MQ l=some p):l=[p.1,p.2.1,p.2.2.1,p.2.2.2.1,some (.builtin "Exception.__new__"),p.2.2.2.2]:=
 lH h λ k0 r e0 h=>lH h λ k1 r e1 h=>lH h λ k2 r e2 h=>lH h λ k3 r e3 h=>lH h λ x r e4 h=>ay h λ h8 h=>bG h λ k5 e5 J=>J▸e0.trans (congrArg (List.cons k0) (e1.trans (congrArg (List.cons k1) (e2.trans (congrArg (List.cons k2) (e3.trans (congrArg (List.cons k3) (e4.trans ((congrArg (List.cons x) (ch e5)).trans (congrArg (λ x=>[x,k5]) (Pf h8)))))))))))
theorem Ip{m:List Value}(h1:c.mro=m)(h2:c.hasDict=true)(h3:(!c.hasDel)=true):c=⟨c.name,c.bases,m,c.ns,c.qualname,true,c.slotNames,c.subclasses,c.abstract,c.collection,false⟩:=by
 subst h1;rcases c with⟨a,b,c,d,e,f,g,h,i,j,k⟩
 have h2:f=true:=h2;have h3:k=false:=sx h3;rw[h2,h3]
noncomputable def M5(C:Nat)(l:List Value):Option (List Value):=hdK l λ v bm=>ifK (v==.ref C) (ifK (Km bm) (some (bm.take (bm.length-3))))
theorem AH{l p:List Value}(h:M5 C l=some p):l=.ref C::(p++[.type "Exception",.type "BaseException",.type "object"])/\p.all gj=true:=
 lH h λ v bm e h=>ay h λ h1 h=>ay h λ h2 h=>aV h2 λ h2 h3=>⟨by rw[e,Pf h1,<-Oy h,<-Pf h3,Qq],Oy h▸h2⟩
noncomputable def xoO(C:Nat)(o:Obj):Option Unit:=ifK (o.cls==.type "type") ((LR o.data).bind λ c=>(M5 C c.mro).bind λ p=>ifK c.hasDict (ifK (!c.hasDel) ((MQ o.slots.toList).map λ J=>())))
noncomputable def xoB(C:Nat)(o:Option Obj):Bool:=o.any λ o=>(xoO C o).isSome
noncomputable def J9(K:Frag)(C:Nat)(ci:ClsI):Bool:=xoB C (K.lookup C)&&(PW K (.ref C) "__init__"==some (some (.ref ci.init))&&(typeIn K (.ref ci.init)==some (.type "function")&&(PW K (.ref C) "__setattr__"==some (some (.builtin "object.__setattr__")) &&
 (Ts K (.ref C) "__call__"==some (some (.builtin "type.__call__"))&&instIn K (.ref C) (.type "type")==some true))))
theorem J8{u:Unit}(h:xoO C o=some u):∃ nm q N bs pre sn sub ab col dd k0 k1 k2 k3 k5,o=excClassObj nm q C N bs (pre++[.type "Exception",.type "BaseException",.type "object"]) true sn sub ab col dd k0 k1 k2 k3 k5 "Exception.__new__"/\pre.all gj=true:=by
 exact ay h λ h1 h=>aw h λ c h2 h=>aw h λ p h3 h=>ay h λ h4 h=>ay h λ h5 h=>bG h λ k h6 J=>⟨_,_,_,_,p,_,_,_,_,_,_,_,_,_,_,Au (Pf h1) ((Iq h2).trans (congrArg Data.cls (Ip (AH h3).1 h4 h5))) (Kr h6),(AH h3).2⟩
theorem Fx{K:Frag}{ci:ClsI}(h:J9 K C ci=true):XMk K C ci:=
 aV h λ h1 h=>aV h λ h2 h=>aV h λ h3 h=>aV h λ h4 h=>aV h λ h5 h6=>
  ⟨nH h1 λ o e h1=>bB h1 λ u h1=>by
   obtain⟨nm,q,N,bs,pre,sn,sub,ab,col,dd,k0,k1,k2,k3,k5,r,g⟩:=J8 h1;exact⟨nm,q,N,bs,pre,sn,sub,ab,col,dd,k0,k1,k2,k3,k5,e.trans (congrArg some r),g⟩,Pf h2,Pf h3,Pf h4,Pf h5,Pf h6⟩
noncomputable def exS(K:Frag)(p q:Nat×ClsI):Bool:=!p.2.isExc||(!q.2.isExc||exmOne K (.ref p.1) (.ref q.1)==some (jZ cfg0 p.1 q.1))
noncomputable abbrev tfL(K:Frag):=(fnL.all (DC K),fnL.map (Fl K),gobL.all (Lx K),fnL.all (λ p=>cO K p.1),clsL.all (λ p=>cO K p.1),[1106,1135].all (cO K),clsL.all (λ p=>p.2.isExc||JU K p.1 p.2),clsL.all (λ p=>!p.2.isExc||JO K p.1 p.2),
 glb.all (LA K),clsL.all (λ p=>!p.2.isExc||J9 K p.1 p.2),clsL.all (λ p=>clsL.all (exS K p)),jP K 1106 fiBoth,Fl K (1106,fiBoth),jP K 133 gl,DD K 133,jP K 1089 fJ,DD K 1089,jP K 1135 ze,DD K 1135,conL.all (λ p=>cO K p.1),nsIn K Pj "law")
noncomputable abbrev tfR:=(true,fnL.map (λ p=>some p.2.body),true,true,true,true,true,true,true,true,true,true,some fiBoth.body,true,some (tyB,lY),true,some (woB,jD),true,some (laB,nJ),true,some (some (Value.ref 1135)))
structure TF(K:Frag):Prop where
 fn1:fnL.all (DC K)=true
 fn2:fnL.map (Fl K)=fnL.map λ p=>some p.2.body
 gob:gobL.all (Lx K)=true
 keep1:fnL.all (λ p=>cO K p.1)=true
 keep2:clsL.all (λ p=>cO K p.1)=true
 keep3:[1106,1135].all (cO K)=true
 cls:clsL.all (λ p=>p.2.isExc||JU K p.1 p.2)=true
 exc:clsL.all (λ p=>!p.2.isExc||JO K p.1 p.2)=true
 glb:glb.all (LA K)=true
 xmk:clsL.all (λ p=>!p.2.isExc||J9 K p.1 p.2)=true
 exS:clsL.all (λ p=>clsL.all (exS K p))=true
 bo1:jP K 1106 fiBoth=true
 bo2:Fl K (1106,fiBoth)=some fiBoth.body
 ty1:jP K 133 gl=true
 ty2:DD K 133=some (tyB,lY)
 wo1:jP K 1089 fJ=true
 wo2:DD K 1089=some (woB,jD)
 la1:jP K 1135 ze=true
 la2:DD K 1135=some (laB,nJ)
 keep4:conL.all (λ p=>cO K p.1)=true
 law:nsIn K Pj "law"=some (some (.ref 1135))
theorem TF.of{K:Frag}(e:tfL K=tfR):TF K where
 fn1:=congrArg (λ t=>t.1) e
 fn2:=congrArg (λ t=>t.2.1) e
 gob:=congrArg (λ t=>t.2.2.1) e
 keep1:=congrArg (λ t=>t.2.2.2.1) e
 keep2:=congrArg (λ t=>t.2.2.2.2.1) e
 keep3:=congrArg (λ t=>t.2.2.2.2.2.1) e
 cls:=congrArg (λ t=>t.2.2.2.2.2.2.1) e
 exc:=congrArg (λ t=>t.2.2.2.2.2.2.2.1) e
 glb:=congrArg (λ t=>t.2.2.2.2.2.2.2.2.1) e
 xmk:=congrArg (λ t=>t.2.2.2.2.2.2.2.2.2.1) e
 exS:=congrArg (λ t=>t.2.2.2.2.2.2.2.2.2.2.1) e
 bo1:=congrArg (λ t=>t.2.2.2.2.2.2.2.2.2.2.2.1) e
 bo2:=congrArg (λ t=>t.2.2.2.2.2.2.2.2.2.2.2.2.1) e
 ty1:=congrArg (λ t=>t.2.2.2.2.2.2.2.2.2.2.2.2.2.1) e
 ty2:=congrArg (λ t=>t.2.2.2.2.2.2.2.2.2.2.2.2.2.2.1) e
 wo1:=congrArg (λ t=>t.2.2.2.2.2.2.2.2.2.2.2.2.2.2.2.1) e
 wo2:=congrArg (λ t=>t.2.2.2.2.2.2.2.2.2.2.2.2.2.2.2.2.1) e
 la1:=congrArg (λ t=>t.2.2.2.2.2.2.2.2.2.2.2.2.2.2.2.2.2.1) e
 la2:=congrArg (λ t=>t.2.2.2.2.2.2.2.2.2.2.2.2.2.2.2.2.2.2.1) e
 keep4:=congrArg (λ t=>t.2.2.2.2.2.2.2.2.2.2.2.2.2.2.2.2.2.2.2.1) e
 law:=congrArg (λ t=>t.2.2.2.2.2.2.2.2.2.2.2.2.2.2.2.2.2.2.2.2) e
theorem uU{α:Type u}{n:Nat}{l:List (Nat×α)}(h:(aX n l).isSome=true):∃ x,(n,x)∈l:=by
 obtain⟨x,e⟩:=Pe.mp h;exact⟨x,bC e⟩
theorem mK(h:dL (o7 con) C=true):∃ ci,(C,ci)∈clsL/\ci.isExc=true:=by
 have h:(match aX C clsL with
  | some ci=>ci.isExc
  | none=>false)=true:=h
 rcases e:aX C clsL with _|ci
 ·rw[e] at h;exact nof h
 ·rw[e] at h;exact⟨ci,bC e,h⟩
theorem wW{α:Type}{l:List α}{b p:α->Bool}{x:α}(h:l.all (λ x=>b x||p x)=true)(m:x∈l)(e:b x=false):p x=true:=by
 have h:=OP.mp h _ m;rw[e] at h;exact h
theorem eS{α:Type u}{P:Nat->α->Prop}{k a:Nat}{c x:α}{r:List (Nat×α)}(e:aX k ((a,c)::r)=some x)(h:P a c)(q:aX k r=some x->P k x):P k x:=by
 rw[aK] at e;by_cases w:a=k
 ·rw[if_pos w] at e;exact Oy e▸w▸h
 ·rw[if_neg w] at e;exact q e
variable {X:Cx}
theorem MO{K:Frag}(F:TF K)(hK:K.In X.B)(hlim:X.B.NoLimit)(hb:∃ mb,X.B.Ns Qh mb/\∀ x:Str,x≠"__name__"->mb x=SZ x):TopC X K cfg0 glb where
 T
  := {
  inB:=hK
  bui:=hb
  glb:=OP.mp F.glb
  keep:=λ a h=>by
   rcases h with h|h|h
   ·obtain⟨x,m⟩:=uU h;exact OP.mp F.keep1 _ m
   ·obtain⟨x,m⟩:=uU h;exact OP.mp F.keep2 _ m
   ·cases h
  gobs:=Dw hK F.gob
  cls:=λ C ci h e=>by have q:=wW F.cls (bC h) e;exact zx q
  exc:=λ C ci h e=>by have q:=wW F.exc (bC h) (congrArg Bool.not e);exact Jn q
  xmk:=λ C ci h e=>by have q:=wW F.xmk (bC h) (congrArg Bool.not e);exact Fx q
  excS:=λ C D h1 h2=>by
   obtain⟨c1,m1,e1⟩:=mK (con:=[]) h1;obtain⟨c2,m2,e2⟩:=mK (con:=[]) h2;have:=OP.mp (OP.mp F.exS _ m2) _ m1;unfold exS at this;dsimp only at this;rw[e1,e2] at this;exact beq_iff_eq.mp this }
 fn:=LC F.fn1 F.fn2
 lim:=hlim
 con:=⟨λ e=>by cases e⟩
 bi:=⟨λ q=>by cases q⟩
abbrev PC(K:Frag)(X:Cx)(a:Nat)(c:Nat->List AV->Sg->Option R):Prop:=cO K a=true/\ConTo X a c
theorem wg{K:Frag}(F:TF K)(hlim:X.B.NoLimit)(T:∀ out h0,TopC (X.into out h0) K cfg0 glb)(keep:∀ a,conL.any (λ p=>OC p.1 a)=true->cO K a=true){c:Nat->List AV->Sg->Option R}(hk:cO K 1106=true){l:List (Nat×(Nat->List AV->Sg->Option R))}(hl:∀ a c,aX a l=some c->cO K a=true/\ConTo X a c)
 (e:aX a ((1084,lim 40 sf)::(1120,lim 20 gu)::(1094,lim 20 nu)::(387,lim 20 nB)::(394,lim 20 wq)::(1113,lim 20 gw)::(97,lim 20 gr)::l)=some c):cO K a=true/\ConTo X a c:=
 have T1:∀ out h0,TopC (X.into out h0) K LV glb:=λ out h0=>fT (T out h0) λ a c e=>eS (P:=PC K (X.into out h0)) e ⟨keep _ rfl,qD (X:=X.into out h0) (λ o h=>T o h) (bM [])⟩ am;have TB:∀ out h0,TopC (X.into out h0) K LS glb:=λ out h0=>fT (T out h0) λ a c e=>eS (P:=PC K (X.into out h0)) e ⟨hk,zr (X:=X.into out h0) (λ o h=>T o h) hlim (AS F.bo1 F.bo2) hk⟩ am;have Q:∀ {a c},cO K a=true->ConTo X a c->cO K a=true/\ConTo X a c:=λ h k=>⟨h,k⟩
 eS (P:=PC K X) e (Q (keep _ rfl) (qD T (bM []))) λ e=>eS (P:=PC K X) e (Q (keep _ rfl) (oY T1)) λ e=>eS (P:=PC K X) e (Q (keep _ rfl) (wd T (bM []))) λ e=>eS (P:=PC K X) e (Q (keep _ rfl) (we T (bM []))) λ e=>eS (P:=PC K X) e (Q (keep _ rfl) (zo T (bM []))) λ e=>
  eS (P:=PC K X) e (Q (keep _ rfl) (oZ TB)) λ e=>eS (P:=PC K X) e (Q (keep _ rfl) (oX T (bM []))) λ e=>hl a c e
theorem FK{K:Frag}(F:TF K)(hK:K.In X.B)(hlim:X.B.NoLimit)(hb:∃ mb,X.B.Ns Qh mb/\∀ x:Str,x≠"__name__"->mb x=SZ x):CN X 1135 laF:=by
 have T:∀ out h0,TopC (X.into out h0) K cfg0 glb:=λ out h0=>MO F hK hlim hb;have keep:∀ a,conL.any (λ p=>OC p.1 a)=true->cO K a=true:=λ a h=>by
  obtain⟨p,m,e⟩:=T9.mp h;have:=OP.mp F.keep4 _ m;rw[<-OB e];exact this
 have hk:cO K 1106=true:=OP.mp F.keep3 _ (.head _);have T2:∀ out h0,TopC (X.into out h0) K LU glb:=λ out h0=>fT (T out h0) λ a c e=>wg (X:=X.into out h0) F hlim (λ o h=>T o h) keep hk af e;have T3:TopC X K (o7 conL) glb:=fT (MO F hK hlim hb) λ a c e=>wg F hlim T keep hk (λ a c e=>eS (P:=PC K X) e ⟨keep _ rfl,zq T (bM [])⟩ λ e=>eS (P:=PC K X) e ⟨keep _ rfl,zp T2⟩ am) e;intro d as vs σ Φ V s A da hA H h;exact Li T T3 (vS F.ty1 F.ty2) (vS F.wo1 F.wo2) (OP.mp F.keep1 _ (bC (show aX 1089 fnL=some _ from rfl))) (vS F.la1 F.la2) da hA H h
end
end Internal
end
end
set_option maxHeartbeats 8000000
set_option tactic.hygienic true
noncomputable section
section
namespace Internal
section
open PySem PySem.W PySem.Calls PyProof.Rows
variable {X:Cx} {vs:List Value} {σ:Sg} {s:Shared} {V:Va}
theorem oR:∀ {vs:List Value} {xs:List Int},IntsAre vs xs->∀ v∈vs,E2 λ i t=>v=Value.int i t:=by
 intro vs xs h v hv
 induction h with
 | nil=>cases hv
 |
  cons _ _ _ ih=>
  cases hv with
  | head=>exact⟨_,_,rfl⟩
  | tail _ q=>exact ih q
noncomputable def MJ(la:Addr)(h:Heap):Va:=⟨[],[la],λ b o=>h.get? b=some o,[]⟩
theorem rx{i:Nat}{o:AO}{P:Prop}(e:sLaw.own.get i=some o):P:=am ((Tr.get_nil i).symm.trans e)
theorem FV{la:Addr}{xs:List Int}(hX:X.B=s.heap)(ho:X.out=[])(hg:s.gens=X.gens)(hs:s.os=X.os)(hh:E2 λ b o=>1<=b/\s.heap.get? b=some o)
 (hL:s.heap.IsList la vs.toArray) (hI:IntsAre vs xs) (hn:xs.length<=63):St X (MJ la s.heap) sLaw s where
 lenO:=rfl
 lenF:=rfl
 top:=λ i _=>Tr.get_nil i
 big:=Pk _
 own:=λ i o e=>rx e
 nodup:=λ i j a h=>h.elim λ o e=>rx e.1
 nb:=λ i a h=>h.elim λ o e=>rx e.1
 nout:=λ i a h=>h.elim λ o e=>rx e.1
 stays:=λ b o e=>e
 frz:=λ j o e=>by
  rcases j with _|j
  ·obtain rfl:=Oy e;obtain⟨ob,h1,h2,n,h3⟩:=hL;exact⟨la,ob,rfl,h1,⟨vs.toArray,n,h2,h3,QP ((IntsAre.length hI).symm▸hn:vs.length<=63),oR hI⟩,trivial⟩
  ·exact am e
 soft:=λ L h=>nomatch (ho▸h:L∈[])
 exc:=λ i c d a e=>rx e
 gens:=hg
 os:=hs
 lenD:=rfl
 base:=λ b o e=>by rw[hX] at e;exact e
 hi:=by rw[hX];exact hh
 low:=λ i a h=>h.elim λ o e=>rx e.1
 dsok:=λ i d e=>am e
 facts:=λ t i j b e=>by cases e
theorem EJ:AOK X V sLaw callerA 0 2 where
 depth:=by decide
 units:=by decide
 guards:=rfl
 frames:=⟨[],rfl,λ e h=>by cases h⟩
 dep:=by decide
 hd:=show callerA.handled=none from rfl
theorem tfK(P:Params):tfL (Hd.KF P)=tfR:=by kernel_rfl
theorem BH(P:Params)(hK:(Hd.KF P).In X.B)(hlim:X.B.NoLimit)(hb:∃ mb,X.B.Ns Qh mb/\∀ x:Str,x≠"__name__"->mb x=SZ x){d:Nat}{as:List AV}{Φ:Out×Sg->Prop}{A:Around}{t:R}
 (e:t=laF d as σ) (da:All2 (DenV V) as vs) (hA:AOK X V σ A d 2) (H:St X V σ s) (h:t.Sat Φ):d7 (Mo X) A (.call (.ref 1135) ⟨vs,[]⟩) (PR X V σ Φ) s:=by
 subst e;exact FK (.of (tfK P)) hK hlim hb da hA H h
theorem Ge{av:AV}{v:Value}(h:Ky (.v av,σ)=true)(d:DenV V av v):v=.bool true:=by
 have h:Fh av=true:=h;rw[jf h] at d;exact d.inv
theorem law_holds:PySem.Challenge.rw_on0275_01.Holds:=by
 refine Hd.head_h ?_;intro w s₀ s₁ mg mb G Y a o pm cd doc dV kV h1 h2 h3 h4 h5 h6 args vals as hpre hlay hrd hwl hlo;have KX:(Hd.KF w.params).In s₁.heap:=Y;clear h1 h2 h3 h4;have hn:mg "law"=some (.ref a):=h5;have hG1:=G.T.g;have hG2:=G.T.b;have hG3:=G.T.nolimit;have hG4:=G.T.builtins;clear h5 G Y;refine bw λ F Y=>?_
 wrow_args hpre hlay hrd hwl hlo
 rename_i xs _ _ _ _ _ _ _ la vs _ hL _ _ _ hI _ hlen _
 have ea:a=1135:=by
  have:=(mg_of KX hG1 (TF.of (tfK w.params)).law).symm.trans hn;cases this;rfl
 subst ea;have hlen:xs.length<=63:=by omega (splitDisjunctions:=true)
 obtain⟨oc,od,osl,fd,bd,hl,_⟩:=(AS (TF.of (tfK w.params)).bo1 (TF.of (tfK w.params)).bo2).ex;have H:St ⟨PySem.Challenge.rw_on0275_01.row.prog,w,s₁.heap,[],s₁.heap,s₁.gens,s₁.os,0⟩ (MJ la s₁.heap) sLaw s₁:=FV rfl rfl rfl rfl ⟨_,_,⟨by decide,KX _ _ hl⟩⟩ hL hI hlen
 obtain⟨t,ht⟩:∃ t,t=laF 0 [.frz 0] sLaw:=⟨_,rfl⟩;have hw:chk Ky t=true:=by rw[ht];exact Dc
 have hs:=lP hw;refine Y (fg (cX (BH w.params KX hG3 ⟨mb,hG2,hG4⟩ ht (.cons (.frz (i:=0) (a:=la) rfl) .nil) EJ H hs) λ r s' z=>?_));clear ht hs hw;rcases r with e|f
 ·obtain⟨V',σ',i,x,c,d,l,k,_,_,_,_,h⟩:=z;exact nof h
 ·rcases f with _|_|_|v
  case ret=>
   obtain⟨V',σ',av,l,k,H',dv,h⟩:=z;have hv:v=.bool true:=Ge h dv;subst hv;refine⟨.inl ⟨.bool true,.bool true,[],rfl,?_,.bool true,?_,λ _=>⟨PJ,λ a h=>by cases h⟩⟩,OldK.of_keep λ b o e=>H'.stays b o (l.K e),H'.os,AllBare.of_eq (H'.gens.trans h6)⟩
   ·intro cls;rfl
   ·exact postW_of (by rfl) (by wtm_val) (by first|rfl|decide)
  all_goals exact z.elim
end
end Internal
end
end
theorem PySem.Challenge.cw_on0275_01_holds : PySem.Challenge.rw_on0275_01.Holds :=
  Internal.law_holds
