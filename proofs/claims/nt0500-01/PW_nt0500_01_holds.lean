import PyProof.Rows.All
import OpenK.AllK
import Open.Split
import Wide.BytesRules
import Lean
import PySem.Challenge.RW_nt0500_01
set_option maxRecDepth 100000
set_option Elab.async false
set_option linter.all false
set_option tactic.hygienic false
set_option maxHeartbeats 4000000
set_option genSizeOf false
set_option genInjectivity false
set_option compiler.extract_closed false
set_option bootstrap.genMatcherCode false
noncomputable section
set_option backward.match.sparseCases false
set_option genCtorIdx false
namespace Mine.Lake
open Option renaming some->S,none->N,casesOn->Rx,map_eq_some_iff->Sa,bind_eq_some_iff->SN,bind_some->TF,map_some->Ud,isNone_iff_eq_none->Ug,isSome_iff_exists->Um,map->UE,bind->Vl,isSome->VD
open _root_ renaming List->V,Nat->Z,Option->O,Int->ML,Bool->MO,Array->M0,of_decide_eq_true->M5,if_pos->Na,congrArg->Nb,if_neg->Nc,absurd->Ng,decide_eq_true->Nm,UInt8->Nn,True->Np,False->Nw,decide_eq_false->NG,Unit->NO,Prod->NT,beq_iff_eq->N9,String->Od,if_false->Oi,not_or->Ol,or_false->OF,Decidable->OH,beq_eq_false_iff_ne->OI,decide_eq_true_eq->OS,congrFun->OU,beq_false_of_ne->OV,ForInStep->O3,DecidableEq->O6,beq_self_eq_true->Pb,decide_eq_decide->Pt,if_true->PF,dif_neg->PQ,of_decide_eq_false->Q5,ne_true_of_eq_false->Q8,decide_eq_true_iff->Q',bne_self_eq_false->Rr
open Bool renaming true->MK,false->MS,casesOn->RD,and_eq_true_iff->RS,false_ne_true->RW,or_eq_true_iff->Sy,false_eq_true->SR,not_eq_true'->S9,and_eq_true->To,or_eq_false_iff->UD,and_false->UO,eq_false_iff->U5,or_eq_true->Vk,and_eq_false_iff->Vv,false_or->VE,not_false->Wc
open PySem renaming Value->MN,Expr->MP,wpAny_bind->MQ,Addr->MR,Str->MT,Heap->MU,Shared->MV,model->MX,wpAny->MY,wpAny_pure->MZ,Stmt->M8,Env->Nf,Pos->Nh,World->Ni,wpAny_mono->Nj,Obj->Nk,Sem->Nl,compEnvC->Nq,DictEntry->Nr,Program->Nu,Around->Nv,wpAny_holding->Nx,NameKind->Ny,cLine->NA,Scope->NB,Flow->ND,FuncData->NI,codeAny->NJ,Builtin->NK,Tok->NL,wpAny_of_eq->NM,mainGlobals->NN,Result->NP,starEach->NR,backTo->NU,wpAny_standAt->NW,Data->NX,Model->NZ,sizeLine->N0,wpAny_call_entry->N1,call->N2,swapsWith->N3,Code->N4,callEnvC->N5,PyData->N6,sizeLine_eq->N8,Params->N',wpAny_specialOf->Oa,typeLookup_type->Oc,typeLookup->Oe,BoolOp->Of,table->Og,execs->Oh,wpAny_execs_nil->Oj,isSubtype->Om,wpAny_callSpecial?_slot->Oq,isSubtype_type->Ot,wpAny_newObj_type->Ou,entryFor->Ov,argsOk->Ow,wpAny_load->Ox,assignEach->Oy,wpAny_truthy_bool->OA,sysModules->OB,pyNext->OD,leaving->OE,clipAt->OK,wpAny_call->OL,wpAny_attempt->OM,wpAny_field->ON,assign->OO,OsState->OP,cellsFrom->OQ,Const->OR,treeTable->OT,wpAny_isInstance->OW,wpAny_dictEntries->OX,wpAny_rule->OY,spliced->O0,codeAny_mono->O1,wpAny_loadPart->O2,bm_if_false->O4,importedModules->O5,Operator->O7,wpAny_Name->O8,wpAny_loadName_local->O9,isInstance->O',getItem->Pc,getAttr->Pe,firstArgMember->Pg,interactive->Ph,swappedStores->Pj,letOwnedTupleGo->Pk,FuncBody->Pl,denote->Pm,reduceHash->Po,typeIs_str->Pp,eqBool->Pq,wpAny_mkInt->Pr,slot_dict_getitem->Pw,compareOp->Px,setItem->Py,holding->Pz,callWith->PD,entryFor_of_tree->PG,pyIter->PH,wpAny_setField->PI,wpAny_execs_cons->PJ,setAttr->PK,cameBackBy->PL,wpAny_assign_Name->PM,GenState->PN,typeOf->PO,callerA->PS,wpAny_ite_split->PV,call_gives->PW,dictGet->PX,wpAny_sequenceKey->PY,wpAny_point->PZ,raiseNew->P0,slicePick->P2,behindInMarks->P4,builtinLookup_eq_fast->P7,getMethod_builtin->P',storeName->Qa,wpAny_lookBehind->Qb,wpAny_assign_Tuple->Qd,wpAny_passesOwn->Qe,PassesOwn->Qf,wpAny_pyIter_list->Qg,newFunctionEnv->Qh,wpAny_typeNameOfWhole_keyiter->Qi,callAny->Qj,seqItems?->Qk,builtinsNs->Qu,wpAny_askSetting->Qv,tupleKeyHash->Qw,tupleKind->Qx,slot_dict_contains->Qy,wpAny_notOrdered_dict->Qz,callSpecial?->QA,wpAny_letGo->QB,slot_list_getitem->QC,recursionLimit->QD,wpAny_mkText->QE,getMethod->QG,newFields->QI,wpAny_pyIter_slot->QJ,wpAny_handled->QK,wpAny_throw->QL,isSubtype_stop->QM,wpAny_Expr_any->QN,typeIs_int->QO,wpAny_update->QP,assignInOrder->QR,plainObj_wpAny_Assign_Attribute->QT,bootBuiltins->QU,wpAny_comprehension_free->QV,wpAny_dictEpoch->QW,codeAny_of_tree->QX,plainId_quiet->QY,ClassData->QZ,specialOf->Q0,checkBuiltinCall->Q1,bindSpecial->Q2,entry_typeCall->Q3,wpAny_loadName_cell->Q6,wpAny_loadName_free->Q7,wpAny_pyHash_str->Q9,wpAny_dictFind_of->Ra,wpAny_updateDictKeys->Rb,slot_dict_setitem->Rc,getitemInPython_of_ne->Rd,wpAny_operating->Rf,wpAny_letTemporaryGo->Rg,wpAny_List_spliced->Rh,codeAny_call_builtin->Ri,arm_eval_Attribute->Rj,slot_listiter_next->Rk,underTheClaimsCaller->Rl,slot_list_setitem->Rm,wpAny_updatePart->Rn,pastItsLine_dict->Ro,wpAny_pyIter_listiter->Rp,wpAny_isOneOf_keyiter->Rq,codeAny_call_function->Rt,leftWithCleanup->Ru
open Decidable renaming decide->MW
open PySem.W renaming Looks->Nt,Frag->Nz,instObj->NC,emptyDict->NH,any_some->NQ,nsIn->NY,findIn->N7,typeIn->Ob,boot_heap->Oo,SharedT->Oz,clsIn->OC,WData->OG,typeIs_bytes->Pa,keepIn->Pd,looks_findIn->Pf,topRun->Pn,takerIn->PA,lookIn->PB,keeps_K->PE,WShape->PT,topStub->PU,specialIn->P5,check_slot->P8,looks_mroIn->P9,looks_clsIn->Qc,makesIn->Ql,through->Qm,boot_drawn->Qn,boot_toks->Qo,staticsOk->Qp,namesBound->Qq,gensDone->Qr,laidKept->Qs,openGood->Qt,callWith_of->QF,hideAll_none->Q4,wellAll_cons_inv->Rv,ownOf->Wb
open LawfulBEq renaming eq_of_beq->OJ
open PyProof.Rows renaming subscriptTail->OZ,Subscript_->P1,append_at->QH,callWith_type->UZ,getItem_tuple->Wd,neg_int->Wh,lt_int->Wi,le_int->Wj,gt_int->Wk,ge_int->Wl
open PySem.Calls renaming Name_function_global->PC,loadGlobal_global->P6
open List renaming mem_singleton->Rw,length_map->Ry,getElem?_eq_getElem->RA,mem_cons->RB,casesOn->RC,length_append->RE,getElem?_eq_some_iff->RF,mem_of_getElem?->RI,getElem?_map->RJ,mem_append_left->RK,mem_append->RL,mem_append_right->RO,nodup_cons->RV,count_eq_zero_of_not_mem->RZ,mem_map_of_mem->R2,map_cons->R4,getElem?_set_ne->R6,map_append->R7,count_append->R9,count_pos_iff->R',all_eq_true->Se,forall_mem_nil->Sh,mem_map->Si,getElem?_eq_none->Sj,nodup_append->Sl,append_assoc->Sm,length_reverse->Sq,exists_cons_of_length_eq_add_one->Su,append_nil->Sx,not_mem_nil->Sz,lookup_cons->SG,mem_iff_getElem?->SI,map_map->SW,length_cons->SY,length_take->S0,length_set->Ta,getElem?_append_left->Tc,set_set->Te,getElem?_set_self->Tg,range->Th,getElem?_append_right->Tn,isEmpty_iff->Tp,contains_iff_mem->Tr,filterMap_map->Ts,filterMap_eq_map->Tt,length_drop->TC,nodup_nil->TK,filter_cons->TN,filterMap_cons->TO,forIn_cons->TV,mem_filterMap->TX,mem_filter->TY,count_cons_self->T9,lookup->Ua,foldl_cons->Ue,nil_append->Uh,findIdx?_cons->Uj,getElem?_take_of_lt->Ul,getElem?_set_self'->Up,length_eq_zero_iff->Uq,getElem?_set->Ur,reverse_cons->Us,drop_eq_nil_of_le->Ut,length->Uu,set_comm->Uw,length_filter_le->Uz,length_singleton->UA,getElem?_append->UB,mem_of_mem_take->UG,eq_nil_of_length_eq_zero->UI,filter_eq_self->UK,map_congr_left->UL,filter_sublist->UM,replicate->UN,forIn_nil->UP,mem_zipIdx_iff_getElem?->UQ,getElem?_concat_length->UR,map_singleton->UT,getD_eq_getElem?_getD->UU,map_take->UX,getElem?_inj->U4,any_eq_false->U6,drop_eq_getElem_cons->U7,mem_take_iff_getElem->U8,append_eq_append_iff->U9,find?_cons->Vh,count_cons->Vi,getElem?_reverse->Vw,count_cons_of_ne->Vy,mem_range->Vz,set_getElem_self->VA,any_cons->VC,length_pos_iff->VG,map_set->VN,map_nil->VO,filter_append->VQ,length_range->VW,getElem_drop->VX,map_id->V1,getElem_zip->V5,cons_append->V6,getElem_map->V8
open PySem.Heap renaming get?_push_of_some->Rz,get?_push_size->R3,get?_update_self->R8,SameBut->Sw,lt_size->SD,get?_none_of_le->SU,get?_update_other->S8,size_push->Vx,FlyingW->VJ
open Nat renaming le_trans->RG,lt_of_le_of_lt->RM,lt_of_lt_of_le->RQ,lt_irrefl->RU,casesOn->RX,le_of_eq->R1,le_add_right->R5,le_refl->Sb,le_of_ble_eq_true->Sd,le_succ->Sn,lt_succ_self->SA,le_succ_of_le->SM,le_add_left->SQ,ble->SX,ne_of_gt->S6,min_le_left->Tb,ne_of_lt->Td,le_of_lt->Tf,not_lt->Ti,add_le_add_right->Tv,add_le_add_left->Tz,succ_le_succ->TB,lt_of_lt_of_eq->TH,add_right_comm->TU,le_of_lt_succ->TZ,zero_add->T4,min_le_right->T8,mul_le_mul_left->Ub,add_sub_cancel'->Uc,not_le->Uo,succ_lt_succ->Ux,eq_of_beq_eq_true->Uy,not_lt_zero->UC,lt_succ_of_lt->U3,succ_pos->Va,succ_ne_self->Vb,lt_add_of_pos_right->Ve,le_antisymm->Vf,min_eq_left->Vg,zero_le->Vo,le_add_right_of_le->Vq,sub_le_iff_le_add->Vt,le_of_sub_eq_zero->Vu,add_assoc->VB,add_lt_add_left->VF,lt_trans->VL,sub_self->VP,sub_sub_right->VS,le_of_succ_le->VV,lt_succ_of_le->VY,one_pos->VZ,min_eq_right->V2,lt_of_not_le->V7,sub_lt->V9,blt_eq->Wa
open Array renaming length_toList->RH,getElem?_toList->SJ,getElem?_eq_getElem->Tu,mk->T',eraseIdxIfInBounds->Ui,toList_setIfInBounds->UY,getElem?_eq_some_iff->U1,getElem?_eq_none->Vm,any_toList->V3
open Int renaming natCast_nonneg->RP,ofNat_lt->RT,le_trans->SV,ofNat_le->S4,eq_ofNat_of_zero_le->TP,toNat->TQ,lt_of_lt_of_le->TR,not_lt->TS,toNat_natCast->T1,mul_le_mul_of_nonneg_left->UH,toNat_of_nonneg->UJ,ofNat_inj->U2,ne_of_gt->U',le_refl->Vp,fmod_nonneg_of_pos->Vr,add_le_add->Vs,ofNat->VH,lt_of_le_of_lt->VI,le_of_lt->VK
open True renaming intro->RY
open Option.some renaming inj->Sk,injEq->VT
open PySem.Heap.SameBut renaming update->So
open PySem.PyData renaming keyHash->Sr
open PySem.Expr renaming ctorIdx->SF,casesOn->T2
open PySem.Flow renaming casesOn->SH
open UInt8 renaming toNat->SK,ofNat->V0
open Ne renaming symm->S7
open PySem.NameKind renaming free->Tj,cell->U0,casesOn->Vc
open PySem.Obj renaming data_mapFields->Tq,isFreed_of_fields->TJ,putName->Vn,cls_mapFields->VU,mapBytearray->V4,mapSeq->V',mapFields->Wf
open PySem.Str renaming ofString->Tw
open PySem.Builtin.Bytes renaming decodersThatHold->Tx,payload->We
open PySem.Expr.Attribute renaming elim->TA
open PySem.Sem renaming wp_mono->TG,wp_bind'->VM
open PySem.Expr.BoolOp renaming elim->TL
open PySem.Stmt renaming ctorIdx->TM
open Nat.succ renaming inj->T3
open PySem.Value.ref renaming elim->T5,inj->UW
open PySem.Code renaming quiet_builtin->Uk
open List.cons renaming inj->Uv
open Or renaming inr->US,inl->Vd,elim->Wg
open And renaming intro->Vj
universe u v
section
set_option genCtorIdx true in
inductive dG|Thing|Text|Row|Dict|Span|CE|jP|Mem|bR
 deriving O6
set_option genCtorIdx true in
inductive BI|len|min|max|abs|int|bytes|mU|list|tm|fK|gS
set_option genCtorIdx true in
inductive wk|add|sub|mul|fdiv|mod|pow
set_option genCtorIdx true in
inductive zL|eq|ne|lt|le|gt|ge|is|kA|in|qr
mutual
inductive LE where
 |kP|qj (b:MO)|int (i:ML)|str (k:Z)|bx (l:V Z)
 |var (x:Z)|gf (f:Z)|gc (c:dG)|gi (nm:Z) (i:ML)
 |attr (e:LE) (a:Z)
 |call (f:LE) (as:cA)|bq (b:BI) (as:cA)|aU (e:LE) (m:Z) (as:cA)
 |sub (e i:LE)|qk (e:LE) (lo hi:LO)|pick (ks:V Z) (vs:cA) (i:LE)
 |tup (es:cA)|lst (es:cA)|emp|tq (ks:V Z) (vs:cA)
 |bin (o:wk) (l r:LE)|cmp (o:zL) (l r:LE)|and (l r:LE)|or (l r:LE)|not (e:LE)|neg (e:LE)
 |ite (c a b:LE)
 |comp (elt:LE) (ts:V Z) (it:LE) (cond:LO)|vals (e:LE) (x:Z)
inductive cA where
 |nil|cons (e:LE) (r:cA)
inductive LO where
 |no|so (e:LE)
end
mutual
inductive LS where
 |asg (x:Z) (e:LE)|eO (e:LE) (a:Z) (v:LE)|et (e i v:LE)
 |qs (xs:V Z) (e:LE)|gp (xs:V Z) (es:cA)|kQ (os is vs:cA)
 |exp (e:LE)|ifs (c:LE) (a b:dR)
 |di (x:Z) (e:LE) (b:dR)|iQ (i x:Z) (e:LE) (b:dR)|zy (c:LE) (b:dR)
 |ret (e:LE)|eV (e:LE)|kR (e:LE) (x:Z) (h:LE)|any
inductive dR where
 |nil|cons (s:LS) (r:dR)
end
set_option genCtorIdx true in
inductive AV where
 |none|bool (b:MO)|int (i:ML)|str (k:Z)|bx (l:V Z)
 |fn (k:Z)|cls (c:dG)
 |aE (k:Z)|ab (k:Z)|eP (k:Z)|aA (k:Z)
 |tup (vs:V AV)|lst (vs:V AV)|obj (c:dG) (vs:V AV)|exc (told:AV)
open Mine.Lake.AV renaming casesOn->Wm
open Mine.Lake renaming AV->Q
theorem AV.bool.inj{I M:MO}(B:Q.bool I=.bool M):I=M:=by cases B;rfl
theorem AV.int.inj{I M:ML}(B:Q.int I=.int M):I=M:=by cases B;rfl
variable{c:Sort _}{b d e:Z}
theorem AV.str.inj(B:Q.str d=.str e):d=e:=by cases B;rfl
theorem AV.bx.inj{I M:V Z}(B:Q.bx I=.bx M):I=M:=by cases B;rfl
theorem AV.tup.inj{I M:V Q}(B:Q.tup I=.tup M):I=M:=by cases B;rfl
structure AH where
 L:V (V Q):=[]
 D:V (V (Q×Q)):=[]
 B:V (V ML):=[]
 I:V (dG×V Q):=[]
set_option genCtorIdx true in
inductive Res(α:Type)where
 |ok (a:α)|exc (told:Q) (H:AH)|bad
open Mine.Lake.Res renaming casesOn->Wn
noncomputable def Res.bind{i d:Type}:Res i->(i->Res d)->Res d
 |.ok I,A=>A I
 |.exc n b,_=>.exc n b
 |.bad,_=>.bad
noncomputable def Res.tr{i:Type}:Res i->Res i
 |.ok I=>.ok I
 |_=>.bad
noncomputable def Res.of{i:Type}:O i->Res i
 |some I=>.ok I
 |none=>.bad
structure de where
 aY:Z
 cy:V Q
 slots:V (O Z)
 body:dR
structure zz where
 aY:Z
 cy:V Q
 slots:V (O Z)
 bT:V Z
 vals:cA
abbrev Loc:=V (O Q)
set_option genCtorIdx true in
inductive Key|fn(k:Z)|cls(c:dG)
 deriving O6
theorem Key.fn.inj(B:Key.fn d=.fn e):d=e:=by cases B;rfl
abbrev CF:=Key->V Q->AH->Res (Q×AH)
set_option genCtorIdx true in
inductive Fl|next|ret(v:Q)
noncomputable def BQ:Q->Q->O MO
 |.none,.none=>S MK
 |.bool I,.bool M=>S (I==M)
 |.int I,.int M=>S (MW (I=M))
 |.str I,.str M=>S (I==M)
 |.bx I,.bx M=>S (I==M)
 |_,_=>N
noncomputable def qt:V Q->V Q->O MO
 |[],[]=>S MK
 |I :: l,M :: f=>match BQ I M,qt l f with
  |some r,S s=>S (r&&s)
  |_,_=>N
 |_,_=>N
noncomputable def eqT:Q->Q->O MO
 |.tup I,.tup M=>qt I M
 |I,M=>BQ I M
noncomputable def rG:V Q->V Q->O MO
 |[],[]=>S MK
 |I :: l,M :: f=>match eqT I M,rG l f with
  |some r,S s=>S (r&&s)
  |_,_=>N
 |_,_=>N
noncomputable def zM(I M:V Q):O MO:=if I.length=M.length then rG I M else S MS
noncomputable def itemsOf(b:AH):Q->O (V Q)
 |.lst w=>S w
 |.aE H=>b.L[H]?
 |_=>N
noncomputable def zA(b:AH)(I M:Q):O MO:=match itemsOf b I,itemsOf b M with
 |some r,S s=>zM r s
 |none,N=>eqT I M
 |_,_=>N
noncomputable def truthy:Q->O MO
 |.bool M=>S M
 |_=>N
noncomputable def isNone:Q->O MO
 |.none=>S MK
 |.exc _=>N
 |_=>S MS
noncomputable def gq:Q->V Q->O MO
 |.bx _,[]=>S MS
 |.bx T,.bx x :: j=>(gq (.bx T) j).map (x==T||·)
 |_,_=>N
noncomputable def big:ML:=2 ^ 62
noncomputable def sm(q:Z):MO:=MW (q<1000)
noncomputable def kC:Q->MO
 |.str _|.bx _=>MK
 |_=>MS
noncomputable def keyOk:Q->MO
 |.str _|.int _=>MK
 |.tup w=>w.all kC
 |_=>MS
noncomputable def eF(H:Q):V (Q×Q)->O (O Z)
 |[]=>S N
 |D :: y=>match eqT D.1 H with
  |some MK=>S (S 0)
  |some MS=>(eF H y).map (·.map (· + 1))
  |none=>N
noncomputable def eG(H:Q)(y:V (Q×Q)):O (O Z):=if keyOk H then eF H y else N
noncomputable def cX(y:V (Q×Q))(H:Q):O (O Q):=(eG H y).map λP=>P.bind λK=>(y[K]?).map (·.2)
noncomputable def mV(y:V (Q×Q))(H E:Q):O (V (Q×Q)):=match eG H y with
 |some (S K)=>S (y.modify K λD=>(D.1,E))
 |some N=>if sm y.length then S (y++[(H,E)]) else N
 |none=>N
noncomputable def uM(y:V (Q×Q))(H:Q):O (V (Q×Q)):=match eG H y with
 |some (S K)=>S (y.eraseIdx K)
 |_=>N
noncomputable def wm:zL->ML->ML->O MO
 |.lt,I,M=>S (MW (I<M))
 |.le,I,M=>S (MW (I<=M))
 |.gt,I,M=>S (MW (M<I))
 |.ge,I,M=>S (MW (M<=I))
 |_,_,_=>N
noncomputable def E9(b:AH)(I M:Q):O MO:=match M with
 |.lst w=>gq I w
 |.ab H=>(b.D[H]?).bind λy=>(eG I y).map (·.isSome)
 |_=>N
noncomputable def ct(b:AH)(z:zL)(I M:Q):O MO:=match z with
 |.eq=>zA b I M
 |.ne=>(zA b I M).map (!·)
 |.is=>match M with|.none=>isNone I|_=>N
 |.kA=>match M with|.none=>(isNone I).map (!·)|_=>N
 |.in=>E9 b I M
 |.qr=>(E9 b I M).map (!·)
 |z=>match I,M with|.int r,.int s=>wm z r s|_,_=>N
noncomputable def bZ(z:wk)(I M:Q):O Q:=match I,M with
 |.int r,.int s=>match z with
  |.add=>S (.int (r+s))
  |.sub=>S (.int (r - s))
  |.mul=>if MW (0<=r)&&MW (r<2 ^ 30)&&MW (0<=s)&&MW (s<2 ^ 30) then S (.int (r*s)) else N
  |.fdiv=>if MW (0<s)&&MW (s<2 ^ 30) then S (.int (r.fdiv s)) else N
  |.mod=>if MW (0<s) then S (.int (r.fmod s)) else N
  |.pow=>if r=10/\s=6 then S (.int 1000000) else N
 |.lst r,.lst s=>match z with|.add=>if sm (r.length+s.length) then S (.lst (r++s)) else N|_=>N
 |_,_=>N
noncomputable def place(K:ML)(q:Z):O Z:=if 0<=K then(if K<q/\K<1000 then S K.toNat else N) else if K = -1/\0<q then S (q - 1) else N
noncomputable def aR(b:AH)(I K:Q):O Q:=match I,K with
 |.aE H,.int K=>(b.L[H]?).bind λw=>(place K w.length).bind λi=>w[i]?
 |.lst w,.int K=>(place K w.length).bind λi=>w[i]?
 |.tup w,.int K=>(place K w.length).bind λi=>w[i]?
 |.ab H,K=>(b.D[H]?).bind λy=>(cX y K).bind id
 |_,_=>N
noncomputable def oK:O Q->O (O ML)
 |none=>S N
 |some (.int K)=>if 0<=K/\K<big then S (S K) else N
 |_=>N
noncomputable def cut{i:Type}(w:V i)(o d:O ML):V i:=(w.take (d.elim w.length TQ)).drop (o.elim 0 TQ)
noncomputable def dP(b:AH)(I:Q)(o d:O Q):O (Q×AH):=match oK o,oK d with
 |some o,S d=>match I with
  |.lst w=>if sm w.length then S (.lst (cut w o d),b) else N
  |.bx T=>if sm T.length then S (.bx (cut T o d),b) else N
  |.aE H=>(b.L[H]?).bind λw=>if sm w.length then S (.aE b.L.length,{b with L:=b.L++[cut w o d]}) else N
  |_=>N
 |_,_=>N
noncomputable def dm(b:AH)(I K E:Q):O AH:=match I with
 |.aE H=>match K with
  |.int K=>(b.L[H]?).bind λw=>if 0<=K/\K<w.length/\sm w.length=MK then S {b with L:=b.L.set H (w.set K.toNat E)} else N
  |_=>N
 |.ab H=>(b.D[H]?).bind λy=>(mV y K E).map λa=>{b with D:=b.D.set H a}
 |.eP H=>match K,E with
  |.int K,.int z=>(b.B[H]?).bind λf=>if 0<=K/\K<f.length/\0<=z/\z<256/\sm f.length=MK then S {b with B:=b.B.set H (f.set K.toNat z)} else N
  |_,_=>N
 |_=>N
noncomputable def Fp:dG->V Z
 |.bR=>[]
 |.Thing=>[9,11,78,16]
 |.Text=>[23,4,15,26]
 |.Row=>[23,6,15,26]
 |.Dict=>[23,47,15,26,16,0]
 |.Span=>[14,18,19]
 |.CE=>[80,81,82,25,83,36,39,0,24,84,85,86,87,34]
 |.jP=>[23,19,29,88]
 |.Mem=>[33,15,25,43,30,57,29,28,27,53]
noncomputable def Hn(I:Z):V Z->O Z
 |[]=>N
 |M :: y=>if I==M then S 0 else(Hn I y).map (· + 1)
noncomputable def HM(I:Z):V (Z×Z)->O Z
 |[]=>N
 |P :: y=>if I==P.1 then S P.2 else HM I y
noncomputable def gH(C:dG)(I:Z):O Z:=Hn I (Fp C)
noncomputable def dz(b:AH)(E:Q)(I:Z):O Q:=match E with
 |.obj C w=>(gH C I).bind λK=>w[K]?
 |.aA H=>(b.I[H]?).bind λP=>(gH P.1 I).bind λK=>P.2[K]?
 |.exc n=>if I=76 then S n else N
 |_=>N
noncomputable def dH(b:AH)(E:Q)(I:Z)(r:Q):O AH:=match E with
 |.aA H=>(b.I[H]?).bind λP=>(gH P.1 I).bind λK=>if K<P.2.length/\sm P.2.length=MK then S {b with I:=b.I.set H (P.1,P.2.set K r)} else N
 |_=>N
noncomputable def fQ:dG->MO
 |.Dict|.Mem=>MS
 |_=>MK
noncomputable def lK(A:Q->O (Q×AH)):V Q->O (Q×AH)
 |[r]=>A r
 |_=>N
noncomputable def CG(A:Q->Q->O (Q×AH)):V Q->O (Q×AH)
 |[r,s]=>A r s
 |_=>N
noncomputable def kT(A:ML->O (Q×AH)):Q->O (Q×AH)
 |.int I=>A I
 |_=>N
noncomputable def HN(A:V Z->O (Q×AH)):Q->O (Q×AH)
 |.bx T=>A T
 |_=>N
noncomputable def CH(A:V Q->O (Q×AH)):Q->O (Q×AH)
 |.lst T=>A T
 |_=>N
noncomputable def CJ(b:AH):Q->O (Q×AH)
 |.aE H=>(b.L[H]?).bind λw=>if sm w.length then S (.int w.length,b) else N
 |.lst w=>if sm w.length then S (.int w.length,b) else N
 |.bx T=>if sm T.length then S (.int T.length,b) else N
 |.ab H=>(b.D[H]?).bind λy=>if sm y.length then S (.int y.length,b) else N
 |.eP H=>(b.B[H]?).bind λf=>if sm f.length then S (.int f.length,b) else N
 |_=>N
noncomputable def BR(b:AH):Q->O (Q×AH)
 |.ab H=>(b.D[H]?).bind λy=>if sm y.length then S (.lst (y.map (·.1)),b) else N
 |.eP H=>(b.B[H]?).bind λf=>if sm f.length then S (.lst (f.map .int),b) else N
 |_=>N
noncomputable def bB(b:AH)(M:BI)(l:V Q):O (Q×AH):=match M with
 |.len=>lK (CJ b) l
 |.min=>CG (λr s=>kT (λI=>kT (λM=>S (.int (if M<I then M else I),b)) s) r) l
 |.max=>CG (λr s=>kT (λI=>kT (λM=>S (.int (if I<M then M else I),b)) s) r) l
 |.abs=>lK (kT λI=>S (.int I.natAbs,b)) l
 |.int=>lK (kT λI=>S (.int I,b)) l
 |.bytes=>lK (kT λq=>if q=2 then S (.bx [0,0],b) else N) l
 |.mU=>lK (HN λT=>if sm T.length then S (.eP b.B.length,{b with B:=b.B++[T.map VH]}) else N) l
 |.list=>lK (BR b) l
 |.tm=>lK (CH λw=>if sm w.length then S (.aE b.L.length,{b with L:=b.L++[w]}) else N) l
 |.fK=>lK (kT λq=>if 0<=q/\q<1000 then S (.lst ((Th q.toNat).map λ(K:Z)=>Q.int K),b) else N) l
 |.gS=>lK (CH λY=>S (.bool MS,b)) l
noncomputable def gJ(b:AH)(E:Q)(x:Z)(l:V Q):O (Q×AH):=match E with
 |.aE H=>if x=44 then(match l with
   |[r]=>(b.L[H]?).bind λw=>if sm w.length then S (.none,{b with L:=b.L.set H (w++[r])}) else N
   |_=>N)
  else if x=51 then(match l with
   |[]=>(b.L[H]?).bind λw=>if sm w.length then(w.getLast?).map λr=>(r,{b with L:=b.L.set H w.dropLast}) else N
   |_=>N)
  else N
 |.ab H=>if x=48 then(match l with
   |[r]=>(b.D[H]?).bind λy=>(cX y r).map λa=>(a.getD .none,b)
   |_=>N)
  else if x=51 then(match l with
   |[r]=>(b.D[H]?).bind λy=>if sm y.length then((cX y r).bind id).bind λa=>(uM y r).map λc=>(a,{b with D:=b.D.set H c}) else N
   |_=>N)
  else N
 |_=>N
noncomputable def mL:dG->V (Z×Z)
 |.Dict=>[(48,1),(75,2)]
 |.Mem=>[(26,20),(31,21),(37,22),(32,23),(63,24),(35,25),(61,26),(62,27),(42,28),(46,29),(65,30),(41,31),(66,32),(117,33),(50,34),(67,35),(69,36),(68,37),(72,38),(54,39),(77,40),(118,41),(55,42),(74,43),(71,44),(56,45),(73,46),(119,47),(120,48),(121,49)]
 |_=>[]
noncomputable def oM(C:dG)(x:Z):O Z:=HM x (mL C)
inductive Src|dS(vs:V Q)|lL(k:Z)
noncomputable def Src.at(t:Src)(K:Z)(b:AH):O (O Q):=match t with
 |.dS w=>S w[K]?
 |.lL H=>(b.L[H]?).map (·[K]?)
noncomputable def srcOf(b:AH):Q->O (Src×Z)
 |.lst w=>if sm w.length then S (.dS w,w.length) else N
 |.aE H=>(b.L[H]?).bind λw=>if sm w.length then S (.lL H,w.length) else N
 |_=>N
noncomputable def iD(y:V (Q×Q)):V (Q×Q)->O (V Q)
 |[]=>S []
 |P :: a=>match (cX y P.1).bind id,iD y a with
  |some E,S w=>S (E :: w)
  |_,_=>N
noncomputable def kE(b:AH):Q->Res (Q×AH)
 |.ab H=>match b.D[H]? with
  |some y=>if sm y.length then(match iD y y with|some w=>.ok (.lst w,b)|none=>.bad) else .bad
  |none=>.bad
 |_=>.bad
noncomputable def bP(g:Q->AH->Res (O Q×AH))(t:Src):Z->Z->AH->Res (V Q×AH)
 |0,_,_=>.bad
 |q+1,K,b=>match t.at K b with
  |none=>.bad
  |some N=>.ok ([],b)
  |some (S E)=>(g E b).bind λy=>(bP g t q (K+1) y.2).bind λL=>.ok ((match y.1 with|some r=>r :: L.1|none=>L.1),L.2)
noncomputable def cg(g:Z->Q->Loc->AH->Res (Fl×Loc×AH))(t:Src):Z->Z->Loc->AH->Res (Fl×Loc×AH)
 |0,_,_,_=>.bad
 |q+1,K,T,b=>match t.at K b with
  |none=>.bad
  |some N=>.ok (.next,T,b)
  |some (S E)=>(g K E T b).bind λy=>match y.1 with
   |.next=>cg g t q (K+1) y.2.1 y.2.2
   |.ret r=>.ok (.ret r,y.2.1,y.2.2)
noncomputable def gK(C:Loc->AH->Res (MO×AH))(g:Loc->AH->Res (Fl×Loc×AH)):Z->Loc->AH->Res (Fl×Loc×AH)
 |0,_,_=>.bad
 |q+1,T,b=>(C T b).bind λM=>if M.1 then(g T M.2).bind λy=>match y.1 with
   |.next=>gK C g q y.2.1 y.2.2
   |.ret r=>.ok (.ret r,y.2.1,y.2.2)
  else .ok (.next,T,M.2)
noncomputable def fA(T:Loc):V Z->Q->O Loc
 |[r],E=>S (T.set r (S E))
 |[r,s],.tup [I,M]=>S ((T.set r (S I)).set s (S M))
 |_,_=>N
noncomputable def df(T:Loc):V Z->V Q->O Loc
 |[],[]=>S T
 |r :: j,E :: w=>df (T.set r (S E)) j w
 |_,_=>N
noncomputable def Fq(b:AH):V Q->V Q->V Q->O AH
 |[],[],[]=>S b
 |z :: e,K :: q,E :: w=>(dm b z K E).bind λr=>Fq r e q w
 |_,_,_=>N
noncomputable def aG(e:CF)(b:AH)(I:Q)(A:Z):Res (Q×AH):=match dz b I A with
 |some E=>.ok (E,b)
 |none=>match I with
  |.aA H=>match b.I[H]? with
   |some (.Mem,_)=>if A=26 then(e (.fn 20) [.aA H] b).tr else .bad
   |_=>.bad
  |_=>.bad
noncomputable def keyOf:Q->O Key
 |.fn H=>if H<60 then S (.fn H) else N
 |.cls C=>S (.cls C)
 |_=>N
set_option genCtorIdx true in
inductive Recv|own(f:Z)|bJ
theorem Recv.own.inj(B:Recv.own d=.own e):d=e:=by cases B;rfl
noncomputable def aK(b:AH)(E:Q)(x:Z):O Recv:=match E with
 |.aA H=>match b.I[H]? with
  |some (C,_)=>if x=26 then N else(oM C x).map .own
  |none=>N
 |.aE _=>if x=44\/x=51 then S .bJ else N
 |.ab _=>if x=48\/x=51 then S .bJ else N
 |_=>N
noncomputable def gT(g:V Z)(w:V Q)(K:Q)(b:AH):Res (Q×AH):=match K with
 |.str H=>match (g.zip w).find? (λP=>P.1==H) with
  |some P=>.ok (P.2,b)
  |none=>.bad
 |_=>.bad
section
variable(cf:CF)
mutual
noncomputable def aO:LE->Loc->AH->Res (Q×AH)
 |.kP,_,H=>.ok (.none,H)
 |.qj b,_,H=>.ok (.bool b,H)
 |.int i,_,H=>.ok (.int i,H)
 |.str k,_,H=>.ok (.str k,H)
 |.bx b,_,H=>.ok (.bx b,H)
 |.var x,l,H=>match l[x]? with|some (S v)=>.ok (v,H)|_=>.bad
 |.gf f,_,H=>.ok (.fn f,H)
 |.gc c,_,H=>.ok (.cls c,H)
 |.gi _ i,_,H=>.ok (.int i,H)
 |.attr e a,l,H=>(aO e l H).bind λr=>aG cf r.2 r.1 a
 |.call f as,l,H=>(aO f l H).bind λr=>match keyOf r.1 with
  |some k=>(bp as l r.2).bind λq=>cf k q.1 q.2
  |none=>.bad
 |.bq b as,l,H=>(bp as l H).bind λq=>.of (bB q.2 b q.1)
 |.aU e m as,l,H=>(aO e l H).bind λr=>match aK r.2 r.1 m with
  |some (.own f)=>(bp as l r.2).bind λq=>cf (.fn f) (r.1 :: q.1) q.2
  |some .bJ=>(bp as l r.2).bind λq=>.of (gJ q.2 r.1 m q.1)
  |none=>.bad
 |.sub e i,l,H=>(aO e l H).bind λr=>(aO i l r.2).bind λq=>match aR q.2 r.1 q.1 with
  |some v=>.ok (v,q.2)
  |none=>.bad
 |.qk e lo hi,l,H=>(aO e l H).bind λr=>(zB lo l r.2).bind λa=>(zB hi l a.2).bind λb=>.of (dP b.2 r.1 a.1 b.1)
 |.pick ks vs i,l,H=>(bp vs l H).bind λq=>(aO i l q.2).bind λr=>gT ks q.1 r.1 r.2
 |.tup es,l,H=>(bp es l H).bind λq=>.ok (.tup q.1,q.2)
 |.lst es,l,H=>(bp es l H).bind λq=>.ok (.lst q.1,q.2)
 |.emp,_,H=>.ok (.aE H.L.length,{H with L:=H.L++[[]]})
 |.tq ks vs,l,H=>(bp vs l H).bind λq=>if ks.length=q.1.length then .ok (.ab q.2.D.length,{q.2 with D:=q.2.D++[(ks.map Q.str).zip q.1]}) else .bad
 |.bin o a b,l,H=>(aO a l H).bind λr=>(aO b l r.2).bind λq=>match bZ o r.1 q.1 with
  |some v=>.ok (v,q.2)
  |none=>.bad
 |.cmp o a b,l,H=>(aO a l H).bind λr=>(aO b l r.2).bind λq=>match ct q.2 o r.1 q.1 with
  |some v=>.ok (.bool v,q.2)
  |none=>.bad
 |.and a b,l,H=>(aO a l H).bind λr=>match truthy r.1 with
  |some MK=>aO b l r.2
  |some MS=>.ok (r.1,r.2)
  |none=>.bad
 |.or a b,l,H=>(aO a l H).bind λr=>match truthy r.1 with
  |some MK=>.ok (r.1,r.2)
  |some MS=>aO b l r.2
  |none=>.bad
 |.not e,l,H=>(aO e l H).bind λr=>match truthy r.1 with
  |some b=>.ok (.bool (!b),r.2)
  |none=>.bad
 |.neg e,l,H=>(aO e l H).bind λr=>match r.1 with
  |.int i=>.ok (.int (-i),r.2)
  |_=>.bad
 |.ite c a b,l,H=>(aO c l H).bind λr=>match truthy r.1 with
  |some MK=>aO a l r.2
  |some MS=>aO b l r.2
  |none=>.bad
 |.comp elt ts it cond,l,H=>(aO it l H).bind λr=>match srcOf r.2 r.1 with
  |none=>.bad
  |some s=>(bP (λv H=>match fA l ts v with
    |none=>.bad
    |some l'=>((zD cond l' H).bind λc=>if c.1 then(aO elt l' c.2).bind λx=>.ok (S x.1,x.2) else .ok (N,c.2)).tr) s.1 (s.2+1) 0 r.2).bind λq=>.ok (.lst q.1,q.2)
 |.vals e _,l,H=>(aO e l H).bind λr=>kE r.2 r.1
noncomputable def bp:cA->Loc->AH->Res (V Q×AH)
 |.nil,_,H=>.ok ([],H)
 |.cons e r,l,H=>(aO e l H).bind λx=>(bp r l x.2).bind λq=>.ok (x.1 :: q.1,q.2)
noncomputable def zB:LO->Loc->AH->Res (O Q×AH)
 |.no,_,H=>.ok (N,H)
 |.so e,l,H=>(aO e l H).bind λr=>.ok (S r.1,r.2)
noncomputable def zD:LO->Loc->AH->Res (MO×AH)
 |.no,_,H=>.ok (MK,H)
 |.so e,l,H=>(aO e l H).bind λr=>match truthy r.1 with
  |some b=>.ok (b,r.2)
  |none=>.bad
end
mutual
noncomputable def cQ:LS->Loc->AH->Res (Fl×Loc×AH)
 |.asg x e,l,H=>(aO cf e l H).bind λr=>.ok (.next,l.set x (S r.1),r.2)
 |.eO e a v,l,H=>(aO cf v l H).bind λr=>(aO cf e l r.2).bind λq=>match dH q.2 q.1 a r.1 with
  |some H'=>.ok (.next,l,H')
  |none=>.bad
 |.et e i v,l,H=>(aO cf v l H).bind λr=>(aO cf e l r.2).bind λq=>(aO cf i l q.2).bind λp=>match dm p.2 q.1 p.1 r.1 with
  |some H'=>.ok (.next,l,H')
  |none=>.bad
 |.qs xs e,l,H=>(aO cf e l H).bind λr=>match r.1 with
  |.tup vs=>match df l xs vs with
   |some l'=>.ok (.next,l',r.2)
   |none=>.bad
  |_=>.bad
 |.gp xs es,l,H=>(bp cf es l H).bind λr=>match df l xs r.1 with
   |some l'=>.ok (.next,l',r.2)
   |none=>.bad
 |.kQ os is vs,l,H=>(bp cf vs l H).bind λr=>uN os is r.1 l r.2
 |.exp e,l,H=>(aO cf e l H).bind λr=>.ok (.next,l,r.2)
 |.ifs c a b,l,H=>(aO cf c l H).bind λr=>match truthy r.1 with
  |some MK=>aW a l r.2
  |some MS=>aW b l r.2
  |none=>.bad
 |.di x e b,l,H=>(aO cf e l H).bind λr=>match srcOf r.2 r.1 with
  |none=>.bad
  |some s=>cg (λε v l H=>aW b (l.set x (S v)) H) s.1 (s.2+1) 0 l r.2
 |.iQ i x e b,l,H=>(aO cf e l H).bind λr=>match srcOf r.2 r.1 with
  |none=>.bad
  |some s=>cg (λk v l H=>aW b ((l.set i (S (.int k))).set x (S v)) H) s.1 (s.2+1) 0 l r.2
 |.zy c b,l,H=>gK (λl H=>(aO cf c l H).bind λr=>match truthy r.1 with
   |some t=>.ok (t,r.2)
   |none=>.bad) (λl H=>aW b l H) 100 l H
 |.ret e,l,H=>(aO cf e l H).bind λr=>.ok (.ret r.1,l,r.2)
 |.eV e,l,H=>(aO cf e l H).bind λr=>.exc r.1 r.2
 |.kR e x h,l,H=>match aO cf e l H with
  |.ok r=>.ok (.next,l,r.2)
  |.exc t H'=>(aO (λε ε ε=>Res.bad) h (l.set x (S (.exc t))) H').tr.bind λr=>.ok (.next,(l.set x (S (.exc t))).set x N,r.2)
  |.bad=>.bad
 |.any,_,_=>.bad
noncomputable def aW:dR->Loc->AH->Res (Fl×Loc×AH)
 |.nil,l,H=>.ok (.next,l,H)
 |.cons s r,l,H=>(cQ s l H).bind λq=>match q.1 with
  |.next=>aW r q.2.1 q.2.2
  |.ret v=>.ok (.ret v,q.2.1,q.2.2)
noncomputable def uN:cA->cA->V Q->Loc->AH->Res (Fl×Loc×AH)
 |.nil,.nil,[],l,H=>.ok (.next,l,H)
 |.cons o os,.cons i is,v :: vs,l,H=>(aO cf o l H).bind λa=>(aO cf i l a.2).bind λb=>match dm b.2 a.1 b.1 v with
  |some H'=>uN os is vs l H'
  |none=>.bad
 |_,_,_,_,_=>.bad
end
end
noncomputable def f0:de:={aY:=1,cy:=[],slots:=[S 89],body:=(.cons .any .nil)}
noncomputable def f1:de:={aY:=2,cy:=[],slots:=[S 90,S 91],body:=(.cons .any .nil)}
noncomputable def f2:de:={aY:=1,cy:=[],slots:=[S 90,N],body:=(.cons (.ret (.vals (.attr (.var 0) 0) 1)) .nil)}
noncomputable def f3:de:={aY:=1,cy:=[],slots:=[S 23],body:=(.cons (.ret (.call (.gc .Thing) (.cons (.str 1) (.cons (.var 0) .nil)))) .nil)}
noncomputable def f4:de:={aY:=2,cy:=[.bool MS],slots:=[S 4,S 78],body:=(.cons (.ret (.call (.gc .Thing) (.cons (.str 2) (.cons (.var 0) (.cons (.var 1) .nil))))) .nil)}
noncomputable def f5:de:={aY:=0,cy:=[],slots:=[],body:=(.cons (.ret (.call (.gc .Thing) (.cons (.str 3) (.cons (.kP) .nil)))) .nil)}
noncomputable def f6:de:={aY:=3,cy:=[.bool MS,.int 3],slots:=[S 36,S 78,S 16],body:=(.cons (.ret (.call (.gc .Thing) (.cons (.str 5) (.cons (.call (.gc .Span) (.cons (.var 0) (.cons (.int 0) (.cons (.bq .len (.cons (.attr (.var 0) 4) .nil)) .nil)))) (.cons (.var 1) (.cons (.var 2) .nil)))))) .nil)}
noncomputable def f7:de:={aY:=3,cy:=[.bool MS,.int 3],slots:=[S 39,S 78,S 16],body:=(.cons (.ret (.call (.gc .Thing) (.cons (.str 7) (.cons (.call (.gc .Span) (.cons (.var 0) (.cons (.int 0) (.cons (.bq .len (.cons (.attr (.var 0) 6) .nil)) .nil)))) (.cons (.var 1) (.cons (.var 2) .nil)))))) .nil)}
noncomputable def f8:de:={aY:=1,cy:=[],slots:=[S 14],body:=(.cons (.ret (.call (.gc .Thing) (.cons (.str 8) (.cons (.var 0) .nil)))) .nil)}
noncomputable def f9:de:={aY:=1,cy:=[],slots:=[S 92],body:=(.cons (.ret (.or (.cmp .eq (.attr (.var 0) 9) (.str 1)) (.cmp .eq (.attr (.var 0) 9) (.str 10)))) .nil)}
noncomputable def Kn:de:={aY:=1,cy:=[],slots:=[S 92],body:=(.cons (.ifs (.cmp .eq (.attr (.var 0) 9) (.str 1)) (.cons (.ret (.bin .mul (.attr (.var 0) 11) (.gi 12 1000000))) .nil) .nil) (.cons (.ifs (.cmp .eq (.attr (.var 0) 9) (.str 10)) (.cons (.ret (.attr (.var 0) 11)) .nil) .nil) (.cons (.eV (.bx [116,121,112,101,99,104,101,99,107])) .nil)))}
noncomputable def HO:de:={aY:=1,cy:=[],slots:=[S 92],body:=(.cons (.ret (.or (.cmp .eq (.attr (.var 0) 9) (.str 7)) (.cmp .eq (.attr (.var 0) 9) (.str 13)))) .nil)}
noncomputable def Fs:de:={aY:=1,cy:=[],slots:=[S 92],body:=(.cons (.ifs (.cmp .eq (.attr (.var 0) 9) (.str 8)) (.cons (.ret (.attr (.var 0) 11)) .nil) .nil) (.cons (.ret (.ite (.or (.cmp .eq (.attr (.var 0) 9) (.str 5)) (.call (.gf 11) (.cons (.var 0) .nil))) (.attr (.attr (.var 0) 11) 14) (.kP))) .nil))}
noncomputable def Ft:de:={aY:=1,cy:=[],slots:=[S 92,S 14],body:=(.cons (.asg 1 (.call (.gf 12) (.cons (.var 0) .nil))) (.cons (.ret (.and (.cmp .kA (.var 1) (.kP)) (.not (.attr (.var 1) 15)))) .nil))}
noncomputable def Ko:de:={aY:=1,cy:=[],slots:=[S 92],body:=(.cons (.ret (.ite (.cmp .eq (.attr (.var 0) 9) (.str 8)) (.attr (.attr (.var 0) 11) 16) (.attr (.var 0) 16))) .nil)}
noncomputable def Kp:de:={aY:=1,cy:=[],slots:=[S 92],body:=(.cons (.ret (.cmp .ge (.call (.gf 14) (.cons (.var 0) .nil)) (.gi 17 2))) .nil)}
noncomputable def Kr:de:={aY:=1,cy:=[],slots:=[S 93],body:=(.cons (.ret (.bq .bytes (.cons (.qk (.attr (.attr (.var 0) 14) 4) (.so (.attr (.var 0) 18)) (.so (.bin .add (.attr (.var 0) 18) (.attr (.var 0) 19)))) .nil))) .nil)}
noncomputable def HP:de:={aY:=1,cy:=[],slots:=[S 92],body:=(.cons (.ifs (.cmp .eq (.attr (.var 0) 9) (.str 2)) (.cons (.ret (.attr (.var 0) 11)) .nil) .nil) (.cons (.ifs (.cmp .ne (.attr (.var 0) 9) (.str 5)) (.cons (.eV (.bx [116,121,112,101,99,104,101,99,107])) .nil) .nil) (.cons (.ifs (.not (.call (.gf 15) (.cons (.var 0) .nil))) (.cons (.eV (.bx [105,110,118,97,108,105,100,97,99,99,101,115,115])) .nil) .nil) (.cons (.ret (.call (.gf 16) (.cons (.attr (.var 0) 11) .nil))) .nil))))}
noncomputable def HQ:de:={aY:=1,cy:=[],slots:=[S 92],body:=(.cons (.ifs (.cmp .eq (.attr (.var 0) 9) (.str 3)) (.cons (.eV (.bx [116,121,112,101,99,104,101,99,107])) .nil) .nil) (.cons (.ifs (.or (.cmp .eq (.attr (.var 0) 9) (.str 2)) (.cmp .eq (.attr (.var 0) 9) (.str 5))) (.cons (.ret (.tup (.cons (.str 24) (.cons (.call (.gf 17) (.cons (.var 0) .nil)) .nil)))) .nil) .nil) (.cons (.ifs (.call (.gf 9) (.cons (.var 0) .nil)) (.cons (.ret (.tup (.cons (.str 23) (.cons (.call (.gf 10) (.cons (.var 0) .nil)) .nil)))) .nil) .nil) (.cons (.ifs (.call (.gf 11) (.cons (.var 0) .nil)) (.cons (.ret (.tup (.cons (.str 7) (.cons (.attr (.attr (.attr (.var 0) 11) 14) 23) (.cons (.attr (.attr (.var 0) 11) 18) (.cons (.attr (.attr (.var 0) 11) 19) .nil)))))) .nil) .nil) (.cons (.ifs (.or (.cmp .eq (.attr (.var 0) 9) (.str 8)) (.or (.cmp .eq (.attr (.var 0) 9) (.str 22)) (.cmp .eq (.attr (.var 0) 9) (.str 21)))) (.cons (.ret (.tup (.cons (.attr (.var 0) 9) (.cons (.attr (.attr (.var 0) 11) 23) .nil)))) .nil) .nil) (.cons (.ifs (.cmp .eq (.attr (.var 0) 9) (.str 20)) (.cons (.ret (.tup (.cons (.str 20) (.cons (.ite (.attr (.var 0) 11) (.int 1) (.int 0)) .nil)))) .nil) .nil) (.cons (.ret (.tup (.cons (.attr (.var 0) 9) (.cons (.attr (.var 0) 11) .nil)))) .nil)))))))}
noncomputable def HR:de:={aY:=1,cy:=[],slots:=[S 92],body:=(.cons (.ret (.ite (.cmp .eq (.attr (.var 0) 9) (.str 5)) (.call (.gf 4) (.cons (.call (.gf 17) (.cons (.var 0) .nil)) .nil)) (.var 0))) .nil)}
noncomputable def HS:de:={aY:=1,cy:=[],slots:=[S 90],body:=(.cons (.ret (.bq .len (.cons (.attr (.var 0) 25) .nil))) .nil)}
noncomputable def HT:de:={aY:=1,cy:=[],slots:=[S 90],body:=(.cons (.ret (.ite (.attr (.var 0) 15) (.int 0) (.attr (.var 0) 26))) .nil)}
noncomputable def HU:de:={aY:=2,cy:=[],slots:=[S 90,S 94],body:=(.cons (.exp (.aU (.var 0) 32 (.cons (.var 1) .nil))) (.cons (.eO (.var 0) 27 (.bin .add (.attr (.var 0) 27) (.int 1))) (.cons (.et (.attr (.var 0) 30) (.attr (.var 0) 27) (.tup (.cons (.var 1) (.cons (.attr (.var 0) 15) (.cons (.aU (.var 0) 31 .nil) .nil))))) (.cons (.ifs (.attr (.var 0) 15) (.cons (.eO (.var 0) 28 (.bin .add (.attr (.var 0) 28) (.var 1))) .nil) (.cons (.eO (.var 0) 29 (.bin .add (.attr (.var 0) 29) (.var 1))) .nil)) (.cons (.ret (.attr (.var 0) 27)) .nil)))))}
noncomputable def HV:de:={aY:=2,cy:=[],slots:=[S 90,S 94],body:=(.cons (.ifs (.cmp .gt (.bin .add (.bin .add (.attr (.var 0) 29) (.attr (.var 0) 28)) (.var 1)) (.attr (.attr (.var 0) 33) 34)) (.cons (.eV (.bx [86,77,101,114,114,111,114])) .nil) .nil) .nil)}
noncomputable def zN:de:={aY:=2,cy:=[],slots:=[S 90,S 19],body:=(.cons (.exp (.call (.gf 50) (.cons (.var 1) (.cons (.attr (.attr (.var 0) 33) 36) .nil)))) (.cons (.ret (.aU (.var 0) 35 (.cons (.bq .bytes (.cons (.var 1) .nil)) .nil))) .nil))}
noncomputable def BS:de:={aY:=2,cy:=[],slots:=[S 90,S 4],body:=(.cons (.exp (.call (.gf 50) (.cons (.bq .len (.cons (.var 1) .nil)) (.cons (.attr (.attr (.var 0) 33) 36) .nil)))) (.cons (.ret (.call (.gc .Text) (.cons (.aU (.var 0) 37 (.cons (.bq .len (.cons (.var 1) .nil)) .nil)) (.cons (.var 1) (.cons (.attr (.var 0) 15) (.cons (.aU (.var 0) 31 .nil) .nil)))))) .nil))}
noncomputable def HW:de:={aY:=2,cy:=[],slots:=[S 90,S 6,S 92],body:=(.cons (.ifs (.bq .gS (.cons (.var 1) .nil)) (.cons .any .nil) .nil) (.cons (.exp (.call (.gf 50) (.cons (.bq .len (.cons (.var 1) .nil)) (.cons (.attr (.attr (.var 0) 33) 39) .nil)))) (.cons (.ifs (.attr (.var 0) 15) (.cons (.di 2 (.var 1) (.cons (.ifs (.call (.gf 13) (.cons (.var 2) .nil)) (.cons (.eV (.bx [105,110,118,97,108,105,100,97,99,99,101,115,115])) .nil) .nil) .nil)) .nil) .nil) (.cons (.ret (.call (.gc .Row) (.cons (.aU (.var 0) 37 (.cons (.bin .mul (.gi 38 8) (.bq .len (.cons (.var 1) .nil))) .nil)) (.cons (.var 1) (.cons (.attr (.var 0) 15) (.cons (.aU (.var 0) 31 .nil) .nil)))))) .nil))))}
noncomputable def HX:de:={aY:=2,cy:=[],slots:=[S 90,S 47],body:=(.cons (.exp (.call (.gf 50) (.cons (.var 1) (.cons (.attr (.attr (.var 0) 33) 0) .nil)))) (.cons (.ret (.call (.gc .Dict) (.cons (.aU (.var 0) 37 (.cons (.bin .mul (.gi 40 16) (.var 1)) .nil)) (.cons (.var 1) (.cons (.attr (.var 0) 15) (.cons (.aU (.var 0) 31 .nil) .nil)))))) .nil))}
noncomputable def HY:de:={aY:=2,cy:=[],slots:=[S 90,S 14],body:=(.cons (.ret (.and (.not (.attr (.var 1) 15)) (.cmp .lt (.attr (.var 1) 26) (.attr (.var 0) 26)))) .nil)}
noncomputable def HZ:de:={aY:=3,cy:=[],slots:=[S 90,S 14,S 92],body:=(.cons (.ifs (.and (.attr (.var 1) 15) (.call (.gf 13) (.cons (.var 2) .nil))) (.cons (.eV (.bx [105,110,118,97,108,105,100,97,99,99,101,115,115])) .nil) .nil) .nil)}
noncomputable def Fu:de:={aY:=4,cy:=[],slots:=[S 90,S 39,S 95,S 92],body:=(.cons (.exp (.aU (.var 0) 41 (.cons (.var 1) (.cons (.var 2) (.cons (.lst (.cons (.var 3) .nil)) .nil))))) .nil)}
noncomputable def Fv:de:={aY:=4,cy:=[],slots:=[S 90,S 39,S 95,S 6,S 92,S 96],body:=(.cons (.di 4 (.var 3) (.cons (.exp (.aU (.var 0) 46 (.cons (.var 1) (.cons (.var 4) .nil)))) .nil)) (.cons (.iQ 5 4 (.var 3) (.cons (.ifs (.aU (.var 0) 42 (.cons (.var 1) .nil)) (.cons (.exp (.aU (.attr (.var 0) 43) 44 (.cons (.tup (.cons (.str 45) (.cons (.var 1) (.cons (.bin .add (.var 2) (.var 5)) (.cons (.sub (.attr (.var 1) 6) (.bin .add (.var 2) (.var 5))) .nil))))) .nil))) .nil) .nil) (.cons (.et (.attr (.var 1) 6) (.bin .add (.var 2) (.var 5)) (.var 4)) .nil))) .nil))}
noncomputable def H6:de:={aY:=4,cy:=[],slots:=[S 90,S 36,S 95,S 97],body:=(.cons (.et (.attr (.var 1) 4) (.var 2) (.var 3)) .nil)}
noncomputable def Ks:de:={aY:=4,cy:=[],slots:=[S 90,S 36,S 95,S 4],body:=(.cons .any .nil)}
noncomputable def E':de:={aY:=2,cy:=[],slots:=[S 90,S 14,S 19,S 98,S 94],body:=(.cons (.asg 2 (.bq .min (.cons (.bq .max (.cons (.bin .mul (.int 2) (.attr (.var 1) 47)) (.cons (.int 8) .nil))) (.cons (.attr (.attr (.var 0) 33) 0) .nil)))) (.cons (.ifs (.cmp .le (.var 2) (.attr (.var 1) 47)) (.cons (.eV (.bx [100,105,99,116,102,117,108,108])) .nil) .nil) (.cons (.asg 3 (.bin .mul (.gi 40 16) (.bin .sub (.var 2) (.attr (.var 1) 47)))) (.cons (.exp (.aU (.var 0) 32 (.cons (.var 3) .nil))) (.cons (.asg 4 (.ite (.cmp .in (.attr (.var 1) 23) (.attr (.var 0) 30)) (.sub (.sub (.attr (.var 0) 30) (.attr (.var 1) 23)) (.int 0)) (.int 0))) (.cons (.et (.attr (.var 0) 30) (.attr (.var 1) 23) (.tup (.cons (.bin .add (.var 4) (.var 3)) (.cons (.attr (.var 1) 15) (.cons (.attr (.var 1) 26) .nil))))) (.cons (.ifs (.attr (.var 1) 15) (.cons (.eO (.var 0) 28 (.bin .add (.attr (.var 0) 28) (.var 3))) .nil) (.cons (.eO (.var 0) 29 (.bin .add (.attr (.var 0) 29) (.var 3))) .nil)) (.cons (.ifs (.aU (.var 0) 42 (.cons (.var 1) .nil)) (.cons (.exp (.aU (.attr (.var 0) 43) 44 (.cons (.tup (.cons (.str 47) (.cons (.var 1) (.cons (.attr (.var 1) 47) .nil)))) .nil))) .nil) .nil) (.cons (.eO (.var 1) 47 (.var 2)) .nil)))))))))}
noncomputable def mW:de:={aY:=4,cy:=[],slots:=[S 90,S 14,S 91,S 92,S 24,S 99],body:=(.cons (.asg 4 (.call (.gf 18) (.cons (.var 2) .nil))) (.cons (.exp (.aU (.var 0) 46 (.cons (.var 1) (.cons (.var 3) .nil)))) (.cons (.exp (.aU (.var 0) 46 (.cons (.var 1) (.cons (.call (.gf 19) (.cons (.var 2) .nil)) .nil)))) (.cons (.ifs (.and (.cmp .qr (.var 4) (.attr (.var 1) 0)) (.cmp .ge (.bq .len (.cons (.attr (.var 1) 0) .nil)) (.attr (.var 1) 47))) (.cons (.exp (.aU (.var 0) 50 (.cons (.var 1) .nil))) .nil) .nil) (.cons (.ifs (.aU (.var 0) 42 (.cons (.var 1) .nil)) (.cons (.exp (.aU (.attr (.var 0) 43) 44 (.cons (.tup (.cons (.str 49) (.cons (.var 1) (.cons (.var 4) (.cons (.aU (.attr (.var 1) 0) 48 (.cons (.var 4) .nil)) .nil))))) .nil))) .nil) .nil) (.cons (.asg 5 (.ite (.cmp .in (.var 4) (.attr (.var 1) 0)) (.sub (.sub (.attr (.var 1) 0) (.var 4)) (.int 0)) (.call (.gf 19) (.cons (.var 2) .nil)))) (.cons (.et (.attr (.var 1) 0) (.var 4) (.tup (.cons (.var 5) (.cons (.var 3) .nil)))) .nil)))))))}
noncomputable def Fw:de:={aY:=3,cy:=[],slots:=[S 90,S 14,S 91,S 24],body:=(.cons (.asg 3 (.call (.gf 18) (.cons (.var 2) .nil))) (.cons (.ifs (.cmp .in (.var 3) (.attr (.var 1) 0)) (.cons (.ifs (.aU (.var 0) 42 (.cons (.var 1) .nil)) (.cons (.exp (.aU (.attr (.var 0) 43) 44 (.cons (.tup (.cons (.str 52) (.cons (.var 1) (.cons (.var 3) (.cons (.sub (.attr (.var 1) 0) (.var 3)) (.cons (.bq .list (.cons (.attr (.var 1) 0) .nil)) .nil)))))) .nil))) .nil) .nil) (.cons (.exp (.aU (.attr (.var 1) 0) 51 (.cons (.var 3) .nil))) .nil)) .nil) .nil))}
noncomputable def H9:de:={aY:=3,cy:=[],slots:=[S 90,S 14,S 16],body:=(.cons (.ifs (.cmp .gt (.var 2) (.attr (.var 1) 16)) (.cons (.eV (.bx [105,110,118,97,108,105,100,97,99,99,101,115,115])) .nil) .nil) (.cons (.ifs (.aU (.var 0) 42 (.cons (.var 1) .nil)) (.cons (.exp (.aU (.attr (.var 0) 43) 44 (.cons (.tup (.cons (.str 16) (.cons (.var 1) (.cons (.attr (.var 1) 16) .nil)))) .nil))) .nil) .nil) (.cons (.eO (.var 1) 16 (.var 2)) .nil)))}
noncomputable def Ia:de:={aY:=2,cy:=[.none],slots:=[S 90,S 88],body:=(.cons (.ifs (.cmp .ge (.attr (.var 0) 26) (.attr (.attr (.var 0) 33) 25)) (.cons (.eV (.bx [108,105,109,105,116,99,104,101,99,107])) .nil) .nil) (.cons (.eO (.var 0) 53 (.bin .add (.attr (.var 0) 53) (.int 1))) (.cons (.exp (.aU (.attr (.var 0) 25) 44 (.cons (.call (.gc .jP) (.cons (.attr (.var 0) 53) (.cons (.bq .len (.cons (.attr (.var 0) 43) .nil)) (.cons (.attr (.var 0) 29) (.cons (.var 1) .nil))))) .nil))) (.cons (.ret (.attr (.var 0) 53)) .nil))))}
noncomputable def Jv:de:={aY:=2,cy:=[],slots:=[S 90,S 23,S 100,S 101],body:=(.cons (.iQ 2 3 (.attr (.var 0) 25) (.cons (.ifs (.cmp .eq (.attr (.var 3) 23) (.var 1)) (.cons (.ret (.var 2)) .nil) .nil) .nil)) (.cons (.ret (.kP)) .nil))}
noncomputable def Ib:de:={aY:=2,cy:=[],slots:=[S 90,S 23],body:=(.cons (.ret (.cmp .kA (.aU (.var 0) 54 (.cons (.var 1) .nil)) (.kP))) .nil)}
noncomputable def Kt:de:={aY:=2,cy:=[],slots:=[S 90,S 23],body:=(.cons .any .nil)}
noncomputable def Ic:de:={aY:=2,cy:=[],slots:=[S 90,S 23,S 100],body:=(.cons (.asg 2 (.aU (.var 0) 54 (.cons (.var 1) .nil))) (.cons (.ifs (.cmp .is (.var 2) (.kP)) (.cons (.eV (.bx [105,110,118,97,108,105,100,114,101,115,116,111,114,101])) .nil) .nil) (.cons (.ret (.var 2)) .nil)))}
noncomputable def Ie:de:={aY:=3,cy:=[],slots:=[S 90,S 23,S 92,S 14,S 100,S 94,S 15,S 26],body:=(.cons (.gp [3,4] (.cons (.call (.gf 12) (.cons (.var 2) .nil)) (.cons (.aU (.var 0) 55 (.cons (.var 1) .nil)) .nil))) (.cons (.ifs (.cmp .eq (.attr (.var 2) 9) (.str 21)) (.cons .any .nil) .nil) (.cons (.ret (.and (.cmp .kA (.var 3) (.kP)) (.and (.not (.attr (.var 3) 15)) (.cmp .gt (.attr (.var 3) 26) (.var 4))))) .nil)))}
noncomputable def jL:de:={aY:=2,cy:=[],slots:=[S 90,S 23,S 100,S 101,S 102,S 14,S 94,S 15,S 26],body:=(.cons (.asg 2 (.aU (.var 0) 55 (.cons (.var 1) .nil))) (.cons (.asg 3 (.sub (.attr (.var 0) 25) (.var 2))) (.cons (.asg 4 (.emp)) (.cons (.zy (.cmp .gt (.bq .len (.cons (.attr (.var 0) 43) .nil)) (.attr (.var 3) 19)) (.cons (.exp (.aU (.var 4) 44 (.cons (.aU (.attr (.var 0) 43) 51 .nil) .nil))) (.cons (.exp (.call (.gf 51) (.cons (.sub (.var 4) (.neg (.int 1))) .nil))) .nil))) (.cons (.eO (.var 0) 25 (.qk (.attr (.var 0) 25) .no (.so (.var 2)))) (.cons (.eO (.var 0) 57 (.emp)) (.cons (.di 5 (.bq .list (.cons (.attr (.var 0) 30) .nil)) (.cons (.qs [6,7,8] (.sub (.attr (.var 0) 30) (.var 5))) (.cons (.ifs (.and (.not (.var 7)) (.cmp .gt (.var 8) (.var 2))) (.cons (.exp (.aU (.attr (.var 0) 30) 51 (.cons (.var 5) .nil))) (.cons (.exp (.aU (.attr (.var 0) 57) 44 (.cons (.var 5) .nil))) .nil)) .nil) .nil))) (.cons (.exp (.aU (.var 0) 56 (.cons (.var 4) .nil))) (.cons (.eO (.var 0) 29 (.attr (.var 3) 29)) (.cons (.ret (.var 4)) .nil))))))))))}
noncomputable def Jw:de:={aY:=2,cy:=[],slots:=[S 90,S 102,S 103,S 94,S 15,S 26],body:=(.cons (.di 2 (.var 1) (.cons (.ifs (.and (.cmp .eq (.sub (.var 2) (.int 0)) (.str 47)) (.cmp .in (.attr (.sub (.var 2) (.int 1)) 23) (.attr (.var 0) 30))) (.cons (.qs [3,4,5] (.sub (.attr (.var 0) 30) (.attr (.sub (.var 2) (.int 1)) 23))) (.cons (.et (.attr (.var 0) 30) (.attr (.sub (.var 2) (.int 1)) 23) (.tup (.cons (.bin .mul (.gi 40 16) (.sub (.var 2) (.int 2))) (.cons (.var 4) (.cons (.var 5) .nil))))) .nil)) .nil) .nil)) .nil)}
noncomputable def Ig:de:={aY:=1,cy:=[],slots:=[S 90],body:=(.cons (.ret (.tup (.cons (.attr (.var 0) 26) (.cons (.bin .add (.attr (.var 0) 29) (.attr (.var 0) 28)) (.cons (.attr (.attr (.var 0) 33) 34) .nil))))) .nil)}
noncomputable def Ku:de:={aY:=2,cy:=[],slots:=[S 90,S 104],body:=(.cons .any .nil)}
noncomputable def Kv:de:={aY:=3,cy:=[.bool MS],slots:=[S 90,S 104,S 105],body:=(.cons .any .nil)}
noncomputable def Kw:de:={aY:=1,cy:=[],slots:=[S 90],body:=(.cons .any .nil)}
noncomputable def Ih:de:={aY:=2,cy:=[],slots:=[S 19,S 47],body:=(.cons (.ifs (.cmp .lt (.var 0) (.int 0)) (.cons (.eV (.bx [114,97,110,103,101,99,104,101,99,107])) .nil) .nil) (.cons (.ifs (.cmp .gt (.var 0) (.var 1)) (.cons (.eV (.bx [108,105,109,105,116,99,104,101,99,107])) .nil) .nil) .nil))}
noncomputable def wo:de:={aY:=1,cy:=[],slots:=[S 103,S 24,S 14,S 0,S 91],body:=(.cons (.gp [1,2] (.cons (.sub (.var 0) (.int 0)) (.cons (.sub (.var 0) (.int 1)) .nil))) (.cons (.ifs (.cmp .eq (.var 1) (.str 45)) (.cons (.et (.attr (.var 2) 6) (.sub (.var 0) (.int 2)) (.sub (.var 0) (.int 3))) .nil) (.cons (.ifs (.cmp .eq (.var 1) (.str 47)) (.cons (.eO (.var 2) 47 (.sub (.var 0) (.int 2))) .nil) (.cons (.ifs (.cmp .eq (.var 1) (.str 16)) (.cons (.eO (.var 2) 16 (.sub (.var 0) (.int 2))) .nil) (.cons (.ifs (.cmp .eq (.var 1) (.str 52)) (.cons (.asg 3 (.tq [] .nil)) (.cons (.di 4 (.sub (.var 0) (.int 4)) (.cons (.et (.var 3) (.var 4) (.ite (.cmp .eq (.var 4) (.sub (.var 0) (.int 2))) (.sub (.var 0) (.int 3)) (.sub (.attr (.var 2) 0) (.var 4)))) .nil)) (.cons (.eO (.var 2) 0 (.var 3)) .nil))) (.cons (.ifs (.cmp .is (.sub (.var 0) (.int 3)) (.kP)) (.cons (.exp (.aU (.attr (.var 2) 0) 51 (.cons (.sub (.var 0) (.int 2)) .nil))) .nil) (.cons (.et (.attr (.var 2) 0) (.sub (.var 0) (.int 2)) (.sub (.var 0) (.int 3))) .nil)) .nil)) .nil)) .nil)) .nil)) .nil))}
noncomputable def gO:de:={aY:=3,cy:=[],slots:=[S 106,S 107,S 108,S 64,S 9,S 60,S 14,S 26,N],body:=(.cons (.asg 3 (.sub (.var 0) (.str 64))) (.cons (.eO (.var 3) 15 (.cmp .eq (.bin .mod (.var 2) (.int 4)) (.int 3))) (.cons (.ifs (.cmp .lt (.var 1) (.int 2)) (.cons (.gp [4,5] (.cons (.str 39) (.cons (.lst (.cons (.bin .mod (.var 2) (.int 7)) (.cons (.int 5) (.cons (.int 5) .nil)))) .nil))) (.cons (.asg 6 (.aU (.var 3) 61 (.cons (.comp (.call (.gf 3) (.cons (.var 8) .nil)) [8] (.var 5) .no) .nil))) .nil)) (.cons (.ifs (.cmp .eq (.var 1) (.int 2)) (.cons (.gp [4,5,6] (.cons (.str 8) (.cons (.lst .nil) (.cons (.aU (.var 3) 62 (.cons (.int 2) .nil)) .nil)))) .nil) (.cons (.gp [4,5,6] (.cons (.str 36) (.cons (.lst (.cons (.int 0) (.cons (.int 0) .nil))) (.cons (.aU (.var 3) 63 (.cons (.int 2) .nil)) .nil)))) .nil)) .nil)) (.cons (.asg 7 (.ite (.cmp .eq (.bin .mod (.var 2) (.int 4)) (.int 3)) (.int 0) (.bq .len (.cons (.sub (.var 0) (.str 25)) .nil)))) (.cons (.exp (.aU (.sub (.var 0) (.str 58)) 44 (.cons (.tq [14,9,59,26,60,16] (.cons (.var 6) (.cons (.var 4) (.cons (.cmp .eq (.bin .mod (.var 2) (.int 4)) (.int 3)) (.cons (.var 7) (.cons (.var 5) (.cons (.int 3) .nil))))))) .nil))) (.cons (.eO (.var 3) 15 (.qj MS)) .nil))))))}
noncomputable def Ii:de:={aY:=1,cy:=[],slots:=[S 109],body:=(.cons (.ret (.call (.pick [39,8,36] (.cons (.gf 7) (.cons (.gf 8) (.cons (.gf 6) .nil))) (.sub (.var 0) (.str 9))) (.cons (.sub (.var 0) (.str 14)) .nil))) .nil)}
noncomputable def mX:de:={aY:=3,cy:=[],slots:=[S 106,S 107,S 108,S 109,S 64,S 95,S 24,S 110,N,N,N,N],body:=(.cons (.asg 3 (.sub (.sub (.var 0) (.str 58)) (.bin .mod (.var 2) (.bq .len (.cons (.sub (.var 0) (.str 58)) .nil))))) (.cons (.gp [2,4] (.cons (.bin .fdiv (.var 2) (.bq .len (.cons (.sub (.var 0) (.str 58)) .nil))) (.cons (.sub (.var 0) (.str 64)) .nil))) (.cons (.ifs (.cmp .eq (.sub (.var 3) (.str 9)) (.str 39)) (.cons (.asg 5 (.bin .mod (.var 2) (.int 3))) (.cons (.exp (.aU (.var 4) 65 (.cons (.sub (.var 3) (.str 14)) (.cons (.var 5) (.cons (.call (.gf 3) (.cons (.bin .fdiv (.var 2) (.int 3)) .nil)) .nil))))) (.cons (.et (.var 3) (.str 60) (.bin .add (.bin .add (.qk (.sub (.var 3) (.str 60)) .no (.so (.var 5))) (.lst (.cons (.bin .fdiv (.var 2) (.int 3)) .nil))) (.qk (.sub (.var 3) (.str 60)) (.so (.bin .add (.var 5) (.int 1))) .no))) .nil))) (.cons (.ifs (.cmp .eq (.sub (.var 3) (.str 9)) (.str 36)) (.cons (.exp (.aU (.var 4) 66 (.cons (.sub (.var 3) (.str 14)) (.cons (.bin .mod (.var 2) (.int 2)) (.cons (.bin .mod (.bin .fdiv (.var 2) (.int 2)) (.int 256)) .nil))))) (.cons (.et (.var 3) (.str 60) (.ite (.cmp .eq (.bin .mod (.var 2) (.int 2)) (.int 0)) (.lst (.cons (.bin .mod (.bin .fdiv (.var 2) (.int 2)) (.int 256)) (.cons (.sub (.sub (.var 3) (.str 60)) (.int 1)) .nil))) (.lst (.cons (.sub (.sub (.var 3) (.str 60)) (.int 0)) (.cons (.bin .mod (.bin .fdiv (.var 2) (.int 2)) (.int 256)) .nil))))) .nil)) (.cons (.ifs (.cmp .lt (.var 1) (.int 7)) (.cons (.gp [6,7] (.cons (.qk (.bx [97,98,99]) (.so (.bin .mod (.var 2) (.int 3))) (.so (.bin .add (.bin .mod (.var 2) (.int 3)) (.int 1)))) (.cons (.comp (.sub (.var 10) (.int 0)) [10] (.sub (.var 3) (.str 60)) .no) .nil))) (.cons (.exp (.aU (.var 4) 67 (.cons (.sub (.var 3) (.str 14)) (.cons (.call (.gf 4) (.cons (.var 6) .nil)) (.cons (.call (.gf 3) (.cons (.bin .fdiv (.var 2) (.int 3)) .nil)) .nil))))) (.cons (.ifs (.cmp .in (.var 6) (.var 7)) (.cons (.et (.var 3) (.str 60) (.comp (.tup (.cons (.var 8) (.cons (.ite (.cmp .eq (.var 8) (.var 6)) (.bin .fdiv (.var 2) (.int 3)) (.var 9)) .nil))) [8,9] (.sub (.var 3) (.str 60)) .no)) .nil) (.cons (.et (.var 3) (.str 60) (.bin .add (.sub (.var 3) (.str 60)) (.lst (.cons (.tup (.cons (.var 6) (.cons (.bin .fdiv (.var 2) (.int 3)) .nil))) .nil)))) .nil)) .nil))) (.cons (.ifs (.cmp .eq (.bin .mod (.var 2) (.int 4)) (.int 3)) (.cons (.et (.var 3) (.str 16) (.bq .min (.cons (.sub (.var 3) (.str 16)) (.cons (.int 2) .nil)))) (.cons (.exp (.aU (.var 4) 68 (.cons (.sub (.var 3) (.str 14)) (.cons (.sub (.var 3) (.str 16)) .nil)))) .nil)) (.cons (.asg 6 (.qk (.bx [97,98,99]) (.so (.bin .mod (.var 2) (.int 3))) (.so (.bin .add (.bin .mod (.var 2) (.int 3)) (.int 1))))) (.cons (.exp (.aU (.var 4) 69 (.cons (.sub (.var 3) (.str 14)) (.cons (.call (.gf 4) (.cons (.var 6) .nil)) .nil)))) (.cons (.et (.var 3) (.str 60) (.comp (.var 11) [11] (.sub (.var 3) (.str 60)) (.so (.cmp .ne (.sub (.var 11) (.int 0)) (.var 6))))) .nil)))) .nil)) .nil)) .nil)) .nil)))}
noncomputable def mY:de:={aY:=2,cy:=[],slots:=[S 106,S 108,S 100,S 23,S 99,S 111,S 89,S 109],body:=(.cons (.asg 2 (.bin .mod (.var 1) (.bq .len (.cons (.sub (.var 0) (.str 25)) .nil)))) (.cons (.qs [3,4] (.sub (.sub (.var 0) (.str 25)) (.var 2))) (.cons (.exp (.aU (.sub (.var 0) (.str 64)) 71 (.cons (.var 3) .nil))) (.cons (.asg 5 (.emp)) (.cons (.iQ 6 7 (.sub (.var 0) (.str 58)) (.cons (.ifs (.or (.sub (.var 7) (.str 59)) (.cmp .le (.sub (.var 7) (.str 26)) (.var 2))) (.cons (.ifs (.and (.not (.sub (.var 7) (.str 59))) (.cmp .ne (.sub (.var 7) (.str 9)) (.str 36))) (.cons (.kQ (.cons (.var 7) (.cons (.var 7) .nil)) (.cons (.str 60) (.cons (.str 16) .nil)) (.cons (.sub (.sub (.var 4) (.var 6)) (.int 0)) (.cons (.sub (.sub (.var 4) (.var 6)) (.int 1)) .nil))) .nil) .nil) (.cons (.exp (.aU (.var 5) 44 (.cons (.var 7) .nil))) .nil)) .nil) .nil)) (.cons (.kQ (.cons (.var 0) (.cons (.var 0) (.cons (.var 0) .nil))) (.cons (.str 58) (.cons (.str 70) (.cons (.str 25) .nil))) (.cons (.var 5) (.cons (.var 3) (.cons (.qk (.sub (.var 0) (.str 25)) .no (.so (.var 2))) .nil)))) .nil))))))}
noncomputable def Ij:de:={aY:=1,cy:=[],slots:=[S 106,N],body:=(.cons (.exp (.aU (.sub (.var 0) (.str 25)) 44 (.cons (.tup (.cons (.aU (.sub (.var 0) (.str 64)) 72 .nil) (.cons (.comp (.tup (.cons (.sub (.var 1) (.str 60)) (.cons (.sub (.var 1) (.str 16)) .nil))) [1] (.sub (.var 0) (.str 58)) .no) .nil))) .nil))) .nil)}
noncomputable def Jx:de:={aY:=1,cy:=[],slots:=[S 106,S 109,S 14,S 76,S 100,S 72,S 19,N,N,N,N],body:=(.cons (.di 1 (.sub (.var 0) (.str 58)) (.cons (.asg 2 (.sub (.var 1) (.str 14))) (.cons (.ifs (.cmp .eq (.sub (.var 1) (.str 9)) (.str 39)) (.cons (.asg 3 (.comp (.attr (.var 8) 11) [8] (.attr (.var 2) 6) .no)) .nil) (.cons (.ifs (.cmp .eq (.sub (.var 1) (.str 9)) (.str 36)) (.cons (.asg 3 (.bq .list (.cons (.attr (.var 2) 4) .nil))) .nil) (.cons (.asg 3 (.comp (.tup (.cons (.attr (.var 9) 11) (.cons (.attr (.var 10) 11) .nil))) [9,10] (.aU (.var 2) 75 .nil) .no)) .nil)) .nil)) (.cons (.ifs (.or (.cmp .ne (.var 3) (.sub (.var 1) (.str 60))) (.and (.cmp .eq (.sub (.var 1) (.str 9)) (.str 8)) (.cmp .ne (.attr (.var 2) 16) (.sub (.var 1) (.str 16))))) (.cons (.ret (.qj MS)) .nil) .nil) (.cons (.iQ 4 5 (.sub (.var 0) (.str 25)) (.cons (.ifs (.cmp .ne (.aU (.sub (.var 0) (.str 64)) 74 (.cons (.sub (.var 5) (.int 0)) (.cons (.call (.gf 53) (.cons (.var 1) .nil)) .nil))) (.and (.not (.sub (.var 1) (.str 59))) (.cmp .gt (.sub (.var 1) (.str 26)) (.var 4)))) (.cons (.ret (.qj MS)) .nil) .nil) .nil)) .nil))))) (.cons (.asg 6 (.bq .len (.cons (.sub (.var 0) (.str 25)) .nil))) (.cons (.ret (.and (.cmp .eq (.sub (.aU (.sub (.var 0) (.str 64)) 73 .nil) (.int 0)) (.var 6)) (.cmp .eq (.comp (.aU (.sub (.var 0) (.str 64)) 54 (.cons (.sub (.var 7) (.int 0)) .nil)) [7] (.sub (.var 0) (.str 25)) .no) (.bq .fK (.cons (.var 6) .nil))))) .nil)))}
noncomputable def zO:de:={aY:=1,cy:=[],slots:=[S 106,S 64,S 112,S 113,S 109,S 114],body:=(.cons (.gp [1,2] (.cons (.sub (.var 0) (.str 64)) (.cons (.emp) .nil))) (.cons (.ifs (.cmp .kA (.sub (.var 0) (.str 70)) (.kP)) (.cons (.kR (.aU (.var 1) 71 (.cons (.sub (.var 0) (.str 70)) .nil)) 3 (.aU (.var 2) 44 (.cons (.attr (.var 3) 76) .nil))) (.cons (.ifs (.or (.cmp .ne (.var 2) (.lst (.cons (.bx [105,110,118,97,108,105,100,114,101,115,116,111,114,101]) .nil))) (.aU (.var 1) 77 (.cons (.sub (.var 0) (.str 70)) .nil))) (.cons (.ret (.qj MS)) .nil) .nil) .nil)) .nil) (.cons (.di 4 (.sub (.var 0) (.str 58)) (.cons (.di 5 (.sub (.var 0) (.str 58)) (.cons (.ifs (.and (.sub (.var 4) (.str 59)) (.and (.not (.sub (.var 5) (.str 59))) (.cmp .eq (.sub (.var 4) (.str 9)) (.str 39)))) (.cons (.asg 2 (.emp)) (.cons (.kR (.aU (.var 1) 65 (.cons (.sub (.var 4) (.str 14)) (.cons (.int 0) (.cons (.call (.gf 53) (.cons (.var 5) .nil)) .nil)))) 3 (.aU (.var 2) 44 (.cons (.attr (.var 3) 76) .nil))) (.cons (.ifs (.cmp .ne (.var 2) (.lst (.cons (.bx [105,110,118,97,108,105,100,97,99,99,101,115,115]) .nil))) (.cons (.ret (.qj MS)) .nil) .nil) .nil))) .nil) .nil)) .nil)) (.cons (.ret (.call (.gf 57) (.cons (.var 0) .nil))) .nil))))}
noncomputable def mZ:de:={aY:=1,cy:=[],slots:=[S 115,S 106,S 116,S 107,S 108],body:=(.cons (.asg 1 (.tq [64,58,25,70] (.cons (.call (.gc .Mem) (.cons (.call (.gc .CE) .nil) .nil)) (.cons (.emp) (.cons (.emp) (.cons (.kP) .nil)))))) (.cons (.di 2 (.qk (.var 0) .no (.so (.int 14))) (.cons (.asg 2 (.bin .mod (.bq .abs (.cons (.bq .int (.cons (.var 2) .nil)) .nil)) (.bin .pow (.int 10) (.int 6)))) (.cons (.gp [3,4] (.cons (.bin .mod (.var 2) (.int 10)) (.cons (.bin .fdiv (.var 2) (.int 10)) .nil))) (.cons (.ifs (.or (.cmp .lt (.var 3) (.int 4)) (.cmp .eq (.sub (.var 1) (.str 58)) (.emp))) (.cons (.exp (.call (.gf 52) (.cons (.var 1) (.cons (.bin .mod (.var 3) (.int 4)) (.cons (.var 4) .nil))))) .nil) (.cons (.ifs (.cmp .lt (.var 3) (.int 8)) (.cons (.exp (.call (.gf 54) (.cons (.var 1) (.cons (.var 3) (.cons (.var 4) .nil))))) .nil) (.cons (.ifs (.or (.cmp .eq (.var 3) (.int 8)) (.cmp .eq (.sub (.var 1) (.str 25)) (.emp))) (.cons (.exp (.call (.gf 56) (.cons (.var 1) .nil))) .nil) (.cons (.exp (.call (.gf 55) (.cons (.var 1) (.cons (.var 4) .nil)))) .nil)) .nil)) .nil)) (.cons (.ifs (.not (.call (.gf 57) (.cons (.var 1) .nil))) (.cons (.ret (.qj MS)) .nil) .nil) .nil))))) (.cons (.ret (.call (.gf 58) (.cons (.var 1) .nil))) .nil)))}
noncomputable def CK:zz:={aY:=5,cy:=[.bool MS,.int 3],slots:=[S 90,S 9,S 11,S 78,S 16],bT:=[9,11,78,16],vals:=(.cons (.var 1) (.cons (.var 2) (.cons (.var 3) (.cons (.var 4) .nil))))}
noncomputable def Fx:zz:={aY:=5,cy:=[],slots:=[S 90,S 23,S 4,S 15,S 26],bT:=[23,4,15,26],vals:=(.cons (.var 1) (.cons (.bq .mU (.cons (.var 2) .nil)) (.cons (.var 3) (.cons (.var 4) .nil))))}
noncomputable def Ik:zz:={aY:=5,cy:=[],slots:=[S 90,S 23,S 6,S 15,S 26],bT:=[23,6,15,26],vals:=(.cons (.var 1) (.cons (.bq .tm (.cons (.var 2) .nil)) (.cons (.var 3) (.cons (.var 4) .nil))))}
noncomputable def Fy:zz:={aY:=5,cy:=[],slots:=[S 90,S 23,S 47,S 15,S 26],bT:=[23,47,15,26,16,0],vals:=(.cons (.var 1) (.cons (.var 2) (.cons (.var 3) (.cons (.var 4) (.cons (.gi 79 3) (.cons (.tq [] .nil) .nil))))))}
noncomputable def Fz:zz:={aY:=4,cy:=[],slots:=[S 90,S 14,S 18,S 19],bT:=[14,18,19],vals:=(.cons (.var 1) (.cons (.var 2) (.cons (.var 3) .nil)))}
noncomputable def Il:zz:={aY:=15,cy:=[.int 500,.int 20,.int 250,.int 15,.int 31,.int 65535,.int 65535,.int 65535,.int 127,.int 1500,.int 11,.int 15,.int 600,.int 16777216],slots:=[S 90,S 80,S 81,S 82,S 25,S 83,S 36,S 39,S 0,S 24,S 84,S 85,S 86,S 87,S 34],bT:=[80,81,82,25,83,36,39,0,24,84,85,86,87,34],vals:=(.cons (.var 1) (.cons (.var 2) (.cons (.var 3) (.cons (.var 4) (.cons (.var 5) (.cons (.var 6) (.cons (.var 7) (.cons (.var 8) (.cons (.var 9) (.cons (.var 10) (.cons (.var 11) (.cons (.var 12) (.cons (.var 13) (.cons (.var 14) .nil))))))))))))))}
noncomputable def FC:zz:={aY:=5,cy:=[],slots:=[S 90,S 23,S 19,S 29,S 88],bT:=[23,19,29,88],vals:=(.cons (.var 1) (.cons (.var 2) (.cons (.var 3) (.cons (.var 4) .nil))))}
noncomputable def Im:zz:={aY:=2,cy:=[],slots:=[S 90,S 33],bT:=[33,15,25,43,30,57,29,28,27,53],vals:=(.cons (.var 1) (.cons (.qj MS) (.cons (.emp) (.cons (.emp) (.cons (.tq [] .nil) (.cons (.emp) (.cons (.int 0) (.cons (.int 0) (.cons (.int 0) (.cons (.int 0) .nil))))))))))}
noncomputable def Io:zz:={aY:=2,cy:=[.none],slots:=[S 90,S 76],bT:=[76],vals:=(.cons (.var 1) .nil)}
noncomputable def FT:V de:=[f0,f1,f2,f3,f4,f5,f6,f7,f8,f9,Kn,HO,Fs,Ft,Ko,Kp,Kr,HP,HQ,HR,HS,HT,HU,HV,zN,BS,HW,HX,HY,HZ,Fu,Fv,H6,Ks,E',mW,Fw,H9,Ia,Jv,Ib,Kt,Ic,Ie,jL,Jw,Ig,Ku,Kv,Kw,Ih,wo,gO,Ii,mX,mY,Ij,Jx,zO,mZ]
noncomputable def nP(H:Z):O de:=FT[H]?
noncomputable def bU:dG->zz
 |.Thing=>CK
 |.Text=>Fx
 |.Row=>Ik
 |.Dict=>Fy
 |.Span=>Fz
 |.CE=>Il
 |.jP=>FC
 |.Mem=>Im
 |.bR=>Io
noncomputable def fnName:V (Z×O Z):=[(122,N),(48,S 123),(75,S 123),(1,N),(2,N),(3,N),(124,N),(125,N),(126,N),(127,N),(128,N),(129,N),(130,N),(131,N),(132,N),(133,N),(134,N),(135,N),(136,N),(137,N),(26,S 138),(31,S 138),(37,S 138),(32,S 138),(63,S 138),(35,S 138),(61,S 138),(62,S 138),(42,S 139),(46,S 139),(65,S 139),(41,S 139),(66,S 139),(117,S 139),(50,S 139),(67,S 139),(69,S 139),(68,S 139),(72,S 140),(54,S 140),(77,S 140),(118,S 140),(55,S 140),(74,S 140),(71,S 140),(56,S 140),(73,S 140),(119,S 140),(120,S 140),(121,S 140),(141,N),(142,N),(143,N),(144,N),(145,N),(146,N),(147,N),(148,N),(149,N),(150,N)]
noncomputable def CL:V (V Z):=[[101,110,116,114,105,101,115],[105,110,116,101,103,101,114],[110,97,109,101],[110,117,108,108],[111,99,116,101,116,115],[115,116,114,105,110,103],[116,104,105,110,103,115],[97,114,114,97,121],[100,105,99,116],[107,105,110,100],[114,101,97,108],[118,97,108,117,101],[71,82,65,73,78],[112,97,99,107,101,100],[98,111,100,121],[105,115,95,103,108,111,98,97,108],[97,99,99,101,115,115],[82,69,65,68,95,79,78,76,89],[115,116,97,114,116],[109,97,110,121],[98,111,111,108,101,97,110],[103,115,116,97,116,101],[102,105,108,101],[110,117,109,98,101,114],[119,111,114,100],[115,97,118,101,115],[108,101,118,101,108],[108,97,115,116,95,98,111,100,121],[117,115,101,100,95,103,108,111,98,97,108],[117,115,101,100],[109,97,100,101],[98,111,100,121,95,108,101,118,101,108],[99,104,101,99,107,95,114,111,111,109],[108,105,109,105,116,115],[118,109],[116,101,120,116,95,111,102,95,111,99,116,101,116,115],[116,101,120,116],[116,97,107,101,95,114,111,111,109],[73,84,69,77,95,67,79,83,84],[114,111,119],[69,78,84,82,89,95,67,79,83,84],[112,117,116,95,105,116,101,109,115],[105,115,95,101,108,100,101,114],[106,111,117,114,110,97,108],[97,112,112,101,110,100],[105,116,101,109],[99,104,101,99,107,95,104,111,108,100,115],[109,111,115,116],[103,101,116],[101,110,116,114,121],[103,114,111,119],[112,111,112],[100,114,111,112],[108,97,115,116,95,115,97,118,101],[112,108,97,99,101,95,111,102,95,115,97,118,101],[115,117,114,101,95,112,108,97,99,101],[115,101,116,116,108,101,95,99,111,115,116,115],[102,114,101,101,100],[98,111,100,105,101,115],[103,108,111,98,97,108],[105,116,101,109,115],[109,97,107,101,95,114,111,119],[109,97,107,101,95,100,105,99,116],[109,97,107,101,95,116,101,120,116],[109,101,109,111,114,121],[112,117,116,95,105,116,101,109],[112,117,116,95,111,99,116,101,116],[112,117,116,95,101,110,116,114,121],[115,101,116,95,97,99,99,101,115,115],[100,114,111,112,95,101,110,116,114,121],[103,111,110,101],[114,101,115,116,111,114,101],[115,97,118,101],[115,116,97,116,117,115],[110,101,119,101,114,95,116,104,97,110],[112,97,105,114,115],[116,111,108,100],[105,115,95,115,97,118,101,100],[105,115,95,101,120,101,99],[85,78,76,73,77,73,84,69,68],[111,112,101,114,97,110,100,115],[100,105,99,116,115],[102,114,97,109,101,115],[103,115,116,97,116,101,115],[112,97,116,104],[100,97,115,104],[102,105,108,101,115],[115,121,115,116,101,109],[110,111,116,101],[107],[115,101,108,102],[107,101,121],[116,104,105,110,103],[115,112,97,110],[99,111,115,116],[97,116],[115,116,101,112],[111,99,116,101,116],[109,111,114,101],[107,101,112,116],[112,108,97,99,101],[115,97,118,101,100],[117,110,100,111,110,101],[99,104,97,110,103,101],[114,111,111,116,115],[105,115,95,97,108,108],[119],[119,97,121],[114,101,115,116],[111,110,101],[107,101,121,115],[108,101,102,116],[110,97,109,101,115,95,110,111,119],[101],[111,116,104,101,114],[115,99,114,105,112,116],[99,101,108,108],[112,117,116,95,111,99,116,101,116,115],[110,111,116,101,95,111,102],[99,111,108,108,101,99,116],[114,101,99,108,97,105,109],[106,111,117,114,110,97,108,95,116,104,105,110,103,115],[95,119,97,108,108],[68,105,99,116,66,111,100,121],[111,102,95,115,116,114,105,110,103],[111,102,95,114,111,119],[111,102,95,100,105,99,116],[105,115,95,110,117,109,98,101,114],[105,110,95,109,105,108,108,105,111,110,116,104,115],[105,115,95,105,110,95,97,114,114,97,121],[98,111,100,121,95,111,102],[105,115,95,108,111,99,97,108],[97,99,99,101,115,115,95,111,102],[99,97,110,95,114,101,97,100],[111,99,116,101,116,115,95,111,102,95,115,112,97,110],[116,104,105,110,103,95,111,99,116,101,116,115],[107,101,121,95,111,102],[107,101,121,95,116,104,105,110,103],[66,111,100,121,77,97,107,101,114],[66,111,100,121,67,104,97,110,103,101,114],[77,101,109,111,114,121],[109,101,109,111,114,121,95,99,104,101,99,107,95,109,97,110,121],[109,101,109,111,114,121,95,112,117,116,95,98,97,99,107],[95,108,97,119,95,109,97,100,101],[95,108,97,119,95,116,104,105,110,103],[95,108,97,119,95,99,104,97,110,103,101,100],[95,108,97,119,95,114,101,115,116,111,114,101,100],[95,108,97,119,95,115,97,118,101,100],[95,108,97,119,95,105,115,95,115,111],[95,108,97,119,95,114,101,102,117,115,101,100],[108,97,119]]
noncomputable def bindArgs(p:Z)(d:V Q)(n:Z)(l:V Q):O Loc:=
 if l.length<=p/\p<=l.length+d.length then
  let I:=l++d.drop (l.length+d.length - p)
  S (I.map S++UN (n - p) N)
 else N
noncomputable def aC:Z->CF
 |0,_,_,_=>.bad
 |q+1,.fn H,l,b=>match nP H with
  |none=>.bad
  |some A=>match bindArgs A.aY A.cy A.slots.length l with
   |none=>.bad
   |some T=>(aW (aC q) A.body T b).bind λy=>.ok ((match y.1 with|.ret E=>E|.next=>.none),y.2.2)
 |q+1,.cls C,l,b=>if C=.bR\/C=.Text then .bad else match bindArgs (bU C).aY (bU C).cy (bU C).slots.length (.none :: l) with
  |none=>.bad
  |some T=>(bp (aC q) (bU C).vals (T.set 0 N) b).bind λy=>if fQ C then .ok (.obj C y.1,y.2) else .ok (.aA y.2.I.length,{y.2 with I:=y.2.I++[(C,y.1)]})
noncomputable def Jy(k:V ML):Res (Q×AH):=aC 12 (.fn 59) [.lst (k.map .int)] {}
variable{a:CF}
theorem iR{r T b}:aO a (.var r) T b=(match T[r]? with|some (S E)=>.ok (E,b)|_=>.bad):=rfl
theorem hY{D I T b}:aO a (.attr D I) T b=((aO a D T b).bind λy=>aG a y.2 y.1 I):=rfl
theorem oN{A l T b}:aO a (.call A l) T b=((aO a A T b).bind λy=>match keyOf y.1 with
  |some H=>(bp a l T y.2).bind λL=>a H L.1 L.2
  |none=>.bad):=rfl
theorem ja{M l T b}:aO a (.bq M l) T b=((bp a l T b).bind λL=>.of (bB L.2 M L.1)):=rfl
theorem lh{D x l T b}:aO a (.aU D x l) T b=((aO a D T b).bind λy=>match aK y.2 y.1 x with
  |some (.own A)=>(bp a l T y.2).bind λL=>a (.fn A) (y.1 :: L.1) L.2
  |some .bJ=>(bp a l T y.2).bind λL=>.of (gJ L.2 y.1 x L.1)
  |none=>.bad):=rfl
theorem wq{D K T b}:aO a (.sub D K) T b=((aO a D T b).bind λy=>(aO a K T y.2).bind λL=>match aR L.2 y.1 L.1 with
  |some E=>.ok (E,L.2)
  |none=>.bad):=rfl
theorem wt{D o d T b}:aO a (.qk D o d) T b=((aO a D T b).bind λy=>(zB a o T y.2).bind λI=>(zB a d T I.2).bind λM=>.of (dP M.2 y.1 I.1 M.1)):=rfl
theorem oO{g w K T b}:aO a (.pick g w K) T b=((bp a w T b).bind λL=>(aO a K T L.2).bind λy=>gT g L.1 y.1 y.2):=rfl
theorem lM{y T b}:aO a (.tup y) T b=((bp a y T b).bind λL=>.ok (.tup L.1,L.2)):=rfl
theorem rH{y T b}:aO a (.lst y) T b=((bp a y T b).bind λL=>.ok (.lst L.1,L.2)):=rfl
theorem CM{g b}:aO a (.emp) g b=(.ok (.aE b.L.length,{b with L:=b.L++[[]]})):=rfl
theorem wu{g w T b}:aO a (.tq g w) T b=((bp a w T b).bind λL=>if g.length=L.1.length then .ok (.ab L.2.D.length,{L.2 with D:=L.2.D++[(g.map Q.str).zip L.1]}) else .bad):=rfl
theorem wx{z I M T b}:aO a (.bin z I M) T b=((aO a I T b).bind λy=>(aO a M T y.2).bind λL=>match bZ z y.1 L.1 with
  |some E=>.ok (E,L.2)
  |none=>.bad):=rfl
theorem rI{z I M T b}:aO a (.cmp z I M) T b=((aO a I T b).bind λy=>(aO a M T y.2).bind λL=>match ct L.2 z y.1 L.1 with
  |some E=>.ok (.bool E,L.2)
  |none=>.bad):=rfl
theorem rJ{I M T b}:aO a (.and I M) T b=((aO a I T b).bind λy=>match truthy y.1 with
  |some MK=>aO a M T y.2
  |some MS=>.ok (y.1,y.2)
  |none=>.bad):=rfl
theorem wz{I M T b}:aO a (.or I M) T b=((aO a I T b).bind λy=>match truthy y.1 with
  |some MK=>.ok (y.1,y.2)
  |some MS=>aO a M T y.2
  |none=>.bad):=rfl
theorem rK{D T b}:aO a (.not D) T b=((aO a D T b).bind λy=>match truthy y.1 with
  |some M=>.ok (.bool (!M),y.2)
  |none=>.bad):=rfl
theorem wA{D T b}:aO a (.neg D) T b=((aO a D T b).bind λy=>match y.1 with
  |.int K=>.ok (.int (-K),y.2)
  |_=>.bad):=rfl
theorem rL{C I M T b}:aO a (.ite C I M) T b=((aO a C T b).bind λy=>match truthy y.1 with
  |some MK=>aO a I T y.2
  |some MS=>aO a M T y.2
  |none=>.bad):=rfl
theorem tu{c m n q T b}:aO a (.comp c m n q) T b=((aO a n T b).bind λy=>match srcOf y.2 y.1 with
  |none=>.bad
  |some t=>(bP (λE b=>match fA T m E with
    |none=>.bad
    |some v=>((zD a q v b).bind λC=>if C.1 then(aO a c v C.2).bind λr=>.ok (S r.1,r.2) else .ok (N,C.2)).tr) t.1 (t.2+1) 0 y.2).bind λL=>.ok (.lst L.1,L.2)):=rfl
theorem lq{D g T b}:aO a (.vals D g) T b=((aO a D T b).bind λy=>kE y.2 y.1):=rfl
theorem zP{g b}:bp a (.nil) g b=(.ok ([],b)):=rfl
theorem fR{D y T b}:bp a (.cons D y) T b=((aO a D T b).bind λr=>(bp a y T r.2).bind λL=>.ok (r.1 :: L.1,L.2)):=rfl
theorem BU{D T b}:zB a (.so D) T b=((aO a D T b).bind λy=>.ok (S y.1,y.2)):=rfl
theorem FD{g b}:zD a (.no) g b=(.ok (MK,b)):=rfl
theorem FE{D T b}:zD a (.so D) T b=((aO a D T b).bind λy=>match truthy y.1 with
  |some M=>.ok (M,y.2)
  |none=>.bad):=rfl
theorem oP{r D T b}:cQ a (.asg r D) T b=((aO a D T b).bind λy=>.ok (.next,T.set r (S y.1),y.2)):=rfl
theorem tw{D I E T b}:cQ a (.eO D I E) T b=((aO a E T b).bind λy=>(aO a D T y.2).bind λL=>match dH L.2 L.1 I y.1 with
  |some r=>.ok (.next,T,r)
  |none=>.bad):=rfl
theorem tA{D K E T b}:cQ a (.et D K E) T b=((aO a E T b).bind λy=>(aO a D T y.2).bind λL=>(aO a K T L.2).bind λP=>match dm P.2 L.1 P.1 y.1 with
  |some r=>.ok (.next,T,r)
  |none=>.bad):=rfl
theorem oQ{j D T b}:cQ a (.qs j D) T b=((aO a D T b).bind λy=>match y.1 with
  |.tup w=>match df T j w with
   |some v=>.ok (.next,v,y.2)
   |none=>.bad
  |_=>.bad):=rfl
theorem tB{j y T b}:cQ a (.gp j y) T b=((bp a y T b).bind λc=>match df T j c.1 with
   |some v=>.ok (.next,v,c.2)
   |none=>.bad):=rfl
theorem tC{e q w T b}:cQ a (.kQ e q w) T b=((bp a w T b).bind λy=>uN a e q y.1 T y.2):=rfl
theorem rM{D T b}:cQ a (.exp D) T b=((aO a D T b).bind λy=>.ok (.next,T,y.2)):=rfl
theorem rN{C I M T b}:cQ a (.ifs C I M) T b=((aO a C T b).bind λy=>match truthy y.1 with
  |some MK=>aW a I T y.2
  |some MS=>aW a M T y.2
  |none=>.bad):=rfl
theorem tD{r D M T b}:cQ a (.di r D M) T b=((aO a D T b).bind λy=>match srcOf y.2 y.1 with
  |none=>.bad
  |some t=>cg (λY E T b=>aW a M (T.set r (S E)) b) t.1 (t.2+1) 0 T y.2):=rfl
theorem tE{K r D M T b}:cQ a (.iQ K r D M) T b=((aO a D T b).bind λy=>match srcOf y.2 y.1 with
  |none=>.bad
  |some t=>cg (λH E T b=>aW a M ((T.set K (S (.int H))).set r (S E)) b) t.1 (t.2+1) 0 T y.2):=rfl
theorem wC{C M T b}:cQ a (.zy C M) T b=(gK (λT b=>(aO a C T b).bind λy=>match truthy y.1 with
   |some n=>.ok (n,y.2)
   |none=>.bad) (λT b=>aW a M T b) 100 T b):=rfl
theorem wF{D T b}:cQ a (.ret D) T b=((aO a D T b).bind λy=>.ok (.ret y.1,T,y.2)):=rfl
theorem tF{D T b}:cQ a (.eV D) T b=((aO a D T b).bind λy=>.exc y.1 y.2):=rfl
theorem oR{D r B T b}:cQ a (.kR D r B) T b=(match aO a D T b with
  |.ok y=>.ok (.next,T,y.2)
  |.exc n c=>(aO (λY Y Y=>Res.bad) B (T.set r (S (.exc n))) c).tr.bind λy=>.ok (.next,(T.set r (S (.exc n))).set r N,y.2)
  |.bad=>.bad):=rfl
theorem fe{t y T b}:aW a (.cons t y) T b=((cQ a t T b).bind λL=>match L.1 with
  |.next=>aW a y L.2.1 L.2.2
  |.ret E=>.ok (.ret E,L.2.1,L.2.2)):=rfl
theorem Ho{g:Z->Q->Loc->AH->Res (Fl×Loc×AH)}{t:Src}{q:Z}{K:Z}{T:Loc}{b:AH}:cg g t (q+1) K T b=(match t.at K b with
  |none=>.bad
  |some N=>.ok (.next,T,b)
  |some (S E)=>(g K E T b).bind λy=>match y.1 with
   |.next=>cg g t q (K+1) y.2.1 y.2.2
   |.ret r=>.ok (.ret r,y.2.1,y.2.2)):=rfl
theorem Kx{G:Q->AH->Res (O Q×AH)}{t:Src}{q:Z}{K:Z}{b:AH}:bP G t (q+1) K b=(match t.at K b with
  |none=>.bad
  |some N=>.ok ([],b)
  |some (S E)=>(G E b).bind λy=>(bP G t q (K+1) y.2).bind λL=>.ok ((match y.1 with|some r=>r :: L.1|none=>L.1),L.2)):=rfl
theorem Ip{C:Loc->AH->Res (MO×AH)}{b:Loc->AH->Res (Fl×Loc×AH)}{q:Z}{T:Loc}{a:AH}:gK C b (q+1) T a=((C T a).bind λM=>if M.1 then(b T M.2).bind λy=>match y.1 with
   |.next=>gK C b q y.2.1 y.2.2
   |.ret r=>.ok (.ret r,y.2.1,y.2.2)
  else .ok (.next,T,M.2)):=rfl
theorem n1(B:b<d)(H:SX d e=MK):b<e:=RQ B (Sd H)
theorem n2(B:b<=d)(H:SX (d+1) e=MK):b<e:=RM B (Sd H)
theorem n3(B:b<=d)(H:SX d e=MK):b<=e:=RG B (Sd H)
theorem n4(B:d<=b)(H:SX e d=MK):e<=b:=RG (Sd H) B
theorem n5(B:d<=b)(H:SX (e+1) d=MK):e<b:=RG (Sd H) B
theorem n6(B:b=d)(H:SX (d+1) e=MK):b<e:=n2 (R1 B) H
theorem n7(B:b=d)(H:SX (e+1) d=MK):e<b:=n5 (R1 B.symm) H
theorem n8(B:b=d)(H:SX d e=MK):b<=e:=n3 (R1 B) H
theorem n9(B:b=d)(H:SX e d=MK):e<=b:=n4 (R1 B.symm) H
theorem Ky{C:Z}(B:b<d)(H:SX (d+C) e=MK):b+C<e:=n1 (Z.add_lt_add_right B C) H
theorem Iq{C:Z}(B:b<=d)(H:SX (d+C+1) e=MK):b+C<e:=n2 (Tv B C) H
theorem qm(B:b<d)(H:SX d (e+1)=MK):b<=e:=TZ (n1 B H)
theorem Ir{C:Z}(B:b+C<d)(H:SX d (e+C)=MK):b<e:=Z.lt_of_add_lt_add_right (n1 B H)
theorem Hp{s:Z}(B:b<=s+d)(H:SX d e=MK):b<=s+e:=RG B (Tz (Sd H) s)
theorem Kz(H:SX d e=MK):b+d<=b+e:=Tz (Sd H) b
theorem i1{r I M:ML}(B:r<I)(H:MW (I<=M)=MK):r<M:=TR B (M5 H)
theorem i2{r I M:ML}(B:r<=I)(H:MW (I<M)=MK):r<M:=VI B (M5 H)
theorem i3{r I M:ML}(B:r<=I)(H:MW (I<=M)=MK):r<=M:=SV B (M5 H)
theorem i4{r I M:ML}(B:I<=r)(H:MW (M<=I)=MK):M<=r:=SV (M5 H) B
theorem i6{r C:ML}(H:MW (0<=C)=MK):r<=r+C:=ML.le_add_of_nonneg_right (M5 H)
theorem Iu{o:Z}:200*(o:ML)+200=200*((o+1:Z):ML):=(ML.mul_add 200 (o:ML) 1).symm
theorem o1{r s:ML}{o:Z}(B:r<=200*(o:ML))(H:s<=200):r+s<=200*((o+1:Z):ML):=SV (Vs B H) (ML.le_of_eq Iu)
theorem o2{r:ML}{o:Z}(B:r<=200*(o:ML)):r<=200*((o+1:Z):ML):=SV B (UH (c:=200) (S4.mpr (Sn o)) (by decide))
theorem o3{r s c:ML}{o:Z}(a:o<=14)(B:r<=200*(o:ML))(H:s<=200*(o:ML))(j:c<=96):r+s+c<=16777216:=
 have x:=UH (c:=200) (S4.mpr a) (by decide)
 SV (Vs (Vs (SV B x) (SV H x)) j) (by decide)
theorem o4{s:Z}(B:b<=s)(H:b=s+d):d=0:=Z.eq_zero_of_le_zero (Z.le_of_add_le_add_left (RG (R1 H.symm) B))
theorem o5(B:b<3):b=0\/b=1\/b=2:=by
 rcases b with _|_|_|b;·exact .inl rfl
 ·exact .inr (.inl rfl)
 ·exact .inr (.inr rfl)
 ·exact Ng B (Ti.mpr (SQ 3 b))
theorem o6{s:Z}(B:s=3):min b s+1+(s - (b+1))<1000:=by subst B;exact n2 (Z.add_le_add (TB (T8 ..)) (Z.sub_le ..)) rfl
theorem o7{x:ML}(B:0<=x):(if 0<x then x - 0 else 0)=(x.toNat:ML):=by
 by_cases L:0<x;·exact(Na L).trans ((ML.sub_zero x).trans (UJ B).symm)
 ·exact(Nc L).trans ((ML.le_antisymm B (TS.mp L)).trans (UJ B).symm)
theorem o8{r s C:ML}(B:r+s+32<=C){I:ML}(H:I<=32):r+s+I<=C:=SV (ML.add_le_add_left H _) B
theorem FF{C:Z}(B:d+(e+1)<C):d+1+e<C:=TU d 1 e▸B
theorem Hq{C:Z}(B:d+1+e<C):d+(e+1)<C:=TU d 1 e▸B
theorem Fb{C:Z}(B:b+d<e)(H:SX C d=MK):b+C<e:=RM (Tz (Sd H) b) B
theorem FG{c:Z}{q:Z}{I:Z}{a:Z}(B:a+d*(q+1)+e<I)(H:SX c d=MK):a+c+d*q+e<I:=RM (Tv (RG (Tv (Tz (Sd H) a) (d*q)) (R1 ((VB ..).trans (Nb (a + ·) (Z.add_comm ..))))) e) B
theorem Jz{C:Z}{h:Z}{q:Z}{I:Z}{c:Z}(B:c+d*(q+1)+e<I)(H:SX (C+h) d=MK):c+C+h+d*q+e<I:=VB c C h▸FG B H
theorem KA{q:Z}{I:Z}{a:Z}(B:a+d*(q+1)+e<I):a+d*q+e<I:=FG (c:=0) B rfl
theorem BW{c:Z}{x:Z}{I:Z}{a:Z}(B:a+d*x+e<I)(H:SX c e=MK):a+c<I:=RM (Z.add_le_add (R5 ..) (Sd H)) B
theorem JA{x:Z}{I:Z}{a:Z}(B:a+d*x+e<I):a<I:=BW (c:=0) B rfl
theorem JB{x:Z}{q:Z}{I:Z}{c:Z}(H:x<=q)(B:c+d*q+e<I):c+d*x+e<I:=RM (Tv (Tz (Ub d H) c) e) B
theorem Iw{C:Z}(H:SX 1 C=MK):b≠b+C:=Td (Ve (Sd H))
theorem KC{C:Z}(H:SX 1 C=MK):b+C≠b:=S6 (Ve (Sd H))
theorem KD(H:SX (d+1) e=MK):b+d<b+e:=VF (Sd H) b
theorem JC(H:SX (d+1) e=MK):b+d≠b+e:=Td (KD H)
theorem KG(B:b<2):b=0\/b=1:=(Z.lt_succ_iff_lt_or_eq.mp B).imp Z.lt_one_iff.mp id
theorem JD:b<=b - 1+1:=Z.le_add_of_sub_le (Sb _)
theorem KH(B:¬b - 1<b):b=0:=Z.eq_zero_of_not_pos λU=>B (V9 U VZ)
theorem JE{H:ML}(B:H<b)(s:b<1000):H<2 ^ 63:=ML.lt_trans B (TR (RT.mpr s) (by decide))
theorem b1{s:Z}{U:Z}(G:b<=s+U)(T:U<=b):b - U+(s+U - b)=s:=(VS s T)▸Uc (Vt.mpr G)
theorem b2{s:Z}{U:Z}(G:b<=s+U)(T:U<=b)(B:d<s+U - b):b - U+d<s:=TH (VF B _) (b1 G T)
theorem b3{s:Z}{U:Z}(p:s<=b)(G:b<=s+U):U - (s+U - b)=b - s:=by rw[Z.add_comm s U,<-VS U p];exact Z.sub_sub_self (Z.sub_le_iff_le_add'.mpr G)
theorem b4{s:Z}{U:Z}(p:s<=b)(G:b<=s+U):s+(U - (s+U - b))=b:=(Nb (s + ·) (b3 p G)).trans (Uc p)
theorem b5{s:Z}(B:d<b - s):s+d<b:=Z.add_lt_of_lt_sub' B
theorem b6(B:b - d=e+1):b - (d+1)=e:=Nb Z.pred B
theorem b0{s:Z}{U:Z}(v:b+s=U+1)(d:b<U):0<s:=Z.pos_of_lt_add_right (TH (U3 d) v.symm)
theorem b7{s:Z}{U:Z}(v:b+s=U+1)(d:b<U):s - 1<s:=V9 (b0 v d) VZ
theorem b8{s:Z}{U:Z}(v:b+s=U+1)(d:b<U):b+1+(s - 1)=U+1:=(VB b 1 (s - 1)).trans ((Nb (b + ·) (Uc (b0 v d))).trans v)
theorem oS{i:Type}{l d:V i}{o x:Z}(y:l.length<=o)(q:o<=l.length+d.length)(X:o<=x):((l++d.drop (l.length+d.length - o)).map S++UN (x - o) N).length=x:=by rw[RE,Ry,RE,TC,V.length_replicate,b4 y q];exact Uc X
theorem bL{i d:Type}{r s:Res i}{A:i->Res d}(B:r=s):r.bind A=s.bind A:=B▸rfl
theorem oL{i:Type u}{d:Type v}{r s:O i}{A:i->O d}(B:r=s):r.bind A=s.bind A:=B▸rfl
theorem ba{f n:c->Prop}(r:c)(E:f r)(p:n r):∃(r:c),f r/\n r:=⟨r,E,p⟩
theorem jM{f n M:c->Prop}(r:c)(E:f r)(p:n r)(G:M r):∃(r:c),f r/\n r/\M r:=⟨r,E,p,G⟩
theorem zE{f n M t:c->Prop}(r:c)(E:f r)(p:n r)(G:M r)(T:t r):∃(r:c),f r/\n r/\M r/\t r:=⟨r,E,p,G,T⟩
theorem KI{f n M t I:c->Prop}(r:c)(E:f r)(p:n r)(G:M r)(T:t r)(X:I r):∃(r:c),f r/\n r/\M r/\t r/\I r:=⟨r,E,p,G,T,X⟩
theorem wa{d:Sort _}{f:c->d->Prop}(r:c)(s:d)(E:f r s):∃(r:c) (s:d),f r s:=⟨r,s,E⟩
theorem dI{d:Sort _}{f n:c->d->Prop}(r:c)(s:d)(E:f r s)(p:n r s):∃(r:c) (s:d),f r s/\n r s:=⟨r,s,E,p⟩
theorem qu{d:Sort _}{f n M:c->d->Prop}(r:c)(s:d)(E:f r s)(p:n r s)(G:M r s):∃(r:c) (s:d),f r s/\n r s/\M r s:=⟨r,s,E,p,G⟩
theorem qv{d:Sort _}{f n M t:c->d->Prop}(r:c)(s:d)(E:f r s)(p:n r s)(G:M r s)(T:t r s):∃(r:c) (s:d),f r s/\n r s/\M r s/\t r s:=⟨r,s,E,p,G,T⟩
theorem Fc{d:Sort _}{f n M t I:c->d->Prop}(r:c)(s:d)(E:f r s)(p:n r s)(G:M r s)(T:t r s)(X:I r s):∃(r:c) (s:d),f r s/\n r s/\M r s/\t r s/\I r s:=⟨r,s,E,p,G,T,X⟩
theorem KJ{d:Sort _}{f n M t I x:c->d->Prop}(r:c)(s:d)(E:f r s)(p:n r s)(G:M r s)(T:t r s)(X:I r s)(k:x r s):∃(r:c) (s:d),f r s/\n r s/\M r s/\t r s/\I r s/\x r s:=⟨r,s,E,p,G,T,X,k⟩
theorem JF{d:Sort _}{f n M t I x C b:c->d->Prop}(r:c)(s:d)(E:f r s)(p:n r s)(G:M r s)(T:t r s)(X:I r s)(k:x r s)(m:C r s)(Y:b r s):∃(r:c) (s:d),f r s/\n r s/\M r s/\t r s/\I r s/\x r s/\C r s/\b r s:=⟨r,s,E,p,G,T,X,k,m,Y⟩
theorem Hr{d:Sort _}{a:Sort _}{f:c->d->a->Prop}(r:c)(s:d)(U:a)(E:f r s U):∃(r:c) (s:d) (U:a),f r s U:=⟨r,s,U,E⟩
theorem zQ{d:Sort _}{a:Sort _}{f n:c->d->a->Prop}(r:c)(s:d)(U:a)(E:f r s U)(p:n r s U):∃(r:c) (s:d) (U:a),f r s U/\n r s U:=⟨r,s,U,E,p⟩
theorem kU{d:Sort _}{a:Sort _}{f n M:c->d->a->Prop}(r:c)(s:d)(U:a)(E:f r s U)(p:n r s U)(G:M r s U):∃(r:c) (s:d) (U:a),f r s U/\n r s U/\M r s U:=⟨r,s,U,E,p,G⟩
theorem zF{d:Sort _}{a:Sort _}{f n M t:c->d->a->Prop}(r:c)(s:d)(U:a)(E:f r s U)(p:n r s U)(G:M r s U)(T:t r s U):∃(r:c) (s:d) (U:a),f r s U/\n r s U/\M r s U/\t r s U:=⟨r,s,U,E,p,G,T⟩
theorem KL{d:Sort _}{a:Sort _}{f n M t I x:c->d->a->Prop}(r:c)(s:d)(U:a)(E:f r s U)(p:n r s U)(G:M r s U)(T:t r s U)(X:I r s U)(k:x r s U):∃(r:c) (s:d) (U:a),f r s U/\n r s U/\M r s U/\t r s U/\I r s U/\x r s U:=⟨r,s,U,E,p,G,T,X,k⟩
theorem KN{d:Sort _}{a:Sort _}{f n M t I x C:c->d->a->Prop}(r:c)(s:d)(U:a)(E:f r s U)(p:n r s U)(G:M r s U)(T:t r s U)(X:I r s U)(k:x r s U)(m:C r s U):∃(r:c) (s:d) (U:a),f r s U/\n r s U/\M r s U/\t r s U/\I r s U/\x r s U/\C r s U:=⟨r,s,U,E,p,G,T,X,k,m⟩
theorem JG{d:Sort _}{e:Sort _}{b:Sort _}{f n:c->d->e->b->Prop}(r:c)(s:d)(U:e)(a:b)(E:f r s U a)(p:n r s U a):∃(r:c) (s:d) (U:e) (a:b),f r s U a/\n r s U a:=⟨r,s,U,a,E,p⟩
theorem Iy{d:Sort _}{e:Sort _}{b:Sort _}{f n M:c->d->e->b->Prop}(r:c)(s:d)(U:e)(a:b)(E:f r s U a)(p:n r s U a)(G:M r s U a):∃(r:c) (s:d) (U:e) (a:b),f r s U a/\n r s U a/\M r s U a:=⟨r,s,U,a,E,p,G⟩
theorem gU{d:Sort _}{e:Sort _}{b:Sort _}{f n M t:c->d->e->b->Prop}(r:c)(s:d)(U:e)(a:b)(E:f r s U a)(p:n r s U a)(G:M r s U a)(T:t r s U a):∃(r:c) (s:d) (U:e) (a:b),f r s U a/\n r s U a/\M r s U a/\t r s U a:=⟨r,s,U,a,E,p,G,T⟩
theorem kF{i:Type u}{c:Prop}(z:O i)(B:z=N->c)(H:∀I,z=S I->c):c:=by
 induction z using Rx with
 |none=>exact B rfl
 |some I=>exact H I rfl
theorem wb{c:Prop}(M:MO)(B:M=MS->c)(H:M=MK->c):c:=by
 induction M using RD with
 |false=>exact B rfl
 |true=>exact H rfl
theorem BX{a:Type}{c:Prop}(r:Res a)(B:∀I,r=.ok I->c)(H:∀n b,r=.exc n b->c)(i:r=.bad->c):c:=by
 induction r using Wn with
 |ok I=>exact B I rfl
 |exc n b=>exact H n b rfl
 |bad=>exact i rfl
theorem hF{C:Prop}(B:¬¬C):C:=Classical.byContradiction B
@[elab_as_elim]theorem R{α:Sort _}{p:α->Prop}{a b:α}(h:a=b)(x:p b):p a:=h▸x
theorem KO{I:Q}(B:I.ctorIdx=2):∃K,I=.int K:=Q.int.elim (motive_1:=λI=>∃K,I=.int K) I B λK=>⟨K,rfl⟩
theorem KP{I:Q}(B:I.ctorIdx=3):∃K,I=.str K:=Q.str.elim (motive_1:=λI=>∃K,I=.str K) I B λK=>⟨K,rfl⟩
theorem KQ{I:Q}(B:I.ctorIdx=8):∃K,I=.ab K:=Q.ab.elim (motive_1:=λI=>∃K,I=.ab K) I B λK=>⟨K,rfl⟩
theorem KR{I:Q}(B:I.ctorIdx=10):∃K,I=.aA K:=Q.aA.elim (motive_1:=λI=>∃K,I=.aA K) I B λK=>⟨K,rfl⟩
theorem FH{I:Q}{b:AH}(a:(match I with|.int K=>Res.ok (Q.int (-K),b)|_=>.bad)≠.bad):∃K,I=.int K:=if B:I.ctorIdx=2 then KO B else Ng (by induction I using Wm<;>first|rfl|exact Ng rfl B) a
theorem CO{g:V Z}{w:V Q}{I:Q}{b:AH}(a:gT g w I b≠.bad):∃H,I=.str H:=if B:I.ctorIdx=3 then KP B else Ng (by induction I using Wm<;>first|rfl|exact Ng rfl B) a
theorem CP{I:Q}{b:AH}(B:kE b I≠.bad):∃H l w,I=.ab H/\b.D[H]? = S l/\l.length<1000/\iD l l=S w/\kE b I=.ok (.lst w,b):=by
 by_cases a:I.ctorIdx=8
 ·obtain⟨H,a⟩:=KQ a
  subst a
  unfold kE at B⊢
  dsimp only at B⊢
  cases D:b.D[H]? with
  |none=>rw[D] at B;exact Ng rfl B
  |some l=>
   rw[D] at B;dsimp only at B⊢;by_cases s:sm l.length=MK
   ·rw[Na s] at B⊢
    cases p:iD l l with
    |none=>rw[p] at B;exact Ng rfl B
    |some w=>exact⟨H,l,w,rfl,D,M5 s,p,rfl⟩
   ·exact Ng (Nc s) B
 ·exact Ng (by induction I using Wm<;>first|rfl|exact Ng rfl a) B
theorem FI{r:Res (V Q×AH)}{I:Q}{b:AH}(D:r.bind (λL=>.ok (Q.tup L.1,L.2))=.ok (I,b)):∃l,I=.tup l/\r=.ok (l,b):=by
 cases r with
 |ok L=>cases D;exact⟨L.1,rfl,rfl⟩
 |exc _ _=>exact nomatch D
 |bad=>exact nomatch D
theorem zR{b:AH}{I:Q}{A:Z}(D:dz b I A=N)(B:I.ctorIdx≠10):aG a b I A=.bad:=by unfold aG;rw[D];clear D;induction I using Wm<;>first|rfl|exact Ng rfl B
theorem zS{b:AH}{H:Z}{r:Res (Q×AH)}(B:(match b.I[H]? with|some (.Mem,_)=>r|_=>.bad)≠.bad):∃w,b.I[H]? = S (.Mem,w):=by
 cases i:b.I[H]? with
 |none=>rw[i] at B;exact Ng rfl B
 |some L=>
  obtain⟨C,w⟩:=L;refine⟨w,?_⟩;rw[i] at B;by_cases a:C=.Mem;·rw[a]
  ·exact Ng (by induction C using dG.casesOn<;>first|rfl|exact Ng rfl a) B
theorem tG{b:AH}{I:Q}{A:Z}(D:dz b I A=N)(c:aG a b I A≠.bad):∃H w,I=.aA H/\b.I[H]? = S (.Mem,w)/\A=26/\aG a b I A=(a (.fn 20) [.aA H] b).tr:=by
 by_cases B:I.ctorIdx=10
 ·obtain⟨H,B⟩:=KR B;subst B;have L:aG a b (.aA H) A=(match b.I[H]? with|some (.Mem,_)=>if A=26 then(a (.fn 20) [.aA H] b).tr else .bad|_=>.bad):=by unfold aG;rw[D]<;>rfl
  rw[L] at c⊢;obtain⟨w,i⟩:=zS c;rw[i] at c;by_cases B:A=26;·exact⟨H,w,rfl,i,B,by rw[i];exact Na B⟩
  ·exact Ng (Nc B) c
 ·exact Ng (zR D B) c
end
section
open PySem PySem.W PySem.Calls PyProof.Rows
open Mine.Lake.AV renaming casesOn->Wm
open Mine.Lake.Res renaming casesOn->Wn
open Mine.Lake renaming AV->Q
noncomputable def KS:V Z:=[21,139,144,179,187,194,202,210,217,224,231,238,245,252,259,266,273,280,287,294,358,366,373,380,387,394,401,408,429,436,443,450,457,464,471,478,485,492,512,519,526,533,540,547,554,561,568,575,583,590,602,609,614,621,626,633,638,643,650,657]
noncomputable def FA(H:Z):MR:=KS.getD H 0
noncomputable def CA:dG->MR
 |.Thing=>72|.Text=>93|.Row=>114|.Dict=>147|.Span=>168|.CE=>312|.jP=>333|.Mem=>593|.bR=>52
noncomputable def sx(H:Z):MT:=⟨(CL.getD H []).toArray⟩
noncomputable def NS:Z:=CL.length
theorem uO:CL.Nodup:=by decide +kernel
variable{G az:Type}{ao:Sort _}{U:N'}{k bc:AH}{d:MV}{n:MR}{t:MN->MV->Prop}{w:Loc}{v:Nz}{P:Nu}{be:V MT}{bg bf:MT->O MN}{q:Z}{bh:O MN}{ap:MV}{J bj:Nh}{H:Z}{T:NZ}{A:MR}{C:M0 Nr}{f:Nv}{i:CF}{l o:V Nf}{c:Nf}{j:V (O MT)}{a:Ni}{e p X:MU}{g ax aq:V MR}{h:Nu}{r:MT}{aj s:MP}{ag K:Z}{am:MO}{Y:Prop}{m:Q}{aa:MN}{z:V Q}{ae:V Z}{y:V (Q×Q)}{ah:Nk}{au:V Q}{aw:Q}{ai:MN->MV->Prop}{af:LE}
theorem rO(d:ag<NS)(M:K<NS)(B:sx ag=sx K):ag=K:=by
 have G:CL.getD ag []=CL.getD K []:=by have:=Nb (λt:MT=>t.cps.toList) B;exact this
 have E:ag<CL.length:=d;have h:K<CL.length:=M;rw[UU,UU,RA E,RA h] at G;refine(U4 E uO).mp ?_;rw[RA E,RA h];simpa using G
theorem nX{I:G}{P:Prop}(B:N=S I):P:=(O.some_ne_none _ B.symm).elim
theorem sX{I M:G}(B:S I=S M):I=M:=Sk B
theorem bX{α:Type}{P:Prop}(B:Res.bad (α:=α)≠.bad):P:=Ng rfl B
noncomputable def aZ{i:Type}(z:O i)(o:i->Prop):Prop:=match z with
 |none=>Np
 |some I=>o I
noncomputable def vw{x i:Type}(K:x->Z)(H:Z)(r:x)(A:K r=H->O i):O i:=if B:K r=H then A B else N
theorem dq{x:Type}{K:x->Z}{r:x}{A:K r=H->O G}{o:G->Prop}(n:∀B,aZ (A B) o):aZ (vw K H r A) o:=by
 unfold vw;split;·exact n _
 ·exact RY
noncomputable def l1{i:Type}:V i->O i|[I]=>S I|_=>N
theorem oU(r:V G):aZ (l1 r) λI=>r=[I]:=by rcases r with _|⟨I,_|⟨M,y⟩⟩<;>first|exact RY|rfl
noncomputable def l2{i:Type}:V i->O (i×i)|[I,M]=>S (I,M)|_=>N
theorem zT(r:V G):aZ (l2 r) λI=>r=[I.1,I.2]:=by rcases r with _|⟨I,_|⟨M,_|⟨C,y⟩⟩⟩<;>first|exact RY|rfl
theorem bF{P:Prop}(B:MS=MK):P:=(RW B).elim
theorem ot{z:O G}{o:G->Prop}{I:G}(n:aZ z o)(D:z=S I):o I:=by subst D;exact n
theorem k1{a:Type}{z:O G}{A:G->MO}{r:az}{P:az->Prop}{M:G->a->az}(n:aZ z λI=>∃C,r=M I C)(B:z.any A=MK)(H:∀I C,A I=MK->P (M I C)):P r:=by
 induction z using Rx with
 |none=>exact bF B
 |some I=>obtain⟨C,D⟩:=n;exact D▸H I C B
theorem k0{z:O G}{A:G->MO}{r:az}{P:az->Prop}{M:G->az}(n:aZ z λI=>r=M I)(B:z.any A=MK)(H:∀I,A I=MK->P (M I)):P r:=by
 induction z using Rx with
 |none=>exact bF B
 |some I=>exact(show r=M I from n)▸H I B
theorem an{I M:MO}(B:(I&&M)=MK)(H:I=MK->M=MK->Y):Y:=H (RS.mp B).1 (RS.mp B).2
theorem gV{I M:MO}(B:(I&&M&&am)=MK)(H:I=MK->M=MK->am=MK->Y):Y:=an B λB U=>an B λr s=>H r s U
theorem wG{I M h:MO}(B:(I&&M&&am&&h)=MK)(H:I=MK->M=MK->am=MK->h=MK->Y):Y:=an B λB U=>gV B λr s c=>H r s c U
theorem zU{I M h D:MO}(B:(I&&M&&am&&h&&D)=MK)(H:I=MK->M=MK->am=MK->h=MK->D=MK->Y):Y:=an B λB U=>wG B λr s c E=>H r s c E U
theorem zV{I M h D A:MO}(B:(I&&M&&am&&h&&D&&A)=MK)(H:I=MK->M=MK->am=MK->h=MK->D=MK->A=MK->Y):Y:=an B λB U=>zU B λr s c E n=>H r s c E n U
theorem FJ{I M h D A o:MO}(B:(I&&M&&am&&h&&D&&A&&o)=MK)(H:I=MK->M=MK->am=MK->h=MK->D=MK->A=MK->o=MK->Y):Y:=an B λB U=>zV B λr s c E n t=>H r s c E n t U
theorem dE{I M:G}[OH (I=M)](B:MW (I=M)=MK):M=I:=(M5 B).symm
theorem nF{I:MO}(B:(!I)=MK):I=MS:=(S9 I).mp B
theorem cF{c:Prop}[OH c]{I M:O G}{L:G}(D:(if c then I else M)=S L)(p:c->I=S L->Y)(a:¬c->M=S L->Y):Y:=by
 by_cases B:c;·exact p B ((Na B).symm.trans D)
 ·exact a B ((Nc B).symm.trans D)
theorem zW{C:Prop}[OH C]{r s:G}(B:(if C then S r else N)=S s):C/\r=s:=by
 by_cases L:C;·exact⟨L,sX ((Na L).symm.trans B)⟩
 ·exact nX ((Nc L).symm.trans B)
structure bI where
 L:V MR:=[]
 D:V MR:=[]
 B:V MR:=[]
 I:V (MR×MR):=[]
noncomputable def bI.M(y:bI):V MR:=y.L++y.D++y.B++y.I.map (·.1)++y.I.map (·.2)
structure bI.le(r r':bI):Prop where
 L:∀(k:Z) (a:MR),r.L[k]? = S a->r'.L[k]? = S a
 D:∀(k:Z) (a:MR),r.D[k]? = S a->r'.D[k]? = S a
 B:∀(k:Z) (a:MR),r.B[k]? = S a->r'.B[k]? = S a
 I:∀(k:Z) (a:MR×MR),r.I[k]? = S a->r'.I[k]? = S a
theorem bI.le.refl(y:bI):y.le y:=⟨λY Y D=>D,λY Y D=>D,λY Y D=>D,λY Y D=>D⟩
theorem bI.le.trans{I M C:bI}(r:I.le M)(s:M.le C):I.le C:=⟨λY Y D=>s.L _ _ (r.L _ _ D),λY Y D=>s.D _ _ (r.D _ _ D),λY Y D=>s.B _ _ (r.B _ _ D),λY Y D=>s.I _ _ (r.I _ _ D)⟩
abbrev CQ(j:M0 MN)(q:Z):Nk:={cls:=.type "tuple",data:=.seq j q}
abbrev bC(y:M0 Nr)(q:Z):Nk:={cls:=.type "dict",data:=.dict y q}
abbrev eH(M:M0 Nn):Nk:={cls:=.type "bytearray",data:=.bytearray M 0}
abbrev SP:=MR->Nk->Prop
noncomputable def bT(C:dG):V Z:=(bU C).bT
mutual
inductive VR(P:N')(S:SP)(r:bI):Q->MN->Prop
 |none:VR P S r .none .none
 |bool (b:MO):VR P S r (.bool b) (.bool b)
 |int (i:ML) (t:NL):VR P S r (.int i) (.int i t)
 |str (k:Z) (t:NL):k<NS->VR P S r (.str k) (.str (sx k) t)
 |bx (b:M0 Nn) (t:NL) (l:V Z):b.toList.map SK=l->VR P S r (.bx l) (.bytes b t)
 |fn (k:Z):VR P S r (.fn k) (.ref (FA k))
 |cls (c:dG):VR P S r (.cls c) (.ref (CA c))
 |aE (k:Z) (a:MR):r.L[k]? = some a->VR P S r (.aE k) (.ref a)
 |ab (k:Z) (a:MR):r.D[k]? = some a->VR P S r (.ab k) (.ref a)
 |eP (k:Z) (a:MR):r.B[k]? = some a->VR P S r (.eP k) (.ref a)
 |aA (k:Z) (a d:MR):r.I[k]? = some (a,d)->VR P S r (.aA k) (.ref a)
 |tup (vs:V Q) (a:MR) (items:M0 MN) (n:Z):S a (CQ items n)->bN P S r vs items.toList->VR P S r (.tup vs) (.ref a)
 |lst (vs:V Q) (a:MR) (items:M0 MN) (n:Z):S a (listOf items n)->bN P S r vs items.toList->VR P S r (.lst vs) (.ref a)
 |obj (c:dG) (vs:V Q) (a d:MR) (es:M0 Nr) (n:Z):S a (NC (CA c) d)->S d (bC es n)->FR P S r (bT c) vs es.toList->VR P S r (.obj c vs) (.ref a)
 |exc (t:Q) (a d:MR) (o:Nk) (es:M0 Nr) (n:Z):S a o->o.cls=.ref (CA .bR)->o.dict=some d->(∃vs,o.data=.fields vs)->S d (bC es n)->FR P S r (bT .bR) [t] es.toList->VR P S r (.exc t) (.ref a)
inductive bN(P:N')(S:SP)(r:bI):V Q->V MN->Prop
 |nil:bN P S r [] []
 |cons {a:Q} {v:MN} {as:V Q} {vs:V MN}:VR P S r a v->bN P S r as vs->bN P S r (a :: as) (v :: vs)
inductive FR(P:N')(S:SP)(r:bI):V Z->V Q->V Nr->Prop
 |nil:FR P S r [] [] []
 |cons {k:Z} {a:Q} {v:MN} {t:NL} {ks:V Z} {as:V Q} {es:V Nr}:VR P S r a v->FR P S r ks as es->FR P S r (k :: ks) (a :: as) (⟨Sr P (sx k),.str (sx k) t,v⟩ :: es)
end
noncomputable def JH(c:N')(T:SP)(y:bI)(E:MN):Q->Prop
 |.none=>E=.none
 |.bool M=>E=.bool M
 |.int K=>∃n,E=.int K n
 |.str H=>∃n,E=.str (sx H) n/\H<NS
 |.bx b=>∃M n,E=.bytes M n/\M.toList.map SK=b
 |.fn H=>E=.ref (FA H)
 |.cls C=>E=.ref (CA C)
 |.aE H=>∃I,E=.ref I/\y.L[H]? = S I
 |.ab H=>∃I,E=.ref I/\y.D[H]? = S I
 |.eP H=>∃I,E=.ref I/\y.B[H]? = S I
 |.aA H=>∃I h,E=.ref I/\y.I[H]? = S (I,h)
 |.tup w=>∃I j q,E=.ref I/\T I (CQ j q)/\bN c T y w j.toList
 |.lst w=>∃I j q,E=.ref I/\T I (listOf j q)/\bN c T y w j.toList
 |.obj C w=>∃I h a q,E=.ref I/\T I (NC (CA C) h)/\T h (bC a q)/\FR c T y (bT C) w a.toList
 |.exc n=>∃I h z a q,E=.ref I/\T I z/\z.cls=.ref (CA .bR)/\z.dict=S h/\(∃w,z.data=.fields w)/\T h (bC a q)/\FR c T y (bT .bR) [n] a.toList
theorem bM{f n:Prop}(B:f/\n)(H:f->n->Y):Y:=H B.1 B.2
theorem fM{f n M:Prop}(B:f/\n/\M)(H:f->n->M->Y):Y:=H B.1 B.2.1 B.2.2
theorem qo{f n M t:Prop}(B:f/\n/\M/\t)(H:f->n->M->t->Y):Y:=H B.1 B.2.1 B.2.2.1 B.2.2.2
theorem wc{f n M t I:Prop}(B:f/\n/\M/\t/\I)(H:f->n->M->t->I->Y):Y:=H B.1 B.2.1 B.2.2.1 B.2.2.2.1 B.2.2.2.2
theorem KU{f n M t I x C:Prop}(B:f/\n/\M/\t/\I/\x/\C)(H:f->n->M->t->I->x->C->Y):Y:=H B.1 B.2.1 B.2.2.1 B.2.2.2.1 B.2.2.2.2.1 B.2.2.2.2.2.1 B.2.2.2.2.2.2
theorem dD{f:ao->Prop}(B:∃(r:ao),f r)(H:∀(r:ao),f r->Y):Y:=B.elim λr B=>H r B
theorem aM{f n:ao->Prop}(B:∃(r:ao),f r/\n r)(H:∀(r:ao),f r->n r->Y):Y:=B.elim λr B=>H r B.1 B.2
theorem mP{f n M:ao->Prop}(B:∃(r:ao),f r/\n r/\M r)(H:∀(r:ao),f r->n r->M r->Y):Y:=B.elim λr B=>H r B.1 B.2.1 B.2.2
theorem wH{f n M t:ao->Prop}(B:∃(r:ao),f r/\n r/\M r/\t r)(H:∀(r:ao),f r->n r->M r->t r->Y):Y:=B.elim λr B=>H r B.1 B.2.1 B.2.2.1 B.2.2.2
theorem JI{f n M t I:ao->Prop}(B:∃(r:ao),f r/\n r/\M r/\t r/\I r)(H:∀(r:ao),f r->n r->M r->t r->I r->Y):Y:=B.elim λr B=>H r B.1 B.2.1 B.2.2.1 B.2.2.2.1 B.2.2.2.2
theorem KV{f n M t I x:ao->Prop}(B:∃(r:ao),f r/\n r/\M r/\t r/\I r/\x r)(H:∀(r:ao),f r->n r->M r->t r->I r->x r->Y):Y:=B.elim λr B=>H r B.1 B.2.1 B.2.2.1 B.2.2.2.1 B.2.2.2.2.1 B.2.2.2.2.2
theorem mQ{d:Sort _}{f:ao->d->Prop}(B:∃(r:ao) (s:d),f r s)(H:∀(r:ao) (s:d),f r s->Y):Y:=B.elim λr B=>B.elim λs B=>H r s B
theorem cj{d:Sort _}{f n:ao->d->Prop}(B:∃(r:ao) (s:d),f r s/\n r s)(H:∀(r:ao) (s:d),f r s->n r s->Y):Y:=B.elim λr B=>B.elim λs B=>H r s B.1 B.2
theorem m5{d:Sort _}{f n M:ao->d->Prop}(B:∃(r:ao) (s:d),f r s/\n r s/\M r s)(H:∀(r:ao) (s:d),f r s->n r s->M r s->Y):Y:=B.elim λr B=>B.elim λs B=>H r s B.1 B.2.1 B.2.2
theorem uP{d:Sort _}{f n M t:ao->d->Prop}(B:∃(r:ao) (s:d),f r s/\n r s/\M r s/\t r s)(H:∀(r:ao) (s:d),f r s->n r s->M r s->t r s->Y):Y:=B.elim λr B=>B.elim λs B=>H r s B.1 B.2.1 B.2.2.1 B.2.2.2
theorem Hs{d:Sort _}{f n M t I:ao->d->Prop}(B:∃(r:ao) (s:d),f r s/\n r s/\M r s/\t r s/\I r s)(H:∀(r:ao) (s:d),f r s->n r s->M r s->t r s->I r s->Y):Y:=B.elim λr B=>B.elim λs B=>H r s B.1 B.2.1 B.2.2.1 B.2.2.2.1 B.2.2.2.2
theorem KW{d:Sort _}{f n M t I x:ao->d->Prop}(B:∃(r:ao) (s:d),f r s/\n r s/\M r s/\t r s/\I r s/\x r s)(H:∀(r:ao) (s:d),f r s->n r s->M r s->t r s->I r s->x r s->Y):Y:=B.elim λr B=>B.elim λs B=>H r s B.1 B.2.1 B.2.2.1 B.2.2.2.1 B.2.2.2.2.1 B.2.2.2.2.2
theorem JJ{d:Sort _}{f n M t I x C b:ao->d->Prop}(B:∃(r:ao) (s:d),f r s/\n r s/\M r s/\t r s/\I r s/\x r s/\C r s/\b r s)(H:∀(r:ao) (s:d),f r s->n r s->M r s->t r s->I r s->x r s->C r s->b r s->Y):Y:=B.elim λr B=>B.elim λs B=>H r s B.1 B.2.1 B.2.2.1 B.2.2.2.1 B.2.2.2.2.1 B.2.2.2.2.2.1 B.2.2.2.2.2.2.1 B.2.2.2.2.2.2.2
theorem zX{d:Sort _}{a:Sort _}{f:ao->d->a->Prop}(B:∃(r:ao) (s:d) (U:a),f r s U)(H:∀(r:ao) (s:d) (U:a),f r s U->Y):Y:=B.elim λr B=>B.elim λs B=>B.elim λU B=>H r s U B
theorem we{d:Sort _}{a:Sort _}{f n:ao->d->a->Prop}(B:∃(r:ao) (s:d) (U:a),f r s U/\n r s U)(H:∀(r:ao) (s:d) (U:a),f r s U->n r s U->Y):Y:=B.elim λr B=>B.elim λs B=>B.elim λU B=>H r s U B.1 B.2
theorem dF{d:Sort _}{a:Sort _}{f n M:ao->d->a->Prop}(B:∃(r:ao) (s:d) (U:a),f r s U/\n r s U/\M r s U)(H:∀(r:ao) (s:d) (U:a),f r s U->n r s U->M r s U->Y):Y:=B.elim λr B=>B.elim λs B=>B.elim λU B=>H r s U B.1 B.2.1 B.2.2
theorem CR{d:Sort _}{a:Sort _}{f n M t:ao->d->a->Prop}(B:∃(r:ao) (s:d) (U:a),f r s U/\n r s U/\M r s U/\t r s U)(H:∀(r:ao) (s:d) (U:a),f r s U->n r s U->M r s U->t r s U->Y):Y:=B.elim λr B=>B.elim λs B=>B.elim λU B=>H r s U B.1 B.2.1 B.2.2.1 B.2.2.2
theorem JK{d:Sort _}{a:Sort _}{f n M t I:ao->d->a->Prop}(B:∃(r:ao) (s:d) (U:a),f r s U/\n r s U/\M r s U/\t r s U/\I r s U)(H:∀(r:ao) (s:d) (U:a),f r s U->n r s U->M r s U->t r s U->I r s U->Y):Y:=B.elim λr B=>B.elim λs B=>B.elim λU B=>H r s U B.1 B.2.1 B.2.2.1 B.2.2.2.1 B.2.2.2.2
theorem KX{d:Sort _}{a:Sort _}{f n M t I x C:ao->d->a->Prop}(B:∃(r:ao) (s:d) (U:a),f r s U/\n r s U/\M r s U/\t r s U/\I r s U/\x r s U/\C r s U)(H:∀(r:ao) (s:d) (U:a),f r s U->n r s U->M r s U->t r s U->I r s U->x r s U->C r s U->Y):Y:=B.elim λr B=>B.elim λs B=>B.elim λU B=>H r s U B.1 B.2.1 B.2.2.1 B.2.2.2.1 B.2.2.2.2.1 B.2.2.2.2.2.1 B.2.2.2.2.2.2
theorem CS{d:Sort _}{b:Sort _}{a:Sort _}{f:ao->d->b->a->Prop}(B:∃(r:ao) (s:d) (U:b) (c:a),f r s U c)(H:∀(r:ao) (s:d) (U:b) (c:a),f r s U c->Y):Y:=B.elim λr B=>B.elim λs B=>B.elim λU B=>B.elim λc B=>H r s U c B
theorem KY{d:Sort _}{a:Sort _}{b:Sort _}{f n M:ao->d->a->b->Prop}(B:∃(r:ao) (s:d) (U:a) (c:b),f r s U c/\n r s U c/\M r s U c)(H:∀(r:ao) (s:d) (U:a) (c:b),f r s U c->n r s U c->M r s U c->Y):Y:=B.elim λr B=>B.elim λs B=>B.elim λU B=>B.elim λc B=>H r s U c B.1 B.2.1 B.2.2
theorem qw{d:Sort _}{b:Sort _}{a:Sort _}{f n M t:ao->d->b->a->Prop}(B:∃(r:ao) (s:d) (U:b) (c:a),f r s U c/\n r s U c/\M r s U c/\t r s U c)(H:∀(r:ao) (s:d) (U:b) (c:a),f r s U c->n r s U c->M r s U c->t r s U c->Y):Y:=B.elim λr B=>B.elim λs B=>B.elim λU B=>B.elim λc B=>H r s U c B.1 B.2.1 B.2.2.1 B.2.2.2
theorem KZ{d:Sort _}{b:Sort _}{a:Sort _}{f n M t I:ao->d->b->a->Prop}(B:∃(r:ao) (s:d) (U:b) (c:a),f r s U c/\n r s U c/\M r s U c/\t r s U c/\I r s U c)(H:∀(r:ao) (s:d) (U:b) (c:a),f r s U c->n r s U c->M r s U c->t r s U c->I r s U c->Y):Y:=B.elim λr B=>B.elim λs B=>B.elim λU B=>B.elim λc B=>H r s U c B.1 B.2.1 B.2.2.1 B.2.2.2.1 B.2.2.2.2
variable{x:SP}{b ak:bI}
theorem VR.inv(B:VR U x b m aa):JH U x b aa m:=VR.casesOn (motive_1:=λm aa Y=>JH U x b aa m) B rfl (λY=>rfl) (λY n=>⟨n,rfl⟩) (λY n B=>⟨n,rfl,B⟩) (λM n Y B=>⟨M,n,rfl,B⟩) (λY=>rfl) (λY=>rfl) (λY m B=>⟨m,rfl,B⟩) (λY m B=>⟨m,rfl,B⟩) (λY m B=>⟨m,rfl,B⟩) (λY m h B=>⟨m,h,rfl,B⟩) (λY m K q t B=>⟨m,K,q,rfl,t,B⟩) (λY m K q t B=>⟨m,K,q,rfl,t,B⟩) (λY Y m h y q k o A=>⟨m,h,y,q,rfl,k,o,A⟩) (λY m h z y q k i H f1 o A=>⟨m,h,z,y,q,rfl,k,i,H,f1,o,A⟩)
noncomputable def FK(c:N')(T:SP)(y:bI)(w:V MN):V Q->Prop
 |[]=>w=[]
 |I :: l=>∃E a,w=E :: a/\VR c T y I E/\bN c T y l a
theorem bN.inv{w:V MN}(B:bN U x b z w):FK U x b w z:=bN.casesOn (motive_2:=λz w Y=>FK U x b w z) B rfl (λI M=>⟨_,_,rfl,I,M⟩)
theorem bN.qx{w:V MN}(B:bN U x b [] w):w=[]:=B.inv
theorem bN.one{w:V MN}(B:bN U x b [m] w):∃E,w=[E]/\VR U x b m E:=by obtain⟨E,_,rfl,p,G⟩:=B.inv;exact ba E (Nb _ G.qx) p
theorem bN.two{M:Q}{w:V MN}(B:bN U x b [m,M] w):∃E c,w=[E,c]/\VR U x b m E/\VR U x b M c:=by obtain⟨E,_,rfl,p,G⟩:=B.inv;obtain⟨c,D,T⟩:=G.one;exact qu E c (Nb _ D) p T
theorem VR.lN{f:SP}{K:bI}(i:∀I z,x I z->f I z)(P:b.le K) :
  (∀I E,VR U x b I E->VR U f K I E)/\(∀l w,bN U x b l w->bN U f K l w)/\(∀g l y,FR U x b g l y->FR U f K g l y):=by
 refine⟨λI E B=>?_,λl w B=>?_,λg l y B=>?_⟩;all_goals
  first
  |refine VR.rec (motive_1:=λI E Y=>VR U f K I E) (motive_2:=λl w Y=>bN U f K l w) (motive_3:=λg l y Y=>FR U f K g l y) ?_ ?_ ?_ ?_ ?_ ?_ ?_ ?_ ?_ ?_ ?_ ?_ ?_ ?_ ?_ ?_ ?_ ?_ ?_ B
  |refine bN.rec (motive_1:=λI E Y=>VR U f K I E) (motive_2:=λl w Y=>bN U f K l w) (motive_3:=λg l y Y=>FR U f K g l y) ?_ ?_ ?_ ?_ ?_ ?_ ?_ ?_ ?_ ?_ ?_ ?_ ?_ ?_ ?_ ?_ ?_ ?_ ?_ B
  |refine FR.rec (motive_1:=λI E Y=>VR U f K I E) (motive_2:=λl w Y=>bN U f K l w) (motive_3:=λg l y Y=>FR U f K g l y) ?_ ?_ ?_ ?_ ?_ ?_ ?_ ?_ ?_ ?_ ?_ ?_ ?_ ?_ ?_ ?_ ?_ ?_ ?_ B
  ·exact .none
  ·exact λM=>.bool M
  ·exact λc n=>.int c n
  ·exact λH n B=>.str H n B
  ·exact λM n a B=>.bx M n a B
  ·exact λH=>.fn H
  ·exact λC=>.cls C
  ·exact λH I B=>.aE H I (P.L _ _ B)
  ·exact λH I B=>.ab H I (P.D _ _ B)
  ·exact λH I B=>.eP H I (P.B _ _ B)
  ·exact λH I h B=>.aA H I h (P.I _ _ B)
  ·exact λw I j q B Y d=>.tup w I j q (i _ _ B) d
  ·exact λw I j q B Y d=>.lst w I j q (i _ _ B) d
  ·exact λC w I h y q p G Y d=>.obj C w I h y q (i _ _ p) (i _ _ G) d
  ·exact λn I h z y q p G T X k Y d=>.exc n I h z y q (i _ _ p) G T X (i _ _ k) d
  ·exact .nil
  ·exact λY Y p G=>.cons p G
  ·exact .nil
  ·exact λY Y p G=>.cons p G
theorem VR.mono{f:SP}{K:bI}(i:∀m z,x m z->f m z)(P:b.le K)(B:VR U x b m aa):VR U f K m aa:=(VR.lN i P).1 m aa B
theorem bN.mono{f:SP}{K:bI}(i:∀I z,x I z->f I z)(P:b.le K){I:V Q}{E:V MN}(B:bN U x b I E):bN U f K I E:=(VR.lN i P).2.1 I E B
theorem FR.mono{f:SP}{K:bI}(i:∀I z,x I z->f I z)(P:b.le K){H:V Z}{I:V Q}{E:V Nr}(B:FR U x b H I E):FR U f K H I E:=(VR.lN i P).2.2 H I E B
theorem bN.len:∀{w:V MN},bN U x b z w->z.length=w.length:=by
 induction z with
 |nil=>intro w B;cases B;rfl
 |cons I z d=>intro w B;cases B with|cons _ G=>simp[d G]
theorem bN.get:∀{w:V MN} {i:Z} {a:Q},bN U x b z w->z[i]? = S a->∃E,w[i]? = S E/\VR U x b a E:=by
 induction z with
 |nil=>intro w i a B D;exact nX D
 |cons r z d=>
  intro w i a B D
  cases B with
  |cons p G=>
   induction i using RX with
   |zero=>obtain rfl:=sX D;exact ba _ rfl p
   |succ i=>obtain⟨E,j,m⟩:=d G D;exact ba E j m
theorem bN.append{f:V Q}{w c:V MN}(B:bN U x b z w)(m:bN U x b f c):bN U x b (z++f) (w++c):=by
 induction z generalizing w with
 |nil=>cases B;exact m
 |cons I z d=>cases B with|cons p G=>exact .cons p (d G)
theorem bN.take:∀{w:V MN} (q:Z),bN U x b z w->bN U x b (z.take q) (w.take q):=by
 induction z with
 |nil=>intro w q B;cases B;simp;exact .nil
 |cons I z d=>
  intro w q B
  cases B with
  |cons p G=>
   induction q using RX with
   |zero=>simp;exact .nil
   |succ q=>exact bN.cons p (d q G)
theorem bN.drop:∀{w:V MN} (q:Z),bN U x b z w->bN U x b (z.drop q) (w.drop q):=by
 induction z with
 |nil=>intro w q B;cases B;simp;exact .nil
 |cons I z d=>
  intro w q B
  cases B with
  |cons p G=>
   induction q using RX with
   |zero=>exact bN.cons p G
   |succ q=>exact d q G
theorem bN.set:∀{w:V MN} (K:Z) {I:Q} {E:MN},bN U x b z w->VR U x b I E->bN U x b (z.set K I) (w.set K E):=by
 induction z with
 |nil=>intro w K I E B _;cases B;simp;exact .nil
 |cons r z d=>
  intro w K I E B P
  cases B with
  |cons p G=>
   induction K using RX with
   |zero=>exact bN.cons P G
   |succ K=>exact bN.cons p (d K G P)
theorem FR.len:∀{l:V Q} {y:V Nr},FR U x b ae l y->l.length=ae.length/\y.length=ae.length:=by
 induction ae with
 |nil=>intro l y B;cases B;exact⟨rfl,rfl⟩
 |cons H ae d=>intro l y B;cases B with|cons _ G=>simp[(d G).1,(d G).2]
theorem FR.get:∀{l:V Q} {y:V Nr} {i H:Z} {a:Q},FR U x b ae l y->ae[i]? = S H->l[i]? = S a->
  ∃E n,y[i]? = S ⟨Sr U (sx H),.str (sx H) n,E⟩/\VR U x b a E:=by
 induction ae with
 |nil=>intro l y i H a B D;exact nX D
 |cons r ae d=>
  intro l y i H a B D j
  cases B with
  |cons p G=>
   induction i using RX with
   |zero=>obtain rfl:=sX D;obtain rfl:=sX j;exact dI _ _ (by simp;rfl) p
   |succ i=>obtain⟨E,n,e,m⟩:=d G D j;exact dI E n e m
theorem FR.set:∀{l:V Q} {y:V Nr} {K:Z} {I:Q} {E:MN},FR U x b ae l y->VR U x b I E->
  FR U x b ae (l.set K I) (y.modify K λD=>{D with val:=E}):=by
 induction ae with
 |nil=>intro l y K I E B _;cases B;simp;exact .nil
 |cons r ae d=>
  intro l y K I E B P
  cases B with
  |cons p G=>
   induction K using RX with
   |zero=>exact FR.cons P G
   |succ K=>exact FR.cons p (d G P)
theorem FR.snoc:∀{l:V Q} {y:V Nr} {H:Z} {I:Q} {E:MN} {n:NL},FR U x b ae l y->VR U x b I E->
  FR U x b (ae++[H]) (l++[I]) (y++[⟨Sr U (sx H),.str (sx H) n,E⟩]):=by
 induction ae with
 |nil=>intro l y H I E n B P;cases B;exact .cons P .nil
 |cons r ae d=>
  intro l y H I E n B P
  cases B with
  |cons p G=>exact .cons p (d G P)
theorem fB{f n M:Prop}(E:f)(p:n)(G:M):f/\n/\M:=⟨E,p,G⟩
theorem qy{f n M t:Prop}(E:f)(p:n)(G:M)(T:t):f/\n/\M/\t:=⟨E,p,G,T⟩
theorem Iz{f n M t I:Prop}(E:f)(p:n)(G:M)(T:t)(X:I):f/\n/\M/\t/\I:=⟨E,p,G,T,X⟩
theorem K0{d:Sort _}{e:Sort _}{a:Sort _}{b:Sort _}{f n M t I x C:ao->d->e->a->b->Prop}(B:∃(r:ao) (s:d) (U:e) (c:a) (E:b),f r s U c E/\n r s U c E/\M r s U c E/\t r s U c E/\I r s U c E/\x r s U c E/\C r s U c E)(H:∀(r:ao) (s:d) (U:e) (c:a) (E:b),f r s U c E->n r s U c E->M r s U c E->t r s U c E->I r s U c E->x r s U c E->C r s U c E->Y):Y:=B.elim λr B=>B.elim λs B=>B.elim λU B=>B.elim λc B=>B.elim λE B=>H r s U c E B.1 B.2.1 B.2.2.1 B.2.2.2.1 B.2.2.2.2.1 B.2.2.2.2.2.1 B.2.2.2.2.2.2
theorem Ht{I M:G}(B:Res.ok I=.ok M):I=M:=by cases B;rfl
theorem m6{I C:G}{M h:az}(B:Res.ok (I,M)=.ok (C,h)):I=C/\M=h:=by cases B;exact⟨rfl,rfl⟩
theorem sP{I C:G}{M h:az}(B:S (I,M)=S (C,h)):I=C/\M=h:=by cases B;exact⟨rfl,rfl⟩
@[elab_as_elim]theorem sQ{α β:Type}{a b:α}{x y:β}{P:α->β->Prop}(h:S (a,x)=S (b,y))(k:P a x):P b y:=by cases h;exact k
@[elab_as_elim]theorem CT{α:Type}{a b:α}{P:α->Prop}(h:Res.ok a=.ok b)(k:P a):P b:=by cases h;exact k
@[elab_as_elim]theorem sJ{α:Type}{a b:α}{P:α->Prop}(h:S a=S b)(k:P a):P b:=by cases h;exact k
theorem iU{i d:Type u}{r:O i}{A:i->O d}{M:d}(D:r.bind A=S M)(H:∀I,r=S I->A I=S M->Y):Y:=(SN.mp D).elim λI B=>H I B.1 B.2
theorem wg{i d:Type u}{r:O i}{A:i->d}{M:d}(D:r.map A=S M)(H:∀I,r=S I->A I=M->Y):Y:=(Sa.mp D).elim λI B=>H I B.1 B.2
section
noncomputable def Sf(B:MU)(y:bI)(g:V MR):SP:=λI z=>B.get? I=S z/\I∉y.M/\I∉g
set_option genCtorIdx true in
inductive iw|str(x:MT)|bx(b:M0 Nn)
 deriving O6
theorem iw.str.inj{I M:MT}(B:iw.str I=.str M):I=M:=by cases B;rfl
theorem iw.bx.inj{I M:M0 Nn}(B:iw.bx I=.bx M):I=M:=by cases B;rfl
noncomputable def dT:Q->iw
 |.str H=>.str (sx H)
 |.bx T=>.bx (T.map V0).toArray
 |_=>.bx #[]
set_option genCtorIdx true in
inductive DK|str|int|tup
noncomputable def DK.ok:DK->Q->Prop
 |.str,I=>∃H,I=.str H
 |.int,I=>∃K,I=.int K
 |.tup,I=>∃w,I=.tup w/\w.all kC=MK
variable(w:Ni)
noncomputable def lu:iw->ML
 |.str r=>hashStr w r
 |.bx M=>Po (if M.isEmpty=MK then 0 else Po (w.params.strHash (M.map SK)))
noncomputable def gL:Q->ML
 |.str H=>hashStr w (sx H)
 |.int K=>hashInt K
 |.tup a=>Po (NK.Tuple.tupleHashOf (a.map λE=>lu w (dT E)))
 |_=>0
variable{w}
inductive DR(w:Ni)(S:SP)(r:bI)(dk:DK):V (Q×Q)->V Nr->Prop
 |nil:DR w S r dk [] []
 |cons {k v:Q} {kv vv:MN} {as:V (Q×Q)} {es:V Nr}:dk.ok k->VR w.params S r k kv->VR w.params S r v vv->DR w S r dk as es->DR w S r dk ((k,v) :: as) (⟨gL w k,kv,vv⟩ :: es)
theorem DR.mono{T f:SP}{y K:bI}{v:DK}(i:∀I z,T I z->f I z)(P:y.le K){l:V (Q×Q)}{a:V Nr}(B:DR w T y v l a):DR w f K v l a:=by
 induction B with
 |nil=>exact .nil
 |cons p G b _ d=>exact .cons p (G.mono i P) (b.mono i P) d
structure oV(w:Ni)(h:MU)(r:bI)(H:AH)(S:SP):Prop where
 gW:r.L.length=H.L.length
 jb:r.D.length=H.D.length
 jQ:r.B.length=H.B.length
 jc:r.I.length=H.I.length
 L:∀(k:Z) vs a,H.L[k]? = some vs->r.L[k]? = some a->∃items n,h.get? a=some (listOf items n)/\bN w.params S r vs items.toList
 D:∀(k:Z) as a,H.D[k]? = some as->r.D[k]? = some a->∃es n dk,h.get? a=some (bC es n)/\DR w S r dk as es.toList/\(as.map (·.1)).Nodup
 B:∀(k:Z) bs a,H.B[k]? = some bs->r.B[k]? = some a->∃b,h.get? a=some (eH b)/\b.toList.map (λu=>(u.toNat:ML))=bs
 I:∀(k:Z) p q,H.I[k]? = some p->r.I[k]? = some q->h.get? q.1=some (NC (CA p.1) q.2)/\∃es n,h.get? q.2=some (bC es n)/\FR w.params S r (bT p.1) p.2 es.toList
structure Inv(w:Ni)(g₀:MU)(own:V MR)(r:bI)(H:AH)(h:MU):Prop where
 keep:∀b o,g₀.get? b=S o->h.get? b=S o/\b∉r.M
 wK:r.M.Nodup
 off:∀a∈own,a∉r.M/\g₀.get? a=N
 ex:∀a∈own,∃o,h.get? a=S o
 dt:oV w h r H (Sf h r own)
theorem Inv.no{a:Ni}{d:MU}{g:V MR}{y:bI}{b:AH}{B:MU}(K:Inv a d g y b B){I:MR}(D:B.get? I=N):I∉g:=λx=>(K.ex I x).elim λz j=>nX (D.symm.trans j)
theorem Inv.FL{a:Ni}{d:MU}{g:V MR}{y:bI}{b:AH}{B m:MU}(K:Inv a d g y b B)(H:∀M z,B.get? M=S z->m.get? M=S z){I:MR}(x:I∈g):∃z,m.get? I=S z:=(K.ex I x).elim λz D=>⟨z,H I z D⟩
noncomputable def same(g:V MR)(M:MR)(z t:Nk):Prop:=t=z\/(2<=g.count M/\∃i,t={z with slots:=i})
theorem same.refl{g:V MR}{M:MR}(z:Nk):same g M z z:=.inl rfl
theorem same.trans{g:V MR}{L:MR}{I M C:Nk}(r:same g L I M)(s:same g L M C):same g L I C:=by
 rcases r with rfl|⟨x,i,rfl⟩;·exact s
 ·rcases s with rfl|⟨_,l,rfl⟩;·exact .inr ⟨x,i,rfl⟩
  ·exact .inr ⟨x,l,rfl⟩
theorem same.eq{g:V MR}{M:MR}{z t:Nk}(r:same g M z t)(B:M∉g):t=z:=r.elim id λs=>Ng s.1 (by refine R (RZ B) ?_;decide)
theorem same.once{g:V MR}{M:MR}{z t:Nk}(r:same g M z t)(B:g.count M<2):t=z:=r.elim id λs=>Ng s.1 (Uo.mpr B)
theorem same.cls{g:V MR}{M:MR}{z t:Nk}(r:same g M z t):t.cls=z.cls:=by rcases r with rfl|⟨_,_,rfl⟩<;>rfl
theorem same.data{g:V MR}{M:MR}{z t:Nk}(r:same g M z t):t.data=z.data:=by rcases r with rfl|⟨_,_,rfl⟩<;>rfl
structure dU(own fr:V MR)(r:bI)(h:MU)(r':bI)(h':MU):Prop where
 get:∀b o,h.get? b=S o->b∉r.M->b∉fr->b∉r'.M/\∃o',h'.get? b=S o'/\same own b o o'
theorem dU.refl(g E:V MR)(y:bI)(B:MU):dU g E y B y B:=⟨λY z D q Y=>⟨q,z,D,.refl z⟩⟩
theorem dU.el{P:Prop}{g E:V MR}{y K:bI}{B m:MU}(H:dU g E y B K m){M:MR}{z:Nk}(D:B.get? M=S z)(q:M∉y.M)(A:M∉E)(L:M∉K.M->∀t,m.get? M=S t->same g M z t->P):P:=bM (H.get M z D q A) λn1 U=>aM U λo1 X k=>L n1 o1 X k
theorem dU.trans{g E:V MR}{r s U:bI}{I M C:MU}(H:dU g E r I s M)(T:dU g E s M U C):dU g E r I U C:=
 ⟨λL z D q A=>by refine hF λa=>H.el D q A λn1 o1 X k=>T.el X n1 A λn2 o2 m o=>a ?_;exact⟨n2,o2,m,k.trans o⟩⟩
theorem dU.less{g J E v:V MR}{r s:bI}{I M:MU}(H:dU g E r I s M)(t:∀C∈E,C∈v\/I.get? C=N)(n:∀C,2<=g.count C->2<=J.count C\/I.get? C=N):dU J v r I s M:=
 ⟨λL z D q A=>by refine hF λm=>?_;refine H.el D q (λx=>(t L x).elim A λU=>(by replace U:=D.symm.trans U;cases U)) λn1 o1 X k=>?_;refine m ?_;refine⟨n1,o1,X,k.imp id λs=>⟨(n L s.1).elim id λU=>(by replace U:=D.symm.trans U;cases U),s.2⟩⟩⟩
section
variable{g₀ h h':MU}{own:V MR}{r r':bI}{H H':AH}
theorem kG{y:bI}{H:Z}{I:MR}(B:y.L[H]? = S I):I∈y.M:=RK _ (RK _ (RK _ (RK _ (RI B))))
theorem fS{y:bI}{H:Z}{I:MR}(B:y.D[H]? = S I):I∈y.M:=RK _ (RK _ (RK _ (RO _ (RI B))))
theorem nQ{y:bI}{H:Z}{I:MR}(B:y.B[H]? = S I):I∈y.M:=RK _ (RK _ (RO _ (RI B)))
theorem oW{y:bI}{H:Z}{L:MR×MR}(B:y.I[H]? = S L):L.1∈y.M:=RK _ (RO _ (R2 (f:=λL:MR×MR=>L.1) (RI B)))
theorem jR{y:bI}{H:Z}{L:MR×MR}(B:y.I[H]? = S L):L.2∈y.M:=RO _ (R2 (f:=λL:MR×MR=>L.2) (RI B))
theorem Sf.keep{fr:V MR}(H:dU own fr r h r' h')(J:∀I∈fr,I∈own\/h.get? I=N){I:MR}{z:Nk}(t:Sf h r own I z):Sf h' r' own I z:=by refine fM t λp G T=>?_;clear t;refine H.el p G (λx=>(J I x).elim T λU=>by replace U:=p.symm.trans U;cases U) λq a D sm=>?_;clear p G H J;obtain rfl:=sm.eq T;exact fB D q T
end
end
theorem tH(a:b.M.Nodup):(b.L.Nodup/\b.D.Nodup/\b.B.Nodup/\(b.I.map (·.1)).Nodup/\(b.I.map (·.2)).Nodup)/\
  (∀I∈b.L,I∉b.D/\I∉b.B/\I∉b.I.map (·.1)/\I∉b.I.map (·.2))/\(∀I∈b.D,I∉b.B/\I∉b.I.map (·.1)/\I∉b.I.map (·.2))/\
  (∀I∈b.B,I∉b.I.map (·.1)/\I∉b.I.map (·.2))/\(∀I∈b.I.map (·.1),I∉b.I.map (·.2)):=by refine hF λA=>?_;refine fM (Sl.mp a) λbG n8 n9=>?_;refine fM (Sl.mp bG) λIA n6 n7=>?_;refine fM (Sl.mp IA) λCU n4 n5=>?_;refine fM (Sl.mp CU) λn1 n2 n3=>?_;refine A ?_;have t:∀{I},I∈b.L->I∈b.L++b.D:=RK _;have v:∀{I},I∈b.D->I∈b.L++b.D:=RO _;have m:∀{I},I∈b.L++b.D->I∈b.L++b.D++b.B:=RK _;have K:∀{I},I∈b.L++b.D++b.B->I∈b.L++b.D++b.B++b.I.map (·.1):=RK _;exact⟨(Iz n1 n2 n4 n6 n8),λI c=>⟨λx=>n3 I c I x rfl,λx=>n5 I (t c) I x rfl,λx=>n7 I (m (t c)) I x rfl,λx=>n9 I (K (m (t c))) I x rfl⟩,λI c=>⟨λx=>n5 I (v c) I x rfl,λx=>n7 I (m (v c)) I x rfl,λx=>n9 I (K (m (v c))) I x rfl⟩,λI c=>⟨λx=>n7 I (RO _ c) I x rfl,λx=>n9 I (K (RO _ c)) I x rfl⟩,λI c x=>n9 I (RO _ c) I x rfl⟩
structure Apart(r:bI)(a:MR)(kL kD kB kI:O Z):Prop where
 L:∀(j:Z) b,r.L[j]? = S b->S j≠kL->b≠a
 D:∀(j:Z) b,r.D[j]? = S b->S j≠kD->b≠a
 B:∀(j:Z) b,r.B[j]? = S b->S j≠kB->b≠a
 I1:∀(j:Z) q,r.I[j]? = S q->q.1≠a
 I2:∀(j:Z) q,r.I[j]? = S q->S j≠kI->q.2≠a
theorem Hu{L:MR×MR}(D:b.I[K]? = S L):L.1∈b.I.map (·.1):=R2 (RI D)
theorem Hv{L:MR×MR}(D:b.I[K]? = S L):L.2∈b.I.map (·.2):=R2 (RI D)
theorem tJ{l:V MR}(q:l.Nodup){i j:Z}{M:MR}(D:l[i]? = S n)(a:l[j]? = S M)(B:S j≠S i):M≠n:=by rintro rfl;refine dD (RF.mp D) λd z=>?_;exact B (Nb S ((U4 d q).mp (D.trans a.symm)).symm)
theorem Apart.K1(c:b.M.Nodup)(D:b.L[H]? = S n):Apart b n (S H) N N N:=by refine hF λl=>?_;refine wc (tH c) λcm t v m K=>?_;refine wc cm λn1 n2 n3 n4 n5=>?_;refine qo (t n (RI D)) λX e G a=>?_;refine l ?_;exact⟨λi M j B=>tJ n1 D j B,λi M j Y q=>X (q▸RI j),λi M j Y q=>e (q▸RI j),λi q j U=>G (U▸Hu j),λi q j Y U=>a (U▸Hv j)⟩
theorem Apart.K2(d:b.M.Nodup)(D:b.D[H]? = S n):Apart b n N (S H) N N:=by refine hF λE=>?_;refine wc (tH d) λdu t v m K=>?_;refine wc du λn1 n2 n3 n4 n5=>?_;have c:=RI D;refine fM (v n c) λe G a=>?_;refine E ?_;exact⟨λi M j Y q=>(t M (RI j)).1 (q▸c),λi M j B=>tJ n2 D j B,λi M j Y q=>e (q▸RI j),λi q j U=>G (U▸Hu j),λi q j Y U=>a (U▸Hv j)⟩
theorem Apart.K3(d:b.M.Nodup)(D:b.B[H]? = S n):Apart b n N N (S H) N:=by refine hF λp=>?_;refine wc (tH d) λdV t v m K=>?_;refine hF λP=>?_;refine wc dV λn1 n2 n3 n4 n5=>?_;have c:=RI D;refine bM (m n c) λG a=>?_;refine P ?_;refine p ?_;exact⟨λi M j Y q=>(t M (RI j)).2.1 (q▸c),λi M j Y q=>(v M (RI j)).1 (q▸c),λi M j B=>tJ n3 D j B,λi q j U=>G (U▸Hu j),λi q j Y U=>a (U▸Hv j)⟩
theorem Apart.K4(e:b.M.Nodup){q:MR×MR}(D:b.I[H]? = S q):Apart b q.2 N N N (S H):=by refine hF λn=>?_;refine wc (tH e) λfC t v m K=>?_;refine wc fC λn1 n2 n3 n4 n5=>?_;have c:=Hv D;refine n ?_;refine⟨λa M j Y U=>(t M (RI j)).2.2.2 (U▸c),λa M j Y U=>(v M (RI j)).2.2 (U▸c),λa M j Y U=>(m M (RI j)).2 (U▸c),λa w j U=>K _ (Hu j) (U▸c),λa w j d=>?_⟩;exact tJ (l:=b.I.map (·.2)) n5 (i:=H) (j:=a) (by refine RJ.trans ?_;refine R D ?_;rfl) (by refine RJ.trans ?_;refine R j ?_;rfl) d
theorem Apart.none(q:n∉b.M):Apart b n N N N N:=⟨λY Y D Y L=>q (L▸kG D),λY Y D Y L=>q (L▸fS D),λY Y D Y L=>q (L▸nQ D),λY Y D L=>q (L▸oW D),λY Y D Y L=>q (L▸jR D)⟩
theorem Sf.but{a M:MR}(P:∀M ah,M≠a->p.get? M=S ah->X.get? M=S ah)(c:a∈b.M\/a∈g\/p.get? a=N)(t:Sf p b g M ah):Sf X b g M ah:=by
 refine fM t λd G T=>?_;refine fB (P M ah (λL=>?_) d) G T;clear P t;subst L;rcases c with r|r|r;·exact G r
 ·exact T r
 ·replace r:=d.symm.trans r;cases r
theorem Inv.but{a1:Ni}{r:AH}{a:MR}{kL kD kB kI:O Z}(K:Inv a1 e g b k p)(hs:∀M z,M≠a->p.get? M=S z->X.get? M=S z)(ha:a∈b.M\/a∈g\/p.get? a=N)(P:Apart b a kL kD kB kI)
  (eL:r.L.length=k.L.length) (n:r.D.length=k.D.length) (eB:r.B.length=k.B.length) (eI:r.I.length=k.I.length)
  (oL:∀i,S i≠kL->r.L[i]? = k.L[i]?) (oD:∀i,S i≠kD->r.D[i]? = k.D[i]?) (oB:∀i,S i≠kB->r.B[i]? = k.B[i]?) (oI:∀i,S i≠kI->r.I[i]? = k.I[i]?)
  (cL:∀H,kL=S H->∀w,r.L[H]? = S w->b.L[H]? = S a->∃j q,X.get? a=S (listOf j q)/\bN a1.params (Sf p b g) b w j.toList)
  (cD:∀H,kD=S H->∀l,r.D[H]? = S l->b.D[H]? = S a->∃y q v,X.get? a=S (bC y q)/\DR a1 (Sf p b g) b v l y.toList/\(l.map (·.1)).Nodup)
  (cB:∀H,kB=S H->∀f,r.B[H]? = S f->b.B[H]? = S a->∃M,X.get? a=S (eH M)/\M.toList.map (λc=>(c.toNat:ML))=f)
  (cI:∀H,kI=S H->∀P L,r.I[H]? = S P->b.I[H]? = S L->L.2=a->(∀p',k.I[H]? = S p'->P.1=p'.1)/\∃y q,X.get? a=S (bC y q)/\FR a1.params (Sf p b g) b (bT P.1) P.2 y.toList)
  (pL:∀H,kL=S H->b.L[H]? = S a) (pD:∀H,kD=S H->b.D[H]? = S a) (pB:∀H,kB=S H->b.B[H]? = S a) (pI:∀H,kI=S H->∃L,b.I[H]? = S L/\L.2=a) (hx:a∈g->∃z,X.get? a=S z):Inv a1 e g b r X:=by
 have T:∀M z,Sf p b g M z->Sf X b g M z:=λM z t=>t.but hs ha;have C:=K.dt;refine⟨λM z D=>?_,K.wK,K.off,λM x=>?_,⟨C.gW.trans eL.symm,C.jb.trans n.symm,C.jQ.trans eB.symm,C.jc.trans eI.symm,λH w M I m=>?_,λH w M I m=>?_,λH w M I m=>?_,λH L h I m=>?_⟩⟩
 ·refine hF λa2=>?_;refine bM (K.keep M z D) λI q=>?_;refine a2 ?_;refine⟨hs M z (λL=>?_) I,q⟩;refine hF λa6=>?_;subst L;rcases ha with a0|a0|a0;·exact q a0
  ·have:=(K.off M a0).2;replace this:=D.symm.trans this;cases this
  ·replace a0:=I.symm.trans a0;cases a0
 ·by_cases L:M=a;·subst L;exact hx x
  ·refine dD (K.ex M x) λz D=>?_;exact⟨z,hs M z L D⟩
 ·by_cases L:S H=kL;·have U:=pL H L.symm;refine hF λa4=>?_;obtain rfl:M=a:=Sk (m.symm.trans U);refine cj (cL H L.symm w I m) λj q o E=>?_;refine a4 ?_;exact dI j q o (E.mono T (.refl b))
  ·replace I:=(oL H L).symm.trans I;refine cj (C.L H w M I m) λj q o E=>?_;exact dI j q (hs M _ (P.L H M m L) o) (E.mono T (.refl b))
 ·by_cases L:S H=kD;·have U:=pD H L.symm;refine hF λa3=>?_;obtain rfl:M=a:=Sk (m.symm.trans U);refine dF (cD H L.symm w I m) λj q v o E c=>?_;refine a3 ?_;exact kU j q v o (E.mono T (.refl b)) c
  ·replace I:=(oD H L).symm.trans I;refine dF (C.D H w M I m) λj q v o E c=>?_;exact kU j q v (hs M _ (P.D H M m L) o) (E.mono T (.refl b)) c
 ·by_cases L:S H=kB;·have U:=pB H L.symm;refine hF λB=>?_;obtain rfl:M=a:=Sk (m.symm.trans U);refine B ?_;exact cB H L.symm w I m
  ·replace I:=(oB H L).symm.trans I;refine aM (C.B H w M I m) λj o E=>?_;exact ba j (hs M _ (P.B H M m L) o) E
 ·by_cases U:S H=kI
  ·refine aM (pI H U.symm) λd' s Y=>?_;refine hF λa5=>?_;obtain rfl:h=d':=Sk (m.symm.trans s);obtain⟨hc,y,q,o,E⟩:=cI H U.symm L h I m Y;have J:H<k.I.length:=by refine R eI.symm ?_;exact(RF.mp I).1
   have e5:=RA J;refine bM (C.I H _ h e5 m) λd ε=>?_;refine a5 ?_;refine R (hc _ e5) ?_;rw[hc _ e5] at E;exact⟨hs _ _ (P.I1 H h m) d,y,q,Y▸o,E.mono T (.refl b)⟩
  ·rw[oI H U] at I;refine hF λG=>?_;obtain⟨d,y,q,A,E⟩:=C.I H L h I m;refine G ?_;exact⟨hs _ _ (P.I1 H h m) d,y,q,hs _ _ (P.I2 H h m U) A,E.mono T (.refl b)⟩
theorem dU.but{a:MR}(P:∀M z,M≠a->p.get? M=S z->X.get? M=S z)(c:a∈b.M\/a∈aq\/p.get? a=N):dU g aq b p b X:=
 ⟨λM z D q A=>⟨q,z,P M z (λL=>by
  clear P;subst L;rcases c with r|r|r;·exact q r
  ·exact A r
  ·replace r:=D.symm.trans r;cases r) D,.refl z⟩⟩
theorem Inv.loose{d:Ni}{a:MR}(K:Inv d e g b k p)(P:∀M z,M≠a->p.get? M=S z->X.get? M=S z)(c:a∈g\/p.get? a=N)(n:a∉b.M)(x:a∈g->∃z,X.get? a=S z):Inv d e g b k X:=K.but (kL:=N) (kD:=N) (kB:=N) (kI:=N) P (.inr c) (.none n) rfl rfl rfl rfl (λY Y=>rfl) (λY Y=>rfl) (λY Y=>rfl) (λY Y=>rfl) (λY D=>nomatch D) (λY D=>nomatch D) (λY D=>nomatch D) (λY D=>nomatch D) (λY D=>nomatch D) (λY D=>nomatch D) (λY D=>nomatch D) (λY D=>nomatch D) x
theorem Inv.there(K:Inv a e g b k p):∀I∈b.M,∃z,p.get? I=S z:=by
 intro I c;refine hF λj=>?_;have C:=K.dt;simp only[bI.M,RL,Si] at c;rcases c with(((r|r)|r)|⟨L,r,rfl⟩)|⟨L,r,rfl⟩
 ·refine dD (SI.mp r) λH D=>?_;have J:H<k.L.length:=by refine R C.gW.symm ?_;exact(RF.mp D).1
  refine cj (C.L H _ I (RA J) D) λY Y o Y=>?_;refine j ?_;exact⟨_,o⟩
 ·refine dD (SI.mp r) λH D=>?_;have J:H<k.D.length:=by refine R C.jb.symm ?_;exact(RF.mp D).1
  refine we (C.D H _ I (RA J) D) λY Y Y o Y=>?_;refine j ?_;exact⟨_,o⟩
 ·refine dD (SI.mp r) λH D=>?_;have J:H<k.B.length:=by refine R C.jQ.symm ?_;exact(RF.mp D).1
  refine aM (C.B H _ I (RA J) D) λY o Y=>?_;refine j ?_;exact⟨_,o⟩
 ·refine dD (SI.mp r) λH D=>?_;have J:H<k.I.length:=by refine R C.jc.symm ?_;exact(RF.mp D).1
  refine j ?_;exact⟨_,(C.I H _ L (RA J) D).1⟩
 ·refine hF λh=>?_;refine dD (SI.mp r) λH D=>?_;have J:H<k.I.length:=by refine R C.jc.symm ?_;exact(RF.mp D).1
  obtain⟨_,_,_,o,_⟩:=C.I H _ L (RA J) D;refine h ?_;refine j ?_;exact⟨_,o⟩
theorem bS(B:MU):B.get? B.objs.size=N:=by
 induction D:B.get? B.objs.size using Rx with
 |none=>rfl
 |some z=>exact Ng (SD D) (RU _)
theorem Inv.fresh(K:Inv a e g b k p)(D:p.get? n=N):n∉b.M:=λx=>by refine dD (K.there n x) λz L=>?_;exact nX (D.symm.trans L)
theorem Inv.grow(K:Inv a e g b k p)(P:∀M z,p.get? M=S z->X.get? M=S z):Inv a e g b k X:=K.loose (a:=p.objs.size) (λM z Y D=>P M z D) (.inr (bS p)) (K.fresh (bS p)) λx=>Ng x (K.no (bS p))
theorem dU.grow(P:∀M z,p.get? M=S z->X.get? M=S z):dU g aq b p b X:=⟨λM z D q Y=>⟨q,z,P M z D,.refl z⟩⟩
theorem Inv.push(K:Inv a e g b k p)(z:Nk):Inv a e g b k (p.push z):=K.grow (λY Y D=>Rz z D)
theorem dU.push(z:Nk):dU g aq b p b (p.push z):=.grow (λY Y D=>Rz z D)
theorem Inv.g0(K:Inv a e g b k p)(D:p.get? n=N):e.get? n=N:=by
 induction L:e.get? n using Rx with
 |none=>rfl
 |some z=>have:=(K.keep n z L).1;exact nX (D.symm.trans this)
theorem Sf.cY{own':V MR}(t:Sf p b g n ah)(H:∀M∈own',M∈g\/p.get? M=N):Sf p b own' n ah:=(fB t.1 t.2.1 (λx=>(H n x).elim t.2.2 λU=>(by replace U:=t.1▸U;cases U)))
theorem oV.mono{f:SP}(C:oV a p b k x)(H:∀I z,x I z->f I z):oV a p b k f:=⟨C.gW,C.jb,C.jQ,C.jc,λr w I X m=>cj (C.L r w I X m) λK q o E=>(dI K q o (E.mono H (.refl b))),λr w I X m=>dF (C.D r w I X m) λK q h o E c=>(kU K q h o (E.mono H (.refl b)) c),C.B,λr P L X m=>bM (C.I r P L X m) λo U=>⟨o,cj U λK q G E=>dI K q G (E.mono H (.refl b))⟩⟩
theorem Sf.grow(P:∀M ah,p.get? M=S ah->X.get? M=S ah)(t:Sf p b g n ah):Sf X b g n ah:=⟨P _ _ t.1,t.2⟩
theorem oV.grow(C:oV a p b k (Sf p b g))(P:∀M z,p.get? M=S z->X.get? M=S z):oV a X b k (Sf X b g):=⟨C.gW,C.jb,C.jQ,C.jc,λr w I d m=>cj (C.L r w I d m) λK q o E=>(dI K q (P _ _ o) (E.mono (λY Y t=>t.grow P) (.refl b))),λr w I d m=>dF (C.D r w I d m) λK q h o E c=>(kU K q h (P _ _ o) (E.mono (λY Y t=>t.grow P) (.refl b)) c),λr w I d m=>aM (C.B r w I d m) λM o E=>(ba M (P _ _ o) E),λr e L d m=>bM (C.I r e L d m) λo U=>⟨P _ _ o,cj U λK q G E=>dI K q (P _ _ G) (E.mono (λY Y t=>t.grow P) (.refl b))⟩⟩
theorem Inv.cY{own':V MR}(K:Inv a e g b k p)(H:∀M∈own',M∈g\/p.get? M=N)(P:∀M z,p.get? M=S z->X.get? M=S z)(c:∀M∈own',∃z,X.get? M=S z):Inv a e own' b k X:=
 have i:=K.grow P
 ⟨i.keep,i.wK,λI x=>(H I x).elim (K.off I) λU=>⟨K.fresh U,K.g0 U⟩,c,(K.dt.mono λY Y t=>t.cY H).grow P⟩
theorem Inv.drop(K:Inv a e g b k p)(H:∀M∈ax,M∈g):Inv a e ax b k p:=⟨K.keep,K.wK,λI x=>K.off I (H I x),λI x=>K.ex I (H I x),K.dt.mono λY Y t=>t.cY λM x=>.inl (H M x)⟩
theorem Inv.CV{c:M0 MN}(K:Inv a e g b k p)(D:b.L[H]? = S n)(P:Sw n p X)(o:X.get? n=S (listOf c q))(E:bN a.params (Sf p b g) b au c.toList) :
  Inv a e g b {k with L:=k.L.set H au} X:=
 K.but (kL:=S H) (kD:=N) (kB:=N) (kI:=N) (λM z L U=>(P.2 M L).trans U) (.inl (kG D)) (.K1 K.wK D) (by simp) rfl rfl rfl (λi L=>by show(k.L.set H au)[i]? = _;exact(R6 λU=>L (Nb S U.symm))) (λY Y=>rfl) (λY Y=>rfl) (λY Y=>rfl) (λr L d j Y=>by obtain rfl:=sX L;replace j:(k.L.set H au)[H]? = S d:=j;rw[Ur] at j;simp at j;obtain⟨_,rfl⟩:=j;exact dI c q o E) (λY D=>nomatch D) (λY D=>nomatch D) (λY D=>nomatch D) (λY L=>by obtain rfl:=sX L;exact D) (λY D=>nomatch D) (λY D=>nomatch D) (λY D=>nomatch D) (λY=>⟨_,o⟩)
variable{ay:DK}
theorem Inv.FN(K:Inv a e g b k p)(D:b.D[H]? = S n)(P:Sw n p X)(o:X.get? n=S (bC C q))(E:DR a (Sf p b g) b ay y C.toList)(c:(y.map (·.1)).Nodup) :
  Inv a e g b {k with D:=k.D.set H y} X:=
 K.but (kL:=N) (kD:=S H) (kB:=N) (kI:=N) (λM z L U=>(P.2 M L).trans U) (.inl (fS D)) (.K2 K.wK D) rfl (by simp) rfl rfl (λY Y=>rfl) (λi L=>by show(k.D.set H y)[i]? = _;exact(R6 λU=>L (Nb S U.symm))) (λY Y=>rfl) (λY Y=>rfl) (λY D=>nomatch D) (λr L d j Y=>by obtain rfl:=sX L;replace j:(k.D.set H y)[H]? = S d:=j;rw[Ur] at j;simp at j;obtain⟨_,rfl⟩:=j;exact kU C q ay o E c) (λY D=>nomatch D) (λY D=>nomatch D) (λY D=>nomatch D) (λY L=>by obtain rfl:=sX L;exact D) (λY D=>nomatch D) (λY D=>nomatch D) (λY=>⟨_,o⟩)
theorem Inv.setB{f:V ML}{M:M0 Nn}(K:Inv a e g b k p)(D:b.B[H]? = S n)(P:Sw n p X)(o:X.get? n=S (eH M))(E:M.toList.map (λc=>(c.toNat:ML))=f) :
  Inv a e g b {k with B:=k.B.set H f} X:=
 K.but (kL:=N) (kD:=N) (kB:=S H) (kI:=N) (λM z L U=>(P.2 M L).trans U) (.inl (nQ D)) (.K3 K.wK D) rfl rfl (by simp) rfl (λY Y=>rfl) (λY Y=>rfl) (λi L=>by show(k.B.set H f)[i]? = _;exact(R6 λU=>L (Nb S U.symm))) (λY Y=>rfl) (λY D=>nomatch D) (λY D=>nomatch D) (λr L d j Y=>by obtain rfl:=sX L;replace j:(k.B.set H f)[H]? = S d:=j;rw[Ur] at j;simp at j;obtain⟨_,rfl⟩:=j;exact ba M o E) (λY D=>nomatch D) (λY D=>nomatch D) (λY D=>nomatch D) (λY L=>by obtain rfl:=sX L;exact D) (λY D=>nomatch D) (λY=>⟨_,o⟩)
theorem Inv.IB{L:MR×MR}{f:dG}{n:V Q}(K:Inv a e g b k p)(D:b.I[H]? = S L)(c:k.I[H]? = S (f,n))(P:Sw L.2 p X)(o:X.get? L.2=S (bC C q))(E:FR a.params (Sf p b g) b (bT f) au C.toList) :
  Inv a e g b {k with I:=k.I.set H (f,au)} X:=
 K.but (kL:=N) (kD:=N) (kB:=N) (kI:=S H) (λM z L U=>(P.2 M L).trans U) (.inl (jR D)) (.K4 K.wK D) rfl rfl rfl (by simp) (λY Y=>rfl) (λY Y=>rfl) (λY Y=>rfl) (λi U=>by show(k.I.set H (f,au))[i]? = _;exact(R6 λh=>U (Nb S h.symm))) (λY D=>nomatch D) (λY D=>nomatch D) (λY D=>nomatch D) (λr U j w d m s=>by clear w m s K P;obtain rfl:=sX U;replace d:(k.I.set H (f,au))[H]? = S j:=d;rw[Ur] at d;simp at d;obtain⟨_,rfl⟩:=d;exact⟨λl U=>by replace U:=c.symm.trans U;obtain rfl:=sX U;rfl,C,q,o,E⟩) (λY D=>nomatch D) (λY D=>nomatch D) (λY D=>nomatch D) (λY U=>by obtain rfl:=sX U;exact ba L D rfl) (λY=>⟨_,o⟩)
set_option tactic.hygienic true in
theorem cU{T:V G}{r s:G}(D:(T++[r])[H]? = S s):T[H]? = S s\/(H=T.length/\s=r):=by
 replace D:=UB▸D;split at D;·exact .inl D
 ·rename_i L;have J:H - T.length=0:=by
   rcases Z.lt_or_ge 0 (H - T.length) with U|U;·exact nX ((Sj (by exact U)).symm.trans D)
   ·exact Z.le_zero.mp U
  rw[J] at D;exact .inr ⟨Vf (Vu J) (Ti.mp L),(sX D).symm⟩
theorem jd{T:V G}{r s:G}(D:T[H]? = S s):(T++[r])[H]? = S s:=by refine UB.trans ?_;refine R (Na (RF.mp D).1) ?_;exact D
theorem fU{T:V G}{r:G}:(T++[r])[T.length]? = S r:=UR ..
structure More(r r':bI)(ns:V MR):Prop where
 perm:r'.M.Perm (ns++r.M)
 le:r.le r'
theorem More.mem{K:bI}{w:V MR}(x:More b K w):n∈K.M↔n∈w\/n∈b.M:=by refine x.perm.mem_iff.trans ?_;exact RL
theorem More.sf{K:bI}{w:V MR}(x:More b K w)(A:∀n∈w,p.get? n=N)(P:∀M ah,p.get? M=S ah->X.get? M=S ah)(t:Sf p b g n ah):Sf X K g n ah:=(fB (P _ _ t.1) (λU=>(x.mem.mp U).elim (λU=>by have:=t.1;exact nX ((A n U)▸this)) t.2.1) t.2.2)
theorem More.inv{d:bI}{r:AH}{w:V MR}(x:More b d w)(K:Inv a e g b k p)(A:∀I∈w,p.get? I=N)(n:w.Nodup)(P:∀M z,p.get? M=S z->X.get? M=S z)
  (C:oV a X d r (Sf X d g)):Inv a e g d r X:=
 ⟨λM z D=>⟨P _ _ (K.keep M z D).1,λU=>(x.mem.mp U).elim (λU=>by have:=(K.keep M z D).1;exact nX ((A M U)▸this)) (K.keep M z D).2⟩,x.perm.nodup_iff.mpr (Sl.mpr (fB n K.wK (λI c M f L=>by subst L;exact K.fresh (A I c) f))),λI c=>⟨λU=>(x.mem.mp U).elim (λU=>by obtain⟨z,D⟩:=K.ex I c;exact nX ((A I U)▸D)) (K.off I c).1,(K.off I c).2⟩,λI c=>K.FL P c,C⟩
theorem More.keep{own:V MR}{K:bI}{fr w:V MR}(x:More b K w)(A:∀I∈w,p.get? I=N)(P:∀M z,p.get? M=S z->X.get? M=S z):dU own fr b p K X:=⟨λM z D q Y=>⟨λU=>(x.mem.mp U).elim (λU=>by exact nX ((A M U)▸D)) q,z,P _ _ D,.refl z⟩⟩
noncomputable def bI.m8(y:bI)(I:MR):bI:={y with L:=y.L++[I]}
noncomputable def bI.iy(y:bI)(I:MR):bI:={y with D:=y.D++[I]}
noncomputable def bI.wM(y:bI)(I:MR):bI:={y with B:=y.B++[I]}
noncomputable def bI.uQ(y:bI)(L:MR×MR):bI:={y with I:=y.I++[L]}
theorem pl{X k:V G}{I:G}:(X++(k++[I])).Perm (I :: (X++k)):=(Sm X k [I])▸V.perm_append_comm
theorem More.L(y:bI)(I:MR):More y (y.m8 I) [I]:=⟨(((pl (X:=[]).append_right _).append_right _).append_right _).append_right _,⟨λY Y D=>jd D,λY Y D=>D,λY Y D=>D,λY Y D=>D⟩⟩
theorem More.D(y:bI)(I:MR):More y (y.iy I) [I]:=⟨((pl.append_right _).append_right _).append_right _,⟨λY Y D=>D,λY Y D=>jd D,λY Y D=>D,λY Y D=>D⟩⟩
theorem More.B(y:bI)(I:MR):More y (y.wM I) [I]:=⟨(pl.append_right _).append_right _,⟨λY Y D=>D,λY Y D=>D,λY Y D=>jd D,λY Y D=>D⟩⟩
theorem More.I(y:bI)(L:MR×MR):More y (y.uQ L) [L.1,L.2]:=⟨by show(y.L++y.D++y.B++(y.I++[L]).map (·.1)++(y.I++[L]).map (·.2)).Perm _;refine R R7 ?_;refine R R7 ?_;exact((pl.append_right _).trans pl).trans (.swap ..),⟨λY Y D=>D,λY Y D=>D,λY Y D=>D,λY Y D=>jd D⟩⟩
theorem Inv.CW{j:M0 MN}(K:Inv a e g b k p)(A:p.get? n=N)(P:∀M z,p.get? M=S z->X.get? M=S z)
  (o:X.get? n=S (listOf j q)) (E:bN a.params (Sf p b g) b au j.toList):Inv a e g (b.m8 n) {k with L:=k.L++[au]} X:=by
 have x:=More.L b n;have r:∀M∈[n],p.get? M=N:=λM w=>by refine R (Rw.mp w) ?_;exact A
 have T:∀M z,Sf p b g M z->Sf X (b.m8 n) g M z:=λM z t=>x.sf r P t;have C:=K.dt;refine x.inv K r (M5 rfl) P ⟨by simp[bI.m8,C.gW],C.jb,C.jQ,C.jc,λH d M f m=>?_,λH au M f m=>?_,λH au M f m=>?_,λH L h f m=>?_⟩
 ·rcases cU f with I|⟨rfl,rfl⟩
  ·rcases cU m with B|⟨rfl,_⟩;·refine cj (C.L H d M I B) λj q o E=>?_;exact dI j q (P _ _ o) (E.mono T x.le)
   ·rw[C.gW,Sj (Sb _)] at I;cases I
  ·rcases cU m with B|⟨_,rfl⟩;·rw[<-C.gW,Sj (Sb _)] at B;cases B
   ·exact dI j q o (E.mono T x.le)
 ·refine dF (C.D H au M f m) λj q h o E c=>?_;exact kU j q h (P _ _ o) (E.mono T x.le) c
 ·refine aM (C.B H au M f m) λM o E=>?_;exact ba M (P _ _ o) E
 ·obtain⟨o,y,q,G,E⟩:=C.I H L h f m;exact⟨P _ _ o,y,q,P _ _ G,E.mono T x.le⟩
theorem Inv.IC{bs:V ML}{i:M0 Nn}(K:Inv a e g b k p)(A:p.get? n=N)(P:∀M z,p.get? M=S z->X.get? M=S z)
  (o:X.get? n=S (eH i)) (E:i.toList.map (λc=>(c.toNat:ML))=bs):Inv a e g (b.wM n) {k with B:=k.B++[bs]} X:=by
 have x:=More.B b n;have r:∀M∈[n],p.get? M=N:=λM l=>by refine R (Rw.mp l) ?_;exact A
 have T:∀M z,Sf p b g M z->Sf X (b.wM n) g M z:=λM z t=>x.sf r P t;have C:=K.dt;refine x.inv K r (M5 rfl) P ⟨C.gW,C.jb,by simp[bI.wM,C.jQ],C.jc,λH w M f m=>?_,λH w M f m=>?_,λH d M f m=>?_,λH L h f m=>?_⟩;·refine cj (C.L H w M f m) λj q o E=>?_;exact dI j q (P _ _ o) (E.mono T x.le)
 ·refine dF (C.D H w M f m) λj q h o E c=>?_;exact kU j q h (P _ _ o) (E.mono T x.le) c
 ·rcases cU f with I|⟨rfl,rfl⟩
  ·rcases cU m with B|⟨rfl,_⟩;·refine aM (C.B H d M I B) λM o E=>?_;exact ba M (P _ _ o) E
   ·rw[C.jQ,Sj (Sb _)] at I;cases I
  ·rcases cU m with B|⟨_,rfl⟩;·rw[<-C.jQ,Sj (Sb _)] at B;cases B
   ·exact ba i o E
 ·obtain⟨o,y,q,G,E⟩:=C.I H L h f m;exact⟨P _ _ o,y,q,P _ _ G,E.mono T x.le⟩
theorem Res.aP{I:G}{A:G->Res az}:(Res.ok I).bind A=A I:=rfl
noncomputable def Res.x?{i:Type}:Res i->O (Q×AH)
 |.exc n b=>S (n,b)
 |_=>N
section
variable(w:Ni)(g₀:MU)(own:V MR)
structure aQ(fr:V MR)(r:bI)(s:MV)(r':bI)(H':AH)(s':MV):Prop where
 eq:∃h' tk',s'={s with heap:=h',toks:=tk'}
 inv:Inv w g₀ own r' H' s'.heap
 keep:dU own fr r s.heap r' s'.heap
 le:r.le r'
inductive FO(l:V Nf)(hr:MU)(ea:MR)(r':bI)(t:Q)(h:MU):Prop
 |mk (B:MU) (a0:MN) (oe:Nk) (d:MR) (es:M0 Nr) (n:_) (fw:VJ B l ea (.ref (CA .bR)) a0 h)
  (fb:∀b o,hr.get? b=S o->B.get? b=S o\/(2<=own.count b/\(∃es n,o.data=.dict es n)/\∃sl,h.get? b=S {o with slots:=sl}))
  (y1:h.get? ea=S oe) (y2:oe.dict=S d) (y3:d≠ea) (y4:B.get? d=S (bC es n)) (y5:d∉r'.M) (y6:d∉own) (y7:FR w.params (Sf hr r' own) r' (bT .bR) [t] es.toList) (f0:hr.get? ea=N) (f1:ea∉r'.M) (f2:ea∉own) (f3:g₀.get? ea=N)
inductive i8(fr:V MR)(l:V Nf)(r:bI)(s:MV)(t:Q)(H':AH):MN->MV->Prop
 |mk (own':V MR) (r':bI) (hr:MU) (ea:MR) (h':MU) (tk':Z) (z1:∀a∈own,a∈own') (z2:∀c,2<=own'.count c->2<=own.count c\/s.heap.get? c=N) (z3:Inv w g₀ own' r' H' hr) (z4:dU own fr r s.heap r' hr) (z5:r.le r') (z6:s.heap.get? ea=N) (z7:FO w g₀ own' l hr ea r' t h'):i8 fr l r s t H' (.ref ea) {s with heap:=h',toks:=tk'}
abbrev Rel(i d:Type):=SP->bI->i->d->Prop
noncomputable def QQ{i d:Type}(h:Rel i d)(E:V MR)(a:Res (i×AH))(y:bI)(t:MV):d->MV->Prop:=λM v=>∃I r K,a=.ok (I,r)/\aQ w g₀ own E y t K r v/\h (Sf v.heap K own) K I M
noncomputable def EE(T:V Nf)(a:O (Q×AH))(y:bI)(t:MV):MN->MV->Prop:=λj v=>∃n r,a=S (n,r)/\i8 w g₀ own [] T y t n r j v
noncomputable def jN(a:NZ)(f:Nv)(T:V Nf){i d:Type}(h:Rel i d)(n:Nl d)(r:Res (i×AH))(y:bI)(t:MV):Prop:=r≠.bad->MY a f n (QQ w g₀ own h [] r y t) (EE w g₀ own T r.x? y t) t
end
theorem bI.le.mem{K:bI}(H:b.le K)(x:n∈b.M):n∈K.M:=by
 simp only[bI.M,RL,Si] at x;rcases x with(((r|r)|r)|⟨L,r,rfl⟩)|⟨L,r,rfl⟩<;>obtain⟨a,D⟩:=SI.mp r;·exact kG (H.L _ _ D)
 ·exact fS (H.D _ _ D)
 ·exact nQ (H.B _ _ D)
 ·exact oW (H.I _ _ D)
 ·exact jR (H.I _ _ D)
theorem aQ.refl(K:Inv a e g b k d.heap):aQ a e g aq b d b k d:=⟨⟨d.heap,d.toks,rfl⟩,K,.refl ..,.refl _⟩
theorem aQ.trans{x:bI}{I:AH}{o:MV}(r:aQ a e g aq b d ak bc ap)(s:aQ a e g aq ak ap x I o):aQ a e g aq b d x I o:=by refine mQ r.eq λB n bG=>?_;subst bG;refine mQ s.eq λm X cm=>?_;subst cm;exact⟨⟨m,X,rfl⟩,s.inv,r.keep.trans s.keep,r.le.trans s.le⟩
theorem aQ.less{v:V MR}(r:aQ a e g aq b d ak bc ap)(H:∀C∈aq,C∈v\/d.heap.get? C=N):aQ a e g v b d ak bc ap:=⟨r.eq,r.inv,r.keep.less H λY x=>.inl x,r.le⟩
theorem aQ.wide{fr:V MR}(r:aQ a e g [] b d ak bc ap):aQ a e g fr b d ak bc ap:=r.less λY x=>nomatch x
theorem aQ.sf(r:aQ a e g aq b d ak bc ap)(J:∀n∈aq,n∈g\/d.heap.get? n=N)(s:Sf d.heap b g n ah):Sf ap.heap ak g n ah:=s.keep r.keep J
theorem aQ.FP(r:aQ a e g [] b d ak bc ap)(s:Sf d.heap b g n ah):Sf ap.heap ak g n ah:=s.keep r.keep λY x=>nomatch x
theorem aQ.vr(r:aQ a e g [] b d ak bc ap)(s:VR a.params (Sf d.heap b g) b m aa):VR a.params (Sf ap.heap ak g) ak m aa:=s.mono (λY Y U=>r.FP U) r.le
theorem aQ.CX(r:aQ a e g [] b d ak bc ap){I:V Q}{E:V MN}(s:bN a.params (Sf d.heap b g) b I E):bN a.params (Sf ap.heap ak g) ak I E:=s.mono (λY Y U=>r.FP U) r.le
theorem aQ.at{i:Z}(r:aQ a e g aq b d ak bc {d with heap:=X,toks:=i}):Inv a e g ak bc X:=r.inv
theorem aQ.mk'{own:V MR}{fr:V MR}{s:MV}{tk':Z}(K:Inv a e own ak bc X)(H:dU own fr b s.heap ak X)(D:b.le ak):aQ a e own fr b s ak bc {s with heap:=X,toks:=tk'}:=⟨⟨_,_,rfl⟩,K,H,D⟩
theorem aQ.grown{s:MV}(K:Inv a e g b k s.heap){tk':Z}(H:∀M z,s.heap.get? M=S z->X.get? M=S z):aQ a e g aq b s b k {s with heap:=X,toks:=tk'}:=.mk' (K.grow H) (.grow H) (.refl b)
theorem aQ.tok(K:Inv a e g b k d.heap){tk':Z}:aQ a e g aq b d b k {d with toks:=tk'}:=.mk' K (.refl ..) (.refl b)
theorem FO.el{P:Prop}{c:MU}{t:MR}{d:Q}(r:FO a e g l c t b d p)(H:∀(n:MU) (w:MN) (k:Nk) (h:MR) (y:M0 Nr) (q:_),VJ n l t (.ref (CA .bR)) w p->
  (∀M z,c.get? M=S z->n.get? M=S z\/(2<=g.count M/\(∃y q,z.data=.dict y q)/\∃i,p.get? M=S {z with slots:=i}))->
  p.get? t=S k->k.dict=S h->h≠t->n.get? h=S (bC y q)->h∉b.M->h∉g->FR a.params (Sf c b g) b (bT .bR) [d] y.toList->c.get? t=N->t∉b.M->t∉g->e.get? t=N->P):P:=by induction r using FO.casesOn;exact H _ _ _ _ _ _ fw fb y1 y2 y3 y4 y5 y6 y7 f0 f1 f2 f3
@[elab_as_elim]theorem i8.el{a:Ni}{d:MU}{g:V MR}{E:V MR}{y:bI}{b:MV}{T:V Nf}{P:MN->MV->Prop}{t:Q}{H':AH}{e':MN}{s':MV}(x:i8 a d g E T y b t H' e' s')(k:∀J K e c m i,(∀I∈g,I∈J)->(∀C,2<=J.count C->2<=g.count C\/b.heap.get? C=N)->Inv a d J K H' e->dU g E y b.heap K e->y.le K->b.heap.get? c=N->FO a d J T e c K t m->P (.ref c) {b with heap:=m,toks:=i}):P e' s':=by induction x using i8.casesOn;exact k _ _ _ _ _ _ z1 z2 z3 z4 z5 z6 z7
theorem i8.map{c I:V MR}{M:bI}{h1:MU}{tk1:Z}{n:Q}{r:AH}{j:MN}{v:MV}(k:i8 a e c I l M {d with heap:=h1,toks:=tk1} n r j v)(o:∀C∈g,C∈c)(y:∀C,2<=c.count C->2<=g.count C\/d.heap.get? C=N)(q:∀C,h1.get? C=N->d.heap.get? C=N)(H:∀K h,dU c I M h1 K h->dU g aq b d.heap K h)(D:b.le M):i8 a e g aq l b d n r j v:=i8.el (P:=λj v=>i8 a e g aq l b d n r j v) k λJ K h t m i p w f s z Y X=>.mk J K h t m i (λC x=>p C (o C x)) (λC x=>(w C x).elim (y C) λU=>.inr (q C U)) f (H _ _ s) (D.trans z) (q t Y) X
theorem i8.pre{n:Q}{r:AH}{j:MN}{v:MV}(z:aQ a e g aq b d ak bc ap)(J:∀I∈aq,I∈g)(c:i8 a e g aq l ak ap n r j v):i8 a e g aq l b d n r j v:=by
 refine mQ z.eq λp B y=>?_;subst y;refine c.map (λY x=>x) (λY x=>.inl x) (λC U=>?_) (λY Y H=>z.keep.trans H) z.le;induction L:d.heap.get? C using Rx with
 |none=>rfl
 |some G=>
  by_cases x:C∈b.M;·exact dD (z.inv.there C (z.le.mem x)) λt j=>nX (U.symm.trans j)
  ·by_cases q:C∈aq;·exact dD (z.inv.ex C (J C q)) λt j=>nX (U.symm.trans j)
   ·exact z.keep.el L x q λY t j Y=>nX (U.symm.trans j)
theorem EE.no{j:MN}{v:MV}(L:EE a e g l N b d j v):Y:=cj L λn r U c=>nX U
theorem jN.dg{t:Type}{h:Rel G az}{n:Nl az}{s:Res (G×AH)}{A:G×AH->Res (t×AH)}{c:az->MV->Prop}(B:jN a e g T f l h n s ak ap)(z:aQ a e g [] b d ak bc ap)
  (H:∀I i x o M,s=.ok (I,i)->aQ a e g [] b d x i o->aQ a e g [] ak ap x i o->h (Sf o.heap x g) x I M->A (I,i)≠.bad->c M o) (w:s.bind A≠.bad) :
  MY T f n c (EE a e g l (s.bind A).x? b d) ap:=by
 refine Nj (B (λq=>w (by refine(bL q).trans ?_;rfl))) (λM v q=>?_) λj v q=>?_;·refine dF q λI i x dV o2 E=>?_;clear B;subst dV;exact H I i x v M rfl (z.trans o2) o2 E w
 ·refine cj q λn r D U=>hF λk=>?_
  clear q B H w
  induction s using Wn with
  |ok I=>exact nX D
  |bad=>exact nX D
  |exc X m=>obtain⟨rfl,rfl⟩:=sP D;exact k (dI _ _ rfl (U.pre z λY p=>nomatch p))
theorem QQ.pre{h:Rel G az}{r:Res (G×AH)}{M:az}{v:MV}(z:aQ a e g aq b d ak bc ap)(L:QQ a e g h aq r ak ap M v):QQ a e g h aq r b d M v:=dF L λI c K D t E=>kU I c K D (z.trans t) E
theorem EE.pre{r:O (Q×AH)}{j:MN}{v:MV}(z:aQ a e g [] b d ak bc ap)(L:EE a e g l r ak ap j v):EE a e g l r b d j v:=cj L λn c D U=>dI n c D (U.pre z λY x=>nomatch x)
theorem jN.lift{h:Rel G az}{n:Nl az}{r:Res (G×AH)}(c:jN a e g T f l h n r ak ap)(z:aQ a e g [] b d ak bc ap)(B:r≠.bad):MY T f n (QQ a e g h [] r b d) (EE a e g l r.x? b d) ap:=Nj (c B) (λY Y L=>L.pre z) λY Y L=>L.pre z
theorem QQ.ok{α:Type}{h:Rel α az}{I:α}{M:az}{r':bI}{r:AH}{v:MV}(z:aQ a e g aq b d r' r v)(E:h (Sf v.heap r' g) r' I M):QQ a e g h aq (.ok (I,r)) b d M v:=(kU I r r' rfl z E)
structure cM(l:V Nf)(own fr:V MR)(h:MU):Prop where
 all:∀e∈l,e.scope.kind≠.module/\∃L o es n,e.frame=S L/\2<=own.count L/\L∉fr/\h.get? L=S o/\o.data=.dict es n
theorem cM.el{P:Prop}{D:Nf}(r:cM l g aq p)(x:D∈l)(H:D.scope.kind≠.module->∀I z y q,D.frame=S I->2<=g.count I->I∉aq->p.get? I=S z->z.data=.dict y q->P):P:=by obtain⟨a,I,z,y,q,M,C,h,o,L⟩:=r.all D x;exact H a I z y q M C h o L
theorem cM.keep{own:V MR}{fr:V MR}(r:cM l own fr d.heap)(K:Inv a e own b k d.heap)(z:aQ a e own fr b d ak bc ap):cM l own fr ap.heap:=
 ⟨λD x=>by refine hF λm=>r.el x λH I f y q A t v o h=>z.keep.el o (K.off I (R'.mp (n4 t rfl))).1 v λY c G U=>?_;refine m ?_;exact⟨H,I,c,y,q,A,t,v,G,U.data.trans h⟩⟩
structure bk(own:V MR)(env:Nf)(sl:V (O MT)):Prop where
 kind:env.scope.kind=.function
 glob:env.globals=NN
 blt:env.builtins=Qu
 loc:env.locals∈own
 jO:∀x c,env.cells.lookup x=S c->c∈own/\c≠env.locals
 zY:∀a∈env.cells.map (·.2),a∈own
 inj:∀x y c,env.cells.lookup x=S c->env.cells.lookup y=S c->x=y
 Fd:∀(i j:Z) x,sl[i]? = S (S x)->sl[j]? = S (S x)->i=j
 has:∀(j:Z) x,sl[j]? = S (S x)->env.kindOf x=S .cell\/env.kindOf x=S .free->∃c,env.cells.lookup x=S c
structure uR(w:Ni)(own:V MR)(env:Nf)(sl:V (O MT))(loc:Loc)(r:bI)(h:MU):Prop where
 ns:∃m,h.Ns env.locals m/\∀(j:Z) x v,sl[j]? = S (S x)->loc[j]? = S (S v)->env.kindOf x=S .local->∃v',m x=S v'/\VR w.params (Sf h r own) r v v'
 jO:∀x c,env.cells.lookup x=S c->∃ov,h.IsCell c ov/\∀(j:Z) v,sl[j]? = S (S x)->loc[j]? = S (S v)->env.kindOf x=S .cell\/env.kindOf x=S .free->∃v',ov=S v'/\VR w.params (Sf h r own) r v v'
 len:loc.length=sl.length
theorem uR.keep{own:V MR}(p:bk own c j)(K:Inv a e own b k d.heap)(A:uR a own c j w b d.heap)(z:aQ a e own [] b d ak bc ap):uR a own c j w ak ap.heap:=by
 refine⟨?_,λr C D=>?_,A.len⟩;·refine aM A.ns λx bG H=>hF λf=>dF bG λg y T o h U=>z.keep.el o (K.off _ p.loc).1 (λx=>nomatch x) λY t G q=>f (ba x (kU t y T G (q.data.trans h) U) (λi r E X m s=>?_));exact aM (H i r E X m s) λB I M=>ba B I (z.vr M)
 ·refine aM (A.jO r C D) λn cm H=>hF λl=>aM cm λg o h=>z.keep.el o (K.off _ (p.jO r C D).1).1 (λx=>nomatch x) λY t G q=>l (ba n (ba t G (q.data.trans h)) (λi E X m s=>?_));exact aM (H i E X m s) λB I M=>ba B I (z.vr M)
structure St(w:Ni)(g₀:MU)(own:V MR)(l:V Nf)(env:Nf)(sl:V (O MT))(r:bI)(H:AH)(loc:Loc)(s:MV):Prop where
 inv:Inv w g₀ own r H s.heap
 dS:uR w own env sl loc r s.heap
 live:cM l own [] s.heap
theorem St.on{s:MV}(G:St a e g l c j b k w s)(p:bk g c j)(z:aQ a e g [] b s ak bc ap):St a e g l c j ak bc w ap:=⟨z.inv,G.dS.keep p G.inv z,G.live.keep G.inv z⟩
abbrev lO(a:Ni):Rel Q MN:=λT y I E=>VR a.params T y I E
abbrev ID(a:Ni):Rel (V Q) (V MN):=λT y I E=>bN a.params T y I E
abbrev K5(i:Type):Rel i i:=λY Y I M=>I=M
noncomputable def SE(l:Nu)(a:Ni)(d:MU)(T:V Nf)(c:Nf)(i:V (O MT))(f:Nv)(e:CF)(D:LE)(n:MP):Prop:=∀g y b t A,bk g c i->St a d g T c i y b A t->jN a d g (MX l a) f T (lO a) (eval n c) (aO e D A b) y t
noncomputable def mR(e:CF)(D:LE)(A:Loc)(b:AH):Res (MO×AH):=(aO e D A b).bind λy=>match truthy y.1 with
 |some M=>.ok (M,y.2)
 |none=>.bad
noncomputable def ST(l:Nu)(a:Ni)(d:MU)(T:V Nf)(c:Nf)(i:V (O MT))(f:Nv)(e:CF)(D:LE)(n:MP):Prop:=∀g y b t A,bk g c i->St a d g T c i y b A t->jN a d g (MX l a) f T (K5 MO) (isTrue n c (eval n c)) (mR e D A b) y t
theorem uS(r:ML){s:ML}(E:0<s)(p:s<2 ^ 30):NK.divisionGoesByPylong r s=MS:=by refine Vv.mpr (.inl (NG ?_));show¬(if(s==0)=MK then 0 else s.natAbs.log2 / 30+1)>300;refine R (OV (U' E)) ?_;refine R (Z.div_eq_of_lt ((Z.log2_lt (ML.natAbs_ne_zero.mpr (U' E))).mpr (ML.natAbs_lt_natAbs_of_nonneg_of_lt (VK E) p))) ?_;decide
noncomputable def wN:wk->O7
 |.add=>.Add|.sub=>.Sub|.mul=>.Mult|.fdiv=>.FloorDiv|.mod=>.Mod|.pow=>.Pow
theorem SE.kP:SE h a e l c j f i .kP (.Constant .none H J):=λg y b t A p G B=>Constant_none (.ok (.refl G.inv) .none)
theorem SE.qj{M:MO}:SE h a e l c j f i (.qj M) (.Constant (.bool M) H J):=λg y b t A p G B=>Constant_bool (.ok (.refl G.inv) (.bool M))
theorem SE.int{K:ML}:SE h a e l c j f i (.int K) (.Constant (.int K) H J):=λg y b t A p G B=>wpAny_Constant_int (.ok (.tok G.inv) (.int K _))
theorem SE.str(M:K<NS):SE h a e l c j f i (.str K) (.Constant (.str (sx K)) H J):=λg y b t A p G B=>PySem.Calls.Constant_str (.ok (.tok G.inv) (.str K _ M))
theorem SE.name(P:j[K]? = S (S r))(d:c.kindOf r=S .local\/c.kindOf r=S .cell\/c.kindOf r=S .free)(m:(r==("__debug__":MT))=MS)(s:(r==("__classdict__":MT))=MS) :
  SE h a e l c j f i (.var K) (.Name r J):=by
 intro g I b t A p G B;replace B:=iR▸B;refine R iR ?_;induction D:A[K]? using Rx with
 |none=>exact bX (D▸B)
 |some y=>
  induction y using Rx with
  |none=>exact bX (D▸B)
  |some E=>
   refine O8 ?_ m;rcases d with d|d;·exact hF λH=>aM G.dS.ns λx n v=>aM (v K r E P D d) λo w k=>H (O9 p.kind d n w (.ok (.refl G.inv) k))
   ·refine dD (p.has K r P d) λC z=>aM (G.dS.jO r C z) λy L v=>aM (v K E P D d) λo du k=>?_;clear v B P m;subst du;rcases d with d|d;·exact Q6 p.kind d z L (.ok (.refl G.inv) k)
    ·exact Q7 p.kind d z L (.ok (.refl G.inv) k) s
theorem jN.binI{z:wk}{r s:ML}{n c:NL}(K:Inv a e g b k d.heap)(D:bZ z (.int r) (.int s)=S aw):MY (MX h a) f (binaryOp (wN z) (.int r n) (.int s c)) (QQ a e g (lO a) [] (.ok (aw,k)) b d) t d:=by
 have T:∀r,aw=.int r->QQ a e g (lO a) [] (.ok (aw,k)) b d (.int r d.toks) {d with toks:=d.toks+1}:=λr D=>D▸.ok (.tok K) (.int r _);induction z using wk.casesOn with
 |add=>exact PySem.AutoIntOps.add_0 (T _ (sX D).symm)
 |sub=>exact PySem.AutoIntOps.sub_0 (T _ (sX D).symm)
 |mul=>refine cF D (λq D=>?_) λY D=>nX D;exact wG q λy i Y Y=>PySem.AutoIntOps.mul_0 (T _ (sX D).symm) (PySem.IntMulOk.of_left (PySem.intBits_le_64 (TR (show -(2 ^ 64)<(0:ML) by decide) (M5 y)) (TR (M5 i) (show(2 ^ 30:ML)<=2 ^ 64 by decide))))
 |fdiv=>refine cF D (λq D=>?_) λY D=>nX D;refine bM (RS.mp q) λy i=>?_;have y:=M5 y;exact PySem.AutoIntOps.floordiv_1 (Q8 (OV (U' y))) (by refine R (uS r y (M5 i)) ?_;decide) (T _ (sX D).symm)
 |mod=>refine cF D (λq D=>?_) λY D=>nX D;exact PySem.AutoIntOps.mod_1 (Q8 (OV (U' (M5 q)))) (T _ (sX D).symm)
 |pow=>refine cF D (λq D=>?_) λY D=>nX D;refine bM q λdV fC=>?_;clear q K;subst dV;subst fC;exact PySem.AutoIntOps.pow_4 (by decide) (by decide) (by decide) (by decide) (by decide +kernel) (T _ (sX D).symm)
theorem jN.bin{l:V Nf}{y:bI}{z:wk}{b:Q}{U P:MN}(K:Inv a e g y k d.heap)(c:VR a.params (Sf d.heap y g) y m U)(w:VR a.params (Sf d.heap y g) y b P) :
  jN a e g (MX h a) f l (lO a) (binaryOp (wN z) U P) (match bZ z m b with|some E=>.ok (E,k)|none=>.bad) y d:=by
 intro B;induction D:bZ z m b using Rx with
 |none=>exact bX (D▸B)
 |some E=>
  clear B
  induction m using Wm with
  |int r=>
   induction b using Wm with
   |int s=>obtain⟨p,rfl⟩:=c.inv;obtain⟨o,rfl⟩:=w.inv;exact jN.binI K D
   |_=>exact nX D
  |lst r=>induction b using Wm with
   |lst s=>
    refine dF c.inv λm items n i9 C A=>?_
    clear c
    subst i9
    refine dF w.inv λb items2 x jT j v=>?_
    clear w
    subst jT
    induction z using wk.casesOn with
    |add=>
     refine cF D (λq D=>?_) λY D=>nX D;refine PySem.P.add_list (l:=m) (b:=b) (items:=items) (n:=n) (items2:=items2) (n2:=x) C.1 j.1 (sX D▸.ok (.grown K λb z D=>Rz _ D) ?_) (by have:N0=_:=N8;exact(A.len.trans RH)▸(v.len.trans RH)▸Tf (n1 (M5 q) rfl));refine .lst _ _ (items++items2) 0 ⟨R3 _ rfl,K.fresh (bS _),λx=>?_⟩ ?_;·exact Ng x (K.no (bS d.heap))
     ·exact R M0.toList_append ((A.append v).mono (λm z i=>i.grow λb z D=>Rz _ D) (.refl y))
    |_=>exact nX D
   |_=>exact nX D
  |_=>exact nX D
theorem SE.bin{z:wk}{I M:LE}{o:O7}(r:SE h a e l c j f i I aj)(d:SE h a e l c j f i M s)
  (H:o=wN z):SE h a e l c j f i (.bin z I M) (.BinOp aj o s J):=by intro g y b t A p G B;refine R H (R wx (wpAny_BinOp ((r g y b t A p G).dg (.refl G.inv) (λI q K k U X o1 w E D=>?_) B)));refine R X (R Res.aP ?_);refine(d g K q k A p (G.on p o1)).dg o1 (λM C x L P m o2 n v Y=>?_) D;exact R m ((jN.bin o2.inv (n.vr E) v).lift o2 Y)
open PySem.SeqAt
theorem jV(d:ag<NS)(M:K<NS):(sx ag==sx K)=(ag==K):=by
 by_cases B:ag=K;·refine R B ?_;simp
 ·have:sx ag≠sx K:=λD=>B (rO d M D);refine(OI.mpr this).trans ?_;refine R (OI.mpr B) rfl
theorem uT{I M:V Nn}(B:I.map SK=M.map SK):I=M:=by
 induction I generalizing M with
 |nil=>cases M with|nil=>rfl|cons _ _=>cases B
 |cons r I d=>induction M using RC with
  |nil=>simp at B
  |cons s M=>simp only[R4,V.cons.injEq] at B;refine R (Nn.toNat_inj.mp B.1) ?_;refine R (d B.2) rfl
theorem oX{I M:M0 Nn}{T x:V Z}(c:I.toList.map SK=T)(w:M.toList.map SK=x):(MW (I.toList=M.toList))=(T==x):=by
 subst c;subst w;by_cases B:I.toList=M.toList;·simp[B]
 ·have:¬I.toList.map SK=M.toList.map SK:=λD=>B (uT D);refine(NG B).trans ?_;rw[OI.mpr this]
inductive Fe:Q->Q->MO->Prop
 |none:Fe .none .none MK
 |bool (x y:MO):Fe (.bool x) (.bool y) (x==y)
 |int (x y:ML):Fe (.int x) (.int y) (MW (x=y))
 |str (x y:Z):Fe (.str x) (.str y) (x==y)
 |bx (x y:V Z):Fe (.bx x) (.bx y) (x==y)
theorem wO{M:Q}(D:BQ m M=S am):Fe m M am:=by
 induction m using Wm with
 |none=>induction M using Wm with|none=>exact sX D▸.none|_=>exact nX D
 |bool r=>induction M using Wm with|bool s=>exact sX D▸.bool r s|_=>exact nX D
 |int r=>induction M using Wm with|int s=>exact sX D▸.int r s|_=>exact nX D
 |str r=>induction M using Wm with|str s=>exact sX D▸.str r s|_=>exact nX D
 |bx r=>induction M using Wm with|bx s=>exact sX D▸.bx r s|_=>exact nX D
 |_=>exact nX D
theorem oY{A:Nv}{s:MV}{M:Q}{c:MN}(i:VR U x b m c)(w:VR U x b M aa)(D:BQ m M=S am) :
  RcAt A s c aa am/\RcNeAt A s c aa (!am)/\EqAt A s c aa am:=by
 have e:=i.inv;have g:=w.inv;clear i w;cases wO D with
 |none=>obtain rfl:=e;obtain rfl:=g;exact fB RcAt.none_none RcNeAt.none_none (EqAt.same _)
 |bool r f=>obtain rfl:=e;obtain rfl:=g;exact fB (RcAt.bool_bool _ _) (RcNeAt.bool_bool _ _) (EqAt.bool_bool _ _)
 |int r f=>obtain⟨_,rfl⟩:=e;obtain⟨_,rfl⟩:=g;exact fB (RcAt.int_int _ _ _ _) (RcNeAt.int_int _ _ _ _) (EqAt.int_int _ _ _ _)
 |str r f=>exact aM e λY FQ d=>R FQ (aM g λY wQ j=>R wQ (jV d j▸(fB (RcAt.str_str _ _ _ _) (RcNeAt.str_str _ _ _ _) (EqAt.str_str _ _ _ _))))
 |bx T k=>refine cj e λr Y wR h=>?_;clear e D;subst wR;refine cj g λf Y qz J=>?_;clear g;subst qz;have L:=(MO.beq_eq_decide_eq _ _).trans (oX h J);exact fB (λl a I o B=>PySem.W.eq_bytes (L▸B)) (λl a I o B=>PySem.W.ne_bytes (show o (.bool !(r.toList==f.toList)) s from L▸B)) (λl a I o B=>PySem.W.eqBool_bytes (oX h J▸B))
theorem VR.at(c:VR U x b m aa){M:Q}(w:VR U x b M aa)(D:BQ m M=S am):am=MK:=by
 have e:=c.inv;have g:=w.inv;clear c w;cases wO D with
 |none=>rfl
 |bool r s=>exact N9.mpr (MN.bool.inj (Eq.trans (Eq.symm e) g))
 |int r s=>obtain⟨_,e⟩:=e;obtain⟨_,g⟩:=g;exact Nm (MN.int.inj (e.symm.trans g)).1
 |str r s=>obtain⟨_,e,d⟩:=e;obtain⟨_,g,f⟩:=g;exact N9.mpr (rO d f (MN.str.inj (e.symm.trans g)).1)
 |bx T h=>obtain⟨r,_,e,a⟩:=e;obtain⟨s,_,g,J⟩:=g;exact N9.mpr (a▸J▸(MN.bytes.inj (e.symm.trans g)).1▸rfl)
theorem zZ{P L:O MO}(D:(match P,L with|some r,S s=>S (r&&s)|_,_=>N)=S am):∃r s,P=S r/\L=S s/\(r&&s)=am:=by
 induction P using Rx with
 |none=>exact nX D
 |some r=>induction L using Rx with
  |none=>exact nX D
  |some s=>exact qu r s rfl rfl (sX D)
theorem bN.at:∀{f:V Q} {w:V MN} {C:MO},bN U x b z w->bN U x b f w->qt z f=S C->C=MK:=by
 induction z with
 |nil=>intro f w C p G D;induction f using RC with
  |nil=>exact(sX D).symm
  |cons _ _=>exact nX D
 |cons I z d=>
  intro f w C p G D
  induction f using RC with
  |nil=>exact nX D
  |cons M f=>refine m5 p.inv λE c bG X e=>?_;clear p;subst bG;refine m5 G.inv λY Y q H j=>bM (Uv q) λcm du=>?_;clear q G;subst cm;subst du;refine m5 (zZ D) λr s n t dV=>?_;clear D;subst dV;exact R (X.at H n) ((d e j t).trans rfl)
theorem tK{A:Q->Q->O MO}{g:V Q->V Q->O MO}(E:g [] []=S MK)(p:∀I z,g [] (I :: z)=N)(G:∀I z,g (I :: z) []=N)
  (T:∀I z M f C,g (I :: z) (M :: f)=S C->∃r s,A I M=S r/\g z f=S s/\(r&&s)=C)  :
  ∀{f:V Q} {C:MO},g z f=S C->z.length=f.length/\∃H:Z->MO,C=(Th z.length).all H/\∀(i:Z) I M,z[i]? = S I->f[i]? = S M->A I M=S (H i):=by
 induction z with
 |nil=>intro f C D;induction f using RC with
  |nil=>exact⟨rfl,λY=>MK,(sX (E.symm.trans D)).symm,λi I M B=>nX B⟩
  |cons _ _=>exact nX ((p _ _).symm.trans D)
 |cons I z d=>intro f C D;induction f using RC with
  |nil=>exact nX ((G _ _).symm.trans D)
  |cons M f=>
   refine hF λh=>m5 (T _ _ _ _ _ D) λr s n t fC=>?_;clear D E G;subst fC;obtain⟨p,A,rfl,T⟩:=d t;refine h ⟨Nb (· + 1) p,λi=>RX i r A,?_,λi P q X m=>?_⟩;·exact R SY (R V.range_succ_eq_map (R V.all_cons (R V.all_map rfl)))
   ·induction i using RX with
    |zero=>exact sX X▸sX m▸n
    |succ i=>exact T i P q X m
theorem wU{f:V Q}(D:qt z f=S am):z.length=f.length/\∃H:Z->MO,am=(Th z.length).all H/\∀(i:Z) I M,z[i]? = S I->f[i]? = S M->BQ I M=S (H i):=tK (g:=qt) rfl (λY Y=>rfl) (λY Y=>rfl) (λY Y Y Y Y D=>zZ D) D
theorem wW{f:V Q}(D:rG z f=S am):z.length=f.length/\∃H:Z->MO,am=(Th z.length).all H/\∀(i:Z) I M,z[i]? = S I->f[i]? = S M->eqT I M=S (H i):=tK (g:=rG) rfl (λY Y=>rfl) (λY Y=>rfl) (λY Y Y Y Y D=>zZ D) D
theorem wX{M:Q}(D:eqT m M=S am):(∃j A,m=.tup j/\M=.tup A/\qt j A=S am)\/BQ m M=S am:=by
 induction m using Wm with
 |tup j=>induction M using Wm with
  |tup A=>exact .inl (qu j A rfl rfl D)
  |_=>exact .inr D
 |_=>exact .inr D
theorem uU(D:itemsOf k m=S au):m=.lst au\/∃H,m=.aE H/\k.L[H]? = S au:=by
 induction m using Wm with
 |lst c=>exact .inl (sX D▸rfl)
 |aE H=>exact .inr (ba H rfl D)
 |_=>exact nX D
theorem FU{M:Q}(D:zA k m M=S am):(∃j A,itemsOf k m=S j/\itemsOf k M=S A/\(j.length=A.length/\rG j A=S am\/j.length≠A.length/\am=MS))\/eqT m M=S am:=by
 revert D;show(match itemsOf k m,itemsOf k M with|some r,S s=>zM r s|none,N=>eqT m M|_,_=>N)=_->_;generalize itemsOf k m=P;generalize itemsOf k M=L;induction P using Rx with
 |none=>induction L using Rx with
  |none=>exact .inr
  |some _=>exact nX
 |some j=>induction L using Rx with
  |none=>exact nX
  |some A=>
   intro D;refine .inl (qu j A rfl rfl ?_);by_cases B:j.length=A.length;·exact .inl ⟨B,(Na B).symm.trans D⟩
   ·exact .inr ⟨B,(sX ((Nc B).symm.trans D)).symm⟩
theorem bN.get'{w:V MN}(B:bN U x b z w){j:Z}(M:j<w.length):∃I,z[j]? = S I/\VR U x b I w[j]:=by
 refine hF λH=>?_;have h:j<z.length:=by exact RQ M (R1 (B.len).symm)
 refine aM (B.get (RA h)) λE D P=>?_;replace D:=(RA M).symm.trans D;obtain rfl:=sX D;exact H (ba _ (RA h) P)
theorem dW{j:M0 MN}(B:Sf d.heap b g n (CQ j q)):d.heap.IsTuple n j:=⟨_,B.1,rfl,_,rfl⟩
theorem bb{s:MV}{j:M0 MN}(B:s.heap.get? n=S (listOf j q)):s.heap.IsList n j:=⟨_,B,rfl,_,rfl⟩
theorem wY{j A:V Q}{M:MR}{v o:M0 MN}(k:f.units<NA)(e:d.heap.IsTuple n v)(J:d.heap.IsTuple M o)(c:bN a.params (Sf d.heap b g) b j v.toList)(l:bN a.params (Sf d.heap b g) b A o.toList)(D:qt j A=S am) :
  RcAt f d (.ref n) (.ref M) am/\RcNeAt f d (.ref n) (.ref M) (!am):=by
 refine hF λh=>?_;obtain⟨p,t,G,T⟩:=wU D;have P:v.size=o.size:=by exact RH.symm.trans (R RH.symm (c.len.symm.trans (R l.len.symm p)))
 have w:j.length=v.size:=by exact c.len.trans RH
 have C:=λi y q=>by refine hF λH=>aM (c.get' (j:=i) y) λs X E=>?_;refine aM (l.get' (j:=i) q) λL m r=>?_;refine H ?_;simpa using(oY (A:=f.in1) (s:=d) E r (T i s L X m)).2.2
 have K:=RcAt.tuples e J k C;have x:=RcNeAt.tuples e J k C;have L:((Th (min v.size o.size)).all t&&v.size==o.size)=am:=by refine R P.symm ?_;refine R (Z.min_self ..) ?_;refine R G ?_;refine R w ?_;simp
 rw[L] at K x;exact h ⟨K,x⟩
theorem CY{A:Nv}{i:Q}{f:MN}(k:A.units<NA)(c:VR a.params (Sf d.heap b g) b m f)(w:VR a.params (Sf d.heap b g) b i aa)(D:eqT m i=S am):EqAt A d f aa am:=by
 refine hF λh=>?_;rcases wX D with⟨j,n,rfl,rfl,D⟩|D
 ·refine dF c.inv λr v p jT sx M=>?_;subst jT;refine dF w.inv λs o x lP e l=>?_;subst lP;by_cases q:r=s;·subst q;have:=sx.1.symm.trans e.1;injection this with this;injection this with _ _ this;injection this with this;subst this;refine h ?_;exact R (M.at l D) (EqAt.same _)
  ·exact h (EqAt.of_refs q (wY k (dW sx) (dW e) M l D).1)
 ·exact h ((oY c w D).2.2)
theorem lQ(K:Inv a e g b k d.heap)(c:VR a.params (Sf d.heap b g) b m aa)(D:itemsOf k m=S au) :
  ∃r j f,aa=.ref r/\d.heap.get? r=S (listOf j f)/\bN a.params (Sf d.heap b g) b au j.toList:=by
 refine hF λh=>?_;rcases uU D with rfl|⟨H,rfl,D⟩;·refine dF c.inv λm j f rP C A=>?_;subst rP;exact h (kU _ j f rfl C.1 A)
 ·refine aM c.inv λm iV J=>?_;clear c;subst iV;exact cj (K.dt.L H au m D J) λj f o A=>h (kU m j f rfl o A)
theorem wZ(K:Inv a e g b k d.heap){a0:Q}{L:MN}(Y:f.units+64<NA)(c:VR a.params (Sf d.heap b g) b m L)(I:VR a.params (Sf d.heap b g) b a0 aa)(D:zA k m a0=S am) :
  RcAt f d L aa am/\RcNeAt f d L aa (!am):=by
 refine hF λz=>?_;have w:f.units<NA:=by exact Ir Y rfl
 rcases FU D with⟨j,A,n,t,D⟩|D
 ·refine dF (lQ K c n) λr v a3 lR B M=>?_;subst lR;refine dF (lQ K I t) λa2 o a1 lS G l=>?_;subst lS;have x:j.length=v.size:=by exact M.len.trans RH
  have J:A.length=o.size:=by exact l.len.trans RH
  rcases D with⟨H,D⟩|⟨H,rfl⟩
  ·obtain⟨p,a4,rfl,T⟩:=wW D;have C:=λi y q2=>by exact hF λh=>aM (M.get' (j:=i) y) λP X E=>aM (l.get' (j:=i) q2) λq e2 v2=>h (CY (A:=f.in1) (RM (show f.units+1<=f.units+64 by exact Kz rfl) Y) E v2 (T i P q X e2))
   refine z (R x ?_);have s:=x.symm.trans (H.trans J);exact⟨RcAt.lists (bb B) (bb G) s w C,RcNeAt.lists (bb B) (bb G) s w C⟩
  ·have s:=bne_iff_ne.mpr λU=>H (x.trans (U.trans J.symm));exact z ⟨RcAt.lists_lengths (bb B) (bb G) s w,RcNeAt.lists_lengths (bb B) (bb G) s w⟩
 ·rcases wX D with⟨j,A,rfl,rfl,D⟩|D;·refine dF c.inv λr v a3 oZ sx M=>?_;subst oZ;refine dF I.inv λa2 o a1 pa sy l=>?_;subst pa;exact z (wY w (dW sx) (dW sy) M l D)
  ·obtain⟨p,h2,_⟩:=oY c I D;exact z ⟨p,h2⟩
theorem ff(r:MT)(n:NL)(M:M0 Nn)(c:NL):Gives (Builtin.«str.__eq__» ⟨[.str r n,.bytes M c],[]⟩) (.val .notImplemented):=.of_wp λw f I t o B=>by obtain⟨s,b,h,a,e⟩:=t;have f1:=PySem.F.sub_bytes_str;wp_walk;exact ba _ rfl B
theorem fg(r:MT)(n:NL)(M:M0 Nn)(c:NL):Gives (Builtin.«bytes.__eq__» ⟨[.bytes M c,.str r n],[]⟩) (.val .notImplemented):=by refine .of_wp λw f I t o e=>?_;show MY w f (O' (.str r n) (.type "bytes") >>= λy=>_) _ I t;refine MQ (OW (Pp t r n) PySem.F.sub_str_bytes ?_);exact λY Y Y=>(ba _ rfl e)
theorem jW(r:MT)(n:NL)(M:M0 Nn)(c:NL){o:MO->MV->Prop}(B:o MS d):MY (MX h a) f (Pq (.str r n) (.bytes M c)) o t d:=by refine Nx ?_;refine PV (λH=>Ng (OJ H) nofun) (λY=>?_);refine MQ (rc_eq_decline_or (k:=false) (Pp d r n) (Pa d M c) (rfl) PySem.F.sub_bytes_str PySem.F.slot_str_eq PySem.W.FB.slot_bytes_eq (λY e=>PW PySem.F.slot_str_eq (Pp d r n) PySem.F.entry_str_eq (PySem.F.args_str_eq_2 _ _) (ff r n M c) e) (λY e=>PW PySem.W.FB.slot_bytes_eq (Pa d M c) PySem.W.FB.entry_bytes_eq (PySem.W.FB.args_bytes_eq_2 _ _) (fg r n M c) e) (λY e=>NM (rfl:isSame (.str r n) (.bytes M c)=pure MS) e) (.inl rfl) (OA B))
theorem jX(r:MT)(n:NL)(M:M0 Nn)(c:NL){o:MO->MV->Prop}(B:o MS d):MY (MX h a) f (Pq (.bytes M c) (.str r n)) o t d:=by refine Nx ?_;refine PV (λH=>Ng (OJ H) nofun) (λY=>?_);refine MQ (rc_eq_decline_or (k:=false) (Pa d M c) (Pp d r n) (rfl) PySem.F.sub_str_bytes PySem.W.FB.slot_bytes_eq PySem.F.slot_str_eq (λY e=>PW PySem.W.FB.slot_bytes_eq (Pa d M c) PySem.W.FB.entry_bytes_eq (PySem.W.FB.args_bytes_eq_2 _ _) (fg r n M c) e) (λY e=>PW PySem.F.slot_str_eq (Pp d r n) PySem.F.entry_str_eq (PySem.F.args_str_eq_2 _ _) (ff r n M c) e) (λY e=>NM (rfl:isSame (.bytes M c) (.str r n)=pure MS) e) (.inl rfl) (OA B))
noncomputable def iw.is:iw->MN->MO
 |.str r,E=>MN.isStrOf r E
 |.bx M,.bytes C _=>C==M
 |.bx _,_=>MS
theorem iw.w0{I:iw}(B:I.is aa=MK):(∃r n,I=.str r/\aa=.str r n)\/∃M n,I=.bx M/\aa=.bytes M n:=by
 induction I using iw.casesOn with
 |str r=>obtain⟨n,rfl⟩:=MN.isStrOf_shape B;exact .inl (dI r n rfl rfl)
 |bx M=>induction aa using MN.casesOn<;>first|exact bF B|exact .inr (dI _ _ (Nb iw.bx (OJ B).symm) rfl)
theorem iw.el{P:iw->MN->Prop}{I:iw}(B:I.is aa=MK)(p:∀r n,P (.str r) (.str r n))(G:∀M n,P (.bx M) (.bytes M n)):P I aa:=by
 rcases iw.w0 B with⟨r,n,rfl,rfl⟩|⟨r,n,rfl,rfl⟩;·exact p r n
 ·exact G r n
noncomputable def fD(l:Nu)(a:Ni):KeyKind l a iw where
 is:=iw.is
 hash:=lu a
 inj E I M ha w:=(iw.el (P:=λI E=>iw.is M E=MK->I=M) ha (λr n w=>by
  cases M with
  |str s=>exact Nb _ (OJ w)
  |bx s=>exact nomatch w) λr n w=>by
  cases M with
  |str s=>exact nomatch w
  |bx s=>exact Nb _ (OJ w)) w
 byValue H E B:=iw.el (P:=λY E=>carriedByValue E=MK) B (λY Y=>rfl) λY Y=>rfl
 pyHash:=λ{f b t H E o} d=>iw.el (P:=λH E=>o (lu a H) {t with toks:=t.toks+1}->MY (MX l a) f (pyHash E) o b t) d (λr n B=>Q9 B) λr n B=>by
  refine pyHash_slot (T:="bytes") rfl PySem.W.FB.slot_bytes_hash PySem.W.FB.entry_bytes_hash (PySem.W.FB.args_bytes_hash_1 _) (beq_builtin_none _) (.inl rfl) ?_;show MY _ _ (strHash ⟨r.map (·.toNat)⟩ >>= λK=>(do ret (<-mkInt K))) _ _ t;unfold strHash;refine MQ (MQ (Qv (MZ (MQ (Pr (MZ ⟨_,_,rfl,?_⟩))))));have D:(r.map λc:Nn=>c.toNat).isEmpty=r.isEmpty:=by simp[M0.isEmpty]
  simp only[lu] at B;show o (Po (if(r.map λc:Nn=>c.toNat).isEmpty=MK then 0 else _)) _;rw[D];exact B
 eqBool:=λ{f b t I M c E o} k d=>iw.el (P:=λI c=>o (MW (I=M)) t->MY (MX l a) f (Pq c E) o b t) k (λr n=>iw.el (P:=λM E=>o (MW (iw.str r=M)) t->MY (MX l a) f (Pq (.str r n) E) o b t) d (λs X B=>wpAny_eqBool_str ((Pt.mpr ⟨iw.str.inj,Nb _⟩:_=MW (r=s))▸B)) λs X B=>jW r n s X B) λr n=>iw.el (P:=λM E=>o (MW (iw.bx r=M)) t->MY (MX l a) f (Pq (.bytes r n) E) o b t) d (λs X B=>jX s X r n B) λs X B=>eqBool_bytes ((Pt.mpr ⟨λD=>Nb _ (iw.bx.inj D),λD=>Nb _ (M0.toList_inj.mp D)⟩:_=MW (r.toList=s.toList))▸B)
 «strs» H r n E B:=by
  cases H with
  |str s=>rw[<-OJ B];cases E<;>rfl
  |bx s=>exact nomatch B
theorem qA{M:Q}(B:BQ m M=S am):am=MK↔m=M:=by
 cases wO B with
 |none=>exact⟨λY=>rfl,λY=>rfl⟩
 |bool r s=>exact N9.trans ⟨Nb _,Q.bool.inj⟩
 |int r s=>exact Q'.trans ⟨Nb _,Q.int.inj⟩
 |str r s=>exact N9.trans ⟨Nb _,Q.str.inj⟩
 |bx r s=>exact N9.trans ⟨Nb _,Q.bx.inj⟩
theorem uV:∀{f:V Q} {C:MO},qt z f=S C->(C=MK↔z=f):=by
 induction z with
 |nil=>intro f C B;induction f using RC with
  |nil=>exact sX B▸⟨λY=>rfl,λY=>rfl⟩
  |cons _ _=>exact nX B
 |cons I z d=>intro f C B;induction f using RC with
  |nil=>exact nX B
  |cons M f=>refine m5 (zZ B) λr s n t bG=>?_;clear B;subst bG;exact RS.trans ((and_congr (qA n) (d t)).trans ⟨λ⟨I,M⟩=>I▸M▸rfl,Uv⟩)
theorem qB{M:Q}(B:eqT m M=S am):am=MK↔m=M:=by
 rcases wX B with⟨j,A,rfl,rfl,B⟩|B;·exact(uV B).trans ⟨Nb _,Q.tup.inj⟩
 ·exact qA B
theorem tL{H:Q}{D:Q×Q}{P:O Z}(B:eF H (D :: y)=S P):(∃M,eqT D.1 H=S M)/\((D.1=H/\P=S 0)\/(D.1≠H/\∃l,eF H y=S l/\l.map (· + 1)=P)):=by
 have B:(match eqT D.1 H with|some MK=>S (S 0)|some MS=>(eF H y).map (·.map (· + 1))|none=>N)=S P:=B;revert B;induction L:eqT D.1 H using Rx with
 |none=>exact nX
 |some M=>induction M using RD with
  |true=>exact λB=>⟨⟨_,rfl⟩,.inl ⟨(qB L).mp rfl,(sX B).symm⟩⟩
  |false=>exact λB=>⟨⟨_,rfl⟩,.inr ⟨λU=>RW ((qB L).mpr U),Sa.mp B⟩⟩
theorem dJ{H:Q}:∀{P:O Z},eF H y=S P->match P with
  |none=>H∉y.map (·.1)
  |some K=>(y.map (·.1))[K]? = S H/\∀i,i<K->(y.map (·.1))[i]?≠S H:=by
 induction y with
 |nil=>exact λB=>sX B▸Sz
 |cons D y d=>
  intro P B
  rcases(tL B).2 with⟨X,rfl⟩|⟨j,l,s,rfl⟩
  ·exact⟨Nb S X,λi M=>Ng M (UC _)⟩
  ·have:=d s
   clear B
   induction l using Rx with
   |none=>exact λx=>(RB.mp x).elim (λU=>j U.symm) this
   |some K=>
    refine⟨this.1,λi M=>?_⟩
    induction i using RX with
    |zero=>exact λU=>j (sX U)
    |succ i=>exact this.2 i (Z.lt_of_succ_lt_succ M)
theorem fh{H:Q}{P:O Z}(B:eG H y=S P):keyOk H=MK/\eF H y=S P:=by
 by_cases L:keyOk H=MK;·exact⟨L,(Na L).symm.trans B⟩
 ·exact nX ((Nc L).symm.trans B)
theorem w9{H:Q}(B:keyOk H=MK):∃v:DK,v.ok H:=by
 induction H using Wm with
 |str K=>exact⟨.str,_,rfl⟩
 |int K=>exact⟨.int,_,rfl⟩
 |tup w=>exact⟨.tup,_,rfl,B⟩
 |_=>exact Ng B RW
theorem CZ{H:Q}(B:eqT m H=S am)(c:ay.ok m)(J:keyOk H=MK):ay.ok H:=by
 induction ay using DK.casesOn with
 |str=>obtain⟨K,rfl⟩:=c;induction H using Wm with
  |str i=>exact⟨_,rfl⟩
  |_=>exact nX B
 |int=>obtain⟨K,rfl⟩:=c;induction H using Wm with
  |int i=>exact⟨_,rfl⟩
  |_=>exact nX B
 |tup=>obtain⟨w,rfl,_⟩:=c;induction H using Wm with
  |tup k=>exact ba _ rfl J
  |_=>exact nX B
theorem DR.kind{H:Q}{c:V Nr}{P:O Z}(h:DR a x b ay y c)(D:eG H y=S P):∃ay:DK,ay.ok H/\DR a x b ay y c:=by
 refine bM (fh D) λJ D=>?_;induction h using DR.casesOn with
 |nil=>obtain⟨e,L⟩:=w9 J;exact ba e L .nil
 |cons p G T X=>refine dD ((tL D).1) λM L=>?_;exact ba ay (CZ L p J) (.cons p G T X)
theorem DR.len{c:V Nr}(h:DR a x b ay y c):y.length=c.length:=by
 induction h with
 |nil=>rfl
 |cons _ _ _ _ d=>simp[d]
theorem DR.get{c:V Nr}(h:DR a x b ay y c):∀{i:Z} {p:Q×Q},y[i]? = S p->∃k o,c[i]? = S ⟨gL a p.1,k,o⟩/\ay.ok p.1/\VR a.params x b p.1 k/\VR a.params x b p.2 o:=by
 induction h with
 |nil=>intro i p D;exact nX D
 |cons e G T _ d=>
  intro i p D
  induction i using RX with
  |zero=>obtain rfl:=sX D;exact qv _ _ rfl e G T
  |succ i=>exact d (i:=i) (p:=p) (by exact D)
theorem DR.get'{c:V Nr}(h:DR a x b ay y c){g:Nr}(D:c[ag]? = S g):∃P,y[ag]? = S P/\g.hash=gL a P.1/\ay.ok P.1/\VR a.params x b P.1 g.key/\VR a.params x b P.2 g.val:=by
 have d:ag<y.length:=by refine R h.len ?_;exact(RF.mp D).1
 refine uP (h.get (RA d)) λk o j I M C=>?_;rw[D] at j;cases j;exact KI _ (RA d) rfl I M C
theorem DR.modify{c:V Nr}(h:DR a x b ay y c):∀{i:Z} {E:Q} {o:MN},VR a.params x b E o->DR a x b ay (y.modify i λD=>(D.1,E)) (c.modify i λD=>{D with val:=o}):=by
 induction h with
 |nil=>intro i E o _;simpa using DR.nil
 |cons p G T X d=>
  intro i E o P
  induction i using RX with
  |zero=>exact DR.cons p G P X
  |succ i=>exact DR.cons p G T (d P)
theorem DR.snoc{c:V Nr}(h:DR a x b ay y c){H:Q}{k o:MN}(p:ay.ok H)(G:VR a.params x b H k)(T:VR a.params x b aw o):DR a x b ay (y++[(H,aw)]) (c++[⟨gL a H,k,o⟩]):=by
 induction h with
 |nil=>exact .cons p G T .nil
 |cons I M C _ d=>exact .cons I M C d
theorem DR.erase{c:V Nr}(h:DR a x b ay y c):∀(K:Z),DR a x b ay (y.eraseIdx K) (c.eraseIdx K):=by
 induction h with
 |nil=>intro K;exact DR.nil
 |cons I M C s d=>
  intro K
  induction K using RX with
  |zero=>exact s
  |succ K=>exact DR.cons I M C (d K)
theorem jY{M:M0 Nn}{T:V Z}(B:M.toList.map SK=T):(T.map V0).toArray=M:=by
 subst B;refine R SW ?_;have:(V0 ∘ SK)=id:=by funext r;simp
 refine R this ?_;refine R (V1 ..) rfl
theorem C0(B:VR a.params x b m aa)(D:kC m=MK):(dT m).is aa=MK:=by
 have B:=B.inv;induction m using Wm with
 |str H=>obtain⟨n,rfl,J⟩:=B;exact Pb (sx H)
 |bx T=>obtain⟨M,n,rfl,l⟩:=B;exact N9.mpr (jY l).symm
 |_=>exact Ng D RW
theorem jZ:∀{w:V MN},bN a.params x b z w->z.all kC=MK->ItemsAre (fD h a) (z.map dT) w:=by
 induction z with
 |nil=>intro w B _;exact B.qx▸.nil
 |cons I z d=>intro w B D;refine m5 B.inv λE c cm p G=>?_;clear B;subst cm;refine bM (RS.mp D) λX m=>?_;exact .cons (C0 p X) (d G m)
theorem z0{M:Q}{h:MN}(c:VR a.params x b m h)(w:VR a.params x b M aa)(t:kC m=MK)(f:kC M=MK)(B:dT m=dT M):m=M:=by
 have c:=c.inv;have w:=w.inv;induction m using Wm with
 |str K=>induction M using Wm with
  |str i=>obtain⟨n,_,d⟩:=c;obtain⟨X,_,g⟩:=w;exact Nb _ (rO d g (iw.str.inj B))
  |bx e=>exact nomatch B
  |_=>exact Ng f RW
 |bx T=>induction M using Wm with
  |str i=>exact nomatch B
  |bx e=>refine cj c λC n Y l=>?_;refine cj w λo X Y v=>?_;have:=iw.bx.inj B;rw[jY l,jY v] at this;exact Nb _ (l.symm.trans (this▸v))
  |_=>exact Ng f RW
 |_=>exact Ng t RW
theorem qC:∀{f:V Q} {k w:V MN},bN a.params x b z k->bN a.params x b f w->z.all kC=MK->f.all kC=MK->z.map dT=f.map dT->z=f:=by
 induction z with
 |nil=>intro f k w _ _ _ _ B;exact(V.map_eq_nil_iff.mp B.symm).symm
 |cons I z d=>intro f k w p G X m B;induction f using RC with
  |nil=>exact nomatch B
  |cons M f=>refine hF λo=>?_;refine m5 p.inv λY Y du g e=>?_;refine R du ?_;refine m5 G.inv λY Y dV H j=>?_;refine R dV ?_;refine bM (RS.mp X) λX h=>?_;refine bM (RS.mp m) λs c=>?_;refine bM (Uv B) λp G=>?_;refine o ?_;refine R (z0 g H X s p) ?_;refine R (d e j h c G) rfl
noncomputable def z8:Q->V iw
 |.tup w=>w.map dT
 |_=>[]
theorem lT{prog:Nu}(w:V Q):Qw (fD prog a) (w.map dT)=gL a (.tup w):=by exact Nb (λT=>Po (NK.Tuple.tupleHashOf T)) SW
theorem DR.IE{prog:Nu}{c:V Nr}{h:MU}(i:∀I z,x I z->h.get? I=S z)(g:DR a x b .tup y c) :
  ∃j:V (V iw×MR×MN),c=j.map (entryOfKey (Qx (fD prog a)))/\(∀r∈j,IsTupleKey (fD prog a) h r.1 r.2.1)/\j.map (·.1)=y.map λP=>z8 P.1:=by
 induction g with
 |nil=>exact jM [] rfl (λY f=>nomatch f) rfl
 |@cons H E k o y c p G T _ d=>
  refine hF λK=>?_;refine mP d λj X m s=>?_;refine aM p λw fC t=>?_;subst fC;refine dF G.inv λI n l i9 C A=>?_;subst i9;refine K ?_;refine jM ((w.map dT,I,o) :: j) ?_ ?_ (Nb (w.map dT :: ·) s);·refine R R4 ?_;refine R X.symm ?_;show _=Nr.mk (Qw (fD prog a) (w.map dT)) _ _ :: c;rw[lT]
  ·intro r e;rcases RB.mp e with rfl|e;·exact zF _ n l (i _ _ C) rfl rfl (jZ A t)
   ·exact m r e
theorem DR.IF{prog:Nu}{d:V Nr}(h:DR a x b .tup y d)(n:(y.map (·.1)).Nodup):(y.map λP=>z8 P.1).Nodup:=by unfold V.Nodup at n⊢;rw[V.pairwise_map] at n⊢;refine n.imp_of_mem λ{I M} c w j q=>j ?_;refine hF λA=>?_;refine dD (SI.mp c) λK t=>?_;refine dD (SI.mp w) λi f=>?_;refine uP (h.get t) λY Y Y jT E Y=>?_;refine aM jT λl p G=>?_;refine uP (h.get f) λY Y Y lP v Y=>?_;refine aM lP λk T g=>?_;refine A ?_;rw[p] at q E;refine R p ?_;rw[T] at q v;refine R T ?_;refine dF E.inv λY Y Y Y Y X=>?_;refine dF v.inv λY Y Y Y Y e=>?_;exact Nb _ (qC X e G g q)
theorem je{own:V MR}{k:Q}{e:MN}{o:ML->MV->Prop}(g:f.units<NA)(J:VR a.params (Sf d.heap b own) b k e)(z:ay.ok k)(B:∀c,o (gL a k) {d with toks:=d.toks+c}):MY (MX h a) f (pyHash e) o t d:=by
 induction ay using DK.casesOn with
 |str=>obtain⟨K,rfl⟩:=z;obtain⟨n,rfl,_⟩:=J.inv;exact Q9 (B 1)
 |int=>obtain⟨K,rfl⟩:=z;obtain⟨n,rfl⟩:=J.inv;exact wpAny_pyHash_int (B 1)
 |tup=>refine aM z λw rP D=>?_;clear z;subst rP;refine dF J.inv λI j c iV C A=>?_;clear J;subst iV;refine(Qx (fD h a)).pyHash (k:=w.map dT) g (zF _ j c C.1 rfl rfl (jZ A D)) ?_;show o (Qw (fD h a) _) _;refine R (lT ..) ?_;exact B ((w.map dT).length+1)
theorem rQ{A:G->az}{T:V G}{M:az}(B:(T.map A)[K]? = S M):∃I,T[K]? = S I/\A I=M:=Sa.mp (RJ.symm.trans B)
theorem qD{H:Q}{P:O Z}(c:DR a x b ay y C.toList)(D:eF H y=S P)(A:Nr->MO)(J:∀(K:Z) g (L:Q×Q),C[K]? = S g->y[K]? = S L->(A g=MK↔L.1=H)):C.findIdx? A=P:=by
 have G:=dJ D;have h:∀(K:Z) g,C[K]? = S g->(A g=MK↔(y.map (·.1))[K]? = S H):=λK g z=>by refine aM (c.get' (SJ.trans z)) λL r Y=>?_;refine(J K g L z r).trans ?_;refine R RJ ?_;refine R r ?_;exact⟨Nb S,sX⟩
 clear D J;induction P using Rx with
 |none=>rw[M0.findIdx?_eq_none_iff];intro g e;obtain⟨K,d,rfl⟩:=M0.mem_iff_getElem.mp e;exact U5.mpr λL=>G (RI ((h K _ (Tu d)).mp L))
 |some K=>refine bM G λk o=>?_;have d:=TH (RF.mp k).1 ((Ry _).trans (c.len.trans RH));rw[M0.findIdx?_eq_some_iff_getElem];exact ba d ((h K _ (Tu d)).mpr k) (λi M U=>o i M ((h i _ (Tu (VL M d))).mp U))
theorem DR.one(c:DR a x b ay y C.toList){g:Nr}{L:Q×Q}(E:C[K]? = S g)(r:y[K]? = S L):ay.ok L.1/\VR a.params x b L.1 g.key:=by refine JI (c.get' (SJ.trans E)) λw e Y p G Y=>?_;exact sX (e.symm.trans r)▸⟨p,G⟩
theorem DR.mem(c:DR a x b ay y C.toList){g:Nr}(e:g∈C):∃L:Q,g.hash=gL a L/\ay.ok L/\VR a.params x b L g.key:=by refine hF λh=>?_;refine dD (M0.mem_iff_getElem?.mp e) λi M=>?_;refine JI (c.get' (SJ.trans M)) λL Y l p G Y=>?_;refine h ?_;exact jM L.1 l p G
theorem hZ{own:V MR}{s:MV}{k:Q}{kv:MN}{ep:Z}{H:O Z}{o:O Z->MV->Prop}(hu:f.units<NA)(hd:s.heap.get? A=S (bC C ep))(c:DR a (Sf s.heap b own) b ay y C.toList)(n:(y.map (·.1)).Nodup)
  (J:VR a.params (Sf s.heap b own) b k kv) (z:ay.ok k) (D:eG k y=S H) (B:o H s):MY (MX h a) f (dictFind A kv (gL a k)) o t s:=by
 refine bM (fh D) λY D=>?_;induction ay using DK.casesOn with
 |str=>
  refine dD z λK lS=>?_;subst lS;refine aM J.inv λa7 rR hi=>?_;refine R rR ?_;refine Ra (knd:=PySem.strKind h a) (k:=sx K) (Pb (sx K)) hd rfl (λg e=>?_) ((qD c D _ λi g q E L=>?_).symm▸B);·refine mP (c.mem e) λq l oZ P=>?_;refine hF λd=>?_;obtain⟨r,w⟩:=oZ;subst w;refine aM P.inv λX P Y=>?_;refine d ?_;exact ba (sx r) (P▸Pb (sx r)) l
  ·refine bM (c.one E L) λpa P=>?_;refine dD pa λr w=>?_;rw[w] at P;refine R w ?_;refine aM P.inv λX P hj=>?_;refine R P ?_;show(sx r==sx K)=MK↔_;refine R (jV hj hi) ?_;exact N9.trans ⟨Nb _,Q.str.inj⟩
 |int=>
  refine dD z λK rT=>?_;subst rT;refine dD J.inv λa7 w'=>?_;subst w';refine Ra (knd:=PySem.intKind h a) (k:=K) (Nm rfl) hd rfl (λg e=>?_) ((qD c D _ λi g q E L=>?_).symm▸B);·refine mP (c.mem e) λq l C1 P=>?_;refine hF λM=>?_;obtain⟨r,w⟩:=C1;subst w;refine dD P.inv λX P=>?_;refine M ?_;exact ba r (P▸Nm rfl) l
  ·refine bM (c.one E L) λC2 P=>?_;refine dD C2 λr w=>?_;rw[w] at P;refine R w ?_;refine dD P.inv λX P=>?_;refine R P ?_;exact Q'.trans ⟨Nb _,Q.int.inj⟩
 |tup=>
  have G:=dJ D
  refine aM z λx IG ea=>?_
  clear D z
  subst IG
  refine dF J.inv λI j a4 IH sa vr=>?_
  clear D J
  subst IH
  refine mP (DR.IE (prog:=h) (h:=s.heap) (λI a8 U=>U.1) c) λxs e1 m e3=>?_
  have a0:∀(i:Z) (q:MR×MN),xs[i]? = S (x.map dT,q)->(y.map (·.1))[i]? = S (.tup x):=λi q E=>by
   refine hF λa6=>?_;have p:(xs.map (·.1))[i]? = S (x.map dT):=by refine RJ.trans ?_;refine R E ?_;rfl
   rw[e3] at p;refine aM (rQ p) λp' a1 p=>?_;refine uP (c.get a1) λkv vv e4 II v Y=>?_;refine aM II λus T h4=>?_;refine a6 ?_;refine RJ.trans ?_;refine R a1 ?_;rw[T] at p v;refine dF v.inv λY Y Y Y Y x2=>?_;exact Nb S (T.trans (Nb _ (qC x2 vr h4 ea p)))
  have a2:∀(i:Z),(y.map (·.1))[i]? = S (.tup x)->∃q,xs[i]? = S (x.map dT,q):=λi E=>by
   refine hF λa3=>?_;refine aM (rQ E) λp' e4 e5=>?_;have p:(y.map λH=>z8 H.1)[i]? = S (x.map dT):=by refine RJ.trans ?_;refine R e4 ?_;exact Nb S (Nb z8 e5)
   rw[<-e3] at p;refine aM (rQ p) λq e6 e7=>?_;refine a3 ?_;exact⟨q.2,e7▸e6⟩
  refine R (lT (prog:=h) ..).symm ?_
  refine wpAny_dictFind_heap (knd:=Qx (fD h a)) (k:=x.map dT) (xs:=xs) hu (zF _ j a4 sa.1 rfl rfl (jZ vr ea)) hd rfl e1 m (e3▸DR.IF (prog:=h) c n) (λa5=>?_) λi q E=>?_
  ·induction H using Rx with
   |none=>exact B
   |some K=>obtain⟨q,L⟩:=a2 K G.1;exact Ng L (a5 K q)
  ·induction H using Rx with
   |none=>exact Ng (RI (a0 i q E)) G
   |some K=>exact(U4 (RF.mp G.1).1 n).mp (G.1.trans (a0 i q E).symm)▸B
structure DictAt(w:Ni)(own:V MR)(r:bI)(s:MV)(d:MR)(as:V (Q×Q))(es:M0 Nr)(ep:Z)(dk:DK):Prop where
 obj:s.heap.get? d=S (bC es ep)
 dr:DR w (Sf s.heap r own) r dk as es.toList
 nd:(as.map (·.1)).Nodup
theorem fE{s:MV}(K:Inv a e g b k s.heap)(D:k.D[H]? = S y)(j:b.D[H]? = S A):∃d T v,DictAt a g b s A y d T v:=dF (K.dt.D H y A D j) λd T v o E c=>⟨d,T,v,o,E,c⟩
theorem DictAt.is{T:Z}(r:DictAt a g b d A y C T ay):d.TypeIs (.ref A) "dict":=⟨_,r.obj,rfl⟩
noncomputable def JL(c:N')(T:SP)(y:bI):O Q->O MN->Prop
 |some I,S E=>VR c T y I E
 |none,N=>Np
 |_,_=>Nw
theorem lU{own:V MR}{T:Z}{H:Q}{j:MN}{e:O Q}{o:O MN->MV->Prop}(k:f.units<NA)(r:DictAt a own b d A y C T ay)(J:VR a.params (Sf d.heap b own) b H j)(D:cX y H=S e)
  (B:∀i E,JL a.params (Sf d.heap b own) b e E->o E {d with toks:=d.toks+i}):MY (MX h a) f (PX A j) o t d:=by
 refine hF λn=>aM (Sa.mp D) λP x bG=>?_;subst bG;refine aM (r.dr.kind x) λp ok c=>n (Nx (MQ (je (own:=own) k J ok λi=>MQ (hZ (s:={d with toks:=d.toks+i}) (own:=own) k r.obj c r.nd J ok x ?_))));refine hF λl=>?_;induction P using Rx with
 |none=>exact l (MZ (B i N trivial))
 |some K=>
  have G:=(dJ (fh x).2).1
  replace G:=RJ▸G
  refine kF (y[K]?) (λz=>?_) (λq z=>?_)
  ·replace G:=z▸G;cases G
  ·refine uP (c.get z) λg m X Y Y v=>l (MQ (OX r.obj rfl (MZ ?_)));have:C[K]? = S ⟨gL a q.1,g,m⟩:=by simpa using X
   refine R this (B i _ ?_);show JL _ _ _ ((y[K]?).map (·.2)) _;exact R z v
theorem gr{own:V MR}{T:Z}{H:Q}{k:MN}(e:f.units+1<NA)(r:DictAt a own b d A y C T ay)(J:VR a.params (Sf d.heap b own) b H k)(D:cX y H=S (S aw))
  (B:∀q o,VR a.params (Sf d.heap b own) b aw o->ai o {d with toks:=d.toks+q}):MY (MX h a) f (Pc (.ref A) k) ai t d:=by
 refine Nx (MQ (PY r.is (rfl) ?_));refine MQ (Oq (name:=Tw "__getitem__") r.is Pw (N1 Pw r.is entry_dict_getitem ?_ (args_dict_getitem _ _)));show MY _ _ (PX A k >>= _) _ _ d;refine MQ (lU (own:=own) e r J D λq c P=>?_);induction c using Rx with
 |none=>exact P.elim
 |some o=>exact MZ ⟨o,rfl,MZ (B q o P)⟩
theorem xa{H:Q}{P:O Z}(D:eG H y=S P):∃e,cX y H=S e/\e.isSome=P.isSome:=by
 refine⟨_,by unfold cX;refine R D ?_;rfl,?_⟩;refine hF λp=>?_;induction P using Rx with
 |none=>exact p rfl
 |some K=>
  have G:=(dJ (fh D).2).1
  replace G:=RJ▸G
  refine kF (y[K]?) (λz=>?_) (λL z=>?_)
  ·replace G:=z▸G;cases G
  ·refine p ?_;simp[z]
theorem iE{own:V MR}{T:Z}{H:Q}{k:MN}{g:O Z}{o:MO->MV->Prop}(i:f.units+1<NA)(v:(A==OB)=MS)(r:DictAt a own b d A y C T ay)(J:VR a.params (Sf d.heap b own) b H k)(D:eG H y=S g)
  (B:∀q,o g.isSome {d with toks:=d.toks+q}):MY (MX h a) f (contains (.ref A) k) o t d:=by
 refine aM (xa D) λe X m=>Nx (MQ (Oa r.is Qy.lookup ?_));refine MQ (wpAny_callSpecialUnlessNone?_slot (name:=Tw "__contains__") r.is Qy (N1 Qy r.is entry_dict_contains ?_ (args_dict_contains _ _)));show MY _ _ (PX A k >>= _) _ _ d;refine MQ (lU (own:=own) i r J X λq c P=>?_);have B:=B q;replace B:=m.symm▸B;induction c using Rx with
 |none=>
  induction e using Rx with
  |some _=>exact P.elim
  |none=>exact MQ (wpAny_pendingKey_other v (MZ ⟨_,rfl,OA B⟩))
 |some j=>
  induction e using Rx with
  |none=>exact P.elim
  |some _=>exact MZ ⟨_,rfl,OA B⟩
theorem z9{own:V MR}{T:Z}{H:Q}{k:MN}{P:O Z}(c:f.units+1<NA)(v:(A==OB)=MS)(r:DictAt a own b d A y C T ay)(J:VR a.params (Sf d.heap b own) b H k)(D:eG H y=S P) :
  (∀o I,(∀q,o (.bool P.isSome) {d with toks:=d.toks+q})->MY (MX h a) f (Px .In k (.ref A)) o I d)/\(∀o I,(∀q,o (.bool !P.isSome) {d with toks:=d.toks+q})->MY (MX h a) f (Px .NotIn k (.ref A)) o I d):=by
 refine⟨λo I B=>?_,λo I B=>?_⟩;·exact MQ (iE (own:=own) c v r J D λq=>MZ (B q))
 ·exact MQ (iE (own:=own) c v r J D λq=>MZ (B q))
set_option tactic.hygienic true in
theorem dict_set{own:V MR}{l:V (Q×Q)}{T:Z}{H:Q}{g o:MN}{p:NO->MV->Prop}(k:f.units<NA)(r:DictAt a own b d A y C T ay)(J:VR a.params (Sf d.heap b own) b H g)(P:VR a.params (Sf d.heap b own) b aw o)(D:mV y H aw=S l)
  (B:∀q m E U e,Sw A d.heap m->m.get? A=S (bC E U)->DR a (Sf d.heap b own) b e l E.toList->(l.map (·.1)).Nodup->p () {d with heap:=m,toks:=d.toks+q}):MY (MX h a) f (dictSet A g o) p t d:=by
 unfold mV at D;have x:y.length=C.size:=by exact r.dr.len.trans RH
 split at D
 ·rename_i K z;refine hF λn=>?_;cases D;refine aM (r.dr.kind z) λe ok c=>?_;have G:=(dJ (fh z).2).1;refine n (Nx (MQ (je (own:=own) k J ok λq=>?_)));refine Nx (MQ (hZ (s:={d with toks:=d.toks+q}) (own:=own) k r.obj c r.nd J ok z ?_));refine MQ (OY (MQ (wpAny_updateDict r.obj rfl (PZ ?_))));refine B q _ (C.modify K λD=>{D with val:=o}) T e (So ..) ?_ ?_ ?_;·exact R8 _ r.obj rfl
  ·have:=c.modify (i:=K) P;obtain⟨s⟩:=C;simpa using this
  ·have:(y.modify K λD=>(D.1,aw)).map (·.1)=y.map (·.1):=by
    apply V.ext_getElem?;intro i;refine RJ.trans ?_;refine R RJ ?_;refine R (V.getElem?_modify ..) ?_;by_cases L:K=i;·subst L;cases y[K]?<;>simp
    ·simp[L]
   exact R this r.nd
 ·rename_i z;split at D
  ·rename_i Y;cases D;refine aM (r.dr.kind z) λe ok c=>?_;have j:=M5 Y;refine Nx (MQ (je (own:=own) k J ok λq=>?_));refine Nx (MQ (hZ (s:={d with toks:=d.toks+q}) (own:=own) k r.obj c r.nd J ok z ?_));refine MQ (OY (Rb r.obj rfl ?_ (by have:N0=_:=N8;exact x.symm▸qm j rfl) ?_))
   ·refine B q _ (C.push ⟨gL a H,g,o⟩) (T+1) e (So ..) ?_ ?_ ?_;·exact R8 _ r.obj rfl
    ·have:=c.snoc ok J P;obtain⟨s⟩:=C;simpa using this
    ·refine R R7 ?_;rw[Sl];refine⟨r.nd,by simp,λI v M w L=>?_⟩;simp at w;subst w;subst L;exact(dJ (fh z).2) v
   ·simp
  ·cases D
 ·cases D
theorem pb{own:V MR}{c:V (Q×Q)}{T:Z}{H:Q}{k o:MN}{g:NO->MV->Prop}(i:f.units+1<NA)(r:DictAt a own b d A y C T ay)(J:VR a.params (Sf d.heap b own) b H k)(P:VR a.params (Sf d.heap b own) b aw o)(D:mV y H aw=S c)
  (B:∀q m E x e,Sw A d.heap m->m.get? A=S (bC E x)->DR a (Sf d.heap b own) b e c E.toList->(c.map (·.1)).Nodup->g () {d with heap:=m,toks:=d.toks+q}):MY (MX h a) f (Py (.ref A) k o) g t d:=by refine Nx (MQ (PY r.is (rfl) ?_));refine MQ (Oq (name:=Tw "__setitem__") r.is Rc (N1 Rc r.is entry_dict_setitem ?_ (args_dict_setitem _ _ _)));refine MQ (Qz r.is ?_);show MY _ _ (dictSet A k o >>= _) _ _ d;exact MQ (dict_set (own:=own) i r J P D λq m E x e I M j s=>MZ ⟨.none,rfl,MZ (B q m E x e I M j s)⟩)
theorem uW(A:G->az)(T:V G):∀K:Z,(T.eraseIdx K).map A=(T.map A).eraseIdx K:=by
 induction T with
 |nil=>exact λ_=>rfl
 |cons r T d=>exact λK=>RX K rfl λK=>Nb (A r :: ·) (d K)
theorem xb{T:Z}(v:(A==OB)=MS)(r:DictAt a g b d A y C T ay)(P:y.length<1000)
  (B:∀q n,ai (.int y.length n) {d with toks:=d.toks+q}):MY (MX h a) f (N2 (.builtin "len") [.ref A]) ai t d:=by
 have s:y.length=C.size:=by exact r.dr.len.trans RH
 refine call_function_entry kind_len plain_len entry_len (args_len1 _) (MQ (m:=oneArg "len" _) (MZ ?_));refine MQ (m:=QA (.ref A) (Tw "__len__")) (Oq (name:=Tw "__len__") r.is PySem.F.slot_dict_len (N1 PySem.F.slot_dict_len r.is PySem.F.entry_dict_len ?_ (PySem.F.args_dict_len_1 _)));·show MY _ _ (dictSize A >>= λI=>NK.Dict.pendingCount A >>= λM=>_) _ _ d;refine MQ (MQ (OX r.obj rfl (MZ ?_)));unfold NK.Dict.pendingCount;refine R (Nc (by refine R v ?_;decide)) ?_;refine MQ (MZ (MQ (Pr (MZ (ba _ rfl ?_)))));refine MQ (Nx (MZ ?_));refine MQ (QB ?_);show MY _ _ (if(((C.size:Z):ML)+((0:Z):ML))≥2 ^ 63 then _ else _) _ _ _;refine R (Nc (mt S4.mp (Uo.mpr (n1 (RQ (SA _) (s▸P)) rfl)))) ?_;refine MQ (Pr (MZ (ba _ rfl ?_)));have:=B 2 (d.toks+1);rw[s] at this;exact this
theorem m9{own:V MR}{T:Z}{H:Q}{k:MN}{e:O Q}(g:f.units+1<NA)(v:(A==OB)=MS)(r:DictAt a own b d A y C T ay)(J:VR a.params (Sf d.heap b own) b H k)(D:cX y H=S e)
  (B:∀q E,VR a.params (Sf d.heap b own) b (e.getD .none) E->ai E {d with toks:=d.toks+q}):MY (MX h a) f (N2 (.builtin "dict.get") [.ref A,k]) ai t d:=by
 refine N1 PySem.F.slot_dict_get r.is PySem.F.entry_dict_get ?_ (PySem.F.args_dict_get_2 _ _);show MY _ _ (PX A k >>= _) _ _ d;refine MQ (lU (own:=own) g r J D λq c P=>?_);clear g r J D;induction c using Rx with
 |some E=>induction e using Rx with
  |some I=>exact MZ (ba E rfl (B q E P))
  |none=>exact P.elim
 |none=>induction e using Rx with
  |some _=>exact P.elim
  |none=>exact MQ (wpAny_missed_other v (MZ (ba .none rfl (B q _ .none))))
set_option tactic.hygienic true in
theorem na{own:V MR}{a1:V (Q×Q)}{ep:Z}{H:Q}{k:MN}(hu:f.units+1<NA)(r:DictAt a own b d A y C ep ay)(P:y.length<1000)(J:VR a.params (Sf d.heap b own) b H k)(D:cX y H=S (S aw))(j:uM y H=S a1)
  (B:∀L m E x e o,VR a.params (Sf d.heap b own) b aw o->Sw A d.heap m->m.get? A=S (bC E x)->DR a (Sf d.heap b own) b e a1 E.toList->(a1.map (·.1)).Nodup->ai o {d with heap:=m,toks:=d.toks+L}) :
  MY (MX h a) f (N2 (.builtin "dict.pop") [.ref A,k]) ai t d:=by
 have s:y.length=C.size:=by exact r.dr.len.trans RH
 unfold uM at j;split at j
 ·rename_i K z
  cases j
  refine aM (r.dr.kind z) λe ok c=>?_
  have G:=(dJ (fh z).2).1
  replace G:=RJ▸G
  obtain⟨q,eq⟩:∃q,y[K]? = S q:=by
   induction U:y[K]? using Rx with
   |none=>rw[U] at G;exact nomatch G
   |some q=>exact⟨q,rfl⟩
  have l:q.2=aw:=by unfold cX at D;rw[z] at D;simp only[Ud,TF,eq,VT] at D;exact D
  refine uP (c.get eq) λg o X Y Y v2=>?_
  have I:C[K]? = S ⟨gL a q.1,g,o⟩:=by simpa using X
  rw[l] at v2
  refine N1 PySem.F.slot_dict_pop r.is PySem.F.entry_dict_pop ?_ (PySem.F.args_dict_pop_2 _ _)
  refine MQ (MQ (Qz r.is ?_))
  refine MZ ?_
  have p:∀{a0:O Nr->MV->Prop},(∀D v,D.val=o->ai o v->a0 (S D) v)->MY (MX h a) f.in1 (NK.Dict.takeOut A k) a0 t d:=by
   intro a0 hP;refine Nx (MQ (je (own:=own) hu J ok λL=>MQ (hZ (s:={d with toks:=d.toks+L}) (own:=own) hu r.obj c r.nd J ok z ?_)));refine MQ (OX r.obj rfl ?_);refine R I ?_;refine MQ (Rb r.obj rfl ?_ (by have:N0=_:=N8;exact s.symm▸qm P rfl) ?_)
   ·refine MZ (hP _ _ rfl ?_);refine B L _ (C.eraseIdxIfInBounds K) (ep+1) e o v2 (So ..) (R8 _ r.obj rfl) ?_ ?_
    ·have:=c.erase K;have q:(C.eraseIdxIfInBounds K).toList=C.toList.eraseIdx K:=by
      unfold Ui;split;·simp
      ·rename_i n;rw[V.eraseIdx_of_length_le (by simpa using n)]
     exact R q this
    ·have:=r.nd;exact R (uW ..) (this.eraseIdx K)
   ·unfold Ui;split;·simp;exact R5 _ 2
    ·simp
  have T:∀M:MO,M=MS->MY (MX h a) f.in1 (do
    let w<-if M=MK then do rule "dict.pop.empty";pure N else NK.Dict.takeOut A k
    if w.isNone=MK then NK.Dict.missedRemoval A k
    match w,(N:O MN) with
    |some D,_=>do letGo [D.key] [D.val];ret D.val
    |none,S r=>do rule "dict.pop.default";ret r
    |none,N=>do rule "dict.pop.keyerror";P0 (<-newExc (.type "KeyError") [k])) (λT v=>∃aw,T=Fin.done (ND.ret aw)/\ai aw v) t d:=by
   rintro _ rfl
   refine MQ (p λD v he hq=>?_)
   exact MQ (QB (MZ (ba D.val rfl (R he hq))))
  clear c v2 s G l p hu P B eq
  induction e using DK.casesOn with
  |str=>obtain⟨i,rfl⟩:=ok;cases J;exact MQ (MZ (T MS rfl))
  |int=>obtain⟨i,rfl⟩:=ok;cases J;exact MQ (MZ (T MS rfl))
  |tup=>
   refine aM ok λvs bG ea=>?_;subst bG;cases J;refine MQ (OX r.obj rfl (MQ (MZ ?_)));have:C.isEmpty=MS:=by
    induction U:C.isEmpty using RD with
    |false=>rfl
    |true=>
     have:C = #[]:=by simpa using U
     rw[this] at I;simp at I
   exact T _ this
 ·cases j
set_option tactic.hygienic true in
noncomputable def fV(r:MP):MO:=by cases r;(case Slice=>exact MS);all_goals exact MK
theorem fW{g c:MP}{z K:MN}{x i:Od}(b:d.TypeIs z x)(l:Oe (.type x) "__getitem__"=pure (S (.builtin i)))(w:fV c=MK)(B:MY (MX h a) f (Pc z K) ai t d) :
  MY (MX h a) f (OZ g c z K) ai t d:=by
 refine MQ (R (Rd b.not_modules) (MQ (Oa b l ?_)));have P:subscripted c MS z K=operate [z,K] (Pc z K):=by induction c using T2<;>first|rfl|cases w
 have T:MY (MX h a) f (subscripted c MS z K) (λy e=>MY (MX h a) f (letTemporaryGo g z y >>= λY=>pure y) ai t e) t d:=by exact R P (Rf (Nj B (λy e p=>MQ (Rg (MZ p))) λY Y r=>r))
 first
  |exact MZ (MQ T)
  |exact MQ (MZ (MQ T))
  |exact MQ T
theorem tM{a:ML}(B:place a q=S K):(a=K/\K<q/\K<1000)\/(a = -1/\0<q/\K=q - 1):=by refine cF B (λE B=>cF B (λp B=>.inl ?_) λY B=>nX B) λY B=>cF B (λp B=>.inr (fB p.1 p.2 ((sX B).symm))) λY B=>nX B;refine dD (TP E) λH bG=>?_;clear E;subst bG;exact sX B▸(fB rfl (RT.mp p.1) (RT.mp p.2))
theorem FV(B:K<1000):(K:ML)<2 ^ 63:=ML.lt_trans (RT.mpr B) (by decide)
theorem tO(B:0<q):(-1+(q:ML))=((q - 1:Z):ML):=by refine dD (Z.exists_eq_succ_of_ne_zero (S6 B)) λH cm=>?_;subst cm;exact(Nb (-1 + ·) (ML.natCast_succ H)).trans ((ML.add_comm ..).trans (ML.add_neg_cancel_right ..))
theorem xc{a:ML}(B:place a q=S K):K<q/\-(2 ^ 63)<=a/\a<2 ^ 63/\seqIndex? a q=S K:=by
 rcases tM B with⟨rfl,p,G⟩|⟨rfl,p,rfl⟩;·exact qy p (SV (by decide) (RP K)) (FV G) (seqIndex_of (RP K) (RT.mpr p))
 ·have D:=tO p;have G:=V9 p VZ;refine qy G (by decide) (by decide) ?_;show(if(MW (0<=-1+(q:ML))&&MW (-1+(q:ML)<q))=MK then S (-1+(q:ML)).toNat else N)=_;exact R D (Na (RS.mpr ⟨Nm (RP _),Nm (RT.mpr G)⟩))
theorem qE{j:M0 MN}{b:ML}{c:NL}(l:d.heap.IsList n j)(B:place b j.size=S K)(D:j[K]? = S aa)(L:ai aa d):MY (MX h a) f (Pc (.ref n) (.int b c)) ai t d:=by
 rcases tM B with⟨rfl,p,G⟩|⟨rfl,p,rfl⟩;·exact wpAny_getItem_list l (RP K) (FV G) D L
 ·have m:=tO p;exact wpAny_getItem_list_neg l (by decide) (ML.neg_le_neg (S4.mpr p)) (by decide) (x:=aa) (m.symm▸D) L
theorem lV{j:M0 MN}(c:bN U x b z j.toList)(D:z[K]? = S aw):∃B,j[K]? = S B/\VR U x b aw B:=aM (c.get D) λB a P=>ba B (by simpa using a) P
theorem jN.sub{K v:Q}{U M:MN}{a1 L:MP}(hu:f.units+64<NA)(iv:Inv a e g b k d.heap)(c:VR a.params (Sf d.heap b g) b m U)(G:VR a.params (Sf d.heap b g) b K M)(r:fV L=MK)(D:aR k m K=S v)
  (I:∀z B,VR a.params (Sf d.heap b g) b v B->ai B {d with toks:=d.toks+z}):MY (MX h a) f (OZ a1 L U M) ai t d:=by
 have E:=λB P=>by exact I 0 B P
 induction m using Wm with
 |tup w=>induction K using Wm with
  |int H=>refine dF c.inv λm j z du C A=>?_;subst du;refine dD G.inv λn dV=>?_;subst dV;refine iU D λa0 X p=>aM (lV A p) λB s P=>qo (xc X) λY b1 b2 b3=>?_;rw[show w.length=j.size from A.len.trans RH] at b3;exact fW (ba _ C.1 rfl) slot_tuple_getitem.lookup r (Wd (dW C) b1 b2 b3 s (E B P))
  |_=>exact nX D
 |lst w=>induction K using Wm with
  |int H=>refine dF c.inv λm j z fC C A=>?_;subst fC;refine dD G.inv λn i9=>?_;subst i9;refine iU D λa0 X p=>aM (lV A p) λB s P=>?_;rw[show w.length=j.size from A.len.trans RH] at X;exact fW (ba _ C.1 rfl) QC.lookup r (qE (bb C.1) X s (E B P))
  |_=>exact nX D
 |aE H=>induction K using Wm with
  |int K=>refine aM c.inv λm jT J=>?_;subst jT;refine dD G.inv λn lP=>?_;subst lP;refine iU D λw i D=>iU D λa0 X p=>cj (iv.dt.L H w m i J) λj z o A=>aM (lV A p) λB s P=>?_;rw[show w.length=j.size from A.len.trans RH] at X;exact fW (ba _ o rfl) QC.lookup r (qE (bb o) X s (E B P))
  |_=>exact nX D
 |ab H=>exact aM c.inv λm rP J=>R rP (iU D λl i D=>iU D λa2 X p=>zX (fE iv i J) λy T dk x=>fW x.is Pw.lookup r (gr (own:=g) (Fb hu rfl) x G (X.trans (Nb S p)) I))
 |_=>exact nX D
theorem SE.sub{I K:LE}{x:MP}(k:f.units+64<NA)(r:SE h a e l c j f i I x)(C:SE h a e l c j f i K s)(w:fV s=MK):SE h a e l c j f i (.sub I K) (.Subscript x s J):=by
 intro g y b t A p G B;refine R wq (P1 ((r g y b t A p G).dg (.refl G.inv) (λI z H T U X o1 ε E L=>?_) B));refine R X (R Res.aP ?_);refine(C g H z T A p (G.on p o1)).dg o1 (λM H2 r2 o vb m o2 n d Y=>?_) L;refine R m (R Res.aP ?_);induction D:aR H2 I M using Rx with
 |none=>exact bX (D▸Y)
 |some v=>exact jN.sub k o2.inv (n.vr E) d w D λq v' P=>.ok (o2.trans (.tok o2.inv)) P
theorem ly{a:Z}{K:ML}(B:0<=K):OK a K=min K.toNat a:=by
 refine dD (TP B) λH iV=>?_;subst iV;unfold OK;refine R (Nc (TS.mpr B)) ?_;rcases Z.le_total H a with q|q;·exact R (ML.min_eq_left (S4.mpr q)) ((Vg q).symm)
 ·exact R (ML.min_eq_right (S4.mpr q)) ((V2 q).symm)
theorem qF(j:V G)(I a:Z):(j.drop (min I j.length)).take (min a j.length - min I j.length)=(j.take a).drop I:=by
 refine V.drop_take.symm.trans ?_;refine R (show j.take (min a j.length)=j.take a from V.take_eq_take_min.symm) ?_;rcases Z.le_total I j.length with B|B;·rw[Vg B]
 ·have U:(j.take a).length<=j.length:=(V.length_take_le' ..);refine R (V2 B) ?_;refine(Ut U).trans ?_;refine R (Ut (RG U B)) rfl
theorem xe(j:M0 MN)(o d:O ML)(H:∀K,o=S K->0<=K)(h:∀K,d=S K->0<=K):(P2 j o d N).toList=cut j.toList o d:=by
 unfold P2;refine R (sliceBounds_plain ..) ?_;refine R (sliceRange_one (o.elim 0 (OK j.size)) (d.elim j.size (OK j.size))) ((pick_run ..).trans ?_);have p:o.elim 0 (OK j.size)=min (o.elim 0 TQ) j.toList.length:=by
  induction o using Rx with
  |none=>simp
  |some K=>exact ly (H K rfl)
 have G:d.elim j.size (OK j.size)=min (d.elim j.toList.length TQ) j.toList.length:=by
  induction d using Rx with
  |none=>simp
  |some K=>exact ly (h K rfl)
 refine R p (R G ?_);exact qF j.toList _ _
theorem More.JM{K:bI}{w:V MR}(x:More b K w)(A:∀n∈w,n∈ax)(o:∀n∈g,n∈ax)(t:Sf p b ax n ah):Sf p K g n ah:=(fB t.1 (λU=>(x.mem.mp U).elim (λU=>t.2.2 (A n U)) t.2.1) (λU=>t.2.2 (o n U)))
theorem More.adopt{d:bI}{r:AH}{w:V MR}(x:More b d w)(K:Inv a e ax b k p)(A:∀I∈w,I∈ax)(n:w.Nodup)(o:∀I∈g,I∈ax/\I∉w)(C:oV a p d r (Sf p d g)):Inv a e g d r p:=⟨λM z D=>⟨(K.keep M z D).1,λU=>(x.mem.mp U).elim (λU=>by exact nX (((K.off M (A M U)).2)▸D)) (K.keep M z D).2⟩,x.perm.nodup_iff.mpr (Sl.mpr (fB n K.wK (λI c M f L=>by subst L;exact(K.off I (A I c)).1 f))),λI c=>⟨λU=>(x.mem.mp U).elim (o I c).2 (K.off I (o I c).1).1,(K.off I (o I c).1).2⟩,λI c=>K.ex I (o I c).1,C⟩
theorem Inv.C3{own:V MR}(K:Inv a e ax b k p)(A:n∈ax)(H:∀M∈own,M∈ax/\M≠n)
  (o:p.get? n=S (bC C q)) (E:DR a (Sf p b ax) b ay y C.toList) (c:(y.map (·.1)).Nodup):Inv a e own (b.iy n) {k with D:=k.D++[y]} p:=by
 have x:=More.D b n;have r:∀M∈[n],M∈ax:=λM w=>by exact R (Rw.mp w) A
 have T:∀M z,Sf p b ax M z->Sf p (b.iy n) own M z:=λM z t=>x.JM r (λf i=>(H f i).1) t;have f:=K.dt;refine x.adopt K r (M5 rfl) (λM w=>⟨(H M w).1,λU=>(H M w).2 (Rw.mp U)⟩) ⟨f.gW,by simp[bI.iy,f.jb],f.jQ,f.jc,λH g M X m=>?_,λH d M X m=>?_,λH g M X m=>?_,λH L h X m=>?_⟩;·exact cj (f.L H g M X m) λj q o E=>dI j q o (E.mono T x.le)
 ·rcases cU X with I|⟨rfl,rfl⟩
  ·rcases cU m with B|⟨rfl,_⟩;·exact dF (f.D H d M I B) λj q h o E c=>kU j q h o (E.mono T x.le) c
   ·rw[f.jb,Sj (Sb _)] at I;cases I
  ·rcases cU m with B|⟨_,rfl⟩;·rw[<-f.jb,Sj (Sb _)] at B;cases B
   ·exact kU C q ay o (E.mono T x.le) c
 ·exact f.B H g M X m
 ·obtain⟨o,C,q,G,E⟩:=f.I H L h X m;exact⟨o,C,q,G,E.mono T x.le⟩
theorem Inv.C4{q:MR×MR}{l:dG}{i:Z}(K:Inv a e ax b k p)(f1:q.1∈ax)(f2:q.2∈ax)(n:q.1≠q.2)(H:∀M∈g,M∈ax/\M≠q.1/\M≠q.2)
  (d:p.get? q.1=S (NC (CA l) q.2)) (A:p.get? q.2=S (bC C i)) (E:FR a.params (Sf p b ax) b (bT l) au C.toList):Inv a e g (b.uQ q) {k with I:=k.I++[(l,au)]} p:=by
 have x:=More.I b q;have r:∀M∈[q.1,q.2],M∈ax:=λM w=>by
  rcases RB.mp w with rfl|w;·exact f1
  ·exact R (Rw.mp w) f2
 have T:∀M z,Sf p b ax M z->Sf p (b.uQ q) g M z:=λM z t=>x.JM r (λl s=>(H l s).1) t;have f:=K.dt;refine x.adopt K r (by simp[n]) (λM w=>⟨(H M w).1,λU=>by
  rcases RB.mp U with U|U;·exact(H M w).2.1 U
  ·exact(H M w).2.2 (Rw.mp U)⟩) ⟨f.gW,f.jb,f.jQ,by simp[bI.uQ,f.jc],λH au M X m=>?_,λH au M X m=>?_,λH au M X m=>?_,λH P h X m=>?_⟩
 ·exact cj (f.L H au M X m) λj i o E=>dI j i o (E.mono T x.le)
 ·exact dF (f.D H au M X m) λj i h o E c=>kU j i h o (E.mono T x.le) c
 ·exact f.B H au M X m
 ·rcases cU X with I|⟨rfl,rfl⟩
  ·rcases cU m with B|⟨rfl,_⟩;·obtain⟨o,C,i,G,E⟩:=f.I H P h I B;exact⟨o,C,i,G,E.mono T x.le⟩
   ·rw[f.jc,Sj (Sb _)] at I;cases I
  ·rcases cU m with B|⟨_,rfl⟩;·rw[<-f.jc,Sj (Sb _)] at B;cases B
   ·exact⟨d,C,i,A,E.mono T x.le⟩
theorem uR.cY{own':V MR}(A:uR a g c j w b d.heap)(H:∀M∈own',M∈g\/d.heap.get? M=N)(P:∀M z,d.heap.get? M=S z->X.get? M=S z):uR a own' c j w b X:=by
 have T:∀I z,Sf d.heap b g I z->Sf X b own' I z:=λI z U=>(U.cY H).grow P;refine⟨?_,λr C D=>?_,A.len⟩;·exact aM A.ns λx n v=>ba x (n.keeps P) (λi r E e m s=>aM (v i r E e m s) λB I M=>(ba B I (M.mono T (.refl b))))
 ·exact aM (A.jO r C D) λy f v=>ba y (f.keeps P) (λi E e m s=>aM (v i E e m s) λB I M=>(ba B I (M.mono T (.refl b))))
theorem bk.cY{own':V MR}(p:bk g c j)(H:∀M∈g,M∈own'):bk own' c j:=⟨p.kind,p.glob,p.blt,H _ p.loc,λr C D=>⟨H _ (p.jO r C D).1,(p.jO r C D).2⟩,λI x=>H I (p.zY I x),p.inj,p.Fd,p.has⟩
theorem cM.cY{own':V MR}(r:cM l g aq p)(H:∀M,g.count M<=own'.count M)(P:∀M z,p.get? M=S z->X.get? M=S z):cM l own' aq X:=⟨λD x=>r.el x λa I z y q M C h o L=>⟨a,I,z,y,q,M,RG C (H I),h,P _ _ o,L⟩⟩
theorem St.cY{own':V MR}(G:St a e g l c j b k w d){tk:Z}(H:∀M∈own',M∈g\/d.heap.get? M=N)(r:∀M,g.count M<=own'.count M)(P:∀M z,d.heap.get? M=S z->X.get? M=S z)(x:∀M∈own',∃z,X.get? M=S z):St a e own' l c j b k w {d with heap:=X,toks:=tk}:=⟨G.inv.cY H P x,G.dS.cY H P,G.live.cY r P⟩
noncomputable def notStar:MP->MO
 |.Starred ..=>MS
 |_=>MK
theorem bz{D:MP}{j:V MP}(B:notStar D=MK):NR (D :: j) c=(MS,eval D c) :: NR j c:=by induction D using T2<;>first|rfl|cases B
inductive nc(prog:Nu)(w:Ni)(g₀:MU)(l:V Nf)(env:Nf)(sl:V (O MT))(A:Nv)(cf:CF):cA->V MP->Prop
 |nil:nc prog w g₀ l env sl A cf .nil []
 |cons {e:LE} {es:cA} {x:MP} {xs:V MP}:SE prog w g₀ l env sl A cf e x->notStar x=MK->nc prog w g₀ l env sl A cf es xs->nc prog w g₀ l env sl A cf (.cons e es) (x :: xs)
theorem nc.run{pos:Nh}{d:cA}{n:V MP}(r:nc h a e l c j f i d n):∀g y b t A,bk g c j->St a e g l c j y b A t->jN a e g (MX h a) f l (ID a) (O0 (NU pos (NR n c))) (bp i d A b) y t:=by
 induction r with
 |nil=>intro g y b t A p G B;exact PySem.Calls.spliced_nil (.ok (.refl G.inv) .nil)
 |@cons C d r n J w _ q=>intro g y b t A p G B;refine R fR (R (bz w) (PySem.Calls.spliced_cons ((J g y b t A p G).dg (.refl G.inv) (λI z K k U X o1 Y E D=>?_) B)));refine R X (R Res.aP ?_);refine(q g K z k A p (G.on p o1)).dg o1 (λM s x o P m o2 p2 v H=>?_) D;exact R m (.ok o2 (.cons (p2.vr E) v))
theorem jf{s:MV}(J:ah.isFreed=MS)(K:Inv a e g b k s.heap):Sf (s.heap.push ah) b g s.heap.objs.size ah:=(fB (R3 _ J) (K.fresh (bS _)) (K.no (bS _)))
theorem tP(I:MR)(t:Nk)(U:Sf d.heap b g I t):Sf (d.heap.push ah) b g I t:=U.grow λY Y D=>Rz _ D
noncomputable def j0:cA->Z
 |.nil=>0
 |.cons _ y=>j0 y+1
theorem jg{y:cA}:∀{A:Loc} {b:AH} {vs:V Q} {H':AH},bp i y A b=.ok (vs,H')->vs.length=j0 y:=by
 induction y using cA.rec (motive_1:=λY=>Np) (motive_3:=λY=>Np) with
 |nil=>intro A b vs H' D;replace D:=zP.symm.trans D;obtain⟨rfl,rfl⟩:=m6 D;rfl
 |cons D a _ d=>
  intro A b vs H' B;replace B:=fR.symm.trans B;refine BX (aO i D A b) (λP X=>?_) (λY Y X=>?_) (λX=>?_)
  ·rw[X,Res.aP] at B;refine BX (bp i a A P.2) (λL m=>?_) (λY Y m=>?_) (λm=>?_);·replace B:=m▸B;obtain⟨rfl,rfl⟩:=m6 B;show _=j0 a+1;refine SY.trans ?_;rw[d (vs:=L.1) (H':=L.2) m]
   ·replace B:=m▸B;cases B
   ·replace B:=m▸B;cases B
  ·replace B:=X▸B;cases B
  ·replace B:=X▸B;cases B
 |_=>trivial
theorem bN.length{w:V MN}(B:bN U x b z w):w.length=z.length:=B.len.symm
theorem SE.tup{y:cA}{d:V MP}{C:Z}(r:nc h a e l c j f i y d)(n:j0 y<1000):SE h a e l c j f i (.tup y) (.Tuple d C J):=by
 intro g m b t A p G B;refine R lM (wpAny_Tuple_spliced ((r.run g m b t A p G).dg (.refl G.inv) (λI z K k U X o1 Y E o=>?_) B));refine R X ?_;have s:U.length<1000:=by refine R E.length ?_;refine R (jg X) ?_;exact n
 refine⟨by have:N0=_:=N8;exact qm s rfl,.ok (o1.trans (.grown o1.inv λY Y D=>Rz _ D)) ?_⟩;exact .tup _ _ U.toArray 0 (jf rfl o1.inv) (E.mono tP (.refl K))
theorem SE.lst{y:cA}{d:V MP}(r:nc h a e l c j f i y d)(n:j0 y<1000):SE h a e l c j f i (.lst y) (.List d J):=by
 intro g m b t A p G B;replace B:=rH▸B;refine R rH ?_;refine Rh ((r.run g m b t A p G).dg (.refl G.inv) (λI z K k U X o1 Y E o=>?_) B);refine R X ?_;have s:U.length<1000:=by refine R E.length ?_;refine R (jg X) ?_;exact n
 refine⟨by have:N0=_:=N8;exact qm s rfl,.ok (o1.trans (.grown o1.inv λY Y D=>Rz _ D)) ?_⟩;exact .lst _ _ U.toArray 0 (jf rfl o1.inv) (E.mono tP (.refl K))
theorem SE.emp:SE h a e l c j f i .emp (.List [] J):=by intro g y b t d p G B;refine R CM (Rh (PySem.Calls.spliced_nil ⟨by simp,?_⟩));have A:t.heap.get? t.heap.objs.size=N:=bS _;have P:∀M z,t.heap.get? M=S z->(t.heap.push (listOf #[] 0)).get? M=S z:=λY Y D=>Rz _ D;refine .ok (r':=y.m8 t.heap.objs.size) (.mk' (G.inv.CW A P (R3 _ rfl) .nil) ((More.L y _).keep (λM w=>by refine R (Rw.mp w) ?_;exact A) P) (More.L y _).le) ?_;refine .aE _ _ ?_;exact R G.inv.dt.gW.symm fU
theorem h8{M:MO}(B:VR U x b m aa)(D:truthy m=S M):m=.bool M/\aa=.bool M:=by
 induction m using Wm with
 |bool C=>exact sX D▸⟨rfl,B.inv⟩
 |_=>exact nX D
theorem eQ:mR i af w k=(aO i af w k).bind λy=>match truthy y.1 with|some M=>.ok (M,y.2)|none=>.bad:=rfl
theorem ST.plain(d:SE h a e l c j f i af aj)(C:∀w,isTrue aj c w=(do let E<-w;standAt aj.pos;Pz [E] (PySem.truthy E))):ST h a e l c j f i af aj:=by
 intro g y b t A p G B;refine R eQ (isTrue_plain ((d g y b t A p G).dg (.refl G.inv) (λI z K k U X o1 Y m D=>?_) B) (C _));refine R X (hF λo=>kF (truthy I) (λn=>?_) (λM n=>?_));·exact bX (n▸D)
 ·refine bM (h8 m n) λbG cm=>?_;clear X m D n b A p G B d C;subst bG;subst cm;exact o (OA (.ok o1 rfl))
noncomputable def rU:MP->MO
 |.UnaryOp .Not ..|.BoolOp ..|.IfExp ..|.Compare ..=>MK
 |_=>MS
theorem pd(B:rU aj=MS)(w:Nl MN):isTrue aj c w=(do let E<-w;standAt aj.pos;Pz [E] (PySem.truthy E)):=by
 induction aj using PySem.Expr.casesOn with
 |UnaryOp o s P=>induction o using UnaryOp.casesOn<;>first|rfl|cases B
 |BoolOp=>cases B
 |IfExp=>cases B
 |Compare=>cases B
 |_=>rfl
theorem jN.step{m:Type}{h:Rel G az}{n:Nl az}{s:Res (G×AH)}{A:G×AH->Res (m×AH)}{c:az->MV->Prop}(j:jN a e g T f l h n s b d)(K:Inv a e g b k d.heap)
  (H:∀I i x o M,s=.ok (I,i)->aQ a e g [] b d x i o->h (Sf o.heap x g) x I M->A (I,i)≠.bad->c M o) (w:s.bind A≠.bad):MY T f n c (EE a e g l (s.bind A).x? b d) d:=
 j.dg (.refl K) (λI i x o M D z Y E B=>H I i x o M D z E B) w
theorem SE.and{I M:LE}{d:V MP}(r:SE h a e l c j f i I aj)(m:SE h a e l c j f i M (.BoolOp .And (s :: d) J)):SE h a e l c j f i (.and I M) (.BoolOp .And (aj :: s :: d) J):=by
 intro g y b t A p G B;refine R rJ (BoolOp_and ((r g y b t A p G).step G.inv (λI z K k U X o1 E D=>?_) B));refine R X (kF (truthy I) (λn=>?_) (λM n=>?_));·replace D:=n▸D;exact bX D
 ·refine bM (h8 E n) λdu dV=>?_
  subst du
  clear I X n B r
  subst dV
  refine OA ?_
  induction M using RD with
  |false=>exact .ok o1 E
  |true=>exact(m g K z k A p (G.on p o1)).lift o1 D
theorem SE.or{I M:LE}{d:V MP}(r:SE h a e l c j f i I aj)(m:SE h a e l c j f i M (.BoolOp .Or (s :: d) J)):SE h a e l c j f i (.or I M) (.BoolOp .Or (aj :: s :: d) J):=by
 intro g y b t A p G B;refine R wz (BoolOp_or ((r g y b t A p G).step G.inv (λI z K k U X o1 E D=>?_) B));refine R X (kF (truthy I) (λn=>?_) (λM n=>?_));·replace D:=n▸D;exact bX D
 ·refine bM (h8 E n) λfC i9=>?_
  subst fC
  clear I X n B r
  subst i9
  refine OA ?_
  induction M using RD with
  |true=>exact .ok o1 E
  |false=>exact(m g K z k A p (G.on p o1)).lift o1 D
theorem SE.one{I:LE}{o:Of}(d:SE h a e l c j f i I aj):SE h a e l c j f i I (.BoolOp o [aj] J):=λg y b t A p G B=>BoolOp_one (d g y b t A p G B)
theorem tQ{I M:LE}:mR i (.and I M) w k=(mR i I w k).bind λL=>if L.1 then mR i M w L.2 else .ok (MS,L.2):=by
 refine eQ.trans ((bL rJ).trans (R eQ ?_));cases aO i I w k with
 |ok P=>
  dsimp only[Res.aP]
  induction n:truthy P.1 using Rx with
  |none=>rfl
  |some C=>induction C using RD with
   |true=>rfl
   |false=>exact Res.aP.trans (R n rfl)
 |exc _ _=>rfl
 |bad=>rfl
theorem xg{I M:LE}:mR i (.or I M) w k=(mR i I w k).bind λL=>if L.1 then .ok (MK,L.2) else mR i M w L.2:=by
 refine eQ.trans ((bL wz).trans (R eQ ?_));cases aO i I w k with
 |ok P=>
  dsimp only[Res.aP]
  induction n:truthy P.1 using Rx with
  |none=>rfl
  |some C=>induction C using RD with
   |false=>rfl
   |true=>exact Res.aP.trans (R n rfl)
 |exc _ _=>rfl
 |bad=>rfl
theorem tR{I:LE}:mR i (.not I) w k=(mR i I w k).bind λL=>.ok (!L.1,L.2):=by
 refine eQ.trans ((bL rK).trans (R eQ ?_));cases aO i I w k with
 |ok P=>
  dsimp only[Res.aP]
  induction n:truthy P.1 using Rx with
  |none=>rfl
  |some C=>rfl
 |exc _ _=>rfl
 |bad=>rfl
theorem ST.one{I:LE}{o:Of}(d:ST h a e l c j f i I aj):ST h a e l c j f i I (.BoolOp o [aj] J):=by
 intro g y b t A p G B;induction o using Of.casesOn with
 |And=>
  refine isTrue_and (Nj (d g y b t A p G B) (λC k L=>?_) λY Y D=>D)
  induction C using RD with
  |true=>exact isTrue_and_nil L
  |false=>exact L
 |Or=>
  refine isTrue_or (Nj (d g y b t A p G B) (λC k L=>?_) λY Y D=>D)
  induction C using RD with
  |false=>exact isTrue_or_nil L
  |true=>exact L
theorem ST.and{I M:LE}{d:V MP}(r:ST h a e l c j f i I aj)(m:ST h a e l c j f i M (.BoolOp .And (s :: d) J)):ST h a e l c j f i (.and I M) (.BoolOp .And (aj :: s :: d) J):=by
 intro g y b t A p G B;rw[tQ] at B;refine R tQ ?_;refine isTrue_and ((r g y b t A p G).step G.inv (λI z K k U X o1 E D=>?_) B);obtain rfl:I=U:=E;refine R X ?_;clear X B r;induction I using RD with
 |true=>exact(m g K z k A p (G.on p o1)).lift o1 D
 |false=>exact .ok o1 rfl
theorem ST.or{I M:LE}{d:V MP}(r:ST h a e l c j f i I aj)(m:ST h a e l c j f i M (.BoolOp .Or (s :: d) J)):ST h a e l c j f i (.or I M) (.BoolOp .Or (aj :: s :: d) J):=by
 intro g y b t A p G B;rw[xg] at B;refine R xg ?_;refine isTrue_or ((r g y b t A p G).step G.inv (λI z K k U X o1 E D=>?_) B);obtain rfl:I=U:=E;refine R X ?_;clear X B r;induction I using RD with
 |false=>exact(m g K z k A p (G.on p o1)).lift o1 D
 |true=>exact .ok o1 rfl
theorem ST.not{I:LE}(d:ST h a e l c j f i I aj):ST h a e l c j f i (.not I) (.UnaryOp .Not aj J):=by intro g y b t A p G B;rw[tR] at B;refine R tR ?_;refine isTrue_not ((d g y b t A p G).step G.inv (λI z K k U X o1 E D=>?_) B);obtain rfl:I=U:=E;exact R X (.ok o1 rfl)
theorem SE.not{I:LE}(d:SE h a e l c j f i I aj):SE h a e l c j f i (.not I) (.UnaryOp .Not aj J):=by
 intro g y b t A p G B;refine R rK (UnaryOp_ ((d g y b t A p G).step G.inv (λI z K k U X o1 E D=>?_) B));refine R X (hF λo=>kF (truthy I) (λn=>?_) (λM n=>?_));·exact bX (n▸D)
 ·refine bM (h8 E n) λjT lP=>?_;subst jT;clear I X E D n b A p G B d;subst lP;exact o (not_of (OA (.ok o1 (.bool _))))
theorem SE.neg{I:LE}(d:SE h a e l c j f i I aj):SE h a e l c j f i (.neg I) (.UnaryOp .USub aj J):=by intro g y b t A p G B;refine R wA (UnaryOp_ ((d g y b t A p G).step G.inv (λI z m k U X o1 E D=>?_) B));refine R X ?_;clear X b A p G B d;refine dD (FH D) λK L=>?_;subst L;obtain⟨n,rfl⟩:=E.inv;exact Wh (.ok (o1.trans (.tok o1.inv)) (.int _ _))
theorem tS{C I M:LE}:aO i (.ite C I M) w k=(mR i C w k).bind λL=>if L.1 then aO i I w L.2 else aO i M w L.2:=by
 refine rL.trans (R eQ ?_);cases aO i C w k with
 |ok P=>
  dsimp only[Res.aP]
  induction n:truthy P.1 using Rx with
  |none=>rfl
  |some C=>induction C using RD<;>rfl
 |exc _ _=>rfl
 |bad=>rfl
theorem SE.ite{C I M:LE}{U:MP}(d:ST h a e l c j f i C aj)(r:SE h a e l c j f i I s)(n:SE h a e l c j f i M U):SE h a e l c j f i (.ite C I M) (.IfExp aj s U J):=by
 intro g y b t A p G B;rw[tS] at B;refine R tS ?_;refine IfExp_ ((d g y b t A p G).step G.inv (λL z K k m X o1 E D=>?_) B);obtain rfl:L=m:=E;refine R X ?_;clear X B d;induction L using RD with
 |true=>exact(r g K z k A p (G.on p o1)).lift o1 D
 |false=>exact(n g K z k A p (G.on p o1)).lift o1 D
theorem tT{C I M:LE}:mR i (.ite C I M) w k=(mR i C w k).bind λL=>if L.1 then mR i I w L.2 else mR i M w L.2:=by
 refine eQ.trans ((bL rL).trans (R eQ ?_));cases aO i C w k with
 |ok P=>
  dsimp only[Res.aP]
  induction n:truthy P.1 using Rx with
  |none=>rfl
  |some C=>induction C using RD<;>rfl
 |exc _ _=>rfl
 |bad=>rfl
theorem ST.ite{C I M:LE}{U:MP}(d:ST h a e l c j f i C aj)(r:ST h a e l c j f i I s)(n:ST h a e l c j f i M U):ST h a e l c j f i (.ite C I M) (.IfExp aj s U J):=by
 intro g y b t A p G B;rw[tT] at B;refine R tT ?_;refine isTrue_IfExp ((d g y b t A p G).step G.inv (λL z K k m X o1 E D=>?_) B);obtain rfl:L=m:=E;refine R X ?_;clear X B d;induction L using RD with
 |true=>exact(r g K z k A p (G.on p o1)).lift o1 D
 |false=>exact(n g K z k A p (G.on p o1)).lift o1 D
noncomputable def jh:zL->CmpOp
 |.eq=>.Eq|.ne=>.NotEq|.lt=>.Lt|.le=>.LtE|.gt=>.Gt|.ge=>.GtE|.is=>.Is|.kA=>.IsNot|.in=>.In|.qr=>.NotIn
structure kV(g₀:MU):Prop where
 mods:∃o,g₀.get? OB=S o
theorem kV.ne(x:kV e)(K:Inv a e g b k d.heap)(B:n∈b.M):(n==OB)=MS:=by refine dD x.mods λz D=>?_;have:=(K.keep _ z D).2;rw[OI];rintro rfl;exact this B
theorem rV(D:gq m au=S am):∃T,m=.bx T:=by
 refine hF λz=>?_;induction m using Wm with
 |bx T=>exact z ⟨T,rfl⟩
 |_=>induction au using RC<;>exact nX D
theorem qG{T:V Z}(D:gq (.bx T) (m :: au)=S am):∃x o,m=.bx x/\gq (.bx T) au=S o/\(x==T||o)=am:=by
 induction m using Wm with
 |bx x=>obtain⟨o,D,B⟩:=Sa.mp D;exact qu x o rfl D B
 |_=>exact nX D
noncomputable def hasB(T:V Z):MN->MO
 |.bytes M _=>M.toList.map SK==T
 |_=>MS
theorem uX{T:V Z}:∀{C:MO} {j:V MN},gq (.bx T) au=S C->bN U x b au j->
  (∀s∈j,∃M n,s=.bytes M n)/\C=j.any (hasB T):=by
 induction au with
 |nil=>intro C j D B;obtain rfl:=B.inv;exact⟨λs J=>(nomatch J),(sX D).symm⟩
 |cons I au d=>
  intro C j D B;refine m5 B.inv λY c rP p G=>?_;clear B;subst rP;refine m5 (qG D) λa o iV m lR=>?_;clear D;subst iV;subst lR;refine cj p.inv λM n lS v=>?_;clear p;subst lS;refine bM (d m G) λX rR=>?_;clear G m;subst rR;refine⟨λs J=>?_,v▸rfl⟩;rcases RB.mp J with rfl|J;·exact wa M n rfl
  ·exact X s J
theorem uY(B:VR U x b m aa):isNone m=N\/isNone m=S (aa==.none)/\plainIs aa .none=MK:=VR.casesOn (motive_1:=λm aa Y=>isNone m=N\/isNone m=S (aa==.none)/\plainIs aa .none=MK) B (.inr ⟨rfl,rfl⟩) (λY=>.inr ⟨rfl,rfl⟩) (λY Y=>.inr ⟨rfl,rfl⟩) (λY Y Y=>.inr ⟨rfl,rfl⟩) (λY Y Y Y=>.inr ⟨rfl,rfl⟩) (λY=>.inr ⟨rfl,rfl⟩) (λY=>.inr ⟨rfl,rfl⟩) (λY Y Y=>.inr ⟨rfl,rfl⟩) (λY Y Y=>.inr ⟨rfl,rfl⟩) (λY Y Y=>.inr ⟨rfl,rfl⟩) (λY Y Y Y=>.inr ⟨rfl,rfl⟩) (λY Y Y Y Y Y=>.inr ⟨rfl,rfl⟩) (λY Y Y Y Y Y=>.inr ⟨rfl,rfl⟩) (λY Y Y Y Y Y Y Y Y=>.inr ⟨rfl,rfl⟩) (λY Y Y Y Y Y Y Y Y Y Y Y=>.inl rfl)
theorem is_none{M:Q}{c:MN}(a:VR U x b m c)(w:VR U x b M aa)(D:(match (generalizing:=false) M with|.none=>isNone m|_=>N)=S am):aa=.none/\plainIs c .none=MK/\(c==.none)=am:=by
 induction M using Wm with
 |none=>
  refine⟨w.inv,?_⟩;rcases uY a with B|⟨B,L⟩;·exact nX (B.symm.trans D)
  ·exact⟨L,sX (B.symm.trans D)⟩
 |_=>exact nX D
theorem pe{M:Q}{c:MN}{f:ML->ML->O MO}(a:VR U x b m c)(w:VR U x b M aa)(D:(match (generalizing:=false) m,M with|.int r,.int s=>f r s|_,_=>N)=S am):∃r s n X,c=.int r n/\aa=.int s X/\f r s=S am:=by
 induction m using Wm with
 |int r=>induction M using Wm with
  |int s=>obtain⟨n,B⟩:=a.inv;obtain⟨X,d⟩:=w.inv;exact Iy r s n X B d D
  |_=>exact nX D
 |_=>exact nX D
theorem FW{M:Q}(D:E9 k m M=S am):(∃w T,M=.lst w/\m=.bx T/\gq (.bx T) w=S am)\/∃H l P,M=.ab H/\k.D[H]? = S l/\eG m l=S P/\P.isSome=am:=by
 induction M using Wm with
 |lst w=>obtain⟨T,rfl⟩:=rV D;exact .inl (qu w T rfl rfl D)
 |ab H=>exact iU D λl i X=>wg X λP a s=>.inr (zF H l P rfl i a s)
 |_=>exact nX D
theorem xj{M:Q}{U P:MN}(x:f.units+64<NA)(v:kV e)(K:Inv a e g b k d.heap)(c:VR a.params (Sf d.heap b g) b m U)(w:VR a.params (Sf d.heap b g) b M P)(D:E9 k m M=S am) :
  (∀o I,(∀t,o (.bool am) {d with toks:=d.toks+t})->MY (MX h a) f (Px .In U P) o I d)/\(∀o I,(∀t,o (.bool !am) {d with toks:=d.toks+t})->MY (MX h a) f (Px .NotIn U P) o I d):=by
 refine hF λz=>?_;rcases FW D with⟨vs,T,rfl,rfl,D⟩|⟨H,as,a1,rfl,i,Y,rfl⟩
 ·refine dF w.inv λr j t oZ sx A=>?_;subst oZ;refine cj c.inv λM n pa l=>?_;subst pa;refine bM (uX D A) λp G=>?_;have C:∀s,s∈j->EqAt f.in1 d s (.bytes M n) (hasB T s):=λs J=>by refine mQ (p s (M0.mem_toList_iff.mpr J)) λb' X rT=>?_;clear J;subst rT;exact λh a I o B=>PySem.W.eqBool_bytes ((oX rfl l).symm▸B)
  have L:=G.trans (V3 ..);clear A l p G x D;subst L;exact z ⟨λo I B=>in_listAt _ (bb sx.1) C (B 0),λo I B=>notIn_listAt _ (bb sx.1) C (B 0)⟩
 ·refine aM w.inv λa0 w' E=>?_;clear w D;subst w';exact zX (fE K i E) λy ep dk r=>z (z9 (own:=g) (Fb x rfl) (v.ne K (fS E)) r c Y)
theorem tU{l:zL}{M:Q}{U p:MN}(i:f.units+64<NA)(v:kV e)(K:Inv a e g b k d.heap)(c:VR a.params (Sf d.heap b g) b m U)(w:VR a.params (Sf d.heap b g) b M p)(D:ct k l m M=S am)
  (B:∀x,ai (.bool am) {d with toks:=d.toks+x}):MY (MX h a) f (Px (jh l) U p) ai t d:=by
 have E:ai (.bool am) d:=B 0;induction l using zL.casesOn with
 |eq=>exact(wZ K i c w D).1 h a t ai E
 |ne=>refine wg D λo j C1=>?_;subst C1;exact(wZ K i c w j).2 h a t ai E
 |is=>obtain⟨rfl,P,rfl⟩:=is_none c w D;exact wpAny_is_plain P E
 |kA=>
  have D:(match (generalizing:=false) M with|.none=>(isNone m).map (!·)|_=>N)=S am:=D
  refine hF λH=>?_
  obtain⟨o,j,rfl⟩:∃o,(match (generalizing:=false) M with|.none=>isNone m|_=>N)=S o/\(!o)=am:=by
   induction M using Wm with
   |none=>exact Sa.mp D
   |_=>exact nX D
  refine fM (is_none c w j) λFX P FY=>?_
  subst FX
  subst FY
  exact H (wpAny_isNot_plain P E)
 |«in»=>exact(xj i v K c w D).1 ai t B
 |qr=>refine wg D λo j C2=>?_;subst C2;exact(xj i v K c w j).2 ai t B
 |lt=>obtain⟨r,s,n,X,rfl,rfl,D⟩:=pe (f:=wm .lt) c w D;exact Wi ((sX D).symm▸E)
 |le=>obtain⟨r,s,n,X,rfl,rfl,D⟩:=pe (f:=wm .le) c w D;exact Wj ((sX D).symm▸E)
 |gt=>obtain⟨r,s,n,X,rfl,rfl,D⟩:=pe (f:=wm .gt) c w D;exact Wk ((sX D).symm▸E)
 |ge=>obtain⟨r,s,n,X,rfl,rfl,D⟩:=pe (f:=wm .ge) c w D;exact Wl ((sX D).symm▸E)
theorem SE.cmp{z:zL}{I M:LE}(k:f.units+64<NA)(hm:kV e)(r:SE h a e l c j f i I aj)(d:SE h a e l c j f i M s)(w:P4 (jh z) s=MS):SE h a e l c j f i (.cmp z I M) (.Compare aj [jh z] [s] J):=by
 intro g y b t A p G B;refine R rI (wpAny_Compare1 ((r g y b t A p G).step G.inv (λI H1 K L U X o1 E H=>?_) B) w);refine R X (R Res.aP ?_);refine(d g K H1 L A p (G.on p o1)).dg o1 (λM T x o P m o2 n v Y=>?_) H;refine R m (R Res.aP ?_);induction D:ct T z I M using Rx with
 |none=>exact bX (D▸Y)
 |some C=>exact tU k hm o2.inv (n.vr E) v D λq=>.ok (o2.trans (.tok o2.inv)) (.bool C)
theorem ST.cmp{z:zL}{I M:LE}(k:f.units+64<NA)(hm:kV e)(r:SE h a e l c j f i I aj)(d:SE h a e l c j f i M s)(w:P4 (jh z) s=MS):ST h a e l c j f i (.cmp z I M) (.Compare aj [jh z] [s] J):=by
 intro g y b t A p G B;have Y:mR i (.cmp z I M) A b=(aO i I A b).bind λy=>(aO i M A y.2).bind λL=>match ct L.2 z y.1 L.1 with|some E=>.ok (E,L.2)|none=>.bad:=by
  refine eQ.trans ((bL rI).trans ?_)
  cases aO i I A b with
  |ok P=>
   dsimp only[Res.aP]
   cases aO i M A P.2 with
   |ok L=>dsimp only[Res.aP];induction(ct L.2 z P.1 L.1) using Rx<;>rfl
   |exc _ _=>rfl
   |bad=>rfl
  |exc _ _=>rfl
  |bad=>rfl
 rw[Y] at B;refine R Y ?_;refine wpAny_isTrue_Compare1 ((r g y b t A p G).step G.inv (λI H1 K T U X o1 v1 H=>?_) B) w;refine R X (R Res.aP ?_);refine(d g K H1 T A p (G.on p o1)).dg o1 (λM H2 x o vb m o2 n v a0=>?_) H;refine R m (R Res.aP ?_);induction D:ct H2 z I M using Rx with
 |none=>exact bX (D▸a0)
 |some C=>exact tU k hm o2.inv (n.vr v1) v D λq=>OA (.ok (o2.trans (.tok o2.inv)) rfl)
structure Ff(K:Nz):Prop where
 ga:∀c,c≠.bR->N7 K (.ref (CA c)) "__getattribute__"=S (S (.builtin "object.__getattribute__"))
 Hw:∀c,c≠.bR->N7 K (.ref (CA c)) "__getattr__"=S N
 cls:∀c,∃cd,OC K (CA c)=S cd/\cd.hasDict=MK
 IJ:∀c,c≠.bR->∀k∈bT c,N7 K (.ref (CA c)) (sx k)=S N
 aU:∀c m f,oM c m=S f->m≠26->c≠.bR/\f<60/\m<NS/\m∉bT c/\N7 K (.ref (CA c)) (sx m)=S (S (.ref (FA f)))
 fn:∀k,k<60->Ob K (.ref (FA k))=S (.type "function")/\Pd K (.ref (FA k))=MK
 BY:∀c,Pd K (.ref (CA c))=MK
 lvl:N7 K (.ref (CA .Mem)) (sx 26)=S (S (.ref 359))/\P5 K (.ref 359) "__get__"=S (S (.builtin "property.__get__"))/\takesIn K (.ref 359)=S MK/\∃rest,recIn K 359 "property"=S (.ref (FA 20) :: rest)
structure C5(K:Nz):Prop where
 sa:∀c,c≠.bR->N7 K (.ref (CA c)) "__setattr__"=S (S (.builtin "object.__setattr__"))/\plainOver K (CA c)=MK
 xk:∀c,c≠.bR->∀k∈bT c,PA K (CA c) (sx k)=S N
structure uZ(K:Nz):Prop where
 ga:N7 K (.ref (CA .bR)) "__getattribute__"=S (S (.builtin "BaseException.__getattribute__"))
 Hw:N7 K (.ref (CA .bR)) "__getattr__"=S N
 IJ:∀k∈bT .bR,N7 K (.ref (CA .bR)) (sx k)=S N
 sub:mroIn K (CA .bR) (.type "BaseException")=S MK
 cls:∃cd,OC K (CA .bR)=S cd/\cd.hasDict=MK
theorem gs:∀C,∀H∈bT C,H<NS:=by intro C;induction C using dG.casesOn<;>decide +kernel
theorem lz:∀C,(bT C).Nodup:=by intro C;induction C using dG.casesOn<;>decide +kernel
theorem C6{I:Z}:∀{T:V Z} {K:Z},Hn I T=S K->T[K]? = S I:=by
 intro T;induction T with
 |nil=>intro _ B;exact nomatch B
 |cons M y f=>
  intro K B;replace B:(if I==M then S 0 else(Hn I y).map (· + 1))=S K:=B;refine wb (I==M) (λD=>?_) (λD=>?_);·replace B:=D▸B;exact wg B λi p bG=>R bG.symm (f p)
  ·replace B:=D▸B;obtain rfl:=Sk B;refine R (N9.mp D) ?_;rfl
theorem z'{C:dG}(B:C≠.bR):Fp C=bT C:=by induction C using dG.casesOn<;>first|rfl|exact(B rfl).elim
theorem nR(I:Z):gH .bR I=N:=rfl
theorem qH{C:dG}{I:Z}(B:gH C I=S ag):(bT C)[ag]? = S I:=by
 have:C≠.bR:=λD=>by exact nX (D▸B)
 exact R (z' this).symm (C6 B)
structure bo(hd:O MN)(n:Z)(A:Nv)(l:V Nf):Prop where
 handled:A.handled=hd
 frames:A.frames=S l
 depth:A.depth+4*n+8<QD
 units:A.units+20*n+200<NA
theorem bo.in1(B:bo bh (q+1) f l):bo bh q f.in1 l:=⟨B.handled,B.frames,KA B.depth,FG B.units rfl⟩
theorem bo.less{x:Z}(B:bo bh q f l)(H:x<=q):bo bh x f l:=⟨B.handled,B.frames,JB H B.depth,JB H B.units⟩
theorem FR.find(n:ae.Nodup)(e:∀H∈ae,H<NS):∀{l:V Q} {y:V Nr} {K H:Z} {I:Q},FR U x b ae l y->ae[K]? = S H->l[K]? = S I->
  ∃D,y.find? (λD=>D.key.isStr (sx H))=S D/\VR U x b I D.val:=by
 induction ae with
 |nil=>intro l y K H I B D;exact nX D
 |cons r ae d=>
  intro l y K H I B D j
  rw[RV] at n
  cases B with
  |@cons _ w P t _ l y p G=>
   induction K using RX with
   |zero=>obtain rfl:=sX D;obtain rfl:=sX j;exact ba ⟨Sr U (sx r),.str (sx r) t,P⟩ (by refine Vh.trans ?_;simp[MN.isStr]) p
   |succ K=>
    simp only[V.getElem?_cons_succ] at D j;refine aM (d n.2 (λH J=>e H (.tail _ J)) G D j) λg X m=>ba g ?_ m;refine Vh.trans ?_;have J:=RI D;have:(MN.str (sx r) t).isStr (sx H)=MS:=by refine(jV (e r (.head _)) (e H (.tail _ J))).trans ?_;rw[OI];rintro rfl;exact n.1 J
    exact R this X
theorem FR.none(e:∀H∈ae,H<NS):∀{l:V Q} {y:V Nr} {H:Z},FR U x b ae l y->H<NS->H∉ae->y.find? (λD=>D.key.isStr (sx H))=N/\y.any (·.refKey)=MS:=by
 induction ae with
 |nil=>intro l y H B _ _;cases B;exact⟨rfl,rfl⟩
 |cons r ae d=>
  intro l y H B J n
  cases B with
  |@cons _ w P t _ l y p G=>
   refine bM (d (λH J=>e H (.tail _ J)) G J λa=>n (.tail _ a)) λX m=>?_;refine⟨?_,by refine VC.trans ?_;refine m.trans ?_;rfl⟩;refine Vh.trans ?_;have:(MN.str (sx r) t).isStr (sx H)=MS:=by refine(jV (e r (.head _)) J).trans ?_;rw[OI];rintro rfl;exact n (.head _)
   exact R this X
theorem VR.handed(B:VR U x b m aa):handedIn aa=MK:=by induction B using VR.casesOn<;>rfl
theorem kH{J:MT}{D:Nr}(B:C.toList.find? (λD=>D.key.isStr J)=S D):PB J (bC C q)=S (S D.val):=by unfold PB;simp only[B]
theorem qI{J:MT}(B:C.toList.find? (λD=>D.key.isStr J)=N)(m:C.toList.any (·.refKey)=MS):PB J (bC C q)=S N:=by unfold PB;simp only[B,m,SR,Oi]
structure iG(s:MV)(x d:MR)(c:dG)(es:M0 Nr)(n:Z):Prop where
 x:s.heap.get? x=S (NC (CA c) d)
 d:s.heap.get? d=S (bC es n)
theorem iG.inst{r:MR}{a:dG}(B:iG d r A a C q):InstAt d.heap r (NC (CA a) A) (CA a) (S (bC C q)):=⟨B.x,rfl,rfl,B.d⟩
theorem iG.tok{r:MR}{a:dG}{b:Z}(B:iG d r A a C q):iG {d with toks:=b} r A a C q:=⟨B.x,B.d⟩
theorem tV{r:MR}{c:dG}{I:Z}{S:SP}{o:MO}(z:Ff v)(l:v.In d.heap)(j:c≠.bR)(k:iG d r A c C q)(n:FR a.params S b (bT c) au C.toList)(D:gH c I=some ag)(Y:au[ag]? = some aw)
  (e:∀B,VR a.params S b aw B->ai B {d with toks:=d.toks+1}):MY (MX h a) f (Pe (.ref r) (sx I) o) ai t d:=by
 have J:=qH D;refine aM (n.find (lz c) (gs c) J Y) λg X m=>aM (z.cls c) λK p G=>?_;have M:findObj v (CA c) (some (bC C q)) (sx I)=some (.value g.val):=by refine(oL p).trans ?_;refine(TF ..).trans ?_;refine(oL (z.IJ c j I (RI J))).trans ?_;refine(TF ..).trans ?_;have i:Wb K (some (bC C q)) (sx I)=some (some g.val):=(Na G).trans (kH X);show Vl (Wb K (some (bC C q)) (sx I)) _=_;refine(oL i).trans ?_;rfl
 exact get_value l k.inst (z.ga c j) M m.handed (e _ m)
noncomputable def fG:Key->MR
 |.fn H=>FA H
 |.cls C=>CA C
noncomputable def RR(a:Ni)(d:MU)(g:V MR)(T:V Nf)(e:Res (Q×AH))(y:bI)(t:MV):NP->MV->Prop:=λr v=>match r with
 |.ok (.ret E)=>QQ a d g (lO a) [] e y t E v
 |.ok _=>Nw
 |.error D=>EE a d g T e.x? y t D v
structure iz(prog:Nu)(w:Ni)(g₀:MU)(hd:O MN)(cf:CF)(n:Z):Prop where
 run:∀own l A key args H r s vs,bo hd n A l->Inv w g₀ own r H s.heap->cM l own [] s.heap->bN w.params (Sf s.heap r own) r args vs->cf key args H≠.bad->
  NJ (MX prog w) A (.call (.ref (fG key)) ⟨vs,[]⟩) (RR w g₀ own l (cf key args H) r s) s
structure Gr(K:Nz)(g₀:MU)(p:Nu)(loose:V MT)(mg mb:MT->O MN):Prop where
 ok:Ff K
 X:K.In g₀
 T:TopRead p loose mg mb g₀
 mods:kV g₀
 err:uZ K
 set:C5 K
noncomputable def eJ:MP->MO
 |.Call (.Name _ _) [] [] _=>MS
 |_=>MK
theorem gu{I:MT}{w:Nl MN}(B:eJ aj=MK):attributeBase aj I c w=w:=by
 induction aj using PySem.Expr.casesOn with
 |Call A j k P=>
  induction A using PySem.Expr.casesOn with
  |Name J L=>
   induction j using RC with
   |nil=>induction k using RC with
    |nil=>exact Ng B RW
    |cons _ _=>exact Eq.refl w
   |cons _ _=>exact Eq.refl w
  |_=>exact Eq.refl w
 |_=>exact Eq.refl w
theorem Gr.In(C:Gr v e P be bg bf)(K:Inv a e g b k d.heap):v.In d.heap:=C.X.keeps λM z D=>(K.keep M z D).1
theorem SE.gl{env:Nf}{loc:Loc}(C:Gr v e P be bg bf)(o:NY v NN r=S (S aa))(x:env.kindOf r=S .globalImplicit)(q:(r==("__debug__":MT))=MS)(d:∀b,aO i af loc b=.ok (m,b))(c:∀{T y},VR a.params T y m aa) :
  ∀g y b t,bk g env j->St a e g l env j y b loc t->jN a e g (MX h a) f l (lO a) (eval (.Name r J) env) (aO i af loc b) y t:=by intro g y b t p G B;refine R (d ..) ?_;exact PC p.kind x (P6 (env:=env) (R p.glob (C.T.g.keeps λM z af=>(G.inv.keep M z af).1)) (mg_of C.X C.T.g o) (.ok (.refl G.inv) c)) q
theorem SE.gf{A:Z}(C:Gr v e P be bg bf)(o:NY v NN r=S (S (.ref (FA A))))(x:c.kindOf r=S .globalImplicit)(q:(r==("__debug__":MT))=MS):SE h a e l c j f i (.gf A) (.Name r J):=λg y b t d p G=>SE.gl (loc:=d) C o x q (λb=>rfl) (.fn A) g y b t p G
theorem SE.gc{C:dG}(d:Gr v e P be bg bf)(o:NY v NN r=S (S (.ref (CA C))))(x:c.kindOf r=S .globalImplicit)(q:(r==("__debug__":MT))=MS):SE h a e l c j f i (.gc C) (.Name r J):=λg y b t A p G=>SE.gl (loc:=A) d o x q (λb=>rfl) (.cls C) g y b t p G
theorem SE.gi{K:ML}{n:NL}{d:Z}(C:Gr v e P be bg bf)(o:NY v NN r=S (S (.int K n)))(x:c.kindOf r=S .globalImplicit)(q:(r==("__debug__":MT))=MS):SE h a e l c j f i (.gi d K) (.Name r J):=λg y b t A p G=>SE.gl (loc:=A) C o x q (λb=>rfl) (.int K n) g y b t p G
theorem lA(K:Inv a e g b k d.heap){C:dG}(J:b.I[H]? = S (n,A))(D:k.I[H]? = S (C,au)):∃y q,iG d n A C y q/\FR a.params (Sf d.heap b g) b (bT C) au y.toList:=by refine hF λp=>?_;obtain⟨o,y,q,G,c⟩:=K.dt.I H _ _ D J;exact p (dI y q ⟨o,G⟩ c)
theorem nS(l:handedIn aa=MK)(B:ai aa d):MY T f (handedOut aa) ai t d:=by exact R (handedOut_of l) (MZ B)
theorem Aa{s:MV}{r:MR}{x:Z}{e:MO}(z:Ff v)(b:v.In s.heap)(d:iG s r A .Mem C x)
  (B:NJ (MX h a) f.in1 (.call (.ref (FA 20)) ⟨[.ref r],[]⟩) (λy c=>match y with|.ok (.ret E)=>handedIn E=MK/\ai E c|.ok _=>Nw|.error D=>Nw) {s with toks:=s.toks+1}) :
  MY (MX h a) f (Pe (.ref r) (sx 26) e) ai t s:=by
 refine hF λn=>?_;obtain⟨p,G,T,j,X⟩:=z.lvl;refine aM (z.cls .Mem) λK k m=>?_;have M:findObj v (CA .Mem) (S (bC C x)) (sx 26)=S (.bind (.builtin "property.__get__") (.ref 359)):=by refine(oL k).trans ((oL p).trans ?_);show Vl (P5 v (.ref 359) "__get__") _=_;refine(oL G).trans ?_;show Vl (takesIn v (.ref 359)) _=_;refine(oL T).trans rfl
 refine n (get_bind b d.inst (z.ga .Mem (by decide)) M (z.Hw .Mem (by decide)) (OL (O1 (prop_get (s:={s with toks:=s.toks+1}) b X B) λy c U=>?_)));rcases y with D|(E|_|_|_);·exact U.elim
 ·exact U.elim
 ·exact U.elim
 ·exact U.elim
 ·exact nS U.1 U.2
section
open Builtin Builtin.ObjectAttr
theorem pg:Slot "BaseException" "__getattribute__" "BaseException.__getattribute__":=.of (owner:="BaseException") (n:="__getattribute__") (by refine(Oc ..).trans ?_;refine R P7 ?_;kernel_rfl) (by decide +kernel) (by decide +kernel) (by decide +kernel) (by first|exact .inl (by decide +kernel)|exact .inr (rfl +kernel)) (by refine(Ot ..).trans ?_;kernel_rfl)
theorem Ab{r:MR}{y:Nk}{I:Z}{w:V Q}{S:SP}{T:MO}(z:uZ v)(E:v.In d.heap)(x:d.heap.get? r=some y)(j:y.cls=.ref (CA .bR))(P:y.dict=some A)(J:∃w,y.data=.fields w)(H:d.heap.get? A=some (bC C q))
  (U:FR a.params S b (bT .bR) w C.toList) (D:(bT .bR)[ag]? = some I) (Y:w[ag]? = some aw)
  (a0:∀B,VR a.params S b aw B->ai B {d with toks:=d.toks+1}):MY (MX h a) f (Pe (.ref r) (sx I) T) ai t d:=by
 refine aM (U.find (lz .bR) (gs .bR) D Y) λg X m=>?_;refine aM z.cls λK p G=>?_;have k:InstAt d.heap r y (CA .bR) (some (bC C q)):=⟨x,j,by obtain⟨w,L⟩:=J;unfold notCls;refine R L rfl,by refine R P ?_;exact H⟩;have fo:findObj v (CA .bR) (some (bC C q)) (sx I)=some (.value g.val):=by refine(oL p).trans ?_;refine(TF ..).trans ?_;refine(oL (z.IJ I (RI D))).trans ?_;refine(TF ..).trans ?_;have i:Wb K (some (bC C q)) (sx I)=some (some g.val):=(Na G).trans (kH X);show Vl (Wb K (some (bC C q)) (sx I)) _=_;refine(oL i).trans ?_;rfl
 clear X K p G x j P J H U D Y w;obtain⟨s,o,c,n,e⟩:=d;have l:=k.type (M:=MX h a);refine MQ (QE (Nx (MQ (l.at (MQ ((Pf (M:=MX h a) E z.ga).at ?_))))));refine MQ ((Pf (M:=MX h a) E z.Hw).at (MQ (OM (Nx ?_))));unfold callGetattribute;refine R (show(T&&onTheHeap (MN.builtin "BaseException.__getattribute__"))=MS from UO _) ?_;refine MQ (MZ ?_);refine OL (Ri pg.plain PySem.F.entry_bexc_ga ?_);refine @P8 (MX h a) _ _ ⟨s,o,c,n+1,e⟩ "BaseException.__getattribute__" "BaseException" "__getattribute__" (.ref r) [.str (sx I) n] [] _ (by decide +kernel) (by decide +kernel) (l.andThen (P9 E z.sub)) (PySem.F.args_bexc_ga (.ref r) (.str (sx I) n)) ?_;refine MQ (MZ (MQ (MZ (MQ (l.at (MQ ((looks_find (M:=MX h a) E k fo).at ?_)))))));refine MZ ?_;exact nS (m.handed) (a0 _ m)
end
theorem Ac:(bT .bR)[0]? = S 76:=by decide +kernel
theorem lW(C:Gr v e P be bg bf){U:MN}{A:Z}{M:MO}(K:Inv a e g b k d.heap)(c:VR a.params (Sf d.heap b g) b m U)(D:dz k m A=some aw)
  (T:∀B,VR a.params (Sf d.heap b g) b aw B->ai B {d with toks:=d.toks+1}):MY (MX h a) f (Pe U (sx A) M) ai t d:=by
 refine hF λl=>?_;have r:=C.In K;have G:∀{p:dG} {I:Z},gH p A=some I->p≠.bR:=λX q=>nX ((nR A).symm.trans (q▸X));induction m using Wm with
 |obj p w=>refine qw c.inv λm Y y x cm s1 o E=>?_;subst cm;exact iU D λI X L=>l (tV (S:=Sf d.heap b g) C.ok r (G X) ⟨s1.1,o.1⟩ E X L T)
 |aA H=>refine cj c.inv λm Y du hk=>?_;subst du;exact iU D λdV i D=>iU D λI X L=>cj (lA K hk i) λy x a0 E=>l (tV (S:=Sf d.heap b g) C.ok r (G X) a0 E X L T)
 |exc n=>
  refine K0 c.inv λm Y a1 y x xm so j hd J s E=>?_;clear G K c;subst xm;by_cases q:A=76;·subst q;obtain rfl:=sX (show some n=some aw from D);exact l (Ab (S:=Sf d.heap b g) C.err r so.1 j hd J s.1 E Ac rfl T)
  ·exact nX ((Nc q).symm.trans D)
 |_=>exact nX D
theorem xn{T:Z}(C:Gr v e P be bg bf)(M:iz h a e bh i T)(R:bo bh (T+1) f l){U:MN}{A:Z}{L:MO}(K:Inv a e g b k d.heap)(I:cM l g [] d.heap)(c:VR a.params (Sf d.heap b g) b m U) :
  jN a e g (MX h a) f l (lO a) (Pe U (sx A) L) (aG i k m A) b d:=by
 intro B;refine kF (dz k m A) (λD=>?_) (λE D=>?_)
 ·refine uP (tG D B) λH w q t G s=>?_;subst q;subst G;rw[s] at B⊢;refine cj c.inv λm o i9 J=>?_;clear c s D;subst i9;have a0:i (.fn 20) [.aA H] k≠.bad:=λq=>B (by rw[q];rfl);refine cj (lA K J t) λy x a1 fr=>Aa C.ok (C.In K) a1 (O1 (M.run g l f.in1 (.fn 20) [.aA H] k b {d with toks:=d.toks+1} [.ref m] R.in1 K I (.cons (.aA H m o J) .nil) a0) λp s' q=>?_);rcases p with D|(E|_|_|_)
  ·refine cj q λn r X Y=>Ng ?_ B
   induction q:i (.fn 20) [.aA H] k using Wn with
   |exc _ _=>rfl
   |ok _=>exact nX (q▸X)
   |bad=>rfl
  ·exact q.elim
  ·exact q.elim
  ·exact q.elim
  ·refine dF q λa' r r' X z j=>?_;exact⟨j.handed,a',r,r',by rw[X];rfl,(aQ.tok K).trans z,j⟩
 ·have s:aG i k m A=.ok (E,k):=by unfold aG;rw[D]
  exact s▸lW C K c D λv' j=>.ok (.tok K) j
theorem SE.attr{A:Z}(C:Gr v e P be bg bf)(M:iz h a e bh i q)(R:bo bh (q+1) f l)(d:SE h a e l c j f i af aj)(x:eJ aj=MK):SE h a e l c j f i (.attr af A) (.Attribute aj (sx A) J):=by intro g y b t m p G B;rw[hY] at B⊢;refine Attribute_any_ ((d g y b t m p G).step G.inv (λI z K k U X o1 E D=>?_) B) (by refine(Rj ..).trans ?_;rw[gu x]);rw[X];exact(xn C M R o1.inv (G.live.keep G.inv o1) E).lift o1 D
theorem bD{A:MN}{X:V (MO×Nl MN)}{o:Args->MV->Prop}(s:X.any (·.1)=MS)(B:MY T f (O0 X) (λw b=>o ⟨w,[]⟩ b) t d):MY T f (evalArgs A MK X []) o t d:=by
 induction X using RC with
 |nil=>exact λa P h=>(MQ (Nj B (λw b U=>MZ U) λY Y D=>D)) a P h
 |cons q j=>obtain⟨M,r⟩:=q;simp only[VC,UD] at s;refine bM s λjT s=>?_;subst jT;exact evalArgs_plain B
theorem nc.noStar{pos:Nh}{y:cA}{b:V MP}(r:nc h a e l c j f i y b):(NU pos (NR b c)).any (·.1)=MS:=by
 induction r with
 |nil=>rfl
 |cons _ w _ d=>exact R (bz w) d
theorem tW{c:AH}{k:Key}{w:V MN}{X:V Q}(j:iz h a e bh i q)(R:bo bh q f l)(K:Inv a e g b c d.heap)(M:cM l g [] d.heap)(P:bN a.params (Sf d.heap b g) b X w):jN a e g (MX h a) f l (lO a) (N2 (.ref (fG k)) w) (i k X c) b d:=by intro B;refine OL (O1 (j.run g l f k X c b d w R K M P B) λU v L=>?_);rcases U with D|(E|_|_|_)<;>exact L
theorem ji(z:Ff v){k:Key}(B:∀A,k=.fn A->A<60):Pd v (.ref (fG k))=MK:=by
 induction k using Key.casesOn with
 |fn A=>exact(z.fn A (B A rfl)).2
 |cls C=>exact z.BY C
theorem Ae{U:MN}{H:Key}(E:VR a.params (Sf d.heap b g) b m U)(D:keyOf m=S H):U=.ref (fG H)/\∀A,H=.fn A->A<60:=by
 induction m using Wm with
 |fn i=>
  by_cases B:i<60;·obtain rfl:=sX ((Na B).symm.trans D);exact⟨E.inv,λA D=>Key.fn.inj D▸B⟩
  ·exact nX ((Nc B).symm.trans D)
 |cls C=>obtain rfl:=sX D;exact⟨E.inv,λA D=>nomatch D⟩
 |_=>exact nX D
theorem SE.call{A:LE}{y:cA}{d:V MP}(a0:Gr v e P be bg bf)(M:iz h a e bh i q)(R:bo bh (q+1) f l)(L:SE h a e l c j f i A aj)(s:nc h a e l c j f i y d)
  (x:∀a4 I P,aj≠.Attribute a4 I P):SE h a e l c j f i (.call A y) (.Call aj d [] J):=by
 intro g a3 b t a1 p G B;rw[oN] at B⊢;have C:eval (.Call aj d [] J) c=(do PD J (<-eval aj c) [] (NU J (NR d c)) []):=by induction aj using T2<;>first|rfl|exact Ng rfl (x _ _ _)
 rw[C];refine MQ ((L g a3 b t a1 p G).step G.inv (λI z K k U X o1 E D=>?_) B);rw[X,Res.aP];induction ek:keyOf I using Rx with
 |none=>exact bX (ek▸D)
 |some H=>replace D:=ek▸D;dsimp only at D⊢;refine bM (Ae E ek) λlP a2=>?_;clear X E C B L x;subst lP;have w:=ji (k:=H) a0.ok a2;refine QF (P:=λT=>v.In T) (by rw[s.noStar];rfl) (λT r=>PE w T r) (bD s.noStar ((s.run g K z k a1 p (G.on p o1)).dg o1 (λa5 H2 r2 o vb m o2 n v2 Y=>?_) D));refine⟨a0.In o2.inv,?_⟩;rw[m];exact(tW M (R.less (Sn _)) o2.inv ((G.live.keep G.inv o2)) v2).lift o2 Y
theorem lX{z:MP}{m:MT}{i:Nh}{j:V MP}(x:eJ z=MK)(P:(NU J (NR j c)).any (·.1)=MS)(l:(i.endLine==J.line)=MK)(n:j.length<30)
  (B:MY (MX h a) f (eval z c) (λy k=>∀pl,MY (MX h a) f (QG y m pl) (λg o=>MY (MX h a) f (PD J g.1 g.2 (NU J (NR j c)) []) ai t o) t k) t d) :
  MY (MX h a) f (eval (.Call (.Attribute z m i) j [] J) c) ai t d:=by
 refine R (arm_eval_Call ..) ?_;refine R (gu x) ?_;refine MQ (Nj B (λy k p=>MQ (NW ?_)) λY Y D=>D);have b:methodCallForm (j.length+([]:V Keyword).length) (NU J (NR j c)) (backToKw J (keywordEach [] c))=MK:=by have:(NU J (NR j c)).all (λL=>!L.1)=MK:=Se.mpr λL e=>(S9 L.1).mpr (U5.mpr (U6.mp P L e));show((NU J (NR j c)).all (λL=>!L.1)&&MK&&MW (j.length+0+0<30))=MK;exact R this (Nm n)
 unfold methodCall;refine R b (MQ (Nx ?_));refine Nj (p _) (λg o G=>?_) λY Y D=>D;exact R (show methodCallPos MK z c i J=pure J from Na (show(!MK||i.endLine==J.line)=MK from l)) (MQ (MZ G))
theorem shadow{d:MR}{c:dG}{x:Z}{S:SP}(A:FR a.params S b (bT c) au C.toList)(e:ag<NS)(n:ag∉bT c):shadowIn (some (bC C x)) (sx ag)=some MS:=by refine bM (A.none (gs c) e n) λp G=>?_;show UE _ (PB (sx ag) (bC C x))=_;exact R (qI p G) rfl
noncomputable def JN:Q->Z->Od
 |.aE _,x=>if x=44 then "list.append" else "list.pop"
 |_,x=>if x=48 then "dict.get" else "dict.pop"
theorem C7{x:Z}(D:aK k m x=S .bJ):(∃H,m=.aE H/\(x=44\/x=51))\/∃H,m=.ab H/\(x=48\/x=51):=by
 induction m using Wm with
 |aE H=>
  by_cases B:x=44\/x=51;·exact .inl ⟨H,rfl,B⟩
  ·exact nX ((Nc B).symm.trans D)
 |ab H=>
  by_cases B:x=48\/x=51;·exact .inr ⟨H,rfl,B⟩
  ·exact nX ((Nc B).symm.trans D)
 |aA H=>
  have D:(match k.I[H]? with|some (C,_)=>if x=26 then N else(oM C x).map .own|none=>N)=S Recv.bJ:=D
  revert D
  cases k.I[H]? with
  |none=>exact nX
  |some L=>
   intro D;by_cases B:x=26;·exact nX ((Na B).symm.trans D)
   ·exact wg ((Nc B).symm.trans D) λA Y L=>nomatch L
 |_=>exact nX D
theorem u0{U:MN}{x:Z}{pl:Nl MO}{l:MN×V MN->MV->Prop}(K:Inv a e g b k d.heap)(c:VR a.params (Sf d.heap b g) b m U)(D:aK k m x=S .bJ)(p:∀H,m=.aE H->H<k.L.length)(n:∀H,m=.ab H->H<k.D.length)
  (B:l (.builtin (JN m x),[U]) d):MY (MX h a) f (QG U (sx x) pl) l t d:=by
 refine hF λA=>?_;have s:sx 44="append":=by decide +kernel
 have i:sx 51="pop":=by decide +kernel
 have r:sx 48="get":=by decide +kernel
 rcases C7 D with⟨H,rfl,q⟩|⟨H,rfl,q⟩
 ·refine aM c.inv λm rP J=>?_;subst rP;refine cj (K.dt.L H _ m (RA (p H rfl)) J) λj z o Y=>?_;refine Wg q (λE=>?_) λw=>?_;·subst E;exact A (s▸P' ⟨_,o,rfl⟩ PySem.F.plainAttrs_list PySem.F.slot_list_append PySem.F.type_list_append (λM D=>UW D▸⟨_,o,rfl⟩) B)
  ·subst w;exact A (i▸P' ⟨_,o,rfl⟩ PySem.F.plainAttrs_list PySem.F.slot_list_pop PySem.F.type_list_pop (λM D=>UW D▸⟨_,o,rfl⟩) B)
 ·refine aM c.inv λm iV J=>?_;subst iV;refine we (K.dt.D H _ m (RA (n H rfl)) J) λy z v o Y=>?_;rcases q with rfl|rfl;·exact A (r▸P' ⟨_,o,rfl⟩ PySem.F.plainAttrs_dict PySem.F.slot_dict_get PySem.F.type_dict_get (λM D=>UW D▸⟨_,o,rfl⟩) B)
  ·exact A (i▸P' ⟨_,o,rfl⟩ PySem.F.plainAttrs_dict PySem.F.slot_dict_pop PySem.F.type_dict_pop (λM D=>UW D▸⟨_,o,rfl⟩) B)
theorem Af(K:Inv a e g b k d.heap){U:MN}(c:VR a.params (Sf d.heap b g) b m U):(∀H,m=.aE H->H<k.L.length)/\∀H,m=.ab H->H<k.D.length:=by
 refine⟨λH D=>?_,λH D=>?_⟩;·subst D;obtain⟨m,_,J⟩:=c.inv;exact K.dt.gW▸(RF.mp J).1
 ·subst D;obtain⟨m,_,J⟩:=c.inv;exact K.dt.jb▸(RF.mp J).1
theorem kJ(i:M0 MN)(q:Z)(A:M0 MN->M0 MN):∃B,V' A (listOf i q)=listOf (A i) B:=⟨_,rfl⟩
inductive MC(H:AH):Q->Z->V Q->Q×AH->Prop
 |app {k:Z} {ws:V Q} {x:Q} (e:H.L[k]? = S ws) (h:ws.length<1000):MC H (.aE k) 44 [x] (.none,{H with L:=H.L.set k (ws++[x])})
 |pop {k:Z} {ws:V Q} {x:Q} (e:H.L[k]? = S ws) (h:ws.length<1000) (ex:ws.getLast? = S x):MC H (.aE k) 51 [] (x,{H with L:=H.L.set k ws.dropLast})
 |get {k:Z} {as:V (Q×Q)} {x:Q} {res:O Q} (e:H.D[k]? = S as) (ex:cX as x=S res):MC H (.ab k) 48 [x] (res.getD .none,H)
 |FZ {k:Z} {as JO:V (Q×Q)} {x v:Q} (e:H.D[k]? = S as) (h:as.length<1000) (ex:cX as x=S (S v)) (ed:uM as x=S JO):MC H (.ab k) 51 [x] (v,{H with D:=H.D.set k JO})
theorem Ag{x:Z}{L:Q×AH}(D:gJ k m x au=S L):MC k m x au L:=by
 induction m using Wm with
 |aE H=>
  refine cF (c:=x=44) D (λB D=>?_) λY D=>cF (c:=x=51) D (λB D=>?_) λY D=>nX D
  ·refine R B ?_;rcases au with _|⟨r,_|⟨s,y⟩⟩;·exact nX D
   ·exact iU D λf i D=>cF D (λP D=>sX D▸.app i (M5 P)) λY D=>nX D
   ·exact nX D
  ·refine R B ?_;rcases au with _|⟨r,y⟩;·refine iU D λf i D=>cF D (λP D=>?_) λY D=>nX D;exact wg D λr n D=>D▸.pop i (M5 P) n
   ·exact nX D
 |ab H=>
  refine cF (c:=x=48) D (λB D=>?_) λY D=>cF (c:=x=51) D (λB D=>?_) λY D=>nX D
  ·refine R B ?_;rcases au with _|⟨r,_|⟨s,y⟩⟩;·exact nX D
   ·exact iU D λl i D=>wg D λe n D=>D▸.get i n
   ·exact nX D
  ·refine R B ?_;rcases au with _|⟨r,_|⟨s,y⟩⟩;·exact nX D
   ·refine iU D λl i D=>cF D (λP D=>?_) λY D=>nX D;exact iU D λE n D=>wg D λa p D=>iU n λe d b=>D▸.FZ i (M5 P) (d.trans (Nb S b)) p
   ·exact nX D
 |_=>exact nX D
theorem j3{x:Z}(B:q<1000)(D:q=x):x<N0:=by have:N0=_:=N8;exact D.symm▸n1 B rfl
theorem pop_list{j:M0 MN}:(j.eraseIdxIfInBounds (j.size - 1)).toList=j.toList.take (j.size - 1):=by
 unfold Ui;by_cases B:j.size - 1<j.size;·refine R (dif_pos B) ?_;refine M0.toList_eraseIdx.trans ?_;refine(V.eraseIdx_eq_take_drop_succ ..).trans ?_;refine R (V.drop_of_length_le (by refine R RH ?_;exact JD)) ?_;exact(Sx ..)
 ·have:j = #[]:=M0.size_eq_zero_iff.mp (KH B);exact R this rfl
theorem u1{va:MN}{us:V MN}{x:Z}(hm:kV e)(hu:f.units+64<NA)(K:Inv a e g b k d.heap)(c:VR a.params (Sf d.heap b g) b m va)(P:bN a.params (Sf d.heap b g) b au us)(a6:aK k m x=S .bJ) :
  jN a e g (MX h a) f l (lO a) (PySem.call (.builtin (JN m x)) (va :: us)) (.of (gJ k m x au)) b d:=by
 intro B;induction Y:gJ k m x au using Rx with
 |none=>exact bX (Y▸B)
 |some q=>
 have U:=Ag Y;clear Y B a6;have c:=c.inv;have w:f.units+1<NA:=Fb hu rfl;induction U using MC.casesOn with
 |app H L=>refine aM c λm lR J=>R lR (aM P.one λa2 lS X=>R lS (cj (K.dt.L _ _ m H J) λj I o A=>QH o (λh' i G=>?_) (Tf (j3 L (A.len.trans RH)))));exact .ok (r':=b) (.mk' (K.CV J i G (R M0.toList_push (A.append (.cons X .nil)))) (.but (a:=m) (λM z q U=>(i.2 M q).trans U) (.inl (kG J))) (.refl b)) .none
 |pop H L n=>
  refine aM c λm rR J=>R rR ?_;obtain rfl:=P.qx;refine hF λa4=>cj (K.dt.L _ _ m H J) λj I o A=>?_;have s:=A.len.trans RH;replace n:=V.getLast?_eq_getElem?▸n;refine aM (lV A n) λa3 t vy=>?_;rw[s] at t;refine a4 ?_;show MY _ _ (PySem.call (.builtin "list.pop") [.ref m]) _ _ _;refine call_meets PySem.F.slot_list_pop (ba _ o rfl) PySem.F.entry_list_pop (PySem.F.args_list_pop_1 _) (MeetsSeq.list_pop_last m j I a3 t (Tf (j3 L s))) ⟨o,?_⟩;refine dD (kJ j I λxs=>xs.eraseIdxIfInBounds (j.size - 1)) λn' a0=>?_;generalize hf:V' (λxs=>xs.eraseIdxIfInBounds (j.size - 1))=a1 at a0⊢;have G:(d.heap.update m a1).get? m=S (listOf (j.eraseIdxIfInBounds (j.size - 1)) n'):=by refine(R8 _ o (by refine R a0 ?_;rfl)).trans ?_;rw[a0]
  have i:Sw m d.heap (d.heap.update m a1):=So ..;have z:=aQ.mk' (tk':=d.toks) (own:=g) (fr:=[]) (s:=d) (K.CV J i G (R pop_list (R s.symm (A.take _)))) (.but (a:=m) (λM z q U=>(i.2 M q).trans U) (.inl (kG J))) (.refl b);exact R V.dropLast_eq_take (.ok z (z.vr vy))
 |get H n=>exact aM c λm oZ J=>R oZ (aM P.one λa2 pa X=>R pa (zX (fE K H J) λy T v r=>m9 (own:=g) w (hm.ne K (fS J)) r X n λI E P=>.ok (.tok K) P))
 |FZ H L n p=>refine aM c λm rT J=>R rT (aM P.one λa2 w' X=>R w' (zX (fE K H J) λy T v r=>na (own:=g) w r L X n p λI h' a9 a8 a7 vv C i G D a5=>?_));have z:=aQ.mk' (tk':=d.toks+I) (own:=g) (fr:=[]) (s:=d) (K.FN J i G D a5) (.but (a:=m) (λM z q U=>(i.2 M q).trans U) (.inl (fS J))) (.refl b);exact .ok z (z.vr C)
theorem lB{prog:Nu}{A:Nv}{E:MN->MV->Prop}(C:Gr v e P be bg bf){U:MN}{x l:Z}{pl:Nl MO}{Q:MN×V MN->MV->Prop}(K:Inv a e g b k d.heap)(c:VR a.params (Sf d.heap b g) b m U)(D:aK k m x=some (.own l))
  (B:Q (.ref (FA l),[U]) d):l<60/\MY (MX prog a) A (QG U (sx x) pl) Q E d:=by
 induction m using Wm with
 |aA H=>
  refine cj c.inv λm h bG p=>?_
  clear c
  subst bG
  have D:(match k.I[H]? with|some (i,_)=>if x=26 then N else(oM i x).map .own|none=>N)=some (Recv.own l):=D
  revert D
  induction z:k.I[H]? using Rx with
  |none=>exact nX
  |some q=>obtain⟨i,w⟩:=q;refine λD=>cF (c:=x=26) D (λY D=>nX D) λf D=>wg D λr o q=>?_;obtain rfl:=Recv.own.inj q;exact wc (C.ok.aU i x _ o f) λj J G n X=>cj (lA K p z) λy I s t=>⟨J,method_fn (C.In K) s.inst (C.ok.ga i j) (C.ok.Hw i j) X (C.ok.fn _ J).1 (shadow (d:=h) (S:=Sf d.heap b g) t G n) B⟩
 |aE H=>exact cF (c:=x=44\/x=51) D (λY D=>nomatch sX D) λY D=>nX D
 |ab H=>exact cF (c:=x=48\/x=51) D (λY D=>nomatch sX D) λY D=>nX D
 |_=>exact nX D
theorem SE.aU{y:cA}{xs:V MP}{x:Z}{a1:Nh}(C:Gr v e P be bg bf)(a4:iz h a e bh i q)(R:bo bh (q+1) f l)(d:SE h a e l c j f i af aj)(s:nc h a e l c j f i y xs)
  (hx:eJ aj=MK) (hl:(a1.endLine==J.line)=MK) (hn:xs.length<30) (a6:∀{A b I r},aO i af A b=.ok (I,r)->aK r I x=S .bJ->∀L H2,bp i y A r=.ok (L,H2)->aK H2 I x=S .bJ) :
  SE h a e l c j f i (.aU af x y) (.Call (.Attribute aj (sx x) a1) xs [] J):=by
 intro g a5 b t A p G nb;rw[lh] at nb⊢;refine lX hx s.noStar hl hn ((d g a5 b t A p G).step G.inv (λI z K s1 U X o1 T D pl=>?_) nb);rw[X,Res.aP];refine kF (aK z I x) (λH=>?_) (λrc H=>?_);·replace D:=H▸D;exact bX D
 ·rw[H] at D⊢
  induction rc using Recv.casesOn with
  |own a2=>
   dsimp only at D⊢;refine(lB C o1.inv T H ?_).2;have w:=ji (k:=.fn a2) C.ok λa7 af=>by cases af;exact((lB (Q:=λY Y=>Np) (E:=λY Y=>Np) (A:=f) (prog:=h) (pl:=pl) C o1.inv T H trivial).1)
   refine QF (P:=λB=>v.In B) (by simp[s.noStar]) (λB a3=>PE w B a3) (bD s.noStar ((s.run g K z s1 A p (G.on p o1)).dg o1 (λM H2 r2 o vb m o2 n v2 a0=>?_) D));refine⟨C.In o2.inv,?_⟩;rw[m];exact(tW (k:=.fn a2) a4 (R.less (Sn _)) o2.inv (G.live.keep G.inv o2) (.cons (n.vr T) v2)).lift o2 a0
  |bJ=>dsimp only at D⊢;refine bM (Af o1.inv T) λz1 z2=>u0 o1.inv T H z1 z2 (callWith_builtin s.noStar (bD s.noStar ((s.run g K z s1 A p (G.on p o1)).dg o1 (λM H2 r2 o vb m o2 n v2 a0=>?_) D)));rw[m];exact(u1 C.mods (BW R.units rfl) o2.inv (n.vr T) v2 (a6 X H M H2 m)).lift o2 a0
theorem nU{r:AH}{x:Z}(B:aK k m x=S .bJ):aK r m x=S .bJ:=by
 induction m using Wm with
 |aA H=>
  replace B:(match k.I[H]? with|some (C,_)=>if x=26 then N else(oM C x).map .own|none=>N)=S Recv.bJ:=B
  revert B
  induction k.I[H]? using Rx with
  |none=>exact λB=>nomatch B
  |some L=>exact λB=>cF B (λY D=>nX D) λY D=>wg D λA Y L=>nomatch L
 |_=>exact B
noncomputable def qJ(c:N')(T:SP)(y:bI):O Q->MN->Prop
 |none,E=>E=.none
 |some I,E=>VR c T y I E
theorem qJ.mono{f:SP}{K:bI}{I:O Q}(B:qJ U x b I aa)(i:∀I z,x I z->f I z)(P:b.le K):qJ U f K I aa:=by
 induction I using Rx with
 |none=>exact B
 |some I=>exact VR.mono i P B
noncomputable def SO(l:Nu)(a:Ni)(d:MU)(T:V Nf)(c:Nf)(i:V (O MT))(f:Nv)(e:CF)(z:LO)(r:O MP):Prop:=∀g y b t A,bk g c i->St a d g T c i y b A t->jN a d g (MX l a) f T (λh y I E=>qJ a.params h y I E) (evalPart r c) (zB e z A b) y t
theorem SO.no:SO h a e l c j f i .no N:=λg y b t A p G B=>by exact MZ (.ok (.refl G.inv) rfl)
theorem SO.so(d:SE h a e l c j f i af aj):SO h a e l c j f i (.so af) (S aj):=λg y b t A p G B=>by refine R BU ?_;exact(d g y b t A p G).step G.inv (λI z K k U X o1 E D=>by exact R X (.ok o1 E)) B
theorem part_of{I:O Q}{H:O ML}(B:qJ U x b I aa)(D:oK I=S H):IsPart aa H/\∀K,H=S K->0<=K:=by
 induction I using Rx with
 |none=>obtain rfl:=sX D;obtain rfl:aa=.none:=B;exact⟨.none,λK D=>nomatch D⟩
 |some I=>
  induction I using Wm with
  |int K=>refine dD (B).inv λn cm=>?_;clear B;subst cm;exact cF D (λq D=>sX D▸⟨.int K n,λi D=>sX D▸q.1⟩) λY D=>nX D
  |_=>exact nX D
theorem lY{c:MP}{o g:O MP}{G:Nh}{z K:MN}{x i:Od}(b:d.TypeIs z x)(l:Oe (.type x) "__getitem__"=pure (S (.builtin i)))(B:MY (MX h a) f (Pc z K) ai t d) :
  MY (MX h a) f (OZ c (.Slice o g N G) z K) ai t d:=by
 refine MQ (R (Rd b.not_modules) (MQ (Oa b l ?_)));have T:MY (MX h a) f (operate [K,z] (Pc z K)) (λy e=>MY (MX h a) f (letTemporaryGo c z y >>= λY=>pure y) ai t e) t d:=Rf (Nj B (λy e p=>MQ (Rg (MZ p))) λY Y r=>r);first
  |exact MZ (MQ T)
  |exact MQ (MZ (MQ T))
  |exact MQ T
theorem Ah{k:V MN}{o d:O ML}(B:bN U x b au k):bN U x b (cut au o d) (cut k o d):=by unfold cut;exact R B.len ((B.take _).drop _)
theorem Ai{M:M0 Nn}{T:V Z}{o d:O ML}(B:M.toList.map SK=T)(H:∀K,o=S K->0<=K)(h:∀K,d=S K->0<=K):(PySem.W.KBy.picked M o d).toList.map SK=cut T o d:=by
 refine R (PySem.W.KBc.picked_eq ..) ?_;have p:o.elim 0 (OK M.size)=min (o.elim 0 TQ) M.toList.length:=by
  induction o using Rx with
  |none=>simp
  |some K=>exact ly (H K rfl)
 have G:d.elim M.size (OK M.size)=min (d.elim M.toList.length TQ) M.toList.length:=by
  induction d using Rx with
  |none=>simp
  |some K=>exact ly (h K rfl)
 refine R p ?_;refine R G ?_;refine R (qF ..) ?_;refine R B.symm ?_;unfold cut;refine V.map_drop.trans ?_;refine R UX ?_;refine R (Ry ..) rfl
theorem F5{M C:O Q}{L:Q×AH}(D:dP k m M C=S L):∃o d,oK M=S o/\oK C=S d/\(match (generalizing:=false) m with
  |.lst w=>if sm w.length then S (.lst (cut w o d),k) else N
  |.bx T=>if sm T.length then S (.bx (cut T o d),k) else N
  |.aE H=>(k.L[H]?).bind λw=>if sm w.length then S (.aE k.L.length,{k with L:=k.L++[cut w o d]}) else N
  |_=>N)=S L:=by
 have D:(match oK M,oK C with
  |some o,S d=>match (generalizing:=false) m with
   |.lst w=>if sm w.length then S (.lst (cut w o d),k) else N
   |.bx T=>if sm T.length then S (.bx (cut T o d),k) else N
   |.aE H=>(k.L[H]?).bind λw=>if sm w.length then S (.aE k.L.length,{k with L:=k.L++[cut w o d]}) else N
   |_=>N
  |_,_=>N)=S L:=D
 revert D
 cases oK M with
 |none=>exact nX
 |some o=>cases oK C with
  |none=>exact nX
  |some d=>exact λD=>(qu o d rfl rfl D)
theorem jN.qk{s:MV}{a6:MP}{xl xh:O MP}{sp:Nh}{va T r:MN}{M C:O Q}(K:Inv a e g b k s.heap)(E:VR a.params (Sf s.heap b g) b m va)(v:qJ a.params (Sf s.heap b g) b M T)(v3:qJ a.params (Sf s.heap b g) b C r) :
  ∀{r0 s0},aQ a e g [] r0 s0 b k s->Res.of (dP k m M C)≠.bad->MY (MX h a) f (QI "slice" [T,r,.none]) (λK s'=>MY (MX h a) f (OZ a6 (.Slice xl xh N sp) va K) (QQ a e g (lO a) [] (.of (dP k m M C)) r0 s0) (EE a e g l (Res.of (dP k m M C)).x? r0 s0) s') (EE a e g l (Res.of (dP k m M C)).x? r0 s0) s:=by
 intro r0 s0 G B;induction y:dP k m M C using Rx with
 |none=>exact bX (y▸B)
 |some q=>
  clear B;obtain⟨b9,H4⟩:=q;refine Ou (m5 (F5 y) λkl kh x eh y=>?_)
  ·skip
   refine bM (part_of v x) λpl n=>bM (part_of v3 eh) λp nh=>?_
   have d:∀M z,s.heap.get? M=S z->(s.heap.push {cls:=.type "slice",data:=.fields #[T,r,.none]}).get? M=S z:=λY Y D=>Rz _ D
   have i1:=K.push {cls:=.type "slice",data:=.fields #[T,r,.none]}
   have og:∀tk,aQ a e g [] b s b k {s with heap:=s.heap.push {cls:=.type "slice",data:=.fields #[T,r,.none]},toks:=tk}:=λtk=>.grown K d
   have a2:(s.heap.push {cls:=.type "slice",data:=.fields #[T,r,.none]}).IsSliceOf s.heap.objs.size T r .none:=MU.IsSliceOf.new ..
   generalize a9:s.heap.push {cls:=.type "slice",data:=.fields #[T,r,.none]}=X at *
   have a5:∀{w:V Q} {m:MR} {j:M0 MN} {a0:Z},w.length<1000->X.get? m=S (listOf j a0)->bN a.params (Sf X b g) b w j.toList->∀{a3 I:MN->MV->Prop},
     (a3 (.ref X.objs.size) {s with heap:=X.push (listOf (P2 j kl kh N) 0)})->MY (MX h a) f (OZ a6 (.Slice xl xh N sp) (.ref m) (.ref s.heap.objs.size)) a3 I {s with heap:=X}:=by
    intro w m j a0 P o A a3 I hQ
    have hz:w.length=j.size:=by exact A.len.trans RH
    exact lY (ba _ o rfl) QC.lookup (wpAny_getItem_list_slice (s:={s with heap:=X}) (bb (s:={s with heap:=X}) o) a2 pl p .none (by decide) hQ (by have:N0=_:=N8;exact hz.symm▸qm P rfl))
   have i:∀m z,Sf s.heap b g m z->Sf X b g m z:=λm z U=>U.grow d
   have a7:∀{w:V Q} {j:M0 MN},bN a.params (Sf X b g) b w j.toList->bN a.params (Sf X b g) b (cut w kl kh) (P2 j kl kh N).toList:=λA=>by exact R (xe _ _ _ n nh) (Ah A)
   have a1:∀{z:Nk} M t,X.get? M=S t->(X.push z).get? M=S t:=λY Y D=>Rz _ D
   induction m using Wm with
   |lst w=>refine dF E.inv λm j a0 du sa A=>R du (cF y (λP y=>?_) λY D=>nX D);have y:=sX y;obtain rfl:=Nb NT.fst y;obtain rfl:=Nb NT.snd y;have c:=A.mono i (.refl b);refine a5 (M5 P) (i _ _ sa).1 c (.ok ((G.trans (og s.toks)).trans (.grown (s:={s with heap:=X}) i1 a1)) ?_);exact .lst _ _ _ 0 (jf (s:={s with heap:=X}) rfl i1) ((a7 c).mono (λm z U=>U.grow a1) (.refl b))
   |bx L=>refine cj E.inv λM a8 dV hb=>?_;subst dV;refine cF y (λP y=>?_) λY D=>nX D;have y:=sX y;obtain rfl:=Nb NT.fst y;obtain rfl:=Nb NT.snd y;have P:=M5 P;refine lY (Pa _ _ _) PySem.W.FB.slot_bytes_getitem.lookup (getItem_meets (Pa _ _ _) (rfl) PySem.W.FB.slot_bytes_getitem PySem.W.FB.entry_bytes_getitem (PySem.W.FB.args_bytes_getitem_2 _ _) (PySem.W.KBc.meets_slice2 M a8 _ pl p) (fB a2 (RG (PySem.W.KBc.size_picked_le M kl kh) (Tf (j3 P (hb▸(Ry _).trans RH)))) (λt' H=>?_)));exact .ok (G.trans (og H)) (.bx _ t' _ (Ai hb n nh))
   |aE H=>refine aM E.inv λm fC J=>?_;clear x eh pl n p nh a2 E v v3;subst fC;refine iU y λw e0 y=>cF y (λP y=>?_) λY D=>nX D;have y:=sX y;obtain rfl:=Nb NT.fst y;obtain rfl:=Nb NT.snd y;refine cj (K.dt.L H w m e0 J) λj a0 o A=>?_;have c:=A.mono i (.refl b);have a4:X.get? X.objs.size=N:=bS _;refine a5 (M5 P) (d _ _ o) c (.ok (r':=b.m8 X.objs.size) ((G.trans (og s.toks)).trans (.mk' (s:={s with heap:=X}) (i1.CW a4 a1 (R3 _ rfl) (a7 c)) ((More.L b _).keep (λM hb=>by refine R (Rw.mp hb) ?_;exact a4) a1) (More.L b _).le)) ?_);refine .aE _ _ ?_;exact R K.dt.gW.symm fU
   |_=>exact nX y
theorem SE.qk{o d:LO}{T xh:O MP}{sp:Nh}(ih:SE h a e l c j f i af aj)(il:SO h a e l c j f i o T)(w:SO h a e l c j f i d xh):SE h a e l c j f i (.qk af o d) (.Subscript aj (.Slice T xh N sp) J):=by intro g y b t A p G B;refine R wt (P1 ((ih g y b t A p G).step G.inv (λI z K k va X o1 E D=>?_) B));refine R X (R Res.aP ?_);refine R (arm_eval_Slice ..) (MQ ((il g K z k A p (G.on p o1)).dg o1 (λM H2 x s2 P m o2 n v Y=>?_) D));refine R m (R Res.aP ?_);refine MQ (Nx ((w g x H2 s2 A p (G.on p o2)).dg o2 (λC H3 H s3 r s o3 L v3 q=>?_) Y));refine R s (MQ (Nx (MZ ?_)));exact jN.qk o3.inv (L.vr (n.vr E)) (qJ.mono v (λI a0 U=>L.FP U) L.le) v3 o3 q
structure cu(own own' fr fr':V MR)(h h':MU):Prop where
 hs:∀b o,h.get? b=S o->h'.get? b=S o
 sub:∀a∈own,a∈own'
 new:∀c∈own',c∈own\/h.get? c=N
 C8:∀c∈fr',c∈fr\/h.get? c=N
 cnt:∀c,2<=own'.count c->2<=own.count c\/h.get? c=N
 le:∀c,own.count c<=own'.count c
theorem cu.keep{own:V MR}{fr:V MR}{v:V MR}{c:bI}{G:MU}(r:cu own ax fr v p X)(H:dU ax v b X c G):dU own fr b p c G:=
 ⟨λM z D q A=>by refine hF λm=>?_;refine H.el (r.hs M z D) q (λx=>(r.C8 M x).elim A λU=>by replace U:=D.symm.trans U;cases U) λn1 o1 a k=>?_;refine m ?_;exact⟨n1,o1,a,k.imp id λs=>⟨(r.cnt M s.1).elim id λU=>(by replace U:=D.symm.trans U;cases U),s.2⟩⟩⟩
theorem aQ.back{v:V MR}{x:bI}{I:AH}{s:MV}{o:MV}{B:Z}(r:cu g ax aq v s.heap X)(z:aQ a e ax v b {s with heap:=X,toks:=B} x I o):aQ a e g aq b s x I o:=mQ z.eq λG M D=>⟨(wa G M D),z.inv.drop r.sub,r.keep z.keep,z.le⟩
theorem u4(P:∀M z,p.get? M=S z->X.get? M=S z)(C:MR)(U:X.get? C=N):p.get? C=N:=by
 induction L:p.get? C using Rx with
 |none=>rfl
 |some G=>exact nX (U.symm.trans (P _ _ L))
theorem i8.back{d:V MR}{s:MV}{B:Z}{n:Q}{c:AH}{j:MN}{v:MV}(r:cu g ax aq d s.heap X)(z:i8 a e ax d l b {s with heap:=X,toks:=B} n c j v):i8 a e g aq l b s n c j v:=z.map r.sub r.cnt (u4 r.hs) (λY Y=>r.keep) (.refl b)
theorem EE.back{s:MV}{B:Z}{r:O (Q×AH)}{j:MN}{v:MV}(c:cu g ax [] [] s.heap X)(L:EE a e ax l r b {s with heap:=X,toks:=B} j v):EE a e g l r b s j v:=cj L λn d D U=>dI n d D (U.back c)
theorem cu.one{h':MU}(K:Inv a e g b k d.heap)(A:d.heap.get? n=N)(P:∀M z,d.heap.get? M=S z->h'.get? M=S z):cu g (n :: g) [] [] d.heap h':=
 ⟨P,λY x=>.tail _ x,λC x=>(RB.mp x).elim (λD=>.inr (D▸A)) .inl,λY x=>(nomatch x),λC x=>by
  by_cases L:n=C;·exact .inr (L▸A)
  ·exact .inl (by simpa [L] using x),λC=>by refine R Vi ?_;exact R5 _ _⟩
theorem Sf.back(d:∀n∈g,n∈ax)(U:Sf p b ax n ah):Sf p b g n ah:=(fB U.1 U.2.1 (λx=>U.2.2 (d n x)))
inductive rW(prog:Nu)(w:Ni)(g₀:MU)(l:V Nf)(env:Nf)(sl:V (O MT))(A:Nv)(cf:CF):V Z->cA->V (O MP)->V MP->Prop
 |nil:rW prog w g₀ l env sl A cf [] .nil [] []
 |cons {k:Z} {ks:V Z} {e:LE} {es:cA} {c:Z} {cp:Nh} {y:MP} {xs:V (O MP)} {ys:V MP}:k<NS->SE prog w g₀ l env sl A cf e y->rW prog w g₀ l env sl A cf ks es xs ys->rW prog w g₀ l env sl A cf (k :: ks) (.cons e es) (S (.Constant (.str (sx k)) c cp) :: xs) (y :: ys)
abbrev K6(a:Ni)(g:V Z):Rel (V Q) (V (MN×MN)):=λT y I E=>bN a.params T y (g.map Q.str) (E.map (·.1))/\bN a.params T y I (E.map (·.2))
theorem rW.run{pos:Nh}{d:cA}{L:V (O MP)}{n:V MP}(r:rW h a e l c j f i ae d L n):∀g y b t A,bk g c j->St a e g l c j y b A t->jN a e g (MX h a) f l (K6 a ae) (evalPairs (pairTrees L n c pos)) (bp i d A b) y t:=by
 induction r with
 |nil=>intro g y b t A p G B;exact MZ (.ok (.refl G.inv) ⟨.nil,.nil⟩)
 |@cons H ae a1 d C w s L n J a0 _ q=>intro g y b t A p G B;refine R fR ?_;have T:aQ a e g [] y t y b {t with toks:=t.toks+1}:=.tok G.inv;refine MQ (PySem.Calls.Constant_str (MQ (Nx (MQ ?_))));refine(a0 g y b {t with toks:=t.toks+1} A p (G.on p T)).dg T (λI z K k U X o1 p1 E D=>?_) B;refine R X (R Res.aP ?_);refine MQ (NW (MZ (MQ (Nx ?_))));refine(q g K z k A p (G.on p o1)).dg o1 (λM H2 x o P m o2 p2 v Y=>?_) D;exact R m (MZ (.ok o2 ⟨.cons (.str H _ J) v.1,.cons (p2.vr E) v.2⟩))
theorem rW.IK{y:cA}{b:V (O MP)}{A:V MP}(r:rW h a e l c j f i ae y b A):b.all (·.isSome)=MK/\b.length=A.length/\b.length=ae.length/\j0 y=ae.length:=by
 induction r with
 |nil=>exact qy rfl rfl rfl rfl
 |cons _ _ _ d=>exact qy (by simp[d.1]) (by simp[d.2.1]) (by simp[d.2.2.1]) (Nb (· + 1) d.2.2.2)
theorem qK{H:Q}{D:Q×Q}(B:eqT D.1 H=S MS):eF H (D :: y)=(eF H y).map (UE (· + 1)):=by show(match eqT D.1 H with|some MK=>S (S 0)|some MS=>(eF H y).map (UE (· + 1))|none=>N)=_;refine R B rfl
theorem xp{H:Q}{D:Q×Q}(B:eqT D.1 H=S MK):eF H (D :: y)=S (S 0):=by show(match eqT D.1 H with|some MK=>S (S 0)|some MS=>(eF H y).map (UE (· + 1))|none=>N)=_;refine R B rfl
theorem u6(B:∀P∈y,∃i,P.1=.str i/\i≠H):eF (.str H) y=S N:=by
 induction y with
 |nil=>rfl
 |cons P y d=>refine aM (B P (.head _)) λi D M=>?_;have L:eqT P.1 (.str H)=S MS:=D▸Nb S (OV M);refine(qK L).trans ?_;exact R (d λL e=>B L (.tail _ e)) rfl
theorem u7{own:V MR}(k:f.units<NA):∀{ks:V Z} {vs:V Q} {K:V (MN×MN)} {s:MV} {as:V (Q×Q)} {y:M0 Nr} {T:Z} {dk:DK} {o:PUnit->MV->Prop},A∈own->DictAt a own b s A as y T dk->(∀P∈as,∃i,P.1=.str i/\i∉ks)->ks.Nodup->as.length+ks.length<1000->
  bN a.params (Sf s.heap b own) b (ks.map Q.str) (K.map (·.1))->bN a.params (Sf s.heap b own) b vs (K.map (·.2))->
  (∀m B a0 a3 e,Sw A s.heap m->DictAt a own b {s with heap:=m,toks:=B} A (as++(ks.map Q.str).zip vs) a0 a3 e->o ⟨⟩ {s with heap:=m,toks:=B})->MY (MX h a) f (storeAll A K) o t s:=by
 intro ks;induction ks with
 |nil=>
  intro vs K s as y T dk o l r _ _ _ p G w
  induction K using RC with
  |cons _ _=>exact nomatch p.qx
  |nil=>refine MZ ?_;have:=w s.heap s.toks y T dk (.refl ..) (by simpa using r);exact this
 |cons H ks ih=>
  intro vs K s as y T dk o l r J n d p G w
  refine hF λa7=>?_
  induction K using RC with
  |nil=>obtain⟨_,_,q,_⟩:=p.inv;exact nomatch q
  |cons kv K=>
   induction vs using RC with
   |nil=>exact nomatch G.qx
   |cons E vs=>
    refine m5 p.inv λY Y q1 a1 a2=>m5 G.inv λY Y C b1 b2=>bM (Uv q1) λcm du=>?_;clear q1 p;subst cm;subst du;refine bM (Uv C) λdV fC=>?_;clear C;subst dV;subst fC
    ··skip
      rw[RV] at n
      have kn:eG (.str H) as=S N:=by exact u6 λP g=>aM (J P g) λi D M=>(ba i D (λq=>M (q▸.head _)))
      have j:mV as (.str H) E=S (as++[(.str H,E)]):=by
       unfold mV;refine R kn ?_;have:sm as.length=MK:=by unfold sm;simp at d⊢;exact RM (R5 _ _) d
       simp only[this,PF]
      refine a7 ?_
      unfold storeAll
      refine R (TV ..) (MQ (MQ (dict_set (own:=own) k r a1 b1 j λx m a0 a3 e L a4 dr a5=>MZ ?_)))
      have v:∀I z,Sf s.heap b own I z->Sf m b own I z:=λI z U=>U.but (a:=A) (λa8 z q U=>(L.2 a8 q).trans U) (.inr (.inl l))
      refine ih (s:={s with heap:=m,toks:=s.toks+x}) (as:=as++[(.str H,E)]) (vs:=vs) l ⟨a4,dr.mono v (.refl b),a5⟩ ?_ n.2 (by refine R RE ?_;exact FF d) (a2.mono v (.refl b)) (b2.mono v (.refl b)) ?_
      ·intro P g;rcases RL.mp g with g|g;·exact aM (J P g) λi D M=>ba i D (λx=>M (.tail _ x))
       ·exact R (Rw.mp g) (ba H rfl n.1)
      ·intro G X b9 c a6 a9 x2;have:=w G X b9 c a6 (L.trans a9) (by simpa using x2);exact this
theorem St.but{a1:Ni}{tk:Z}(G:St a1 e ax l c j b k w d)(p:bk g c j)(T:∀D∈l,∀I,D.frame=S I->I∈g)(L:A∉g)(H:A∈ax)(K:Sw A d.heap X)(hx:∃z,X.get? A=S z):St a1 e ax l c j b k w {d with heap:=X,toks:=tk}:=by
 have P:∀M z,M≠A->d.heap.get? M=S z->X.get? M=S z:=λM z q U=>(K.2 M q).trans U;have f:∀a z,Sf d.heap b ax a z->Sf X b ax a z:=λa z U=>U.but P (.inr (.inl H));have m:∀M∈g,M≠A:=λM x q=>L (q▸x);refine⟨G.inv.loose P (.inl H) (G.inv.off A H).1 λY=>hx,⟨?_,λr C D=>?_,G.dS.len⟩,⟨λD x=>?_⟩⟩;·exact aM G.dS.ns λx n v=>ba x (n.sameBut K (m _ p.loc)) (λi r E t J s=>aM (v i r E t J s) λB a M=>(ba B a (M.mono f (.refl b))))
 ·exact aM (G.dS.jO r C D) λov i9 v=>hF λh=>aM i9 λz o q=>h (ba ov (ba z (P _ _ (m _ (p.jO r C D).1) o) q) (λi E t J s=>aM (v i E t J s) λB a M=>(ba B a (M.mono f (.refl b)))))
 ·exact G.live.el x λa I z y a0 M C q o U=>⟨a,I,z,y,a0,M,C,q,P _ _ (m _ (T D x I M)) o,U⟩
theorem cM.C9(r:cM l g aq p):∀D∈l,∀I,D.frame=S I->I∈g:=λD x I L=>by refine r.el x λY n Y Y Y A C Y Y Y=>?_;replace A:=L.symm.trans A;obtain rfl:=sX A;exact R'.mp (n4 C rfl)
theorem jj{pos:Nh}{y:cA}{xs:V (O MP)}{ys:V MP}{P:MN->MV->Prop}(hu:f.units<NA)(r:rW h a e l c j f i ae y xs ys)(n:ae.Nodup)(hl:ae.length<=15)(p:bk g c j)(G:St a e g l c j b k w d)(nb:bp i y w k≠.bad)
  (H:∀J m B r2 I o vs E T dk,bp i y w k=.ok (vs,I)->ae.length=vs.length->d.heap.get? J=N->J∉g->cu g (J :: g) [] [J] d.heap m->aQ a e (J :: g) [J] b {d with heap:=m,toks:=B} r2 I o->St a e (J :: g) l c j r2 I w o->DictAt a (J :: g) r2 o J ((ae.map Q.str).zip vs) E T dk->P (.ref J) o) :
  MY (MX h a) f (eval (.Dict xs ys pos) c) P (EE a e g l (bp i y w k).x? b d) d:=by
 refine qo r.IK λl1 l2 l3 l4=>?_;have A:d.heap.get? d.heap.objs.size=N:=bS _;have hs:∀M z,d.heap.get? M=S z->(d.heap.push (bC #[] 0)).get? M=S z:=λY Y D=>Rz _ D;have q:(d.heap.push (bC #[] 0)).get? d.heap.objs.size=S (bC #[] 0):=R3 _ rfl;have a0:=cu.one (h':=d.heap.push (bC #[] 0)) G.inv A hs;have dn:d.heap.objs.size∉g:=G.inv.no A;have W':cu g (d.heap.objs.size :: g) [] [d.heap.objs.size] d.heap (d.heap.push (bC #[] 0)):=⟨a0.hs,a0.sub,a0.new,λa6 x=>.inr (R (Rw.mp x) A),a0.cnt,a0.le⟩;have a1:St a e (d.heap.objs.size :: g) l c j b k w {d with heap:=d.heap.push (bC #[] 0)}:=
  G.cY (λM x=>a0.new M x) a0.le hs λM x=>by
   rcases RB.mp x with rfl|x;·exact⟨_,q⟩
   ·exact dD (G.inv.ex M x) λz D=>⟨z,hs _ _ D⟩
 have s:=p.cY a0.sub;induction ae using RC with
 |nil=>
  cases r with
  |nil=>refine wpAny_Dict_empty (H d.heap.objs.size (d.heap.push (bC #[] 0)) d.toks b k _ [] #[] 0 .str rfl rfl A dn W' (.refl a1.inv) a1 ⟨q,.nil,TK⟩)
 |cons k0 a2=>
  refine wpAny_Dict_any l1 l2 (by rintro rfl;cases l3) (l3.symm▸n1 hl rfl) ?_;refine Nj (r.run (pos:=pos) (d.heap.objs.size :: g) b k {d with heap:=d.heap.push (bC #[] 0)} w s a1 nb) (λa7 s1 L=>?_) λD s1 L=>L.back a0;refine CR L λvs H1 K X o1 v1 v=>?_;have d1:s1.heap.get? d.heap.objs.size=S (bC #[] 0):=by refine o1.keep.el q (G.inv.fresh A) (λx=>nomatch x) λn1 t e' U=>?_;have:g.count d.heap.objs.size=0:=RZ dn;rw[U.once (by refine R Vi ?_;refine R this ?_;simp)] at e';exact e'
  have a4:(k0 :: a2).length=vs.length:=by refine R (jg X) ?_;rw[l4]
  refine u7 (own:=d.heap.objs.size :: g) hu (ks:=k0 :: a2) (vs:=vs) (as:=[]) (dk:=.str) (.head _) ⟨d1,.nil,TK⟩ (λY x=>nomatch x) n (by simp at hl⊢;exact Iq hl rfl) v1 v λm B E a5 a3 sb C=>?_;have cN:=(a1.on s o1).but (tk:=B) p G.live.C9 dn (.head _) sb ⟨_,C.obj⟩;have o2:aQ a e (d.heap.objs.size :: g) [d.heap.objs.size] K s1 K H1 {s1 with heap:=m,toks:=B}:=.mk' cN.inv (.but (a:=d.heap.objs.size) (λM z L U=>(sb.2 M L).trans U) (.inr (.inl (.head _)))) (.refl K);exact H _ _ d.toks K H1 _ vs E a5 a3 X a4 A dn W' (o1.wide.trans o2) cN C
theorem SE.tq{y:cA}{xs:V (O MP)}{ys:V MP}(k:f.units<NA)(r:rW h a e l c j f i ae y xs ys)(n:ae.Nodup)(hl:ae.length<=15):SE h a e l c j f i (.tq ae y) (.Dict xs ys J):=by
 intro g a4 b a5 a1 p G B;refine R wu ?_;have m:bp i y a1 b≠.bad:=λL=>B ((bL L).trans rfl);induction H:bp i y a1 b using Wn with
 |bad=>exact Ng H m
 |exc a3 H'=>
  have:=jj (pos:=J) (P:=λY Y=>Nw) k r n hl p G m λa0 h' tk r2 I o w E T v X=>by replace X:=H.symm.trans X;exact(nomatch X)
  rw[H] at this
  exact Nj this (λY Y A=>A.elim) λY Y D=>D
 |ok L=>
  obtain⟨w,I⟩:=L;have:=jj (pos:=J) (P:=QQ a e g (lO a) [] ((bp i y a1 b).bind λL=>if ae.length=L.1.length then .ok (.ab L.2.D.length,{L.2 with D:=L.2.D++[(ae.map Q.str).zip L.1]}) else .bad) a4 a5) k r n hl p G m λa0 h' tk r2 I o w E T v X d A dn a2 z cN C=>by refine R X ?_;refine R Res.aP ?_;refine R (Na d) ?_;have t:=z.back a2;have x:=More.D r2 a0;refine kU _ _ (r2.iy a0) rfl ⟨t.eq,(cN.inv.C3 (own:=g) (.head _) (λM x=>⟨.tail _ x,λL=>dn (L▸x)⟩) C.obj C.dr C.nd),⟨λM K D q fz=>?_⟩,t.le.trans x.le⟩ (.ab _ _ (by refine R cN.inv.dt.jb.symm ?_;exact fU));refine bM (t.keep.get M K D q fz) λn1 U=>⟨λs=>(x.mem.mp s).elim (λs=>?_) n1,U⟩;rw[Rw.mp s,A] at D;exact nX D
  rw[H] at this;exact Nj this (λY Y L=>L) λD s' L=>by obtain⟨a3,H',X,_⟩:=L;exact nX X
theorem i8.more{own:V MR}{fr:V MR}{f:V MR}{n:Q}{r:AH}{j:MN}{v:MV}(H:∀C∈fr,C∈f)(c:i8 a e own fr l b d n r j v):i8 a e own f l b d n r j v:=i8.map (h1:=d.heap) (tk1:=d.toks) c (λY x=>x) (λY x=>.inl x) (λY x=>x) (λY Y L=>L.less (λC x=>.inl (H C x)) λY x=>.inl x) (.refl b)
theorem i8.wide{fr:V MR}{n:Q}{r:AH}{j:MN}{v:MV}(c:i8 a e g [] l b d n r j v):i8 a e g fr l b d n r j v:=i8.more (fr:=[]) (λY x=>nomatch x) c
theorem Aj:∀{w:V Q} {L:Z×Q},(ae.zip w).find? (λP=>P.1==H)=S L->∃K,eF (.str H) ((ae.map Q.str).zip w)=S (S K)/\(((ae.map Q.str).zip w)[K]?).map (·.2)=S L.2:=by
 induction ae with
 |nil=>exact λD=>nX D
 |cons i ae d=>
  intro w L D
  induction w using RC with
  |nil=>exact nX D
  |cons E w=>
   have D:(match (i==H) with|true=>S (i,E)|false=>(ae.zip w).find? (λP=>P.1==H))=S L:=D
   refine wb (i==H) (λM=>?_) (λM=>?_)
   ·rw[M] at D;refine aM (d D) λK X m=>ba (K+1) ?_ m;exact(qK (show eqT (.str i) (.str H)=S MS from Nb S M)).trans (R X rfl)
   ·rw[M] at D;exact ba 0 (xp (show eqT (.str i) (.str H)=S MK from Nb S M)) (Nb (λL:Z×Q=>S L.2) (sX D))
theorem u9{L:Z×Q}(D:(ae.zip au).find? (λP=>P.1==H)=S L):cX ((ae.map Q.str).zip au) (.str H)=S (S L.2):=by refine aM (Aj D) λK X m=>?_;unfold cX eG;refine R X ?_;exact R m.symm rfl
theorem DictAt.keep{own:V MR}{T:Z}(r:DictAt a own b d A y C T ay)(q:A∉b.M)(c:own.count A<2)(z:aQ a e own [] b d ak bc ap):DictAt a own ak ap A y C T ay:=by refine hF λn=>z.keep.el r.obj q (λx=>nomatch x) λY t j U=>?_;rw[U.once c] at j;exact n ⟨j,r.dr.mono (λY Y U=>z.FP U) z.le,r.nd⟩
theorem SE.pick{es:cA}{xs:V (O MP)}{ys:V MP}{dp:Nh}{K:LE}(k:f.units+64<NA)(r:rW h a e l c j f i ae es xs ys)(nd:ae.Nodup)(hl:ae.length<=15)(d:SE h a e l c j f i K s)(ns:fV s=MK) :
  SE h a e l c j f i (.pick ae es K) (.Subscript (.Dict xs ys dp) s J):=by
 intro g y b t A p G B;rw[oO] at B;refine R oO ?_;have m:bp i es A b≠.bad:=λq=>B ((bL q).trans rfl);refine P1 ?_;induction ev:bp i es A b using Wn with
 |bad=>exact Ng ev m
 |exc n H'=>
  have:=jj (pos:=dp) (P:=λY Y=>Nw) (Ir k rfl) r nd hl p G m λL h' tk r2 I o w E T v X=>by replace X:=ev.symm.trans X;exact nomatch X
  rw[ev] at this
  exact Nj this (λY Y a2=>a2.elim) λY Y D=>D
 |ok q=>
  obtain⟨w,I⟩:=q;rw[ev] at B;have:=jj (pos:=dp) (P:=λz a5=>MY (MX h a) f (eval s c) (λiv a3=>MY (MX h a) f (OZ (.Dict xs ys dp) s z iv) (QQ a e g (lO a) [] ((aO i K A I).bind λy=>gT ae w y.1 y.2) y t) (EE a e g l ((aO i K A I).bind λy=>gT ae w y.1 y.2).x? y t) a3) (EE a e g l ((aO i K A I).bind λy=>gT ae w y.1 y.2).x? y t) a5) (Ir k rfl) r nd hl p G m λL h' tk r2 a9 o b9 E T v X a8 a2 dn a1 z cN C=>by
   replace X:=ev.symm.trans X;refine hF λM=>?_;clear a2 a8 G nd hl;obtain⟨rfl,rfl⟩:=m6 X;refine M (Nj (Q:=λiv a3=>MY (MX h a) f (OZ (.Dict xs ys dp) s (.ref L) iv) (QQ a e g (lO a) [] ((aO i K A I).bind λy=>gT ae w y.1 y.2) y t) (EE a e g l ((aO i K A I).bind λy=>gT ae w y.1 y.2).x? y t) a3) ((d (L :: g) r2 I o A (p.cY a1.sub) cN).step cN.inv (λa4 H3 r3 s3 va e3 o3 v3 a0=>?_) B) (λY Y q=>q) λe' s' q=>?_)
   ·refine R e3 (R Res.aP ?_)
    have dc:(L :: g).count L<2:=by refine R Vi ?_;refine R (RZ dn) ?_;simp
    have x3:=C.keep ((cN.inv.off L (.head _)).1) dc o3
    refine dD (CO a0) λH U=>?_
    clear dn cN C M e3 B dc p r d
    subst U
    unfold gT at a0⊢
    refine aM v3.inv λn cm hk=>R cm ?_
    dsimp only at a0⊢
    induction ef:(ae.zip w).find? (λa7=>a7.1==H) using Rx with
    |none=>exact bX (ef▸a0)
    |some q=>refine fW x3.is Pw.lookup ns (gr (own:=L :: g) (Fb k rfl) x3 (.str H n hk) (u9 ef) λx vv a6=>?_);exact .ok (((z.trans o3.wide).trans (.tok (tk':=s3.toks+x) o3.inv)).back a1) (a6.mono (λa4 z U=>U.back a1.sub) (.refl _))
   ·refine cj q λn H' D U=>?_;exact dI n H' D (((U.wide (fr:=[L])).pre z λa4 x=>by refine R (Rw.mp x) ?_;exact .head _).back a1)
  rw[ev] at this;exact Nj this (λY Y q=>q) λD s' q=>by obtain⟨n,H',X,_⟩:=q;exact nX X
section
open PySem.Spec Builtin
theorem gX:Slot "bytearray" "__len__" "bytearray.__len__":=.of (owner:="bytearray") (n:="__len__") (by refine(Oc ..).trans ?_;refine R P7 ?_;kernel_rfl) (by decide +kernel) (by decide +kernel) (by decide +kernel) (by first|exact .inl (by decide +kernel)|exact .inr (rfl +kernel)) (by refine(Ot ..).trans ?_;kernel_rfl)
theorem jm:Slot "bytearray" "__iter__" "bytearray.__iter__":=.of (owner:="bytearray") (n:="__iter__") (by refine(Oc ..).trans ?_;refine R P7 ?_;kernel_rfl) (by decide +kernel) (by decide +kernel) (by decide +kernel) (by first|exact .inl (by decide +kernel)|exact .inr (rfl +kernel)) (by refine(Ot ..).trans ?_;kernel_rfl)
theorem kK:Slot "bytearray" "__setitem__" "bytearray.__setitem__":=.of (owner:="bytearray") (n:="__setitem__") (by refine(Oc ..).trans ?_;kernel_rfl) (by decide +kernel) (by decide +kernel) (by decide +kernel) (by first|exact .inl (by decide +kernel)|exact .inr (rfl +kernel)) (by refine(Ot ..).trans ?_;kernel_rfl)
theorem eW:Slot "bytearray" "__init__" "bytearray.__init__":=.of (owner:="bytearray") (n:="__init__") (by refine(Oc ..).trans ?_;kernel_rfl) (by decide +kernel) (by decide +kernel) (by decide +kernel) (by first|exact .inl (by decide +kernel)|exact .inr (rfl +kernel)) (by refine(Ot ..).trans ?_;kernel_rfl)
theorem dv:Slot "bytearray_iterator" "__next__" "bytearray_iterator.__next__":=.of (owner:="bytearray_iterator") (n:="__next__") (by refine(Oc ..).trans ?_;kernel_rfl) (by decide +kernel) (by decide +kernel) (by decide +kernel) (by first|exact .inl (by decide +kernel)|exact .inr (rfl +kernel)) (by refine(Ot ..).trans ?_;kernel_rfl)
theorem jq:Slot "bytearray_iterator" "__iter__" "bytearray_iterator.__iter__":=.of (owner:="bytearray_iterator") (n:="__iter__") (by refine(Oc ..).trans ?_;kernel_rfl) (by decide +kernel) (by decide +kernel) (by decide +kernel) (by first|exact .inl (by decide +kernel)|exact .inr (rfl +kernel)) (by refine(Ot ..).trans ?_;kernel_rfl)
theorem ph:Ov Og "bytearray.__len__"=S Builtin.«bytearray.__len__»:=PG (by kernel_rfl)
theorem ng:Ov Og "bytearray.__iter__"=S Builtin.«bytearray.__iter__»:=PG (by kernel_rfl)
theorem pj:Ov Og "bytearray.__setitem__"=S Builtin.«bytearray.__setitem__»:=PG (by kernel_rfl)
theorem ni:Ov Og "bytearray.__init__"=S Builtin.«bytearray.__init__»:=PG (by kernel_rfl)
theorem iH:Ov Og "bytearray_iterator.__next__"=S Builtin.«bytearray_iterator.__next__»:=PG (by kernel_rfl)
theorem nj:Ov Og "bytearray_iterator.__iter__"=S Builtin.«dict_keyiterator.__iter__»:=entryFor_alias (id':="dict_keyiterator.__iter__") (by kernel_rfl) rfl (by decide +kernel) (by kernel_rfl)
theorem qL(I:MN):Ow "bytearray.__len__" ⟨[I],[]⟩:=by kernel_rfl
theorem pk(I:MN):Ow "bytearray.__iter__" ⟨[I],[]⟩:=by unfold Ow;kernel_rfl
theorem qM(I M C:MN):Ow "bytearray.__setitem__" ⟨[I,M,C],[]⟩:=by kernel_rfl
theorem pn(I M:MN):Ow "bytearray.__init__" ⟨[I,M],[]⟩:=by unfold Ow;kernel_rfl
theorem jr(I:MN):Ow "bytearray_iterator.__next__" ⟨[I],[]⟩:=by unfold Ow;kernel_rfl
theorem pq(I:MN):Ow "bytearray_iterator.__iter__" ⟨[I],[]⟩:=by unfold Ow;kernel_rfl
theorem lZ{M:M0 Nn}(B:d.heap.get? n=S (eH M)):d.TypeIs (.ref n) "bytearray":=(ba _ B rfl)
theorem l0{M:M0 Nn}{o:M0 Nn->MV->Prop}(B:d.heap.get? n=S (eH M))(L:o M d):MY T f (We (.ref n)) o t d:=by refine MQ (MQ (Ox B ?_));exact MZ (MZ L)
theorem C'{M:M0 Nn}(w:M.size<1000)(B:d.heap.get? n=S (eH M))(L:ai (.int M.size (d.toks+1)) {d with toks:=d.toks+1+1}):MY (MX h a) f (N2 (.builtin "len") [.ref n]) ai t d:=by refine call_len_slot (lZ B) gX (λb e=>N1 gX (lZ B) ph ?_ (qL _)) (M5 rfl) (mt S4.mp (Uo.mpr (n1 w rfl))) L;show MY _ _ (We (.ref n) >>= λM=>retInt M.size) _ _ d;refine MQ (l0 B ?_);exact MQ (Pr (MZ (ba _ rfl e)))
theorem Ak{M:M0 Nn}(B:d.heap.get? n=S (eH M))(H:ai (.ref d.heap.objs.size) {d with heap:=d.heap.push {cls:=.type "bytearray_iterator",data:=.fields #[.ref n,.int 0 0]}}):MY (MX h a) f (PH (.ref n)) ai t d:=by refine QJ (lZ B) jm (N1 jm (lZ B) ng ?_ (pk _));show MY _ _ (do ret (<-QI "bytearray_iterator" [.ref n,rawInt 0])) _ _ d;exact MQ (Ou (MZ ⟨_,rfl,"bytearray_iterator",_,(ba _ (R3 _ rfl) rfl),dv.lookup,H⟩))
noncomputable def fi(B:MU)(k I:MR)(K:Z):Prop:=∃z,B.get? k=S z/\z.cls=.type "bytearray_iterator"/\z.data=.fields #[.ref I,.int K 0]
theorem fi.is{k:MR}(s:fi d.heap k n ag):d.TypeIs (.ref k) "bytearray_iterator":=mP s λz G j Y=>(ba z G j)
theorem Al{b:MR}(c:fi d.heap b n ag)(B:ai (.ref b) d):MY (MX h a) f (PH (.ref b)) ai t d:=by refine QJ c.is jq (N1 jq c.is nj ?_ (pq _));exact MZ ⟨_,rfl,"bytearray_iterator",_,c.is,dv.lookup,B⟩
theorem Am{M:M0 Nn}{b:MR}{c:Nn}{o:O MN->MV->Prop}(e:fi d.heap b n ag)(w:d.heap.get? n=S (eH M))(g:M[ag]? = S c)
  (H:∀m,fi m b n (ag+1)->Sw b d.heap m->o (S (.int (c.toNat:ML) d.toks)) {d with heap:=m,toks:=d.toks+1}):MY (MX h a) f (OD (.ref b)) o t d:=by refine mP (id e) λz G j q=>?_;refine MQ (OM (Oq (name:=PySem.Str.ofString "__next__") e.is dv (N1 dv e.is iH ?_ (jr _))));show MY _ _ (field (.ref b) 0 >>= _) _ _ d;refine MQ (ON G q (x:=.ref n) rfl ?_);refine MQ (Ox w ?_);refine MQ (ON G q (x:=.int ag 0) rfl ?_);simp only[T1,g];refine MQ (PI G q (Sb _) (MQ (Pr (MZ (ba _ rfl (MZ (H _ ?_ (So ..))))))));exact⟨_,R8 _ G (TJ (Tq q _)),(VU ..).trans j,by refine(Tq q ..).trans ?_;exact rfl⟩
theorem Dc{i:Ni}{a:MR}{b:M0 Nn}{n:MR}{o:O MN->MV->Prop}(l:f.handled=N)(c:fi d.heap n a ag)(w:d.heap.get? a=S (eH b))(g:b[ag]? = N)
  (H:∀e,MU.ExtBut n d.heap e->o N {d with heap:=e}):MY (MX h i) f (OD (.ref n)) o t d:=by refine mP (id c) λz G j q=>?_;refine MQ (OM (Oq (name:=PySem.Str.ofString "__next__") c.is dv (N1 dv c.is iH ?_ (jr _))));show MY _ _ (field (.ref n) 0 >>= _) _ _ d;refine MQ (ON G q (x:=.ref a) rfl ?_);refine MQ (Ox w ?_);refine MQ (ON G q (x:=.int ag 0) rfl ?_);simp only[T1,g];refine MQ (OY (MQ (PI G q (Sn _) (MQ (QB ?_)))));refine MQ (MQ (Ou ?_ (by size_fits)));refine MQ (m:=Pg _ _) (NM (a:=MN.none) (by first|rfl|(rw[Pg];rfl)) ?_);refine Ou ?_ (by size_fits);dsimp only[P0];refine MQ (QK ?_);refine R (show f.in1.handled=N from l) (MQ (MZ (QL ?_)));refine MQ (OW (T:="StopIteration") (b:=true) (ba _ (R3 _ rfl) rfl) QM ?_);exact MZ (H _ (((So ..).extBut.push _).push _))
theorem xq(l:f.handled=N)(k I:MR)(j:I≠k)(M:M0 Nn) :
  Walks h a f k [k,I] [k] M.size (λK E=>∃C c,M[K]? = S C/\E=.int (C.toNat:ML) c) (λK B=>fi B k I K/\B.get? I=S (eH M)) where
 sub:=λM w=>by simp at w;simp[w]
 frame:=λY Y Y G J=>⟨aM (G.1) λz g y=>(ba z (J k (.head _) z g) y),J I (.tail _ (.head _)) _ G.2⟩
 item:=λK t o e d G H=>by refine Am G.1 G.2 (c:=M[K]) (by simp[d]) λm p b=>?_;exact H _ m (t.toks+1) (dI _ _ (by simp[d]) rfl) ⟨p,(b.2 I j).trans G.2⟩ λM z w D=>b.extBut M z (λB=>w (by simp[B])) D
 done:=λt o e G H=>Dc l G.1 G.2 (by simp) λm x=>H m t.toks λM z w D=>x M z (λB=>w (by simp[B])) D
 self:=λY Y Y Y G H=>Al G.1 H
end
noncomputable def bA(c:Nf):V MR:=c.locals :: c.cells.map (·.2)
theorem lookup_mem[BEq G][LawfulBEq G]{r:G}{C:az}:∀{T:V (G×az)},T.lookup r=S C->C∈T.map (·.2):=by
 intro T;induction T with
 |nil=>intro D;exact nX D
 |cons i T f=>
  intro D;rw[SG] at D;split at D;·exact sJ D (.head _)
  ·exact .tail _ (f D)
theorem cM.at(r:cM l g aq p)(P:∀M z,M≠n->p.get? M=S z->X.get? M=S z)(c:(∃z y q,X.get? n=S z/\z.data=.dict y q)\/(∀z,p.get? n=S z->∀y q,z.data≠.dict y q)):cM l g aq X:=
 ⟨λD x=>by
  refine hF λm=>r.el x λH I K y q A t v o h=>m ?_;by_cases L:I=n
  ·subst L;rcases c with⟨z,E,B,G,s⟩|U;·exact⟨H,I,z,E,B,A,t,v,G,s⟩
   ·exact Ng h (U K o y q)
  ·exact⟨H,I,K,y,q,A,t,v,P _ _ L o,h⟩⟩
noncomputable def j4(c:Nf)(E:V MR)(r:MT):Prop:=(c.kindOf r=S .local->c.locals∈E)/\∀C,c.kindOf r=S .cell->c.cells.lookup r=S C->C∈E
theorem j4.all:j4 c (bA c) r:=⟨λY=>.head _,λC Y D=>.tail _ (lookup_mem D)⟩
theorem l6{fr:V MR}{i:V (O MT)}{j:Z}{v':MN}{a8:NO->MV->Prop}(p:bk g c i)(G:St a e g l c i b k w d)(E:j4 c fr r)(hj:i[j]? = S (S r))(J:c.kindOf r=S .local\/c.kindOf r=S .cell)
  (hv:VR a.params (Sf d.heap b g) b aw v') (H:∀v,(∀M z,M∉fr->d.heap.get? M=S z->v.heap.get? M=S z)->aQ a e g fr b d b k v->St a e g l c i b k (w.set j (S aw)) v->a8 () v):MY T f (Qa c r v') a8 t d:=by
 have a4:∀{B:Z} {C:MT} {a0:Q},i[B]? = S (S C)->(w.set j (S aw))[B]? = S (S a0)->(C=r/\a0=aw)\/(C≠r/\w[B]? = S (S a0)):=by
  intro B C a0 X m;by_cases q:j=B
  ·subst q;refine hF λA=>?_;replace X:=hj.symm.trans X;cases X;replace m:=Up▸m;refine kF (w[j]?) (λU=>?_) (λc3 U=>?_);·exact nX (U▸m)
   ·refine A ?_;replace m:=U▸m;cases m;exact .inl ⟨rfl,rfl⟩
  ·rw[R6 q] at m;refine .inr ⟨λU=>?_,m⟩;subst U;exact q (p.Fd j B _ hj X)
 rcases J with J|J
 ·refine aM G.dS.ns λx n hm=>?_;refine wpAny_storeName_local J n (λh' a6 sb=>?_) (by refine R p.kind ?_;rfl);have P:∀M z,M≠c.locals->d.heap.get? M=S z->h'.get? M=S z:=λM z q U=>(sb.2 M q).trans U;have S':∀I z,Sf d.heap b g I z->Sf h' b g I z:=λI z U=>U.but P (.inr (.inl p.loc));have K:∃z y a7,h'.get? c.locals=S z/\z.data=.dict y a7:=by obtain⟨z,y,ep,o,h,_⟩:=a6;exact zQ z y ep o h
  have i':Inv a e g b k h':=G.inv.loose P (.inl p.loc) (G.inv.off _ p.loc).1 λY=>we K λz Y Y o Y=>⟨z,o⟩;refine H _ (λM z q=>P M z λU=>q (by refine R U ?_;exact E.1 J)) (.mk' i' (.but (a:=c.locals) P (.inr (.inl (E.1 J)))) (.refl b)) ⟨i',⟨(ba _ a6 (λB C a0 X m s=>?_)),λC a1 D=>?_,by refine Ta.trans ?_;exact G.dS.len⟩,G.live.at P (.inl K)⟩
  ·rcases a4 X m with⟨rfl,rfl⟩|⟨q,a3⟩;·exact ba v' (Na rfl) (hv.mono S' (.refl b))
   ·refine aM (hm B C a0 X a3 s) λu' z1 z2=>?_;exact ba u' ((Nc q).trans z1) (z2.mono S' (.refl b))
  ·refine aM (G.dS.jO C a1 D) λov bG hc=>aM bG λz o h=>ba ov (ba z (P _ _ (p.jO C a1 D).2 o) h) (λB a0 X m s=>?_);refine hF λc2=>?_;clear a6 bG K;rcases a4 X m with⟨rfl,rfl⟩|⟨q,a3⟩;·rcases s with s|s<;>(replace s:=J.symm.trans s;cases s)
   ·exact aM (hc B a0 X a3 s) λu' z1 z2=>c2 (ba u' z1 (z2.mono S' (.refl b)))
 ·refine dD (p.has j r hj (.inl J)) λa1 a2=>aM (G.dS.jO r a1 a2) λc4 L a9=>wpAny_storeName_cell p.kind J a2 L (λh' a5 sb=>?_);have P:∀M z,M≠a1->d.heap.get? M=S z->h'.get? M=S z:=λM z q U=>(sb.2 M q).trans U;have co:=(p.jO r a1 a2).1;have S':∀I z,Sf d.heap b g I z->Sf h' b g I z:=λI z U=>U.but P (.inr (.inl co));have i':Inv a e g b k h':=G.inv.loose P (.inl co) (G.inv.off _ co).1 λY=>aM a5 λz o Y=>⟨z,o⟩;refine H _ (λM z q=>P M z λU=>q (by refine R U ?_;exact E.2 a1 J a2)) (.mk' i' (.but (a:=a1) P (.inr (.inl (E.2 a1 J a2)))) (.refl b)) ⟨i',⟨?_,λC c' D=>?_,by refine Ta.trans ?_;exact G.dS.len⟩,G.live.at P (.inr λz o y a7 h=>?_)⟩
  ·refine aM G.dS.ns λx n hm=>ba x (n.sameBut sb (S7 (p.jO r a1 a2).2)) (λB C a0 X m s=>?_);refine hF λb9=>?_;clear n sb a9 co E hj H;rcases a4 X m with⟨rfl,rfl⟩|⟨q,a3⟩;·replace s:=J.symm.trans s;cases s
   ·exact aM (hm B C a0 X a3 s) λu' z1 z2=>b9 (ba u' z1 (z2.mono S' (.refl b)))
  ·by_cases q:C=r
   ·subst q;replace D:=a2.symm.trans D;obtain rfl:=sX D;refine ba _ a5 (λB a0 X m s=>?_);refine hF λc1=>?_;clear sb a9 a5 co E hj J H;rcases a4 X m with⟨_,rfl⟩|⟨q,_⟩;·exact c1 (ba v' rfl (hv.mono S' (.refl b)))
    ·exact q rfl
   ·refine aM (G.dS.jO C c' D) λov cm hc=>aM cm λz o h=>ba ov (ba z (P _ _ (λU=>q ?_) o) h) (λB a0 X m s=>?_);·subst U;exact p.inj C r _ D a2
    ·rcases a4 X m with⟨rfl,rfl⟩|⟨q',a3⟩;·exact(q rfl).elim
     ·exact aM (hc B a0 X a3 s) λu' z1 z2=>ba u' z1 (z2.mono S' (.refl b))
  ·refine aM L λo' g' d'=>?_;replace o:=g'▸o;obtain rfl:=sX o;replace h:=d'▸h;cases h
theorem ew{fr:V MR}{i:V (O MT)}{loc:Loc}{j:Z}{B:MN}{o:NO->MV->Prop}(p:bk g c i)(G:St a e g l c i b k loc d)(E:j4 c fr r)(M:i[j]? = S (S r))(J:c.kindOf r=S .local\/c.kindOf r=S .cell) (P:VR a.params (Sf d.heap b g) b aw B) (H:∀v,aQ a e g fr b d b k v->St a e g l c i b k (loc.set j (S aw)) v->o () v):MY T f (Qa c r B) o t d:=l6 p G E M J P λv Y=>H v
noncomputable def SrcAt(a:Ni)(g:V MR)(y:bI)(B:MU):Src->MR->Prop
 |.dS w,I=>∃j q,Sf B y g I (listOf j q)/\bN a.params (Sf B y g) y w j.toList
 |.lL H,I=>y.L[H]? = S I
theorem gY{U:MN}{c:Src}(P:VR a.params (Sf d.heap b g) b aw U)(D:srcOf k aw=S (c,H)):∃I,U=.ref I/\SrcAt a g b d.heap c I:=by
 induction aw using Wm with
 |lst w=>refine dF P.inv λI j e du C A=>?_;subst du;refine cF D (λY D=>?_) λY D=>nX D;obtain rfl:=Nb NT.fst (sX D);exact⟨I,rfl,j,e,C,A⟩
 |aE H=>refine aM P.inv λI dV J=>?_;subst dV;refine iU D λw Y D=>cF D (λY D=>?_) λY D=>nX D;obtain rfl:=Nb NT.fst (sX D);exact ba I rfl J
 |_=>exact nX D
theorem SrcAt.items{c:Src}(K:Inv a e g b k d.heap)(r:SrcAt a g b d.heap c n):∃j q,d.heap.get? n=S (listOf j q)/\
  ∀(i:Z) y,c.at i k=S y->match y with|none=>j[i]? = N|some E=>∃B,j[i]? = S B/\VR a.params (Sf d.heap b g) b E B:=by
 have h:∀{w:V Q} {j:M0 MN},bN a.params (Sf d.heap b g) b w j.toList->∀(i:Z),match w[i]? with|none=>j[i]? = N|some E=>∃B,j[i]? = S B/\VR a.params (Sf d.heap b g) b E B:=by
  intro w j A i
  induction D:w[i]? using Rx with
  |none=>
   have:j.size<=i:=by exact R RH.symm (R A.len.symm (V.getElem?_eq_none_iff.mp D))
   exact Vm this
  |some E=>exact lV A D
 induction c using Src.casesOn with
 |dS w=>refine cj r λj q C A=>?_;exact dI j q C.1 (λi y D=>by obtain rfl:=sX D;exact h A i)
 |lL H=>
  have J:H<k.L.length:=by exact R K.dt.gW.symm ((RF.mp r).1)
  refine cj (K.dt.L H _ n (RA J) r) λj q o A=>?_
  refine dI j q o (λi y D=>?_)
  replace D:(k.L[H]?).map (·[i]?)=S y:=D
  rw[RA J] at D
  have D:=sX D
  subst D
  exact h A i
theorem SrcAt.mono{c:Src}(r:SrcAt a g b p c n)(T:∀n z,Sf p b g n z->Sf X ak ax n z)(H:b.le ak):SrcAt a ax ak X c n:=by
 induction c using Src.casesOn with
 |dS w=>exact cj r λj q C A=>dI j q (T _ _ C) (A.mono T H)
 |lL i=>exact H.L _ _ r
theorem SrcAt.on{s:MV}{c:Src}(r:SrcAt a g b s.heap c n)(z:aQ a e g aq b s ak bc ap)(J:∀n∈aq,n∈g\/s.heap.get? n=N):SrcAt a g ak ap.heap c n:=r.mono (λY Y U=>z.sf J U) z.le
structure cZ(w:Ni)(own:V MR)(r:bI)(h:MU)(src:Src)(I:MR)(i:Z):Prop where
 src:∃a,SrcAt w own r h src a/\a≠I/\h.IsListIter I a i
 one:own.count I=1
theorem cZ.mem{c:Src}{k:MR}(r:cZ a g b p c k ag):k∈g:=R'.mp (by refine R r.one ?_;decide)
theorem cZ.on{s:MV}{d:Src}{c:MR}(K:Inv a e g b k s.heap)(r:cZ a g b s.heap d c ag)(z:aQ a e g aq b s ak bc ap)(f:c∉aq)(J:∀I∈aq,I∈g\/s.heap.get? I=N):cZ a g ak ap.heap d c ag:=by refine hF λH=>?_;obtain⟨I,X,m,i,o,C,h⟩:=r.src;refine z.keep.el o (K.off c r.mem).1 f λY t G U=>?_;obtain rfl:=U.once (by refine R r.one ?_;decide);exact H ⟨⟨I,X.on z J,m,_,G,C,h⟩,r.one⟩
theorem Dd{w:Ni}{n a:MR}{j:M0 MN}{o:O MN->MV->Prop}(l:f.handled=N)(c:d.heap.IsListIter n a ag)(r:d.heap.IsList a j)(k:j[ag]? = N)
  (H:∀i,(∃z,i.get? n=S z)->(∀b z,b≠n->d.heap.get? b=S z->i.get? b=S z)->o N {d with heap:=i}):MY (MX h w) f (OD (.ref n)) o t d:=by refine hF λp=>mP (id c) λz G v q=>?_;obtain⟨y,e,_,s,g⟩:=id r;refine p ?_;refine MQ (OM (Oq (name:=PySem.Str.ofString "__next__") c.typeIs Rk (N1 Rk c.typeIs entry_listiter_next ?_ (args_listiter_next _))));show MY _ _ (field (.ref n) 0 >>= _) _ _ d;refine MQ (ON G q (x:=.ref a) rfl ?_);refine R (Nc (show¬((MN.ref a==MN.none)=MK) from RW)) (MQ (ON G q (x:=.int ag 0) rfl ?_));refine MQ (wpAny_seqItems e g ?_);simp only[T1,k];refine MQ (OY (MQ (PI G q (Va _) ?_)));refine MQ (MQ (Ou ?_ (by size_fits)));refine MQ (m:=Pg _ _) (NM (a:=MN.none) (by first|rfl|(rw[Pg];rfl)) ?_);refine Ou ?_ (by size_fits);dsimp only[P0];refine MQ (QK ?_);refine R (show f.in1.handled=N from l) (MQ (MZ (QL ?_)));refine MQ (OW (T:="StopIteration") (b:=true) (ba _ (R3 _ rfl) rfl) QM ?_);refine MZ (H _ ⟨_,Rz _ (Rz _ (R8 _ G (TJ (Tq q _))))⟩ λb z L D=>?_);exact Rz _ (Rz _ ((S8 _ _ (S7 L)).trans D))
theorem j5{s:Src}{i:MR}{y:O Q}{n:O MN->MV->Prop}(l:f.handled=N)(K:Inv a e g b k d.heap)(r:cZ a g b d.heap s i ag)(D:s.at ag k=S y)
  (H:∀v,aQ a e g [i] b d b k v->match y with|none=>n N v|some E=>∀B,VR a.params (Sf v.heap b g) b E B->cZ a g b v.heap s i (ag+1)->n (S B) v):MY (MX h a) f (OD (.ref i)) n t d:=by
 refine hF λw=>mP r.src λI X J c=>cj (X.items K) λj q o hj=>?_;have x:=hj ag y D;induction y using Rx with
 |none=>exact w (Dd l c (bb o) x λm U P=>H _ (.mk' (K.loose P (.inl r.mem) (K.off i r.mem).1 λY=>U) (.but (a:=i) P (.inr (.inl (.head _)))) (.refl b)))
 |some E=>refine aM x λB T A=>w (wpAny_pyNext_list_item c (bb o) T λm p G=>?_);have P:∀M z,M≠i->d.heap.get? M=S z->m.get? M=S z:=λM z L U=>(G.2 M L).trans U;have i':Inv a e g b k m:=K.loose P (.inl r.mem) (K.off i r.mem).1 λY=>aM p λz o Y=>⟨z,o⟩;have C:∀I z,Sf d.heap b g I z->Sf m b g I z:=λI z U=>U.but P (.inr (.inl r.mem));exact H {d with heap:=m} (.mk' (tk':=d.toks) i' (.but (a:=i) P (.inr (.inl (.head _)))) (.refl b)) B (A.mono C (.refl b)) ⟨(jM I (X.mono C (.refl b)) J p),r.one⟩
section
open Sem (wp)
noncomputable def Dk(B m:MU):Prop:=∀I z,B.get? I=S z->∃t,m.get? I=S t/\t.dict=z.dict
theorem Dk.refl(B:MU):Dk B B:=λY z D=>⟨z,D,rfl⟩
theorem Dk.trans{I M C:MU}(r:Dk I M)(s:Dk M C):Dk I C:=λL z D=>aM (r L z D) λo1 X H=>aM (s L o1 X) λo2 m y=>⟨o2,m,y.trans H⟩
theorem Dk.push(B:MU)(z:Nk):Dk B (B.push z):=λY t D=>⟨t,Rz _ D,rfl⟩
theorem Dk.update(B:MU)(I:MR)(A:Nk->Nk)(J:∀z,B.get? I=S z->(A z).isFreed=MS/\(A z).dict=z.dict):Dk B (B.update I A):=λM z D=>by
 by_cases L:M=I;·subst L;exact ba _ (R8 _ D (J z D).1) ((J z D).2)
 ·exact ba z ((S8 _ _ (S7 L)).trans D) rfl
theorem l8(z:Nk)(A:M0 MN->M0 MN):(z.mapFields A).dict=z.dict:=by obtain⟨C,h,a,i⟩:=z;induction a using NX.casesOn<;>rfl
theorem ve(D:p.get? n=S ah):ah.isFreed=MS:=(MU.get?_some_iff.mp D).2
theorem qN(z:Nk)(sl):({z with slots:=sl}:Nk).isFreed=z.isFreed:=by obtain⟨C,h,a,r⟩:=z;induction a using NX.casesOn<;>rfl
structure cz{α:Type}(t:Nl α):Prop where
 out:∀(M:NZ) (Γ:Ctx) (P:α->Nh->MV->Prop) (Ee:MN->Nh->MV->Prop) (p:Nh) (s:MV),wp M Γ t P Ee p s->wp M Γ t (λa p' s'=>P a p' s'/\Dk s.heap s'.heap) Ee p s
namespace cz
theorem pure(I:G):cz (Pure.pure I:Nl G):=⟨λY Y Y Y Y Y B=>⟨B,.refl _⟩⟩
theorem unsupported(a:Od):cz (PySem.unsupported a:Nl G):=⟨λY Y Y Y Y Y B=>B.elim⟩
theorem bind{x:Nl G}{A:G->Nl az}(e:cz x)(J:∀I,cz (A I)):cz (x >>= A):=⟨λw a c b P t B=>by rw[VM] at B⊢;refine TG w a x (λI l v m=>?_) (λY Y Y r=>r) P t (e.out w a _ b P t B);exact TG w a (A I) (λM n o d=>⟨d.1,m.2.trans d.2⟩) (λY Y Y r=>r) l v ((J I).out w a c b l v m.1)⟩
theorem ite{C:Prop}[OH C]{n c:Nl G}(h:cz n)(k:cz c):cz (if C then n else c):=by split<;>assumption
theorem load(I:MR):cz (PySem.load I):=⟨λY Y Y Y Y Y B=>by exact aM B λz D B=>⟨z,D,B,.refl _⟩⟩
theorem stack:cz PySem.stack:=⟨λY Y Y Y Y Y B=>by exact⟨B,.refl _⟩⟩
theorem alloc(z:Nk):cz (PySem.alloc z):=⟨λY Y Y Y Y Y B=>by exact⟨B,.push _ _⟩⟩
theorem upd(I:MR)(o:Nk->M0 (O MN)):cz (PySem.update I λz=>{z with slots:=o z}):=⟨λw a c b P t B=>by refine fB B.1 B.2 (.update _ _ _ λz D=>⟨?_,rfl⟩);refine(qN ..).trans ?_;exact ve D⟩
theorem field(E:MN)(K:Z):cz (PySem.field E K):=⟨λd a c b P t B=>by rw[wp_field_iff] at B⊢;exact KZ B λI z w r X m s Y B=>⟨I,z,w,r,X,m,s,Y,B,.refl _⟩⟩
theorem setField(E:MN)(K:Z)(r:MN):cz (PySem.setField E K r):=⟨λd a c b P e B=>by rw[wp_setField_iff] at B⊢;refine JK B λI z w X m s Y B=>KL I z w X m s Y B (.update _ _ _ λt D=>?_);replace D:=m▸D;obtain rfl:=sX D;exact⟨TJ (Tq s _),l8 _ _⟩⟩
end cz
theorem jt(c:Nf)(o:V Nf):cz (behindIsImport c o):=by unfold behindIsImport;repeat' with_reducible first|assumption|exact cz.pure _|exact cz.unsupported _|exact cz.field _ _|exact cz.load _|exact cz.stack|apply cz.ite|apply cz.bind|intro _|split
theorem fX:cz Rl:=by unfold Rl;repeat' with_reducible first|assumption|exact cz.pure _|exact cz.unsupported _|exact cz.field _ _|exact cz.load _|exact cz.stack|apply cz.ite|apply cz.bind|intro _|split
theorem qO(c:Nf)(K:MO)(T:V Nf):cz (keptBack c K T):=by have:=fX;induction T using RC<;>unfold keptBack<;>repeat' with_reducible first|assumption|exact cz.pure _|exact cz.unsupported _|exact cz.field _ _|exact cz.load _|exact cz.stack|apply cz.ite|apply cz.bind|intro _|split
theorem l9(T:V Nf):cz (readyFrames T):=by
 induction T with
 |nil=>exact cz.pure _
 |cons c o d=>
  have p:=jt c o
  unfold readyFrames
  repeat' with_reducible first|assumption|exact cz.pure _|exact cz.unsupported _|exact cz.field _ _|exact cz.load _|exact cz.stack|exact cz.upd _ _|exact(λK=>qO c K o) _|apply cz.ite|apply cz.bind|intro _|split
theorem ma(T:V Nf):cz (frameObject T):=by
 induction T using RC with
 |nil=>exact cz.pure _
 |cons c o=>
  have:=l9 (c :: o)
  unfold frameObject
  repeat' with_reducible first|assumption|exact cz.pure _|apply cz.bind|intro _
theorem ps:cz frameEnvs:=by unfold frameEnvs;repeat' with_reducible first|assumption|exact cz.pure _|exact cz.stack|apply cz.bind|intro _
theorem rX(c:Nf):cz (frameOf c):=by have p:=ps;unfold frameOf;repeat' with_reducible first|assumption|exact cz.pure _|exact cz.unsupported _|exact(ma) _|apply cz.bind|intro _|split
theorem kX(A:MR)(h:MO):cz (entryPlaceOf A h):=by unfold entryPlaceOf;repeat' with_reducible first|assumption|exact cz.pure _|exact cz.unsupported _|exact cz.field _ _|exact cz.load _|exact cz.stack|apply cz.ite|apply cz.bind|intro _|split
theorem qP(I M C h D:MN)(pl:V MN):cz (EntryCells.newEntry I M C h D pl):=by unfold EntryCells.newEntry QI newObj newObjAsIs;repeat' with_reducible first|assumption|exact cz.pure _|exact cz.unsupported _|exact cz.alloc _|apply cz.ite|apply cz.bind|intro _|split
theorem ju(D:MN)(c:Nf):cz (noteFrame D c):=by unfold noteFrame;repeat' with_reducible first|assumption|exact cz.pure _|exact cz.unsupported _|exact cz.field _ _|exact cz.setField _ _ _|exact qP _ _ _ _ _ _|exact(rX) _|exact(kX) _ _|apply cz.ite|apply cz.bind|intro _|split
theorem gw(D:MN)(A:O MR):cz (setFlight D A):=by unfold setFlight;repeat' with_reducible first|assumption|exact cz.pure _|exact cz.field _ _|exact cz.setField _ _ _|apply cz.ite|apply cz.bind|intro _|split
theorem mc(D:MN)(c:Nf):cz (OE c D):=by unfold OE;exact cz.bind (ju _ _) λY=>gw _ _
theorem cz.at{n:Nl G}(H:cz n){M:NZ}{A:Nv}{o:G->MV->Prop}(B:MY M A n (λI v=>Dk d.heap v.heap->o I v) t d):MY M A n o t d:=λa P h=>
 TG M a n (λI l v m=>m.1 m.2) (λY Y Y r=>r) P d (H.out M a _ _ P d (B a P h))
end
noncomputable def Hx(a:Ni)(T:SP)(y:bI):Fl->ND->Prop
 |.next,.next=>Np
 |.ret E,.ret B=>VR a.params T y E B
 |_,_=>Nw
section
variable(w:Ni)(g₀:MU)(own:V MR)
noncomputable def QS(E:V MR)(o:V Nf)(c:Nf)(i:V (O MT))(a:Res (Fl×Loc×AH))(y:bI)(t:MV):ND->MV->Prop:=λA v=>∃q J r K,a=.ok (q,J,r)/\aQ w g₀ own E y t K r v/\St w g₀ own (c :: o) c i K r J v/\Hx w (Sf v.heap K own) K q A
noncomputable def EF(E:V MR)(T:V Nf)(a:O (Q×AH))(y:bI)(t:MV):MN->MV->Prop:=λj v=>∃n r,a=S (n,r)/\i8 w g₀ own E T y t n r j v
noncomputable def ES(a:NZ)(f:Nv)(E:V MR)(o:V Nf)(c:Nf)(r:O (Q×AH))(y:bI)(t:MV):MN->MV->Prop:=λD v=>MY a f (OE c D) (λY s=>EF w g₀ own E o r y t D s) (λj s=>EF w g₀ own E o r y t j s) v
noncomputable def An(a:NZ)(f:Nv)(E:V MR)(o:V Nf)(c:Nf)(i:V (O MT))(n:Nl ND)(r:Res (Fl×Loc×AH))(y:bI)(t:MV):Prop:=r≠.bad->MY a f n (QS w g₀ own E o c i r y t) (ES w g₀ own a f E o c r.x? y t) t
end
noncomputable def SS(l:Nu)(a:Ni)(d:MU)(o:V Nf)(c:Nf)(i:V (O MT))(f:Nv)(e:CF)(G:LS)(r:M8):Prop:=∀g y b t A,bk g c i->St a d g (c :: o) c i y b A t->An a d g (MX l a) f (bA c) o c i (exec r c) (cQ e G A b) y t
noncomputable def qQ(l:Nu)(a:Ni)(d:MU)(o:V Nf)(c:Nf)(i:V (O MT))(f:Nv)(e:CF)(G:dR)(r:V M8):Prop:=∀g y b t A,bk g c i->St a d g (c :: o) c i y b A t->An a d g (MX l a) f (bA c) o c i (Oh r c) (aW e G A b) y t
theorem bk.fP(p:bk g c j):∀I∈bA c,I∈g:=λI x=>(RB.mp x).elim (λD=>D▸p.loc) (p.zY I)
theorem EF.no{j:MN}{v:MV}(L:EF a e g aq l N b d j v):Y:=cj L λn r U c=>nX U
theorem EF.pre{r:O (Q×AH)}{j:MN}{v:MV}(z:aQ a e g aq b d ak bc ap)(J:∀I∈aq,I∈g)(L:EF a e g aq l r ak ap j v):EF a e g aq l r b d j v:=cj L λn c D U=>dI n c D (U.pre z J)
theorem EF.wide{fr:V MR}{r:O (Q×AH)}{j:MN}{v:MV}(L:EF a e g [] l r b d j v):EF a e g fr l r b d j v:=cj L λn c D U=>dI n c D U.wide
theorem ES.mono{r C:O (Q×AH)}{K:bI}{v:MV}{h:V MR}(H:∀D n,EF a e g aq o r b d D n->EF a e ax h o C K v D n){D:MN}{n:MV}(L:ES a e g T f aq o c r b d D n):ES a e ax T f h o c C K v D n:=Nj L (λY Y U=>H _ _ U) λY Y U=>H _ _ U
theorem vf{I:MR}{n:Q}{r:AH}{j:MN}{v:MV}{a1:NO->MV->Prop}(E:f.frames=S (c :: o))(J:c.frame=S I)(a2:i8 a e g aq (c :: o) b d n r j v)
  (H:∀s,i8 a e g aq o b d n r j s->a1 () s):MY T f (OE c j) a1 t v:=by
 revert H;refine i8.el (P:=λj v=>(∀s,i8 a e g aq o b d n r j s->a1 () s)->MY T f (OE c j) a1 t v) a2 λa6 K hr ea m b9 z1 z2 z3 z4 z Y X H=>X.el λa4 w k h y q fw fb y1 y2 D y4 y5 y6 x f0 f1 f2 f3=>(mc _ _).at (wpAny_leaves_onW E J fw λG l up dk=>?_);refine aM (dk ea k y1) λi g' p=>H _ (.mk a6 K hr ea G _ z1 z2 z3 z4 z Y (.mk a4 w i h y q l (λM a9 a5=>(fb M a9 a5).imp id ?_) g' (p.trans y2) D y4 y5 y6 x f0 f1 f2 f3));rintro⟨C,⟨a8,B,L⟩,c1,a3⟩;obtain⟨a7,A⟩:=up M _ a3 λvs U=>by replace U:=L.symm.trans U;cases U
 exact⟨C,(wa a8 B L),a7,A⟩
theorem EF.stmt{i:Z}{r:O (Q×AH)}{j:MN}{v:MV}(R:bo bh i f (c :: o))(M:cM (c :: o) g [] p)(q:EF a e g aq (c :: o) r b d j v):ES a e g T f aq o c r b d j v:=by refine hF λl=>cj q λn h du U=>?_;subst du;exact M.el (.head _) λY I Y Y Y J Y Y Y Y=>l (vf R.frames J U λs q=>(dI n h rfl q))
theorem jN.ei{t:Z}{h:Rel G az}{n:Nl az}{s:Res (G×AH)}{A:G×AH->Res (Fl×Loc×AH)}{l:az->MV->Prop}(R:bo bh t f (c :: o))(p:cM (c :: o) g [] ap.heap)(J:∀I∈aq,I∈g)(B:jN a e g T f (c :: o) h n s ak ap)(z:aQ a e g aq b d ak bc ap)
  (H:∀I i x k M,s=.ok (I,i)->aQ a e g aq b d x i k->aQ a e g [] ak ap x i k->h (Sf k.heap x g) x I M->A (I,i)≠.bad->l M k) (w:s.bind A≠.bad) :
  MY T f n l (ES a e g T f aq o c (s.bind A).x? b d) ap:=by
 refine Nj (B (λq=>w (by refine(bL q).trans ?_;rfl))) (λM v q=>?_) λj v q=>?_;·refine dF q λI i x dV o2 E=>?_;clear B;subst dV;exact H I i x v M rfl (z.trans o2.wide) o2 E w
 ·refine EF.stmt R p (EF.pre z J ?_)
  refine cj q λn r D U=>?_
  clear q R p J B z H w
  induction s using Wn with
  |ok I=>exact nX D
  |bad=>exact nX D
  |exc X m=>obtain⟨rfl,rfl⟩:=sP D;exact dI _ _ rfl U.wide
theorem QS.pre{r:Res (Fl×Loc×AH)}{A:ND}{v:MV}(z:aQ a e g aq b d ak bc ap)(L:QS a e g aq o c j r ak ap A v):QS a e g aq o c j r b d A v:=KY L λq J f K D t U=>Iy q J f K D (z.trans t) U
theorem An.lift{n:Nl ND}{r:Res (Fl×Loc×AH)}(J:∀I∈aq,I∈g)(h:An a e g T f aq o c j n r ak ap)(z:aQ a e g aq b d ak bc ap)(B:r≠.bad):MY T f n (QS a e g aq o c j r b d) (ES a e g T f aq o c r.x? b d) ap:=Nj (h B) (λY Y L=>L.pre z) λY Y L=>L.mono λY Y U=>U.pre z J
theorem qQ.nil:qQ h a e o c j f i .nil []:=λg y b t A p G B=>by exact Oj (gU .next A b y rfl (.refl G.inv) G trivial)
theorem qQ.cons{I:LS}{l:dR}{d:M8}{x:V M8}(C:SS h a e o c j f i I d)(G:qQ h a e o c j f i l x):qQ h a e o c j f i (.cons I l) (d :: x):=λg y b t A p H B=>by
 rw[fe] at B;refine R fe ?_;have D:cQ i I A b≠.bad:=λL=>B ((bL L).trans rfl);refine PJ (Nj (C g y b t A p H D) (λm v L=>?_) λw v L=>?_)
 ·refine qw L λq J r K w z k U=>?_
  rw[w,Res.aP] at B⊢
  induction q using Fl.casesOn with
  |next=>
   induction m using SH with
   |next=>exact(G g K r v J p k).lift p.fP z B
   |_=>exact U.elim
  |ret E=>
   induction m using SH with
   |ret Y=>exact gU (.ret E) J r K rfl z k U
   |_=>exact U.elim
 ·refine L.mono λT n U=>cj U λP r X U=>?_
  induction s:cQ i I A b using Wn with
  |ok _=>exact nX (s▸X)
  |bad=>exact(D s).elim
  |exc M H2=>replace X:=s▸X;obtain⟨rfl,rfl⟩:=sP X;exact dI _ _ rfl U
theorem SS.exp(R:bo bh q f (c :: o))(m:SE h a e (c :: o) c j f i af s)(d:Ph c=MS)(P:N3 s N J.line c=pure MS):SS h a e o c j f i (.exp af) (.Expr s J):=λg y b t A p G B=>by rw[rM] at B⊢;refine QN ((m g y b t A p G).ei R G.live p.fP (.refl G.inv) (λI z K k U X o1 l E D=>?_) B) d P;rw[X];exact gU .next A z K rfl o1 (G.on p l) trivial
theorem SS.ret(R:bo bh q f (c :: o))(d:SE h a e (c :: o) c j f i af s):SS h a e o c j f i (.ret af) (.Return (S s) J):=λg y b t A p G B=>by rw[wF] at B⊢;refine wpAny_Return_some ((d g y b t A p G).ei R G.live p.fP (.refl G.inv) (λI z K k U X o1 l E D=>?_) B);rw[X];exact gU (.ret I) A z K rfl o1 (G.on p l) E
theorem SS.asg(R:bo bh q f (c :: o))(d:SE h a e (c :: o) c j f i af s)(M:j[K]? = S (S r))(m:c.kindOf r=S .local\/c.kindOf r=S .cell)
  (P:N3 s (S (.Name r bj)) J.line c=pure MS):SS h a e o c j f i (.asg K af) (.Assign [.Name r bj] s J):=λg y b x A p G B=>by rw[oP] at B⊢;refine wpAny_Assign_Name ((d g y b x A p G).ei R G.live p.fP (.refl G.inv) (λI z w k U X o1 l E D=>?_) B) P;rw[X];exact ew p (G.on p l) j4.all M m E λv t n=>(gU .next _ z w rfl (o1.trans t) n trivial)
theorem Ao{C:LE}{I M:dR}:cQ i (.ifs C I M) w k=(mR i C w k).bind λL=>if L.1 then aW i I w L.2 else aW i M w L.2:=by
 refine rN.trans (R eQ ?_);cases aO i C w k with
 |ok P=>
  dsimp only[Res.aP]
  induction n:truthy P.1 using Rx with
  |none=>rfl
  |some C=>induction C using RD<;>rfl
 |exc _ _=>rfl
 |bad=>rfl
theorem SS.ifs{C:LE}{I M:dR}{n m:V M8}(R:bo bh q f (c :: o))(d:ST h a e (c :: o) c j f i C s)(r:qQ h a e o c j f i I n)(w:qQ h a e o c j f i M m):SS h a e o c j f i (.ifs C I M) (.If s n m J):=λg y b t A p G B=>by
 rw[Ao] at B⊢;refine wpAny_If ((d g y b t A p G).ei R G.live p.fP (.refl G.inv) (λL z K k U X o1 l E D=>?_) B);obtain rfl:L=U:=E;rw[X];clear B X R d;induction L using RD with
 |true=>exact(r g K z k A p (G.on p l)).lift p.fP o1 D
 |false=>exact(w g K z k A p (G.on p l)).lift p.fP o1 D
open Builtin
theorem pw{j:M0 MN}{H:ML}{v:NL}{k:NO->MV->Prop}(o:d.heap.get? n=S (listOf j q))(E:0<=H)(p:H<j.size)(s:j.size<1000)
  (r:∀m B,m.get? n=S (listOf (j.setIfInBounds H.toNat aa) B)->Sw n d.heap m->k () {d with heap:=m}):MY (MX h a) f (Py (.ref n) (.int H v) aa) k t d:=by
 have l:=bb o;refine Nx (MQ (PY l.typeIs (rfl) ?_));refine MQ (Oq (name:=Tw "__setitem__") l.typeIs Rm (N1 Rm l.typeIs entry_list_setitem ?_ (args_list_setitem _ _ _)));show MY _ _ (NK.List.listSubscript? (.int H v) >>= _) _ _ d;refine MQ (wpAny_listSubscript_int (fitsIndex_of E (JE p s)) ?_);refine dD (TP E) λi bG=>?_;clear l E s;subst bG;have M:i<j.size:=by exact RT.mp p
 have c:j[i]? = S j[i]:=Tu M;refine MQ (MQ (wpAny_seqItemAt o rfl (MZ ?_)));refine R c (hF λe=>dD (kJ j q (·.setIfInBounds i aa)) λB g=>?_);have b:(d.heap.update n (V' (·.setIfInBounds i aa))).get? n=S (listOf (j.setIfInBounds i aa) B):=by refine(R8 _ o (by refine R g ?_;rfl)).trans ?_;rw[g]
 refine e (MQ (wpAny_setSeqItemAt o rfl ?_));first
  |exact MQ (MZ (MZ (fB .none rfl (MZ (r _ B b (So ..))))))
  |exact MZ (ba .none rfl (MZ (r _ B b (So ..))))
theorem rY{k:Ni}{a:MR}{M:M0 Nn}{H z:ML}{i c:NL}{g:NO->MV->Prop}(o:d.heap.get? a=S (eH M))(E:0<=H)(n:H<M.size)(s:M.size<1000)(e:0<=z)(o1:z<256)
  (j:∀m,m.get? a=S (eH (M.setIfInBounds H.toNat z.toNat.toUInt8))->Sw a d.heap m->g () {d with heap:=m}):MY (MX h k) f (Py (.ref a) (.int H i) (.int z c)) g t d:=by
 refine Nx (MQ (PY (lZ o) (rfl) ?_));refine MQ (Oq (name:=Tw "__setitem__") (lZ o) kK (N1 kK (lZ o) pj ?_ (qM _ _ _)));refine MQ (MQ (Oa (T:="int") (QO d H i) int_index ?_));refine MQ (NM (a:=H) rfl ?_);refine R (Nc (by unfold NK.Bytes.fitsIndex;simp;exact⟨i4 E (by decide),JE n s⟩)) ?_;refine MZ (MQ (MQ (NM (a:=z) rfl ?_)));refine R (Nc (by simp;exact⟨e,o1⟩)) ?_;refine MZ (MQ (l0 o ?_));rw[show seqIndex? H M.size=S H.toNat from seqIndex_of E n];refine MQ (MQ (Ox o ?_));refine MQ (QP o ?_);have b:=R8 (V4 (·.setIfInBounds H.toNat z.toNat.toUInt8)) o rfl;refine Qb b ?_ ?_;·show(if(M.setIfInBounds H.toNat z.toNat.toUInt8).size>N0 then S "bytearray:memory" else N)=N;rw[Nc];rw[M0.size_setIfInBounds];exact Ti.mpr (qm s rfl)
 ·exact MQ (MZ (MZ ⟨.none,rfl,MZ (j _ b (So ..))⟩))
theorem byte_back{z:ML}(E:0<=z)(p:z<256):((z.toNat.toUInt8.toNat:Z):ML)=z:=by refine dD (TP E) λa cm=>?_;subst cm;exact Nb VH (Z.mod_eq_of_lt (RT.mp p))
theorem tX{z L:Q}{c vi vv:MN}{H':AH}{a0:NO->MV->Prop}(hu:f.units+64<NA)(K:Inv a e g b k d.heap)(p:VR a.params (Sf d.heap b g) b z c)(h2:VR a.params (Sf d.heap b g) b L vi)(T:VR a.params (Sf d.heap b g) b aw vv)(D:dm k z L aw=S H')
  (hQ:∀v,aQ a e g [] b d b H' v->a0 () v):MY (MX h a) f (Py c vi vv) a0 t d:=by
 refine hF λE=>?_;have p:=p.inv;induction z using Wm with
 |aE H=>
  refine aM p λI du J=>?_
  subst du
  induction L using Wm with
  |int a1=>refine dD h2.inv λn dV=>?_;subst dV;refine aM (SN.mp D) λvs i D=>cF D (λq D=>?_) λY D=>nX D;refine cj (K.dt.L H vs I i J) λj a4 o A=>?_;have s:=A.len.trans RH;refine fM q λq0 y P=>E ?_;exact pw o q0 (s▸y) (s▸M5 P) λm B G r=>hQ _ (sX D▸.mk' (K.CV J r G (R UY (A.set a1.toNat T))) (.but (a:=I) (λM z q U=>(r.2 M q).trans U) (.inl (kG J))) (.refl b))
  |_=>exact nX D
 |ab H=>refine aM p λI fC J=>?_;subst fC;exact aM (SN.mp D) λl i D=>aM (Sa.mp D) λa8 X D=>zX (fE K i J) λes ep dk a2=>E (pb (own:=g) (Fb hu rfl) a2 h2 T X λa4 m a9 x a6 r G a3 a5=>hQ _ (D▸.mk' (K.FN J r G a3 a5) (.but (a:=I) (λM z q U=>(r.2 M q).trans U) (.inl (fS J))) (.refl b)))
 |eP H=>
  refine aM p λI i9 J=>?_
  subst i9
  induction L using Wm with
  |int a1=>
   induction aw using Wm with
   |int z=>refine dD h2.inv λn jT=>?_;subst jT;refine dD T.inv λa7 lP=>?_;subst lP;refine aM (SN.mp D) λbs i D=>cF D (λq D=>?_) λY D=>nX D;refine aM (K.dt.B H bs I i J) λM o w=>?_;have s:=w▸(Ry _).trans RH;refine wc q λq0 y P C q4=>E ?_;exact rY o q0 (s▸y) (s▸M5 q4) P C λm G r=>hQ _ (sX D▸.mk' (K.setB J r G (by refine R UY ?_;refine VN.trans ?_;refine R w ?_;refine R (byte_back P C) rfl)) (.but (a:=I) (λM z q U=>(r.2 M q).trans U) (.inl (nQ J))) (.refl b))
   |_=>exact nX D
  |_=>exact nX D
 |_=>exact nX D
theorem FR.findIdx(n:ae.Nodup)(e:∀H∈ae,H<NS):∀{l:V Q} {y:V Nr} {K H:Z},FR U x b ae l y->ae[K]? = S H->y.findIdx? (λD=>D.key.isStr (sx H))=S K:=by
 induction ae with
 |nil=>intro l y K H B D;exact nX D
 |cons r ae d=>
  intro l y K H B D
  rw[RV] at n
  cases B with
  |@cons _ w P t _ l y p G=>
   refine Uj.trans ?_
   induction K using RX with
   |zero=>obtain rfl:=sX D;simp[MN.isStr]
   |succ K=>
    have J:H∈ae:=RI D
    have:(MN.str (sx r) t).isStr (sx H)=MS:=by refine(jV (e r (.head _)) (e H (.tail _ J))).trans ?_;rw[OI];rintro rfl;exact n.1 J
    simp only[this,SR,Oi]
    exact R (d n.2 (λH J=>e H (.tail _ J)) G D) rfl
theorem FR.noRef:∀{l:V Q} {y:V Nr},FR U x b ae l y->y.any (·.refKey)=MS:=by
 induction ae with
 |nil=>intro l y B;cases B;rfl
 |cons r ae d=>
  intro l y B
  cases B with
  |@cons _ w P t _ l y p G=>exact VC.trans ((d G).trans rfl)
theorem tY{g:Ni}{r:bI}{s:MV}{y:MR}{l:dG}{a:Z}{o:MN}{I:NO->MV->Prop}(z:Ff v)(X:C5 v)(w:v.In s.heap)(j:l≠.bR)(c:a∈bT l)(k:iG s y A l C q)(Y:FR g.params x r ae au C.toList)(e:∀H∈ae,H<NS)
  (J:C.size<500)
  (hQ:∀m B n' n E,E.toList=(match C.toList.findIdx? (λD=>D.key.isStr (sx a)) with|some K=>C.toList.modify K (λD=>{D with val:=o})|none=>C.toList++[⟨Sr g.params (sx a),.str (sx a) n,o⟩])->m.get? A=S (bC E n')->Sw A s.heap m->I () {s with heap:=m,toks:=B}) :
  MY (MX h g) f (PK (.ref y) (sx a) o) I t s:=by
 refine hF λa0=>bM (X.sa l j) λp G=>aM (z.cls l) λcd i U=>a0 (set_plain w k.inst p (osa_open (s:={s with toks:=s.toks+1}) w k.inst G (X.xk l j a c) λM=>?_));refine MQ (MZ (MQ (MQ (O2 k.x (MQ (Nt.here (s:={s with toks:=s.toks+1}) (Qc w i) ?_))))));refine R U (MZ (a:=S A) (MQ (MZ (MQ ?_))));refine MQ (MQ (Qv (MZ (MQ (QE (MQ (O2 k.d ?_)))))));have b:C.any (·.refKey)=MS:=by exact V3.symm.trans Y.noRef
 have T:(!C.any (·.key.isStr (sx a))&&C.any (·.refKey))=MS:=by exact R b ((UO ..))
 dsimp only;refine R (aRefKeyMayBeTheName_at ..) (R T ?_);have P:Vn (sx a) (Sr g.params (sx a)) (.str (sx a) (s.toks+1)) o (bC C q)=bC (putL (sx a) (Sr g.params (sx a)) (.str (sx a) (s.toks+1)) o C.toList).toArray (putN (sx a) C.toList q):=by have:=putName_dict (sx a) (Sr g.params (sx a)) (.str (sx a) (s.toks+1)) o C.toList q;exact this
 have d:(s.heap.update A (Vn (sx a) (Sr g.params (sx a)) (.str (sx a) (s.toks+1)) o)).get? A=S (bC (putL (sx a) (Sr g.params (sx a)) (.str (sx a) (s.toks+1)) o C.toList).toArray (putN (sx a) C.toList q)):=by refine(R8 _ k.d (by refine R P ?_;rfl)).trans ?_;rw[P]
 have L:(putL (sx a) (Sr g.params (sx a)) (.str (sx a) (s.toks+1)) o C.toList).length<=C.size+1:=by
  refine R (putL_find ..).symm ?_;split;·simp
  ·simp
 refine Rn k.d ?_;refine MQ (Qb d (Ro (by refine R V.size_toArray ?_;refine R N8 ?_;exact n3 (RG L J) rfl)) ?_);refine MZ (hQ _ _ (putN (sx a) C.toList q) (s.toks+1) _ ?_ d (So ..));refine V.toList_toArray.trans ((putL_find ..).symm.trans ?_);cases V.findIdx? (λD=>D.key.isStr (sx a)) C.toList<;>rfl
noncomputable def isName:MP->MO
 |.Name ..=>MK
 |_=>MS
noncomputable def j6:MP->MO
 |.ListComp ..|.SetComp ..|.DictComp ..=>MK
 |_=>MS
theorem eK(B:j6 s=MS)(n:O MP)(H:Z)(c:Nf):N3 s n H c=pure MS:=by
 induction s using PySem.Expr.casesOn with
 |ListComp|SetComp|DictComp=>exact bF B.symm
 |_=>exact Eq.refl (pure MS)
theorem gZ{n:MP}(p:∀I M C h,N3 (.ListComp I M C h) (S n) H c=pure MS)(G:∀I M C h,N3 (.SetComp I M C h) (S n) H c=pure MS)(T:∀I M C h D,N3 (.DictComp I M C h D) (S n) H c=pure MS):N3 s (S n) H c=pure MS:=by
 induction s using PySem.Expr.casesOn with
 |ListComp=>exact p _ _ _ _
 |SetComp=>exact G _ _ _ _
 |DictComp=>exact T _ _ _ _ _
 |_=>exact Eq.refl (pure MS)
theorem j7{y:MP}(m:V MP)(r:Z)(j:Nh)(H:Z)(c:Nf):N3 y (S (.Tuple m r j)) H c=pure MS:=gZ (λY Y Y Y=>rfl) (λY Y Y Y=>rfl) λY Y Y Y Y=>rfl
theorem ib(r:MP)(I:MT)(j:Nh)(H:Z)(c:Nf):N3 s (S (.Attribute r I j)) H c=pure MS:=gZ (λY Y Y Y=>rfl) (λY Y Y Y=>rfl) λY Y Y Y Y=>rfl
theorem vg(r K:MP)(j:Nh)(H:Z)(c:Nf):N3 s (S (.Subscript r K j)) H c=pure MS:=gZ (λY Y Y Y=>rfl) (λY Y Y Y=>rfl) λY Y Y Y Y=>rfl
set_option backward.match.sparseCases true in
noncomputable def nV(w:V MP):MO:=w.any λ|.Starred ..=>MK|_=>MS
set_option backward.match.sparseCases true in
noncomputable def namesIn(z:MT->O Ny)(l:Z)(m:V MP):V MT:=m.filterMap λ
 |.Name r p=>if z r==S .local&&p.line==l then S r else N
 |_=>N
noncomputable def F8(z:MT->O Ny)(m w:V MP):O (O (V MT)):=
 if(!(m.length==2||m.length==3)||w.length != m.length) then S N
 else if nV w then S N
 else
  let a:=namesIn z ((m.head?.map (·.pos.line)).getD 0) m
  if(a.length != m.length||a.eraseDups.length != a.length) then S N
  else if w.all (foldedForSure 8) then S N
  else if w.all (constantsAlone 8) then N else S (S a)
theorem qR{C:Prop}[OH C]{I M:O G}{r s:az}{e:G}{P:az->Prop}(D:(if C then I else M)=S e)(p:I=S e->P r)(a:M=S e->P s):P (if C then r else s):=by
 by_cases B:C;·exact R (Na B) (p ((Na B).symm.trans D))
 ·exact R (Nc B) (a ((Nc B).symm.trans D))
theorem px{m w:V MP}{r:Z}{j a:Nh}{e:O (V MT)}(J:c.scope.kind=.function)(D:F8 c.kindOf m w=S e):Pj [.Tuple m H j] (.Tuple w r a) c=pure e:=by
 have b:(c.blockKind != .function)=MS:=by unfold Nf.blockKind;exact R J rfl
 show(if(!(m.length==2||m.length==3)||w.length != m.length||c.blockKind != .function)=MK then pure N else if nV w=MK then pure N else
  if((namesIn c.kindOf ((m.head?.map (·.pos.line)).getD 0) m).length != m.length||(namesIn c.kindOf ((m.head?.map (·.pos.line)).getD 0) m).eraseDups.length != (namesIn c.kindOf ((m.head?.map (·.pos.line)).getD 0) m).length)=MK then pure N else
  if w.all (foldedForSure 8)=MK then pure N else if w.all (constantsAlone 8)=MK then unsupported "assign.tuple-of-constant-expressions:order-of-the-stores" else pure (S (namesIn c.kindOf ((m.head?.map (·.pos.line)).getD 0) m)):Nl (O (V MT)))=_
 refine R b ?_;refine R (MO.or_false ..) ?_;have L:∀{I:O (V MT)},S I=S e->(pure I:Nl (O (V MT)))=pure e:=λB=>Nb pure (sX B);exact qR (P:=λU=>U=pure e) D L λD=>qR (P:=λU=>U=pure e) D L λD=>qR (P:=λU=>U=pure e) D L λD=>qR (P:=λU=>U=pure e) D L λD=>qR (P:=λU=>U=pure e) D nX L
theorem K7{m:V MP}{j:Nh}(B:∀w r a,s≠.Tuple w r a):Pj [.Tuple m H j] s c=pure N:=by induction s using T2<;>first|rfl|exact Ng rfl (B _ _ _)
inductive rZ(sl:V (O MT))(env:Nf):V Z->V MP->V MT->Prop
 |nil:rZ sl env [] [] []
 |cons {j:Z} {js:V Z} {x:MT} {q:Nh} {ts:V MP} {xs:V MT}:sl[j]? = S (S x)->env.kindOf x=S .local\/env.kindOf x=S .cell->rZ sl env js ts xs->rZ sl env (j :: js) (.Name x q :: ts) (x :: xs)
theorem rZ.each{k:V Z}{m:V MP}{a:V MT}(r:rZ j c k m a):(Oy m c).length=m.length/\(Oy m c).findIdx? (·.1)=N/\k.length=m.length/\a.length=m.length:=by
 induction r with
 |nil=>exact qy rfl rfl rfl rfl
 |@cons i k r L m a _ _ _ d=>exact qo d λI M C h=>R (show Oy (.Name r L :: m) c=(MS,OO (.Name r L) c) :: Oy m c from rfl) (qy (Nb (· + 1) ‹_›) (by simp[Uj,M]) (Nb (· + 1) ‹_›) (Nb (· + 1) ‹_›))
theorem gy{v:V (MN->Nl NO)}:∀{js:V Z} {xs:V MT} {as:V Q} {w:V MN} {y:bI} {b:AH} {k:MV} {loc:Loc} {o:NO->MV->Prop},bk g c j->(∀I∈aq,I∈g)->(∀r∈xs,j4 c aq r)->St a e g l c j y b loc k->v.length=js.length->xs.length=js.length->
  (∀(K i:Z) r,js[K]? = S i->xs[K]? = S r->j[i]? = S (S r)/\(c.kindOf r=S .local\/c.kindOf r=S .cell)/\∀E,∃n,v[K]? = S n/\∀{o:NO->MV->Prop} {t} {k},MY T f (Qa c r E) o t k->MY T f (n E) o t k)->
  bN a.params (Sf k.heap y g) y as w->as.length=js.length->(∀A J,df loc js as=S J->aQ a e g aq y k y b A->St a e g l c j y b J A->o () A)->MY T f (QR v w) o t k:=by
 induction v with
 |nil=>intro js xs as w y b k loc o p M Y G X m D P s H;obtain rfl:=Uq.mp X.symm;obtain rfl:=Uq.mp s;obtain rfl:=P.qx;exact MZ (H k loc rfl (.refl G.inv) G)
 |cons n v d=>intro js xs as w y b k loc o p M Y G X m D P s H;refine mQ (Su X.symm) λi js bG=>?_;subst bG;refine mQ (Su s) λI as cm=>?_;subst cm;refine mQ (Su m) λr xs du=>?_;subst du;refine m5 P.inv λE w dV v1 v2=>?_;clear P;subst dV;refine fM (D 0 i r rfl rfl) λh1 h2 h3=>aM (h3 E) λt' h a0=>?_;obtain rfl:=sX h;refine MQ (Nx (a0 (ew (loc:=loc) (j:=i) p G (Y r (.head _)) h1 h2 v1 λA L a1=>?_)));exact d (js:=js) (xs:=xs) p M (λa2 x=>Y a2 (.tail _ x)) a1 (T3 X) (T3 m) (λK B C q1 q2=>D (K+1) B C q1 q2) (v2.mono (λI z U=>L.sf (λI x=>.inl (M I x)) U) L.le) (T3 s) λs2 a3 q o2 cN=>H s2 a3 q (L.trans o2) cN
theorem rZ.at{A:Nv}{M:NZ}{k:V Z}{m:V MP}{a:V MT}(r:rZ j c k m a):∀(K i:Z) s,k[K]? = S i->a[K]? = S s->j[i]? = S (S s)/\(c.kindOf s=S .local\/c.kindOf s=S .cell)/\∀E,∃n,((Oy m c).map (·.2))[K]? = S n/\∀{o:NO->MV->Prop} {I} {t},MY M A (Qa c s E) o I t->MY M A (n E) o I t:=by
 induction r with
 |nil=>exact λK i s D=>nX D
 |@cons J k r L m a p G _ d=>
  intro K i s X b
  induction K using RX with
  |zero=>exact sX X▸sX b▸(fB p G (λE=>(ba _ rfl (λe=>assign_Name e))))
  |succ K=>exact d K i s X b
theorem j8{k:V Z}:∀{l:Loc} {a:V Q} {v:Loc},df l k a=S v->a.length=k.length:=by
 induction k with
 |nil=>intro l a v D;induction a using RC with
  |nil=>rfl
  |cons _ _=>exact nX D
 |cons i k d=>intro l a v D;induction a using RC with
  |nil=>exact nX D
  |cons I a=>exact Nb (· + 1) (d (l:=l.set i (S I)) D)
theorem hA(D:MU.ExtBut p.objs.size p X):∀M z,p.get? M=S z->X.get? M=S z:=λM z o=>D M z (Td (SD o)) o
theorem BZ{k:V Z}(B:(match (generalizing:=false) m with|.tup a=>(match df w k a with|some v=>Res.ok (Fl.next,v,bc)|none=>.bad)|_=>Res.bad)≠.bad) :
  ∃a v,m=.tup a/\df w k a=S v:=by
 induction m using Wm with
 |tup a=>
  revert B
  show(match df w k a with|some v=>Res.ok (Fl.next,v,bc)|none=>.bad)≠.bad->_
  induction D:df w k a using Rx with
  |none=>exact bX
  |some v=>exact λY=>(dI a v rfl D)
 |_=>exact bX B
theorem SS.qs{tp:Nh}{a1:Z}{R:bo N a1 f (c :: o)}{L:V Z}{m:V MP}{xs:V MT}(d:SE h a e (c :: o) c j f i af s)(nm:rZ j c L m xs)(C:Pj [.Tuple m H tp] s c=pure N):SS h a e o c j f i (.qs L af) (.Assign [.Tuple m H tp] s J):=λg y b t T p G B=>by rw[oQ] at B⊢;refine Assign_Tuple ((d g y b t T p G).ei R G.live p.fP (.refl G.inv) (λI z K k U X o1 p1 E D=>?_) B) (j7 m H tp J.line c) C;rw[X,Res.aP];refine qo nm.each λn1 n2 n3 n4=>cj (BZ D) λw v fC P=>?_;clear B X D d C;subst fC;dsimp only;rw[P];refine dF E.inv λr xi x i9 sx M=>?_;clear E;subst i9;have l:=j8 P;have dw:=G.on p p1;refine Qd R.handled (dW sx) (n1.trans (n3.symm.trans (l.symm.trans (M.len.trans RH)))) n2 λh' n=>?_;have A:aQ a e g [] K k K z {k with heap:=h'}:=.grown (tk':=k.toks) dw.inv (hA n);refine gy (js:=L) (xs:=xs) (as:=w) (loc:=T) p p.fP (λY Y=>j4.all) (dw.on p A) (Ry _ |>.trans (n1.trans n3.symm)) (n4.trans n3.symm) nm.at (A.CX M) l λs2 a0 q o2 cN=>?_;obtain rfl:=sX (P.symm.trans q);exact gU .next v z K rfl ((o1.trans A.wide).trans o2) cN trivial
theorem Ap{T:V G}(B:T.length=2):∃I M,T=[I,M]:=by refine mQ (Su B) λI T jT=>?_;subst jT;refine mQ (Su (T3 B)) λM T lP=>?_;subst lP;exact wa I M (Uq.mp (T3 (T3 B))▸rfl)
theorem De{T:V G}(B:T.length=3):∃I M C,T=[I,M,C]:=by refine mQ (Su B) λI T rP=>?_;subst rP;exact mQ (Ap (T3 B)) λM C iV=>R iV (Hr I M C rfl)
theorem bN.rev:∀{w:V MN},bN U x b z w->bN U x b z.reverse w.reverse:=by
 induction z with
 |nil=>intro w B;exact B.qx▸.nil
 |cons I z d=>intro w B;obtain⟨E,c,rfl,p,G⟩:=B.inv;exact R Us (R Us ((d G).append (.cons p .nil)))
theorem vh{k:V Z}(n:k.Nodup)(T:k.length=2\/k.length=3){a v:Loc}(D:df a k z=S v):df a k.reverse z.reverse=S v:=by
 have l:=j8 D;rcases T with T|T;·refine hF λP=>mQ (Ap T) λI M lR=>?_;subst lR;refine mQ (Ap (l.trans T)) λr s lS=>?_;subst lS;exact P ((Nb S (Uw _ _ (show I≠M from λq=>(RV.mp n).1 (q▸.head _)).symm)).trans D)
 ·refine zX (De T) λI M C rR=>?_;subst rR;refine zX (De (l.trans T)) λr s U oZ=>?_;clear l T;subst oZ;refine bM (RV.mp n) λt n=>(Nb S ?_).trans D;refine R (Uw (i:=C) (j:=M) _ _ (show M≠C from λq=>(RV.mp n).1 (q▸.head _)).symm) ?_;refine(Uw (i:=C) (j:=I) _ _ (show I≠C from λq=>t (q▸.tail _ (.head _))).symm).trans ?_;refine R (Uw (i:=M) (j:=I) _ _ (show I≠M from λq=>t (q▸.head _)).symm) rfl
theorem vj(e:Nu)(a:Ni)(f:Nv){k:V Z}{m:V MP}{b:V MT}(h:bk g c j)(r:rZ j c k m b)(n:b.Nodup):k.Nodup:=by refine qo r.each λY Y n3 n4=>?_;rw[V.nodup_iff_pairwise_ne,V.pairwise_iff_getElem] at n⊢;intro K i p G H D;have d:=(r.at (M:=MX e a) (A:=f) i _ _ (RA G) (RA (l:=b) (n4▸n3▸G))).1;rw[<-D,((r.at (M:=MX e a) (A:=f) K _ _ (RA p) (RA (l:=b) (n4▸n3▸p))).1)] at d;exact n K i (n4▸n3▸p) (n4▸n3▸G) H (Sk (Sk d))
theorem nW{B:Z}{R:bo N B f l}{k:V Z}{ts:V MP}{z:V MT}{U:MN}{v:Loc}(p:bk g c j)(J:rZ j c k ts z)(n:z.Nodup)(T:k.length=2\/k.length=3)(dw:St a e g l c j ak bc w ap)(E:VR a.params (Sf ap.heap ak g) ak (.tup au) U)(G:df w k au=S v) :
  MY (MX h a) f (unpackItems U z.length N) (λa1 a0=>MY (MX h a) f (QR (z.reverse.map λB=>bindName c B) a1.reverse) (λY b=>aQ a e g (bA c) ak ap ak bc b/\St a e g l c j ak bc v b) t a0) t ap:=by
 refine qo J.each λn1 n2 n3 n4=>dF E.inv λr xi a2 pa sx H=>?_;clear n1 n2 E;subst pa;have D:=j8 G;have x:=n4.trans n3.symm;rw[show z.length=xi.size from x.trans (D.symm.trans (H.len.trans RH))];refine wpAny_unpackItems_tuple R.handled (dW sx) λm X=>?_;have A:aQ a e g [] ak ap ak bc {ap with heap:=m}:=.grown (tk':=ap.toks) dw.inv (hA X);refine gy (js:=k.reverse) (xs:=z.reverse) (as:=au.reverse) (loc:=w) p p.fP (λY Y=>j4.all) (dw.on p A) ((Ry _).trans (Sq.trans (x.trans Sq.symm))) (Sq.trans (x.trans Sq.symm)) (λK i s y I=>?_) (A.CX H).rev (Sq.trans (D.trans Sq.symm)) λo a3 q o2 cN=>?_;·have d:=TH (RF.mp y).1 Sq;have C:=(Vw (x▸d)).symm.trans I;rw[x] at C;refine fM (J.at (M:=MX h a) (A:=f) _ i s ((Vw d).symm.trans y) C) λL z2 Y=>?_;exact fB L z2 (λa4=>(ba (λB=>bindName c s B) (by refine RJ.trans ?_;rw[I];rfl) (λP=>bindName_ P)))
 ·obtain rfl:=sX ((vh (vj h a f p J n) T G).symm.trans q);exact⟨A.wide.trans o2,cN⟩
theorem SS.IL{L:Nh}{R:bo N q f (c :: o)}{k:V Z}{m:V MP}{r:V MT}(d:SE h a e (c :: o) c j f i af s)(M:rZ j c k m r)(n:r.Nodup)(T:k.length=2\/k.length=3)(C:Pj [.Tuple m H L] s c=pure (S r)):SS h a e o c j f i (.qs k af) (.Assign [.Tuple m H L] s J):=λg y b t A p G B=>by rw[oQ] at B⊢;refine Assign_Tuple_swapped ((d g y b t A p G).ei R G.live p.fP (.refl G.inv) (λI z K s1 P X o1 l E D=>?_) B) (j7 m H L J.line c) C;rw[X,Res.aP];refine cj (BZ D) λw v rT x=>?_;clear B X D d C;subst rT;dsimp only;rw[x];exact Nj (nW (R:=R) p M n T (G.on p l) E x) (λY Y U=>Nj U (λY Y U=>(gU .next v z K rfl (o1.trans U.1) U.2 trivial)) λY Y U=>U) λY Y U=>U
theorem xr{a:V Z}{y:cA}:cQ i (.gp a y) w k=cQ i (.qs a (.tup y)) w k:=by
 refine tB.trans (R oQ (R lM ?_));cases bp i y w k with
 |ok L=>rfl
 |exc _ _=>rfl
 |bad=>rfl
theorem SS.gp{k:V Z}{y:cA}{r:M8}(d:SS h a e o c j f i (.qs k (.tup y)) r):SS h a e o c j f i (.gp k y) r:=λg l b t A p G=>by exact R xr (d g l b t A p G)
theorem xt{z:Q}{c o:MN}{I:Z}{l:AH}{w:NO->MV->Prop}(C:Gr v e P be bg bf)(K:Inv a e g b k d.heap)(p:VR a.params (Sf d.heap b g) b z c)(T:VR a.params (Sf d.heap b g) b aw o)(D:dH k z I aw=S l)
  (H:∀x,aQ a e g [] b d b l x->w () x):MY (MX h a) f (PK c (sx I) o) w t d:=by
 induction z using Wm with
 |aA a4=>
  refine cj p.inv λa1 L bG J=>R bG (iU D λcm i D=>iU D λa2 X D=>cF D (λq D=>?_) λY D=>nX D);refine cj (lA K J i) λy a3 a0 A=>?_;have j:=qH X;have s:y.size<500:=by
   have:(bT cm.1).length<500:=by induction cm.1 using dG.casesOn<;>decide +kernel
   exact R RH.symm (R A.len.2 this)
  refine tY (r:=b) C.ok C.set (C.In K) (λq=>nX ((nR I).symm.trans (q▸X))) (RI j) a0 A (gs cm.1) s λm B n' n E he G r=>H _ (sX D▸.mk' (K.IB J i r G ?_) (.but (a:=L) (λM z q U=>(r.2 M q).trans U) (.inl (jR J))) (.refl b));refine R he ?_;refine R (A.findIdx (lz cm.1) (gs cm.1) j) ?_;exact A.set T
 |_=>exact nX D
theorem SS.eO{E:LE}{U:MP}{I:Z}(C:Gr v e P be bg bf)(R:bo bh q f (c :: o))(a0:SE h a e (c :: o) c j f i E U)(H:SE h a e (c :: o) c j f i af s):SS h a e o c j f i (.eO af I E) (.Assign [.Attribute s (sx I) bj] U J):=λg T b t A p G B=>by
 rw[tw] at B⊢;refine QT ((a0 g T b t A p G).ei R G.live p.fP (.refl G.inv) (λM z K k vb X o1 l v1 D=>?_) B) (ib s (sx I) bj J.line c);rw[X,Res.aP];have dw:=G.on p l;refine(H g K z k A p dw).ei R dw.live p.fP o1 (λL H2 x s2 r m o2 n d Y=>?_) D;rw[m,Res.aP];induction y:dH H2 L I M using Rx with
 |none=>exact bX (y▸Y)
 |some w=>exact xt C o2.inv d (n.vr v1) y λs3 o3=>(gU .next A w x rfl (o2.trans o3.wide) ((dw.on p n).on p o3) trivial)
theorem SS.et{z K E:LE}{U:MP}(k:f.units+64<NA)(R:bo bh q f (c :: o))(a2:SE h a e (c :: o) c j f i E U)(a3:SE h a e (c :: o) c j f i z aj)(a1:SE h a e (c :: o) c j f i K s):SS h a e o c j f i (.et z K E) (.Assign [.Subscript aj s bj] U J):=λg a0 b t A p G B=>by
 rw[tA] at B⊢;refine wpAny_Assign_Subscript ((a2 g a0 b t A p G).ei R G.live p.fP (.refl G.inv) (λM H1 r1 s1 P X o1 l v1 D=>?_) B) (vg aj s bj J.line c);rw[X,Res.aP];have dw:=G.on p l;refine(a3 g r1 H1 s1 A p dw).ei R dw.live p.fP o1 (λC I x s2 r m o2 n v Y=>?_) D;rw[m,Res.aP];have cN:=dw.on p n;refine(a1 g x I s2 A p cN).ei R cN.live p.fP o2 (λL H3 H s3 vd T o3 d v3 w=>?_) Y;rw[T,Res.aP];induction y:dm H3 C L M using Rx with
 |none=>exact bX (y▸w)
 |some H4=>exact tX k o3.inv (d.vr v) v3 (d.vr (n.vr v1)) y λs4 o4=>(gU .next A H4 H rfl (o3.trans o4.wide) ((cN.on p d).on p o4) trivial)
inductive vl(prog:Nu)(w:Ni)(g₀:MU)(l:V Nf)(env:Nf)(sl:V (O MT))(A:Nv)(cf:CF):cA->cA->V MP->Prop
 |nil:vl prog w g₀ l env sl A cf .nil .nil []
 |cons {o i:LE} {os is:cA} {x y:MP} {q:Nh} {ts:V MP}:SE prog w g₀ l env sl A cf o x->SE prog w g₀ l env sl A cf i y->vl prog w g₀ l env sl A cf os is ts->vl prog w g₀ l env sl A cf (.cons o os) (.cons i is) (.Subscript x y q :: ts)
theorem vl.each{n:Z}{b q:cA}{m:V MP}(r:vl h a e l c j f i b q m):(Oy m c).length=m.length/\(Oy m c).findIdx? (·.1)=N/\namesIn c.kindOf n m=[]:=by
 induction r with
 |nil=>exact fB rfl rfl rfl
 |@cons z K b q r s L m _ _ _ d=>refine fM d λI M C=>R (show Oy (.Subscript r s L :: m) c=(MS,OO (.Subscript r s L) c) :: Oy m c from rfl) ?_;exact fB (Nb (· + 1) ‹_›) (by simp[Uj,M]) (TO.trans (C))
theorem j9{L:Nh}{o:NO->MV->Prop}(B:MY T f (PySem.eval aj c) (λy q=>MY T f (PySem.eval s c) (λK e=>MY T f (Py y K aa) o t e) t q) t d):MY T f (OO (.Subscript aj s L) c aa) o t d:=R (assign_Subscript ..) (MQ (Nx (Nj B (λy q a=>MQ (Nx (Nj a (λK e p=>MQ (NW (MQ (Nx (Nj p (λY Y L=>wpAny_release L) λY Y aj=>aj))))) λY Y aj=>aj))) λY Y aj=>aj)))
theorem vl.run{a3:Z}(hu:f.units+64<NA)(R:bo bh a3 f (c :: o)){D n:cA}{m:V MP}(r:vl h a e (c :: o) c j f i D n m):∀{g K k y b t A} {l:V Q} {w:V MN},bk g c j->St a e g (c :: o) c j y b A t->bN a.params (Sf t.heap y g) y l w->aQ a e g (bA c) K k y b t->uN i D n l A b≠.bad->
  MY (MX h a) f (QR ((Oy m c).map (·.2)) w) (λε=>QS a e g (bA c) o c j (uN i D n l A b) K k .next) (ES a e g (MX h a) f (bA c) o c (uN i D n l A b).x? K k) t:=by
 induction r with
 |nil=>
  intro g K k y b t A l w p G P z B
  induction l using RC with
  |nil=>obtain rfl:=P.qx;exact MZ (gU .next A b y rfl z G trivial)
  |cons _ _=>exact bX B
 |@cons a0 T D n r a2 q m J a1 _ d=>
  intro g K k y b t A l w p G P z B
  induction l using RC with
  |nil=>exact bX B
  |cons I l=>
   refine m5 P.inv λa4 w du v1 v=>?_;subst du
   ·have eu:uN i (.cons a0 D) (.cons T n) (I :: l) A b=((aO i a0 A b).bind λa'=>(aO i T A a'.2).bind λM=>match dm M.2 a'.1 M.1 I with|some H'=>uN i D n l A H'|none=>.bad):=rfl
    rw[eu] at B⊢
    refine MQ (Nx (j9 ?_))
    refine(J g y b t A p G).ei R G.live p.fP z (λM H2 x s2 vb e2 o2 p2 w2 Y=>?_) B
    rw[e2,Res.aP]
    have cN:=G.on p p2
    refine(a1 g x H2 s2 A p cN).ei R cN.live p.fP o2 (λC E H s3 vc s o3 p3 w3 L=>?_) Y
    rw[s,Res.aP]
    induction es:dm E M C I using Rx with
    |none=>exact bX (es▸L)
    |some U=>rw[es] at L;exact tX hu o3.inv (p3.vr w2) w3 (p3.vr (p2.vr v1)) es λX o4=>d p ((cN.on p p3).on p o4) (o4.CX (p3.CX (p2.CX v))) (o3.trans o4.wide) L
theorem SS.kQ{tp:Nh}{a4:Z}{T P w:cA}{m L:V MP}{k':Z}{a1:Nh}(hu:f.units+64<NA)(R:bo N a4 f (c :: o))(d:nc h a e (c :: o) c j f i w L)(r:vl h a e (c :: o) c j f i T P m)(hc:j0 w<1000)(hl:j0 w=m.length)(h2:0<m.length) :
  SS h a e o c j f i (.kQ T P w) (.Assign [.Tuple m H tp] (.Tuple L k' a1) J):=λg a3 b t A p G B=>by
 have Y:cQ i (.kQ T P w) A b=(aO i (.tup w) A b).bind λq=>match q.1 with|.tup l=>uN i T P l A q.2|_=>.bad:=by
  refine tC.trans ?_;rw[lM]
  cases bp i w A b with
  |ok q=>rfl
  |exc _ _=>rfl
  |bad=>rfl
 rw[Y] at B⊢;refine hF λa2=>fM (r.each (n:=0)) λn1 n2 ε=>?_;have C:Pj [.Tuple m H tp] (.Tuple L k' a1) c=pure N:=by
  refine px p.kind ?_;unfold F8;split;·rfl
  ·split;·rfl
   ·rw[Na];rw[(r.each (n:=(m.head?.map (·.pos.line)).getD 0)).2.2];simp;exact Td h2
 refine a2 (Assign_Tuple ((SE.tup d hc g a3 b t A p G).ei R G.live p.fP (.refl G.inv) (λI z K k U X o1 p1 E D=>?_) B) (j7 (y:=.Tuple L k' a1) m H tp J.line c) C);rw[X];refine aM (FI (lM.symm.trans X)) λl q e2=>?_;clear X;subst q;refine dF E.inv λx' v x dV sx M=>?_;subst dV;have s:l.length=v.size:=by exact M.len.trans RH
 have dw:=G.on p p1;refine Qd R.handled (dW sx) (n1.trans (hl.symm.trans ((jg (vs:=l) (H':=z) e2).symm.trans (M.len.trans RH)))) n2 λh' n=>?_;have a0:aQ a e g [] K k K z {k with heap:=h'}:=.grown (tk':=k.toks) dw.inv (hA n);exact r.run hu R p (dw.on p a0) (a0.CX M) (o1.trans a0.wide) D
theorem uR.back(d:∀I∈g,I∈ax)(A:uR a ax c j w b p):uR a g c j w b p:=by
 have T:∀I z,Sf p b ax I z->Sf p b g I z:=λI z U=>U.back d;refine⟨?_,λr C D=>?_,A.len⟩;·refine aM A.ns λx n v=>?_;exact ba x n (λi r E X m s=>aM (v i r E X m s) λB I M=>(ba B I (M.mono T (.refl b))))
 ·refine aM (A.jO r C D) λy e v=>?_;exact ba y e (λi E X m s=>aM (v i E X m s) λB I M=>(ba B I (M.mono T (.refl b))))
theorem cM.back{own0:V MR}{h0:MU}(t:cM l g [] h0)(a:cM l ax [] p):cM l g [] p:=
 ⟨λD x=>by refine hF λm=>?_;refine t.el x λY I Y Y Y A C Y Y Y=>?_;refine a.el x λH n z y q r Y Y o h=>?_;rw[A] at r;cases r;refine m ?_;exact⟨H,I,z,y,q,A,C,(λx=>nomatch x),o,h⟩⟩
theorem St.back{s:MV}{h0:MU}(d:∀I∈g,I∈ax)(t:cM l g [] h0)(G:St a e ax l c j b k w s):St a e g l c j b k w s:=⟨G.inv.drop d,G.dS.back d,t.back (own0:=g) (h0:=h0) G.live⟩
theorem Hx.mono{f:SP}{I:Fl}{M:ND}(B:Hx a x b I M)(H:∀I z,x I z->f I z):Hx a f b I M:=by induction I using Fl.casesOn<;>induction M using SH<;>first|exact B|exact VR.mono H (.refl b) B
theorem QS.back{d:V MR}{s:MV}{B:Z}{r:Res (Fl×Loc×AH)}{A:ND}{v:MV}{h0:MU}(P:cu g ax aq d s.heap X)(t:cM (c :: o) g [] h0)(L:QS a e ax d o c j r b {s with heap:=X,toks:=B} A v):QS a e g aq o c j r b s A v:=by refine qw L λq J f K D z G U=>?_;exact gU q J f K D (z.back P) (G.back P.sub t) (U.mono λY Y U=>U.back P.sub)
theorem EF.back{c:V MR}{s:MV}{B:Z}{r:O (Q×AH)}{j:MN}{v:MV}(P:cu g ax aq c s.heap X)(L:EF a e ax c l r b {s with heap:=X,toks:=B} j v):EF a e g aq l r b s j v:=by refine cj L λn d D U=>?_;exact dI n d D (U.back P)
theorem cu.more{own:V MR}{ns:V MR}{fr:V MR}(A:∀I∈ns,p.get? I=N)(n:ns.Nodup)(P:∀M z,p.get? M=S z->X.get? M=S z):cu own (ns++own) fr (ns++fr) p X:=
 ⟨P,λY x=>RO _ x,λC x=>(RL.mp x).elim (λD=>.inr (A C D)) .inl,λC x=>(RL.mp x).elim (λD=>.inr (A C D)) .inl,λC x=>by
  rw[R9] at x;by_cases L:C∈ns;·exact .inr (A C L)
  ·rw[RZ L] at x;rw[T4] at x;exact .inl x,λC=>by refine R R9 ?_;exact SQ _ _⟩
theorem aQ.inc{fr':V MR}(r:aQ a e g aq b d ak bc ap)(H:∀C∈aq,C∈fr'):aQ a e g fr' b d ak bc ap:=r.less λC x=>.inl (H C x)
theorem St.Hy{L:MR}(G:St a e g l c j b k w d)(p:bk g c j)(z:aQ a e g [L] b d ak bc ap)(P:L∉bA c)(a0:g.count L=1):St a e g l c j ak bc w ap:=by
 have T:∀I z,Sf d.heap b g I z->Sf ap.heap ak g I z:=λI K U=>z.sf (λI x=>.inl (by refine R (Rw.mp x) ?_;exact(R'.mp (by refine R a0 ?_;decide)))) U;refine⟨z.inv,⟨?_,λr C D=>?_,G.dS.len⟩,⟨λD x=>?_⟩⟩;·refine aM G.dS.ns λx bG H=>?_;refine hF λA=>?_;refine dF bG λK y ep o h U=>?_;refine z.keep.el o (G.inv.off _ p.loc).1 (λx=>P (by refine R (Rw.mp x).symm ?_;exact .head _)) λY t f q=>?_;refine A ?_;refine ba x (kU t y ep f (q.data.trans h) U) (λi r E X m s=>?_);refine aM (H i r E X m s) λB I M=>?_;exact ba B I (M.mono T z.le)
 ·refine aM (G.dS.jO r C D) λov cm H=>?_;refine hF λa5=>?_;refine aM cm λK o h=>?_;refine z.keep.el o (G.inv.off _ (p.jO r C D).1).1 (λx=>P (by refine R (Rw.mp x).symm ?_;exact .tail _ (lookup_mem D))) λY t f q=>?_;refine a5 ?_;refine ba ov (ba t f (q.data.trans h)) (λi E X m s=>?_);refine hF λa1=>?_;refine aM (H i E X m s) λB I M=>?_;refine a1 ?_;exact ba B I (M.mono T z.le)
 ·refine G.live.el x λH J K y a3 a4 n v o h=>?_;refine hF λa2=>?_;obtain⟨_,t,f,U⟩:=z.keep.get J K o (G.inv.off J (R'.mp (by exact n4 n rfl))).1 λx=>by rw[Rw.mp x,a0] at n;exact RU _ n
  refine a2 ?_;exact⟨H,J,t,y,a3,a4,n,v,f,U.data.trans h⟩
theorem nY{H:AH}{loc:Loc}{src:Src}{step:Z->Q->Loc->AH->Res (Fl×Loc×AH)}{m i:Z}{v:Q}{b:Res (Fl×Loc×AH)}(B:b≠.bad)(D:(step i v loc H).bind (λL=>match L.1 with|.next=>cg step src m (i+1) L.2.1 L.2.2|.ret s=>.ok (.ret s,L.2.1,L.2.2))=b){M:Res (Fl×Loc×AH)}(f:step i v loc H=M):M≠.bad/\
  (∀a r,M=.ok (.next,a,r)->cg step src m (i+1) a r=b)/\(∀s a r,M=.ok (.ret s,a,r)->b=.ok (.ret s,a,r))/\(∀n r,M=.exc n r->b=.exc n r):=by subst f;refine qy (λL=>B (by refine D.symm.trans ?_;refine(bL L).trans ?_;rfl)) (λa r L=>by refine R D.symm ?_;refine R L ?_;rfl) (λs a r L=>by refine D.symm.trans ?_;refine(bL L).trans ?_;rfl) (λn r L=>by refine D.symm.trans ?_;refine(bL L).trans ?_;rfl)
theorem xu{r0:bI}{s0:MV}{a2:Src}{a0:MR}{M:dR}{xs:V M8}(R:bo N q f (c :: o))(hj:j[K]? = S (S r))(hk:c.kindOf r=S .local\/c.kindOf r=S .cell)(b9:qQ h a e o c j f i M xs)
  (p:bk ax c j) (g:a0∉bA c) (a3:Res (Fl×Loc×AH)) (B:a3≠.bad)  (G:St a e ax (c :: o) c j b k w d) (n:cZ a ax b d.heap a2 a0 ag) (z:aQ a e ax (a0 :: bA c) r0 s0 b k d)
  (D:cg (λY a1 T k=>aW i M (T.set K (S a1)) k) a2 H ag w k=a3) :
  NJ (MX h a) f (.forLoop (.Name r bj) (.ref a0) xs [] c) (λL v=>match L with|.ok A=>QS a e ax (a0 :: bA c) o c j a3 r0 s0 A v|.error D=>PL (MX h a) f c (ES a e ax (MX h a) f (a0 :: bA c) o c a3.x? r0 s0) D v) d:=by
 refine codeAny_forLoop (λH d=>∃ag w k b,St a e ax (c :: o) c j b k w d/\cZ a ax b d.heap a2 a0 ag/\aQ a e ax (a0 :: bA c) r0 s0 b k d/\cg (λY a1 T k=>aW i M (T.set K (S a1)) k) a2 H ag w k=a3) (λH d a7=>?_) H (gU ag w k b G n z D);refine hF λa8=>?_;refine qw a7 λag w k b G n z D=>?_;clear a7;induction H using RX with
 |zero=>exact B D.symm
 |succ x=>
  rw[Ho] at D;refine kF (a2.at ag k) (λt=>?_) (λy t=>?_);·rw[t] at D;exact B D.symm
  ·rw[t] at D
   refine a8 ?_
   refine j5 R.handled G.inv n t λs1 o1=>?_
   have a4:aQ a e ax (a0 :: bA c) b d b k s1:=o1.inc λC x=>by rw[Rw.mp x];exact .head _
   have dw:=G.Hy p o1 g n.one
   induction y using Rx with
   |none=>dsimp only at D;exact Oj (gU .next w k b D.symm (z.trans a4) dw trivial)
   |some a1=>
    dsimp only at D⊢;intro v' P a9;refine PM (ew (j:=K) p dw j4.all hj hk P λs2 o2 cN=>?_);refine qo (nY (src:=a2) (step:=λY a1 T k=>aW i M (T.set K (S a1)) k) (m:=x) (i:=ag) (v:=a1) (loc:=w) (H:=k) B D rfl) λb1 b2 b3 b4=>?_;have a6:=(z.trans a4).trans (o2.inc λC x=>.tail _ x);refine Qe (E:=ES a e ax (MX h a) f (a0 :: bA c) o c a3.x? r0 s0) Qf.leaving (Nj (b9 ax b k s2 (w.set K (S a1)) p cN b1) (λA s3 L=>?_) λe' s3 L=>?_)
    ·refine qw L λfl J H' r' X o3 l U=>?_
     refine hF λm=>?_
     have a5:=a6.trans (o3.inc λC x=>.tail a0 x)
     induction fl using Fl.casesOn with
     |next=>
      induction A using SH with
      |next=>refine m ?_;exact⟨x,SA x,ag+1,J,H',r',l,(a9.on dw.inv o2 g λI x=>.inl (p.fP I x)).on cN.inv o3 g λI x=>.inl (p.fP I x),a5,b2 _ _ X⟩
      |_=>exact U.elim
     |ret s=>
      induction A using SH with
      |ret v2=>refine m ?_;exact gU (.ret s) J H' r' (b3 _ _ _ X) a5 l U
      |_=>exact U.elim
    ·refine L.mono λe2 c1 U=>?_;refine cj U λtt H' e3 U=>?_;refine EF.pre a6 (λI x=>(RB.mp x).elim (λL=>L▸n.mem) (p.fP I)) (dI tt H' ?_ ?_)
     ·refine BX (aW i M (w.set K (S a1)) k) (λY s=>?_) (λt2 H2 s=>?_) (λs=>?_);·exact nX (s▸e3)
      ·replace e3:=s▸e3;refine sQ e3 ?_;rw[b4 _ _ s];rfl
      ·exact(b1 s).elim
     ·exact U.more λC x=>.tail _ x
noncomputable def dX:MP->MO
 |.Set ..=>MK
 |_=>MS
theorem eZ(B:dX s=MS)(E:MN):foldedSetIterable s c E=pure E:=by induction s using T2<;>first|rfl|cases B
structure xv(K:Nz)(env:Nf)(x:MT)(v:MN):Prop where
 g:NY K NN x=S N
 b:QU x=S v
 n:x≠"__name__"
 k:env.kindOf x=S .globalImplicit
 d:(x==("__debug__":MT))=MS
theorem tZ{env:Nf}{c:Nz}{x:MT}{v:MN}(C:Gr c e P be bg bf)(n:xv c env x v)(p:bk g env j)(K:Inv a e g b k d.heap)(B:ai v d):MY T f (PySem.eval (.Name x J) env) ai t d:=
 have H:=λM z D=>(K.keep M z D).1
 PC p.kind n.k (loadGlobal_builtin (env:=env) (R p.glob (C.T.g.keeps H)) (mg_none_of C.X C.T.g n.g) (R p.blt (C.T.b.keeps H)) ((C.T.builtins x n.n).trans n.b) B) n.d
set_option genCtorIdx true in
inductive BV|fn(i:Od)|ty(T:Od)
noncomputable def BV.val:BV->MN
 |.fn K=>.builtin K
 |.ty x=>.type x
theorem xw{bv:BV}{y:cA}{m:V MP}(C:Gr v e P be bg bf)(n:xv v c r bv.val)(p:bk g c j)(K:Inv a e g b k d.heap)(o:nc h a e l c j f i y m)
  (B:MY (MX h a) f (O0 (NU J (NR m c))) (λw X=>MY (MX h a) f (N2 bv.val w) ai t X) t d):MY (MX h a) f (PySem.eval (.Call (.Name r bj) m [] J) c) ai t d:=by
 refine MQ (tZ C n p K ?_);have s:=o.noStar (pos:=J);clear C n p o;induction bv using BV.casesOn with
 |fn K=>exact PySem.Calls.callWith_builtin (args:=NU J (NR m c)) s (bD s B)
 |ty x=>exact UZ (args:=NU J (NR m c)) s (bD s B)
theorem SE.jv(d:SE h a e l c j f i af s)(w:notStar s=MK):nc h a e l c j f i (.cons af .nil) [s]:=.cons d w .nil
theorem nZ{a:MN->MV->Prop}(H:∀D n,t D n->a D n){D:MN}{n:MV}(L:PL T f c t D n):PL T f c a D n:=Nj L (λY Y U=>H _ _ U) λY Y U=>H _ _ U
theorem dO(p:bk g c j)(K:Inv a e g b k d.heap)(A:d.heap.get? n=N):n∉g/\n∉bA c:=by have L:n∉g:=K.no A;exact⟨L,λx=>L (p.fP n x)⟩
theorem SS.di{a4:Z}{M:dR}{xs:V M8}(R:bo N a4 f (c :: o))(d:SE h a e (c :: o) c j f i af s)(hj:j[K]? = S (S r))(hk:c.kindOf r=S .local\/c.kindOf r=S .cell)(a0:qQ h a e o c j f i M xs)(hs:dX s=MS) :
  SS h a e o c j f i (.di K af M) (.For (.Name r bj) s xs [] J):=λg y b t a1 p G B=>by
 rw[tD] at B⊢;refine wpAny_For ((d g y b t a1 p G).ei R G.live p.fP (.refl G.inv) (λI H1 r1 k va X o1 l E D=>?_) B) λa3=>eZ hs a3;rw[X,Res.aP];have dw:=G.on p l;induction T:srcOf H1 I using Rx with
 |none=>exact bX (T▸D)
 |some q=>
  obtain⟨a2,x⟩:=q
  replace D:=T▸D
  dsimp only at D⊢
  refine aM (gY E T) λH bG C=>?_
  clear b G B X l E d hs
  subst bG
  refine hF λm=>cj (C.items o1.inv) λa5 n' L Y=>m (Qg (bb L) ?_)
  have A:k.heap.get? k.heap.objs.size=N:=bS _
  refine bM (dO p dw.inv A) λq1 q2=>?_
  have P:=cu.more (own:=g) (fr:=bA c) (ns:=[k.heap.objs.size]) (λM w=>by rw[Rw.mp w];exact A) (M5 rfl) (λM z af=>Rz {cls:=.type "list_iterator",data:=.fields #[.ref H,.int 0 0]} af)
  have gI:(k.heap.push {cls:=.type "list_iterator",data:=.fields #[.ref H,.int 0 0]}).get? k.heap.objs.size=S {cls:=.type "list_iterator",data:=.fields #[.ref H,.int 0 0]}:=R3 _ rfl
  have cN:=dw.cY (own':=[k.heap.objs.size]++g) (tk:=k.toks) P.new P.le P.hs λM x=>by
   rcases RL.mp x with x|x;·rw[Rw.mp x];exact⟨_,gI⟩
   ·exact dD (dw.inv.ex M x) λz af=>⟨z,P.hs _ _ af⟩
  have it:cZ a ([k.heap.objs.size]++g) r1 ({k with heap:=k.heap.push {cls:=.type "list_iterator",data:=.fields #[.ref H,.int 0 0]},toks:=k.toks}:MV).heap a2 k.heap.objs.size 0:=⟨(jM H (C.mono (λI z U=>(U.cY P.new).grow P.hs) (.refl _)) (λq=>by rw[q,A] at L;exact nX L) (jM _ gI rfl rfl)),by refine R9.trans ?_;rw[RZ q1];simp⟩
  refine O1 (xu R hj hk a0 (p.cY P.sub) q2 _ D cN it (.refl cN.inv) rfl) λU v q=>?_
  cases U with
  |ok A=>exact(QS.back P dw.live q).pre o1
  |error af=>exact nZ (λaf n U=>U.mono λaf n U=>(EF.back P U).pre o1 p.fP) q
theorem SS.zy{a9:Z}{C:LE}{M:dR}{xs:V M8}(R:bo bh a9 f (c :: o))(d:ST h a e (c :: o) c j f i C s)(a6:qQ h a e o c j f i M xs):SS h a e o c j f i (.zy C M) (.While s xs [] J):=λg y b t a3 p G B=>by
 rw[wC] at B⊢;generalize e0:gK _ _ 100 a3 b=a1 at B⊢;refine wpAny_While (codeAny_whileLoop (λH v=>∃w r K,St a e g (c :: o) c j K r w v/\aQ a e g (bA c) y t K r v/\gK (λT b=>(aO i C T b).bind λy=>match truthy y.1 with|some n=>.ok (n,y.2)|none=>.bad) (λT b=>aW i M T b) H w r=a1) (λH v hI=>?_) 100 (kU a3 b y G (.refl G.inv) e0));refine dF hI λw r K a0 o' D=>?_;clear hI;induction H using RX with
 |zero=>exact Ng D.symm B
 |succ x=>
  rw[Ip] at D;replace D:=(show((aO i C w r).bind λy=>match truthy y.1 with|some n=>.ok (n,y.2)|none=>.bad)=mR i C w r from rfl)▸D;have a5:mR i C w r≠.bad:=λq=>B (D.symm.trans ((bL q).trans rfl));refine Qe (E:=ES a e g (MX h a) f (bA c) o c a1.x? y t) Qf.leaving (Nj (d g K r v w p a0 a5) (λq k U=>?_) λe' k U=>?_)
  ·refine dF U λn z r1 X l cm=>?_
   subst cm
   rw[X,Res.aP] at D
   have dw:=a0.on p l
   have o1:=o'.trans (l.wide (fr:=bA c))
   dsimp only at D
   clear X l d
   induction n using RD with
   |false=>exact Oj (gU .next w z r1 D.symm o1 dw trivial)
   |true=>
    have a4:aW i M w z≠.bad:=λq=>B (D.symm.trans ((bL q).trans rfl))
    refine Qe (E:=ES a e g (MX h a) f (bA c) o c a1.x? y t) Qf.leaving (Nj (a6 g r1 z k w p dw a4) (λA s2 U=>?_) λe' s2 U=>?_)
    ·refine qw U λfl a2 I r2 m p2 cN U=>?_
     rw[m] at D
     induction fl using Fl.casesOn with
     |next=>
      induction A using SH with
      |next=>exact⟨x,SA x,a2,I,r2,cN,o1.trans p2,D⟩
      |_=>exact U.elim
     |ret a8=>
      induction A using SH with
      |ret v2=>exact gU (.ret a8) a2 I r2 D.symm (o1.trans p2) cN U
      |_=>exact U.elim
    ·refine U.mono λm n U=>cj U λP H3 L U=>EF.pre o1 p.fP (dI P H3 ?_ U);refine BX (aW i M w z) (λY s=>?_) (λt2 I s=>?_) (λs=>?_);·exact nX (s▸L)
     ·rw[s] at L D;refine sQ L ?_;rw[<-D];rfl
     ·exact(a4 s).elim
  ·refine EF.stmt R a0.live (EF.pre o' p.fP ?_);refine hF λa7=>cj U λP H3 L U=>a7 (dI P H3 ?_ U.wide);refine BX (mR i C w r) (λY s=>?_) (λt2 I s=>?_) (λs=>?_);·exact nX (s▸L)
   ·rw[s] at L D;refine sQ L ?_;rw[<-D];rfl
   ·exact(a5 s).elim
theorem Inv.part{own:V MR}{fs:V MR}(K:Inv a e ax b k p)(P:∀M z,M∉fs->p.get? M=S z->X.get? M=S z)(g:∀I∈fs,I∈ax)(d:∀M∈own,M∈ax/\(M∈fs->∃z,X.get? M=S z)):Inv a e own b k X:=by
 have T:∀M z,Sf p b ax M z->Sf X b own M z:=λM z U=>(fB (P M z (λx=>U.2.2 (g M x)) U.1) U.2.1 (λx=>U.2.2 (d M x).1));have J:=λM x L=>(K.off M (g M L)).1 x;have C:=K.dt;refine⟨λM z D=>⟨P M z (λx=>by have:=(K.off M (g M x)).2;replace this:=D.symm.trans this;cases this) (K.keep M z D).1,(K.keep M z D).2⟩,K.wK,λI x=>K.off I (d I x).1,λI x=>?_,⟨C.gW,C.jb,C.jQ,C.jc,λH w M f m=>?_,λH w M f m=>?_,λH w M f m=>?_,λH L h f m=>?_⟩⟩
 ·by_cases L:I∈fs;·exact(d I x).2 L
  ·obtain⟨z,D⟩:=K.ex I (d I x).1;exact⟨z,P I z L D⟩
 ·refine cj (C.L H w M f m) λj q o E=>?_;exact dI j q (P _ _ (J M (kG m)) o) (E.mono T (.refl b))
 ·refine dF (C.D H w M f m) λj q v o E c=>?_;exact kU j q v (P _ _ (J M (fS m)) o) (E.mono T (.refl b)) c
 ·refine aM (C.B H w M f m) λG o E=>?_;exact ba G (P _ _ (J M (nQ m)) o) E
 ·obtain⟨o,y,q,i,E⟩:=C.I H L h f m;exact⟨P _ _ (J _ (oW m)) o,y,q,P _ _ (J _ (jR m)) i,E.mono T (.refl b)⟩
theorem St.part{own:V MR}{fs:V MR}{tk:Z}{h0:MU}(eo:bk own c j)(t:cM l own [] h0)(G:St a e ax l c j b k w d)(P:∀M z,M∉fs->d.heap.get? M=S z->X.get? M=S z)(J:∀I∈fs,I∈ax)(H:∀M∈own,M∈ax/\(M∈fs->∃z,X.get? M=S z))
  (p:∀I∈bA c,I∉fs) (L:∀D∈l,∀f,D.frame=S f->f∉fs):St a e own l c j b k w {d with heap:=X,toks:=tk}:=by
 have T:∀M z,Sf d.heap b ax M z->Sf X b own M z:=λM z U=>(fB (P M z (λx=>U.2.2 (J M x)) U.1) U.2.1 (λx=>U.2.2 (H M x).1));refine⟨G.inv.part P J H,⟨?_,λr C D=>?_,G.dS.len⟩,⟨λD x=>?_⟩⟩;·refine aM G.dS.ns λx bG v=>?_;refine hF λa0=>?_;refine we bG λK y ep o h=>?_;refine a0 ?_;exact ba x (zQ K y ep (P _ _ (p _ (.head _)) o) h) (λi r E g m s=>aM (v i r E g m s) λB I M=>(ba B I (M.mono T (.refl b))))
 ·refine aM (G.dS.jO r C D) λov cm v=>?_;refine hF λa3=>?_;refine aM cm λz o q=>?_;refine a3 ?_;exact ba ov (ba z (P _ _ (p _ (.tail _ (lookup_mem D))) o) q) (λi E g m s=>aM (v i E g m s) λB I M=>(ba B I (M.mono T (.refl b))))
 ·refine t.el x λY f Y Y Y A C Y Y Y=>?_;refine hF λa1=>?_;refine G.live.el x λI n z y a2 M Y Y o U=>?_;replace M:=A.symm.trans M;obtain rfl:=sX M;refine a1 ?_;exact⟨I,f,z,y,a2,A,C,(λx=>nomatch x),P _ _ (L D x f A) o,U⟩
structure gz(w:Ni)(own:V MR)(r:bI)(h:MU)(src:Src)(e I:MR)(i:Z):Prop where
 src:∃a old,SrcAt w own r h src a/\a≠I/\a≠e/\h.IsListIter I a i/\IsEnum h e I i old
 one:own.count I=1
 Aq:own.count e=1
 ne:e≠I
theorem gz.mem{c:Src}{D k:MR}(r:gz a g b p c D k ag):∀I∈[D,k],I∈g:=λI x=>by
 rcases RB.mp x with rfl|x;·exact R'.mp (by refine R r.Aq ?_;decide)
 ·refine R (Rw.mp x) ?_;exact R'.mp (by refine R r.one ?_;decide)
theorem gz.on{s:MV}{i:Src}{D d:MR}(K:Inv a e g b k s.heap)(r:gz a g b s.heap i D d ag)(z:aQ a e g aq b s ak bc ap)(f:∀I∈[D,d],I∉aq)(J:∀I∈aq,I∈g\/s.heap.get? I=N):gz a g ak ap.heap i D d ag:=by refine hF λp=>?_;refine Hs r.src λI w X m n du A=>?_;refine mP du λj o C h=>?_;refine z.keep.el o (K.off d (r.mem d (by simp))).1 (f d (by simp)) λY t G U=>?_;obtain rfl:=U.once (by refine R r.one ?_;decide);refine z.keep.el A (K.off D (r.mem D (by simp))).1 (f D (by simp)) λY o2 c U=>?_;rw[U.once (by refine R r.Aq ?_;decide)] at c;refine p ?_;exact⟨(Fc I w (X.on z J) m n (jM _ G C h) c),r.one,r.Aq,r.ne⟩
theorem vm{tp:Nh}{a2:Src}{a0 D:MR}{j1 T:Z}{X x2:MT}{l p2:Nh}{M:dR}{xs:V M8}{rS:bI}{sS:MV}{h0:MU}{t0 kk:Z}(R:bo N q f (c :: o))(d9:j[j1]? = S (S X))(e5:c.kindOf X=S .local\/c.kindOf X=S .cell)
  (g5:j[T]? = S (S x2)) (e8:c.kindOf x2=S .local\/c.kindOf x2=S .cell) (g1:qQ h a e o c j f i M xs)
  (p:bk g c j) (x0:cM (c :: o) g [] sS.heap) (P:cu g ([D,a0]++g) (bA c) ([D,a0]++bA c) sS.heap h0) (hI:∀I∈[D,a0],I∉g) (a3:Res (Fl×Loc×AH)) (B:a3≠.bad) 
  (st:St a e ([D,a0]++g) (c :: o) c j b k w d) (n:gz a ([D,a0]++g) b d.heap a2 D a0 ag) (z:aQ a e ([D,a0]++g) ([D,a0]++bA c) rS {sS with heap:=h0,toks:=t0} b k d)
  (Y:cg (λH a1 a4 k=>aW i M ((a4.set j1 (S (.int H))).set T (S a1)) k) a2 H ag w k=a3) :
  NJ (MX h a) f (.forLoop (.Tuple [.Name X l,.Name x2 p2] kk tp) (.ref D) xs [] c) (λL s'=>match L with|.ok A=>QS a e g (bA c) o c j a3 rS sS A s'|.error D=>PL (MX h a) f c (ES a e g (MX h a) f (bA c) o c a3.x? rS sS) D s') d:=by
 have a5:=p.cY P.sub;have a8:=λI x L=>hI I L (p.fP I x);have c7:=λen x a7 L U=>hI a7 U (x0.C9 en x a7 L);refine codeAny_forLoop_any (λH d=>∃ag w k b,St a e ([D,a0]++g) (c :: o) c j b k w d/\gz a ([D,a0]++g) b d.heap a2 D a0 ag/\aQ a e ([D,a0]++g) ([D,a0]++bA c) rS {sS with heap:=h0,toks:=t0} b k d/\cg (λH a1 a4 k=>aW i M ((a4.set j1 (S (.int H))).set T (S a1)) k) a2 H ag w k=a3) (λH d d3=>?_) H (gU ag w k b st n z Y);refine hF λc3=>?_;clear Y z n st;refine hF λc4=>?_;refine qw d3 λag w k b st n z Y=>?_;refine c4 ?_;clear d3 c4;induction H using RX with
 |zero=>exact B Y.symm
 |succ x=>
  rw[Ho] at Y;refine kF (a2.at ag k) (λt=>?_) (λov t=>?_);·rw[t] at Y;exact B Y.symm
  ·rw[t] at Y
   refine Hs n.src λI g7 sa g6 e7 a9 c2=>?_
   refine cj (sa.items st.inv) λh4 n' a6 hj=>?_
   have hx:=hj ag ov t
   have c1:=n.mem
   clear hj
   induction ov using Rx with
   |none=>dsimp only at Y;refine c3 ?_;refine wpAny_pyNext_enum_end R.handled c2 a9 (bb a6) hx λh' eb=>Oj ?_;have hs:∀M K,M∉[a0]->d.heap.get? M=S K->h'.get? M=S K:=λM K L U=>eb M K (λU=>L (by rw[U];exact .head _)) U;have d7:=st.part (own:=g) (fs:=[a0]) (tk:=d.toks) p x0 hs (λI x=>c1 I (.tail _ x)) (λM x=>⟨P.sub M x,λL=>Ng x (hI M (.tail _ L))⟩) (λI x L=>a8 I x (.tail _ L)) λen x a7 L U=>c7 en x a7 L (.tail _ U);refine gU .next w k b Y.symm ⟨?_,d7.inv,P.keep (z.keep.trans (.but (a:=a0) (λM K L U=>hs M K (λx=>L (Rw.mp x)) U) (.inr (.inl (.tail _ (.head _)))))),z.le⟩ d7 trivial;refine mQ z.eq λh1 t1 e1=>?_;clear eb hI;subst e1;exact wa _ _ rfl
   |some a1=>
    refine hF λg3=>?_;refine aM hx λx' e1 vr=>?_;refine g3 ?_;refine c3 ?_;refine wpAny_pyNext_enum_item c2 a9 (bb a6) e1 n.ne λh1 c8 d0 e6 e4 c5=>?_;refine wpAny_letOwnedTupleGo_enum c8 λG c9 b9=>?_;have hs:∀M K,M∉[D,a0]->d.heap.get? M=S K->G.get? M=S K:=λM K L U=>by have y:M≠D:=λU=>L (by rw[U];exact .head _);exact(b9.2 M y).trans (c5 M K y (λU=>L (by rw[U];exact .tail _ (.head _))) U)
    have d2:=d0.extBut b9.extBut (S7 n.ne);have e0:∀I∈[D,a0],∃z,G.get? I=S z:=λI x=>by
     clear c3 a9 c8 d0 e4 c5 hx hI;rcases RB.mp x with rfl|x;·exact⟨_,c9⟩
     ·rw[Rw.mp x];obtain⟨z,a6,_⟩:=d2;exact⟨z,a6⟩
    have cN:=st.part (own:=[D,a0]++g) (fs:=[D,a0]) (tk:=d.toks+1) a5 st.live hs c1 (λM x=>⟨x,e0 M⟩) a8 c7;have o2:aQ a e ([D,a0]++g) ([D,a0]++bA c) b d b k {d with heap:=G,toks:=d.toks+1}:=.mk' cN.inv ⟨λM K e1 q A=>⟨q,K,hs M K (λx=>A (RK _ x)) e1,.refl K⟩⟩ (.refl b);have S2:∀I K,Sf d.heap b ([D,a0]++g) I K->Sf G b ([D,a0]++g) I K:=λM K U=>⟨hs M K (λx=>U.2.2 (RK _ x)) U.1,U.2⟩;have J:rZ j c [j1,T] [.Name X l,.Name x2 p2] [X,x2]:=.cons d9 e5 (.cons g5 e8 .nil);refine hF λg4=>?_;refine qo J.each λn1 n2 n3 n4=>?_;refine g4 ?_;refine Qd R.handled (⟨_,(b9.2 _ (S6 (SD c2))).trans e6,rfl,_,rfl⟩) (by refine n1.trans ?_;rfl) n2 λh3 g2=>?_;have o3:aQ a e ([D,a0]++g) [] b {d with heap:=G,toks:=d.toks+1} b k {d with heap:=h3,toks:=d.toks+1}:=.grown (tk':=d.toks+1) cN.inv (hA g2);refine gy (js:=[j1,T]) (xs:=[X,x2]) (as:=[.int ag,a1]) (loc:=w) a5 a5.fP (λε ε=>j4.all) (cN.on a5 o3) (by refine(Ry ..).trans ?_;rfl) rfl J.at (.cons (.int _ _) (.cons (o3.vr (vr.mono S2 (.refl b))) .nil)) rfl λs4 g9 L o4 v=>?_;refine hF λe9=>?_;obtain rfl:=sX L;refine qo (nY (src:=a2) (step:=λH a1 a4 k=>aW i M ((a4.set j1 (S (.int H))).set T (S a1)) k) (m:=x) (i:=ag) (v:=a1) (loc:=w) (H:=k) B Y rfl) λb1 b2 b3 b4=>?_;have c6:aQ a e ([D,a0]++g) (bA c) b {d with heap:=G,toks:=d.toks+1} b k s4:=(o3.wide (fr:=bA c)).trans o4;have d8:=(z.trans o2).trans (c6.inc λC x=>RO [D,a0] x);refine e9 ?_;refine Qe (E:=ES a e g (MX h a) f (bA c) o c a3.x? rS sS) Qf.leaving (Nj (g1 _ b k s4 ((w.set j1 (S (.int ag))).set T (S a1)) a5 v b1) (λA s5 L=>?_) λe' s5 L=>?_)
    ·refine qw L λfl d6 r r' m o5 d5 U=>?_
     refine hF λd4=>?_
     have d1:=d8.trans (o5.inc λC x=>RO [D,a0] x)
     induction fl using Fl.casesOn with
     |next=>
      induction A using SH with
      |next=>refine d4 ?_;exact⟨x,SA x,ag+1,d6,r,r',d5,((show gz a ([D,a0]++g) b G a2 D a0 (ag+1) from⟨(Fc I _ (sa.mono S2 (.refl b)) g6 e7 d2 (by exact_mod_cast c9)),n.one,n.Aq,n.ne⟩).on (s:={d with heap:=G,toks:=d.toks+1}) cN.inv c6 (λI x L=>a8 I L x) λI x=>.inl (P.sub I (p.fP I x))).on v.inv o5 (λI x L=>a8 I L x) λI x=>.inl (P.sub I (p.fP I x)),d1,b2 _ _ m⟩
      |_=>exact U.elim
     |ret s=>
      induction A using SH with
      |ret v2=>refine d4 ?_;exact QS.back P x0 (gU (.ret s) d6 r r' (b3 _ _ _ m) d1 d5 U)
      |_=>exact U.elim
    ·refine L.mono λm g8 U=>?_;refine cj U λtt r e3 U=>?_;refine EF.back P (EF.pre d8 (λI x=>(RL.mp x).elim (λL=>c1 I L) λL=>P.sub I (p.fP I L)) (dI tt r ?_ ?_))
     ·refine BX (aW i M ((w.set j1 (S (.int ag))).set T (S a1)) k) (λε s=>?_) (λt2 H2 s=>?_) (λs=>?_);·exact nX (s▸e3)
      ·replace e3:=s▸e3;refine sQ e3 ?_;rw[b4 _ _ s];rfl
      ·exact(b1 s).elim
     ·exact U.more λC x=>RO _ x
theorem SS.iQ{tp:Nh}{cp:Nh}{c2:Z}{j1 T:Z}{X x2:MT}{p1 p2:Nh}{M:dR}{xs:V M8}(a7:Gr v e P be bg bf)(a9:xv v c "enumerate" (.type "enumerate"))(R:bo N c2 f (c :: o))(d:SE h a e (c :: o) c j f i af s)(ns:notStar s=MK)(r:j[j1]? = S (S X))(a4:c.kindOf X=S .local\/c.kindOf X=S .cell)
  (c1:j[T]? = S (S x2)) (l:c.kindOf x2=S .local\/c.kindOf x2=S .cell) (a6:qQ h a e o c j f i M xs) :
  SS h a e o c j f i (.iQ j1 T af M) (.For (.Tuple [.Name X p1,.Name x2 p2] H tp) (.Call (.Name "enumerate" bj) [s] [] cp) xs [] J):=λg b9 a8 t a5 p G B=>by
 rw[tE] at B⊢;refine wpAny_For (xw (bv:=.ty "enumerate") a7 a9 p G.inv (SE.jv d ns) ?_) λE=>eZ rfl E;rw[bz ns];refine PySem.Calls.spliced_cons ((d g b9 a8 t a5 p G).ei R G.live p.fP (.refl G.inv) (λI H1 K k va e1 o1 pp v1 D=>?_) B);rw[e1,Res.aP];have dw:=G.on p pp;induction er:srcOf H1 I using Rx with
 |none=>exact bX (er▸D)
 |some q=>
  obtain⟨b,x⟩:=q
  replace D:=er▸D
  dsimp only at D⊢
  refine aM (gY v1 er) λa' fC C=>?_
  subst fC
  refine hF λa3=>?_
  refine cj (C.items o1.inv) λc3 n' a0 Y=>?_
  refine a3 ?_
  refine PySem.Calls.spliced_nil (call_enumerate_1 a0 λm a1 a2 hz hs=>wpAny_pyIter_enum a1 ?_)
  have A:∀M∈[k.heap.objs.size+1,k.heap.objs.size],k.heap.get? M=N:=λM w=>by
   rcases RB.mp w with rfl|w;·exact SU (Sn _)
   ·rw[Rw.mp w];exact bS _
  have L:=cu.more (own:=g) (fr:=bA c) (ns:=[k.heap.objs.size+1,k.heap.objs.size]) A (by simp) hs
  have y:=λI x=>(dO p dw.inv (A I x)).1
  have cN:=dw.cY (own':=[k.heap.objs.size+1,k.heap.objs.size]++g) (tk:=k.toks) L.new L.le L.hs λM x=>by
   rcases RL.mp x with x|x
   ·rcases RB.mp x with rfl|x;·exact⟨_,a1⟩
    ·rw[Rw.mp x];obtain⟨z,a0,_⟩:=a2;exact⟨z,a0⟩
   ·exact dw.inv.FL L.hs x
  have la:=SD a0
  have c0:=λI x=>RZ (y I x)
  have it:gz a ([k.heap.objs.size+1,k.heap.objs.size]++g) K m b (k.heap.objs.size+1) k.heap.objs.size 0:=⟨(Fc a' _ (C.mono (λI z U=>(U.cY L.new).grow L.hs) (.refl _)) (Td la) (Td (U3 la)) a2 a1),by rw[R9,c0 _ (.tail _ (.head _))];simp,by rw[R9,c0 _ (.head _)];simp,Vb _⟩
  refine O1 (vm R r a4 c1 l a6 p dw.live L y _ D cN it (.refl cN.inv) rfl) λU s' q=>?_
  cases U with
  |ok A=>exact q.pre o1
  |error af=>exact nZ (λaf n U=>U.mono λaf n U=>U.pre o1 p.fP) q
noncomputable def iI(c:V (MT×MR)):V (MT×Ny)->V (MT×MR)->O (V (MT×MR))
 |[],X=>S X
 |(q,H) :: y,X=>if(H==.free)=MK then(match c.lookup q with|some C=>iI c y ((q,C) :: X)|none=>N) else iI c y X
set_option tactic.hygienic true in
theorem vn{env:Nf}(A:MT×Ny->V (MT×MR)->Nl (O3 (V (MT×MR))))(J:∀q H X,A (q,H) X=if(H==.free)=MK then cellOf env q >>= λC=>pure (.yield ((q,C) :: X)) else pure (.yield X)) :
  ∀{w:V (MT×Ny)} {X v:V (MT×MR)},iI env.cells w X=S v->forIn w X A=pure v:=by
 intro w;induction w with
 |nil=>intro X v D;exact sJ D UP
 |cons L y f=>
  obtain⟨q,H⟩:=L;intro X v D;refine(TV ..).trans ?_;refine R (J ..) ?_;have D:(if(H==.free)=MK then(match env.cells.lookup q with|some C=>iI env.cells y ((q,C) :: X)|none=>N) else iI env.cells y X)=S v:=D;split at D
  ·rename_i L;refine R (Na L) (kF (env.cells.lookup q) (λs=>?_) (λC s=>?_));·exact nX (s▸D)
   ·rw[s] at D;unfold cellOf;exact R s (f D)
  ·rename_i L;exact R (Nc L) (f D)
theorem nq{b:NB}{v:V (MT×MR)}(D:iI c.cells b.names []=S v):closureFor b c=pure v:=by show(forIn b.names [] _ >>= λa=>pure a)=pure v;refine R (vn (env:=c) _ (λq H X=>by induction H using Vc<;>rfl) D) ?_;rfl
set_option tactic.hygienic true in
theorem r5{cells:V (MT×MR)}:∀{ns:V (MT×Ny)} {acc:V (MT×MR)},(∀r,(r,Tj)∈ns->∃C,cells.lookup r=S C)->(∀r C,acc.lookup r=S C->cells.lookup r=S C)->(∀I∈acc.map (·.2),I∈cells.map (·.2))->
  ∃v,iI cells ns acc=S v/\(∀r C,v.lookup r=S C->cells.lookup r=S C)/\(∀I∈v.map (·.2),I∈cells.map (·.2))/\(∀r,((r,Tj)∈ns\/∃C,acc.lookup r=S C)->∃C,v.lookup r=S C):=by
 intro ns;induction ns with
 |nil=>intro acc _ G T;exact zE acc rfl G T (λr x=>x.elim (λx=>nomatch x) id)
 |cons i y f=>
  obtain⟨q,H⟩:=i;intro acc p G T;rw[show iI cells ((q,H) :: y) acc=if(H==.free)=MK then(match cells.lookup q with|some C=>iI cells y ((q,C) :: acc)|none=>N) else iI cells y acc from rfl];by_cases L:H=.free
  ·subst L;refine dD (p q (.head _)) λC j=>R j ?_;obtain⟨v,D,I,M,h⟩:=f (λr x=>p r (.tail _ x)) (λr o D=>by
    rw[SG] at D;split at D;·rename_i L;refine sJ D ?_;refine R (OJ L) ?_;exact j
    ·exact G r o D) (λI x=>by
    rcases RB.mp x with rfl|x;·exact lookup_mem j
    ·exact T I x)
   refine zE v D I M (λr x=>h r ?_);have a:∀r,(∃C,acc.lookup r=S C)->∃o,Ua r ((q,C) :: acc)=S o:=λr ⟨o,D⟩=>by
    refine R SG ?_;split;·exact⟨_,rfl⟩
    ·exact⟨_,D⟩
   rcases x with x|x
   ·rcases RB.mp x with D|x;·cases D;exact .inr ⟨C,by refine SG.trans ?_;simp⟩
    ·exact .inl x
   ·exact .inr (a r x)
  ·refine R (Nc (by simpa using L)) ?_;refine wH (f (λr x=>p r (.tail _ x)) G T) λv D I M h=>zE v D I M (λr x=>h r (x.imp (λx=>?_) id));clear I M h G T p;rcases RB.mp x with D|x;·cases D;exact(L rfl).elim
   ·exact x
theorem xx{g:MT->Ny->Ny}{A:MT×Ny->MT×Ny}(J:∀q k,A (q,k)=(q,g q k))(r:MT)(w:V (MT×Ny)):(w.map A).lookup r=(w.lookup r).map (g r):=by
 induction w with
 |nil=>rfl
 |cons L y d=>
  obtain⟨q,k⟩:=L
  refine R R4 (R (J q k) (SG.trans (R (SG (k:=q) (b:=k)) ?_)))
  induction D:r==q using RD with
  |true=>exact Nb (λs=>S (g s k)) (OJ D).symm
  |false=>exact d
theorem pz(c:Nf)(r:MT)(w:V (MT×Ny)):(w.map λ(q,H)=>if(H==Tj&&c.scope.kind==.function&&c.kindOf q==S .cell) then(q,U0) else(q,H)).lookup r =
  (w.lookup r).map λH=>if(H==Tj&&c.scope.kind==.function&&c.kindOf r==S .cell) then U0 else H:=
 xx (g:=λq H=>if(H==Tj&&c.scope.kind==.function&&c.kindOf q==S .cell) then U0 else H) (λq H=>(apply_ite (NT.mk q) ..).symm) r w
theorem fY{a:NB}{v:V (MT×MR)}{M:MR}(r:MT):(Nq a v M c).kindOf r=(a.names.lookup r).map λH=>if(H==Tj&&c.scope.kind==.function&&c.kindOf r==S .cell) then U0 else H:=pz c r a.names
theorem dh{a:NB}{v:V (MT×MR)}{M:MR}(B:a.names.lookup r=S .local):(Nq a v M c).kindOf r=S .local:=by exact(fY ..).trans (R B rfl)
theorem vo{a:NB}{v:V (MT×MR)}{M:MR}(B:a.names.lookup r=S .globalImplicit):(Nq a v M c).kindOf r=S .globalImplicit:=by exact(fY ..).trans (R B rfl)
theorem kind_free{a:NB}{v:V (MT×MR)}{M:MR}(B:a.names.lookup r=S .free):(Nq a v M c).kindOf r=S .cell\/(Nq a v M c).kindOf r=S .free:=by
 refine R (fY ..) ?_;refine R B ?_;refine R (Ud ..) ?_;split;·exact .inl rfl
 ·exact .inr rfl
theorem vp{a:NB}{v:V (MT×MR)}{M:MR}(j:∀s∈a.names,s.2≠.cell)(B:(Nq a v M c).kindOf r=S .cell\/(Nq a v M c).kindOf r=S .free):a.names.lookup r=S .free:=by
 rw[fY] at B;induction D:a.names.lookup r using Rx with
 |none=>rw[D] at B;rcases B with B|B<;>exact nX B
 |some H=>
  rw[D,Ud] at B;by_cases L:H=.free;·rw[L]
  ·have q:(H==Tj)=MS:=by simpa using L
   rw[q] at B;simp only[MO.false_and,SR,Oi,VT] at B;clear q;rcases B with B|B;·subst B;exact Ng rfl (j _ (mem_of_lookup D))
   ·exact(L B).elim
theorem nr{a:NB}{v:V (MT×MR)}{M:MR}(B:(Nq a v M c).kindOf r=S .local):a.names.lookup r=S .local:=by
 rw[fY] at B;induction D:a.names.lookup r using Rx with
 |none=>exact nX (D▸B)
 |some H=>
  rw[D,Ud] at B;split at B;·exact(nomatch B)
  ·exact B
noncomputable def cv(T:Loc)(m:V Z):Loc:=m.foldl (λT i=>T.set i N) T
structure B0(scope:NB)(env:Nf)(sl sl':V (O MT))(ts:V Z):Prop where
 cell:∀y∈scope.names,y.2≠.cell
 kind:scope.kind=.function
 loc:∀x∈scope.names,x.2=.local->scope.names.lookup x.1=S .local
 Df:∀x,(x,Tj)∈scope.names->(env.kindOf x=S .cell\/env.kindOf x=S .free)/\∃j:Z,sl[j]? = S (S x)
 slot:∀(j:Z) x,sl'[j]? = S (S x)->(j∈ts/\scope.names.lookup x=S .local)\/(j∉ts/\sl[j]? = S (S x)/\scope.names.lookup x=S .free)
 inj:∀(i j:Z) x,sl'[i]? = S (S x)->sl'[j]? = S (S x)->i=j
 len:sl'.length=sl.length
theorem B0.Dg{l:V (O MT)}{b:NB}(a:B0 b c j l ts)(p:bk g c j):∃v,closureFor b c=pure v/\(∀r C,v.lookup r=S C->c.cells.lookup r=S C)/\(∀I∈v.map (·.2),I∈c.cells.map (·.2))/\(∀r,(r,Tj)∈b.names->∃C,v.lookup r=S C):=by refine wH (r5 (cells:=c.cells) (ns:=b.names) (acc:=[]) (λr x=>let⟨L,i,D⟩:=a.Df r x;p.has i r D L) (λr C D=>nomatch D) (λI x=>nomatch x)) λv D I M h=>?_;exact zE v (nq D) I M (λr x=>h r (.inl x))
theorem t5{ts:V Z}{v:Q}:(∃r,ts=[r]/\∀T,fA T ts v=S (T.set r (S v)))\/(∃r s I M,ts=[r,s]/\∀T,fA T ts v=S ((T.set r (S I)).set s (S M)))\/∀T,fA T ts v=N:=by
 rcases ts with _|⟨r,_|⟨s,_|⟨U,y⟩⟩⟩;·exact .inr (.inr λY=>rfl)
 ·exact .inl (ba r rfl (λY=>rfl))
 ·induction v using Wm with
  |tup w=>rcases w with _|⟨I,_|⟨M,_|⟨C,y⟩⟩⟩<;>first|exact .inr (.inr λY=>rfl)|exact .inr (.inl (JG r s I M rfl (λY=>rfl)))
  |_=>exact .inr (.inr λY=>rfl)
 ·exact .inr (.inr λY=>rfl)
theorem t7{r s:Z}{I M C h:O Q}:(((w.set r I).set s M).set r C).set s h=(w.set r C).set s h:=by
 by_cases L:r=s;·subst L;refine R (Te ..) ?_;refine R (Te ..) ?_;refine R (Te ..) ?_;rw[Te]
 ·refine R (Uw (i:=s) (j:=r) M C (λU=>L U.symm)) ?_;refine(Te ..).trans ?_;refine R (Te ..) rfl
theorem qS{m:V Z}:fA (cv w m) m aw=fA w m aw:=by
 refine hF λl=>?_;rcases t5 (ts:=m) (v:=aw) with⟨r,rfl,B⟩|⟨r,s,I,M,rfl,B⟩|B;·refine l ?_;exact(B ..).trans (Nb S (Te ..))
 ·refine l ?_;refine(B ..).trans ?_;refine R (B ..) ?_;exact Nb S t7
 ·refine l ?_;refine(B ..).trans ?_;refine R (B ..) rfl
theorem qT{m:V Z}{v:Loc}(D:fA w m aw=S v):cv v m=cv w m:=by
 refine hF λE=>?_;rcases t5 (ts:=m) (v:=aw) with⟨r,rfl,B⟩|⟨r,s,I,M,rfl,B⟩|B;·exact E (sX ((B w).symm.trans D)▸Te ..)
 ·exact E (sX ((B w).symm.trans D)▸t7)
 ·exact nX ((B w).symm.trans D)
theorem fZ:∀{m:V Z} {A:Loc},(cv A m)[K]? = S (S aw)->A[K]? = S (S aw)/\K∉m:=by
 intro m;induction m with
 |nil=>intro A D;exact⟨D,λx=>nomatch x⟩
 |cons n m f=>
  intro A D;refine bM (f (show(cv (A.set n N) m)[K]? = S (S aw) from D)) λI M=>?_;clear D;by_cases L:n=K
  ·subst L;replace I:=Up▸I;refine kF (A[n]?) (λU=>?_) (λs U=>?_);·exact nX (U▸I)
   ·replace I:=U▸I;cases I
  ·replace I:=(R6 L).symm.trans I;exact⟨I,λx=>(RB.mp x).elim (λU=>L U.symm) M⟩
theorem ic:∀{ts:V Z} {loc:Loc},(cv loc ts).length=loc.length
 |[],_=>rfl
 |n :: ts,loc=>by have:=ic (ts:=ts) (loc:=loc.set n N);simpa [cv] using this
theorem uR.clear{e:V Z}(A:uR a g c j w b p):uR a g c j (cv w e) b p:=by
 refine⟨?_,λr C D=>?_,by refine ic.trans ?_;exact A.len⟩;·exact aM A.ns λx n v=>ba x n (λi r E X m s=>v i r E X (fZ m).1 s)
 ·exact aM (A.jO r C D) λy d v=>ba y d (λi E X m s=>v i E X (fZ m).1 s)
inductive Ar(sl:V (O MT))(scope:NB):V Z->MP->Prop
 |one {j:Z} {x:MT} {p:Nh}:sl[j]? = S (S x)->scope.names.lookup x=S .local->Ar sl scope [j] (.Name x p)
 |two {j1 j2:Z} {x1 x2:MT} {p1 p2 tp:Nh} {k:Z}:sl[j1]? = S (S x1)->scope.names.lookup x1=S .local->sl[j2]? = S (S x2)->scope.names.lookup x2=S .local->Ar sl scope [j1,j2] (.Tuple [.Name x1 p1,.Name x2 p2] k tp)
theorem vq{T v:Loc}{r s:Z}(D:fA T [r,s] aw=S v):∃w,aw=.tup w/\∃I M,w=[I,M]/\df T [r,s] [I,M]=S v:=by
 induction aw using Wm with
 |tup w=>rcases w with _|⟨I,_|⟨M,_|⟨C,y⟩⟩⟩<;>first|exact nX D|exact⟨_,rfl,I,M,rfl,D⟩
 |_=>exact nX D
theorem As{z:V (O MT)}{y:NB}{v:V (MT×MR)}{M:MR}{ts:V Z}{a0:MP}{B:MN}{l':Loc}{o:NO->MV->Prop}(hh:f.handled=N)(tg:Ar z y ts a0)(p:bk g (Nq y v M c) z)(L:St a e g l (Nq y v M c) z b k w d)(P:VR a.params (Sf d.heap b g) b aw B)(D:fA w ts aw=S l')
  (H:∀s',aQ a e g [M] b d b k s'->St a e g l (Nq y v M c) z b k l' s'->o () s'):MY (MX h a) f (OO a0 (Nq y v M c) B) o t d:=by
 refine hF λn=>?_;induction tg using Ar.casesOn with
 |@one i r a3 K G=>obtain rfl:=sX D;refine n ?_;exact PM (ew (j:=i) p L ⟨λY=>.head _,λC q=>by replace q:=(dh G).symm.trans q;cases q⟩ K (.inl (dh G)) P H)
 |@two j1 T X x2 p1 p2 j a4 K G h3 h4=>
  obtain⟨vs,rfl,I,a1,rfl,eb⟩:=vq D;refine dF P.inv λr xi x du sx vx=>?_;clear P D;subst du
  ··skip
    have J:rZ z (Nq y v M c) [j1,T] [.Name X p1,.Name x2 p2] [X,x2]:=.cons K (.inl (dh G)) (.cons h3 (.inl (dh h4)) .nil)
    refine qo J.each λn1 n2 n3 n4=>?_
    have s:xi.size=2:=by have:=vx.len;simp at this;exact this.symm
    refine n ?_
    refine Qd hh (dW sx) (by refine R s ?_;rfl) n2 λm ex=>?_
    have A:aQ a e g [] b d b k {d with heap:=m}:=.grown (tk':=d.toks) L.inv (hA ex)
    refine gy (js:=[j1,T]) (xs:=[X,x2]) (as:=[I,a1]) (loc:=w) p (λI x=>by refine R (Rw.mp x) ?_;exact p.loc) (λa2 x=>⟨λY=>.head _,λC q=>by
     clear n r sx n1 n2 n3 n4 ex s hh;refine Wg (RB.mp x) (λE=>?_) λx=>?_;·subst E;replace q:=(dh G).symm.trans q;exact nomatch q
     ·rw[Rw.mp x,dh h4] at q;cases q⟩) (L.on p A) ((Ry ..).trans rfl) rfl J.at (A.CX vx) rfl λs2 U q o2 cN=>H s2 ((aQ.wide A).trans o2) ?_
    exact sX (eb.symm.trans q)▸cN
theorem ny{k:MR}{a:MP}{o:NO->MV->Prop}(c:d.heap.IsListIter k n ag)(B:o () d):MY T f (Pk a (.ref k) aa) o t d:=by
 refine mP c λz G j H=>?_;have h:MY T f (Pk (.List [] ⟨0,0,0,0⟩) (.ref k) aa) o t d:=by
  induction aa using MN.casesOn with
  |ref M=>refine MQ (Ox G ?_);refine R j (R H ?_);show MY _ _ (if(["enumerate","zip","dict_itemiterator","dict_reverseitemiterator","odict_iterator","itertools.zip_longest","itertools.pairwise"].contains "list_iterator"&&_)=MK then _ else _) _ _ d;exact R (Nc (nofun)) (MZ B)
  |_=>exact MZ B
 induction a using T2<;>first|exact MZ B|exact h
noncomputable def Dh(l:Nu)(a:Ni)(d:MU)(T:V Nf)(c:Nf)(i:V (O MT))(f:Nv)(e:CF)(q:LO)(I:V MP):Prop:=(q=.no/\I=[])\/∃D r,q=.so D/\I=[r]/\ST l a d T c i f e D r
theorem Dh.run{x:LO}{I:V MP}{o:MO->MV->Prop}(r:Dh h a e l c j f i x I)(p:bk g c j)(G:St a e g l c j b k w d)(D:zD i x w k=.ok (am,bc))(H:∀K v,aQ a e g [] b d K bc v->o am v) :
  MY (MX h a) f (forIn I MK λam b=>if b=MK then do let z<-isTrue am c (PySem.eval am c);pure (O3.yield z) else pure (O3.yield b)) o t d:=by
 refine hF λm=>?_;rcases r with⟨rfl,rfl⟩|⟨y,s,rfl,rfl,B⟩;·replace D:=FD.symm.trans D;obtain⟨rfl,rfl⟩:=m6 D;exact m (R UP (MZ (H b d (.refl G.inv))))
 ·have D:mR i y w k=.ok (am,bc):=D;refine m (R (TV ..) ?_);refine MQ (MQ (Nj (B g b k d w p G (by refine R D ?_;nofun)) (λM v q=>?_) λY Y q=>?_));·refine dF q λn A K X o1 dV=>R dV.symm ?_;replace X:=D.symm.trans X;obtain⟨rfl,rfl⟩:=m6 X;refine MZ ?_;show MY _ _ (forIn [] _ _) _ _ _;exact R UP (MZ (H K v o1))
  ·exact cj q λn C X Y=>nX (D▸X)
theorem jx{v l T:MP}{I:V MP}{M:NB}{n D:MN}{R:NP->MV->Prop}(k:Z->MV->Prop)
  (t:∀q d,k q d->MY (MX h a) f (OD n) (λy X=>match y with
   |none=>R (.ok .next) X
   |some E=>MY (MX h a) f (Pk l n E) (λY X=>MY (MX h a) f (OO l c E) (λY H=>
     MY (MX h a) f (forIn I MK λC y=>if y=MK then do let z<-isTrue C c (PySem.eval C c);pure (O3.yield z) else pure (O3.yield y)) (λz e=>
      if z=MK then MY (MX h a) f (PySem.eval v c) (λr w=>
       MY (MX h a) f (N2 (.builtin "list.append") [D,r]) (λY j=>∃x,x<q/\k x j) (λY Y=>Nw) w) (λY Y=>Nw) e
      else∃x,x<q/\k x e) (λY Y=>Nw) H) (λY Y=>Nw) X) (λY Y=>Nw) X) (λY Y=>Nw) d)
  (q:Z) (B:k q d):NJ (MX h a) f (.compLoop (.ListComp v [⟨l,T,I,0⟩] M J) 0 n D c) R d:=by
 refine codeAny_loop rfl k (λq d g=>?_) q B
 refine wpAny_noted ((show∀{i:Type} {G:Nl i} {o:i->MV->Prop} {P:MN->MV->Prop} {d:MV},MY (MX h a) f G o (λY Y=>Nw) d->MY (MX h a) f G o P d from λB=>Nj B (λY Y L=>L) λY Y A=>A.elim) ?_)
 rw[compTurn_list]
 refine MQ (NW (MQ (Nj (t q d g) (λy X U=>?_) λY Y m=>m)))
 induction y using Rx with
 |none=>exact MZ U
 |some E=>
  refine MQ (Nj U (λY X U=>?_) λY Y m=>m)
  refine MQ (Nj U (λY H K=>MQ (Nj K (λz e p=>?_) λY Y m=>m)) λY Y m=>m)
  induction z using RD with
  |false=>exact MZ ⟨rfl,p⟩
  |true=>
   exact MQ (MQ (Nj p (λr w s=>MQ (Nj s (λY j b=>MZ (MZ ⟨rfl,b⟩)) λY Y m=>m)) λY Y m=>m))
noncomputable def AccAt(a:Ni)(g:V MR)(y:bI)(B:MU)(t:MR)(X:V Q):Prop:=∃j q,B.get? t=S (listOf j q)/\bN a.params (Sf B y g) y X j.toList
theorem AccAt.on{s:MV}{t:MR}{X:V Q}(K:Inv a e g b k s.heap)(r:AccAt a g b s.heap t X)(x:t∈g)(C:g.count t<2)(z:aQ a e g aq b s ak bc ap)(i:t∉aq)(J:∀I∈aq,I∈g\/s.heap.get? I=N):AccAt a g ak ap.heap t X:=by refine hF λA=>cj r λj q o E=>z.keep.el o (K.off t x).1 i λY c G U=>?_;rw[U.once C] at G;exact A (dI j q G (E.mono (λY Y U=>z.sf J U) z.le))
noncomputable def bt(e:CF)(a:LE)(m:V Z)(q:LO)(A:Loc):Q->AH->Res (O Q×AH):=λE b=>match fA A m E with
 |none=>.bad
 |some v=>((zD e q v b).bind λC=>if C.1 then(aO e a v C.2).bind λr=>.ok (S r.1,r.2) else .ok (N,C.2)).tr
theorem qU{r:Res G}{A:G->Res az}{M:az}(B:(r.bind A).tr=.ok M):∃I,r=.ok I/\(A I).tr=.ok M:=by
 refine hF λl=>?_;induction r using Wn with
 |ok I=>exact l (ba I rfl B)
 |exc _ _=>cases B
 |bad=>cases B
set_option tactic.hygienic true in
theorem oh{a6:V (O MT)}{loc:Loc}{a3:NB}{cl:V (MT×MR)}{M:MR}{t:MR}{a2:MR}{m:V Z}{d1:NP->MV->Prop}{a5:Src}{a8:LE}{d7 g8:MP}{a7:LO}{d2:V MP}(hh:f.handled=N)(hE:SE h a e l (Nq a3 cl M c) a6 f i a8 s)(hC:Dh h a e l (Nq a3 cl M c) a6 f i a7 d2)(tg:Ar a6 a3 m d7)
  (eo:bk g (Nq a3 cl M c) a6) (hI:a2∉bA (Nq a3 cl M c)) (hD:t∉bA (Nq a3 cl M c)) (mD:g.count t=1) (c6:a2≠t) (a9:Res (V Q×AH)) (B:a9≠.bad) {H a0:Z} (hk:H<=1001)
  (G:St a e g l (Nq a3 cl M c) a6 b k (cv loc m) d) (n:cZ a g b d.heap a5 a2 a0) (X:AccAt a g b d.heap t []) (ev:bP (bt i a8 m a7 loc) a5 H a0 k=a9)
  (hQ:∀c9 w r K g7 v,a9=.ok (w,r)->aQ a e g [a2,t,M] b d K r v->AccAt a g K v.heap t w->St a e g l (Nq a3 cl M c) a6 K r g7 v->d1 (.ok c9) v) :
  NJ (MX h a) f (.compLoop (.ListComp s [⟨d7,g8,d2,0⟩] a3 J) 0 (.ref a2) (.ref t) (Nq a3 cl M c)) d1 d:=by
 have j:=R'.mp (by refine R mD ?_;decide);have T:g.count t<2:=by refine R mD ?_;decide
 refine hF λe7=>?_;obtain⟨Iv,mk,el⟩:∃Iv:Z->MV->Prop,(∀H v a0 r K X,H<=1001->X.length+H<=1001->St a e g l (Nq a3 cl M c) a6 K r (cv loc m) v->cZ a g K v.heap a5 a2 a0->aQ a e g [a2,t,M] b d K r v->AccAt a g K v.heap t X->(bP (bt i a8 m a7 loc) a5 H a0 r).bind (λq=>.ok (X++q.1,q.2))=a9->Iv H v)/\
   ∀H v,Iv H v->∀b9:Prop,(∀a0 r K X,H<=1001->X.length+H<=1001->St a e g l (Nq a3 cl M c) a6 K r (cv loc m) v->cZ a g K v.heap a5 a2 a0->aQ a e g [a2,t,M] b d K r v->AccAt a g K v.heap t X->(bP (bt i a8 m a7 loc) a5 H a0 r).bind (λq=>.ok (X++q.1,q.2))=a9->b9)->b9:=
  ⟨λH v=>∀b9:Prop,(∀a0 r K X,H<=1001->X.length+H<=1001->St a e g l (Nq a3 cl M c) a6 K r (cv loc m) v->cZ a g K v.heap a5 a2 a0->aQ a e g [a2,t,M] b d K r v->AccAt a g K v.heap t X->(bP (bt i a8 m a7 loc) a5 H a0 r).bind (λq=>.ok (X++q.1,q.2))=a9->b9)->b9,λH v a0 r K X I a4 C g3 D A o b9 U=>U a0 r K X I a4 C g3 D A o,λH v U=>U⟩
 refine e7 (jx Iv (λH v d8=>?_) H (mk _ _ a0 k b [] hk (by simpa using hk) G n (.refl G.inv) X ?_))
 ·refine el _ _ d8 _ λi' r K c5 g1 ha c3 c4 o' ac p=>?_
  clear d8
  induction H using RX with
  |zero=>exact Ng p.symm B
  |succ x=>
   rw[Kx] at p;refine kF (a5.at i' r) (λea=>?_) (λov ea=>?_);·rw[ea] at p;exact Ng p.symm B
   ·rw[ea] at p
    refine j5 hh c3.inv c4 ea λs1 o1=>?_
    have dw:=c3.Hy eo o1 hI c4.one
    have c7:=ac.on c3.inv j T o1 (λx=>c6 (Rw.mp x).symm) (λI x=>by exact R (Rw.mp x) (.inl c4.mem))
    have e8:=o'.trans (o1.inc (fr':=[a2,t,M]) λC x=>by exact R (Rw.mp x) (.head _))
    induction ov using Rx with
    |none=>rw[Res.aP,Sx] at p;exact hQ _ c5 r K _ _ p.symm e8 c7 dw
    |some d9=>
     dsimp only at p⊢;intro v' hv d3;refine hF λe6=>mP d3.src λa1 Y Y d5=>e6 (ny d5 (hF λd4=>BX (bt i a8 m a7 loc d9 r) (λq y=>?_) (λg5 H2 y=>?_) (λy=>?_)))
     ·obtain⟨ox,H2⟩:=q
      rw[y,Res.aP] at p
      unfold bt at y
      induction eb:fA loc m d9 using Rx with
      |none=>replace y:=eb▸y;cases y
      |some l'=>
       replace y:=eb▸y
       dsimp only at y
       refine aM (qU y) λbG e3 y=>?_
       obtain⟨C,H3⟩:=bG
       refine d4 ?_
       refine As hh tg eo dw hv (by refine qS.trans ?_;exact eb) λs2 o2 cN=>?_
       have f2:∀I∈[M],I∈g\/s1.heap.get? I=N:=λI x=>.inl ((eo.fP) I (R (Rw.mp x) (.head _)))
       have g4:=e8.trans (o2.inc (fr':=[a2,t,M]) λC x=>by exact R (Rw.mp x) (.tail _ (.tail _ (.head _))))
       refine hC.run eo cN e3 λr3 s3 o3=>hF λe9=>?_
       have c1:=cN.on eo o3
       have e0:=(c7.on dw.inv j T o2 (λx=>hD (R (Rw.mp x) (.head _))) f2).on cN.inv j T o3 (λx=>nomatch x) λY x=>nomatch x
       have d0:=(d3.on dw.inv o2 (λx=>hI (R (Rw.mp x) (.head _))) f2).on cN.inv o3 (λx=>nomatch x) λY x=>nomatch x
       have g2:=g4.trans (o3.wide (fr:=[a2,t,M]))
       have d6:∀{b:bI} {k:AH} {d:MV},St a e g l (Nq a3 cl M c) a6 b k l' d->St a e g l (Nq a3 cl M c) a6 b k (cv loc m) d:=λU=>by exact R (qT eb).symm ⟨U.inv,U.dS.clear,U.live⟩
       clear v c3 c4 o' ac ea o1 e6 d5 d4 e3 o2 cN dw c7 f2 el
       induction C using RD with
       |false=>obtain⟨rfl,rfl⟩:=m6 y;refine e9 (ba x (SA x) (mk _ _ (i'+1) H3 r3 c5 (VV g1) (qm ha rfl) (d6 c1) d0 g2 e0 ?_));dsimp only at p;refine R p.symm ?_;cases bP (bt i a8 m a7 loc) a5 x (i'+1) H3<;>rfl
       |true=>
        refine e9 (hF λL=>aM (qU y) λcm e4 y=>?_);obtain⟨c9,H4⟩:=cm;obtain⟨rfl,rfl⟩:=m6 y;refine L ?_;refine Nj (hE g r3 H3 s3 l' eo c1 (by refine R e4 ?_;nofun)) (λx' s4 q=>?_) λY Y q=>by exact cj q λg5 r e1 Y=>nX (e4▸e1)
        refine dF q λx0 H5 r4 E o4 vx=>?_;replace E:=e4.symm.trans E;obtain⟨rfl,rfl⟩:=m6 E;have c2:=c1.on eo o4;have g9:=g2.trans (o4.wide (fr:=[a2,t,M]));refine cj (e0.on c1.inv j T o4 (λx=>nomatch x) λY x=>nomatch x) λh0 nn o va=>?_;have hz:c5.length=h0.size:=by exact va.len.trans RH
        refine QH o (λh' sb g'=>?_) (by have:N0=_:=N8;exact hz▸n3 (RG (R5 ..) ha) rfl);have P:∀a4 z,a4∉[t]->s4.heap.get? a4=S z->h'.get? a4=S z:=λa4 z q U=>(sb.2 a4 (λU=>q (R U (.head _)))).trans U;have fl:∀D∈l,∀c8,D.frame=S c8->c8∉[t]:=λD x c8 q U=>by refine c2.live.el x λY L' Y Y Y A C Y Y Y=>?_;replace A:=q.symm.trans A;cases A;rw[Rw.mp U,mD] at C;exact RU _ C
        have e2:=c2.part (own:=g) (fs:=[t]) (tk:=s4.toks) eo c2.live P (λI x=>by exact R (Rw.mp x) j) (λa4 x=>⟨x,λq=>by refine R (Rw.mp q) ?_;exact⟨_,g'⟩⟩) (λI x q=>hD (R (Rw.mp q).symm x)) fl;have o5:aQ a e g [t] r4 s4 r4 H4 {s4 with heap:=h'}:=.mk' (tk':=s4.toks) e2.inv ⟨λa4 ob e1 g6 A=>⟨g6,ob,P a4 ob A e1,.refl ob⟩⟩ (.refl r4);have S5:∀I ob,Sf s4.heap r4 g I ob->Sf h' r4 g I ob:=λa4 ob U=>⟨P a4 ob (λx=>U.2.2 (R (Rw.mp x) j)) U.1,U.2⟩;refine ba x (SA x) (mk _ _ (i'+1) H4 r4 (c5++[c9]) (VV g1) (by refine R RE ?_;exact RG (R1 (TU ..)) ha) (d6 e2) ((d0.on c1.inv o4 (λx=>nomatch x) λY x=>nomatch x).on c2.inv o5 (λx=>c6 (Rw.mp x)) λI x=>by rw[Rw.mp x];exact .inl j) (g9.trans (o5.inc λC x=>by rw[Rw.mp x];exact .tail _ (.head _))) (dI _ _ g' ?_) ?_);·have:=(va.mono S5 (.refl r4)).append (.cons (vx.mono S5 (.refl r4)) .nil);simpa using this
        ·dsimp only at p
         rw[<-p]
         cases bP (bt i a8 m a7 loc) a5 x (i'+1) H4 with
         |ok q=>show Res.ok _=Res.ok _;simp
         |exc _ _=>rfl
         |bad=>rfl
     ·unfold bt at y;split at y;·cases y
      ·rename_i q;generalize (Res.bind _ _:Res (O Q×AH))=U at y;induction U using Wn<;>cases y
     ·rw[y] at p;exact B p.symm
 ·rw[ev]
  clear e7 H a0 X j T hh hE hC tg eo hI hD mD c6 hk G n ev hQ
  induction a9 using Wn with
  |ok q=>rfl
  |exc _ _=>rfl
  |bad=>exact bX B
structure r6(w:Ni)(g₀:MU)(own:V MR)(l:V Nf)(env:Nf)(scope:NB)(cl:V (MT×MR))(sl sl':V (O MT))(loc:Loc)(r:bI)(H:AH)(s:MV)(oI:Nk)(I D C:MR)(ts:V Z)(h':MU):Prop where
 wh:cu own ([I,D,C]++own) [] ([I,D,C]++[]) s.heap h'
 eo:bk ([I,D,C]++own) (Nq scope cl C env) sl'
 st:∀tk,St w g₀ ([I,D,C]++own) l (Nq scope cl C env) sl' r H (cv loc ts) {s with heap:=h',toks:=tk}
 K8:∀tk,St w g₀ ([I,D,C]++own) l env sl r H loc {s with heap:=h',toks:=tk}
 it:h'.get? I=S oI
 acc:h'.get? D=S (listOf #[] 0)
 new:∀b∈[I,D,C],s.heap.get? b=N
 nd:[I,D,C].Nodup
 Fg:∀b∈[I,D],b∉bA (Nq scope cl C env)
theorem iW{sl:V (O MT)}{sl':V (O MT)}{s:MV}{loc:Loc}{a0:NB}{v:V (MT×MR)}{ts:V Z}{acc0:MN}{a2 a9 a8:MP}{a7:V MP}{R:MN->MR->NP->MV->Prop}{o:Nk}(c8:o.isFreed=MS)(d0:∀{c2:MN->MV->Prop} {s':MV} {t:MN->MV->Prop},s'.heap.get? s.heap.objs.size=S o->c2 (.ref s.heap.objs.size) s'->MY (MX h a) f (PH (.ref s.heap.objs.size)) c2 t s')(cs:B0 a0 c sl sl' ts)(p:bk g c sl)(G:St a e g l c sl b k loc s)(h1:∀r C,v.lookup r=S C->c.cells.lookup r=S C)(h2:∀I∈v.map (·.2),I∈c.cells.map (·.2))(T:∀r,(r,Tj)∈a0.names->∃C,v.lookup r=S C)
  (hR:∀b9 a6 a3 h' B,r6 a e g l c a0 v sl sl' loc b k s o b9 a6 a3 ts h'->b9=s.heap.objs.size->
   NJ (MX h a) f (.compLoop (.ListComp a2 [⟨a9,a8,a7,0⟩] a0 J) 0 (.ref b9) (.ref a6) (Nq a0 v a3 c)) (R (.ref a6) a3) {s with heap:=h',toks:=B}) :
  MY (MX h a) f (newList []) (λc1 c7=>MY (MX h a) f (Qh a0 c.globals v [] c.qual N .none (S c)) (λc3 w=>
   NJ (MX h a) f (.compStart (.ListComp a2 [⟨a9,a8,a7,0⟩] a0 J) 0 (.ref s.heap.objs.size) c1 {c3 with scope:=relabel a0 c}) (R c1 c3.locals) w) t c7) t {s with heap:=s.heap.push o}:=by
 refine Ou (wpAny_newFunctionEnv cs.cell (by intro a5 hy;simp at hy) (λU n d=>?_) cs.kind);dsimp only at n d;generalize a4:s.heap.push o=j at n d⊢;generalize a1:j.push {cls:=.type "list",dict:=N,data:=.seq ([]:V MN).toArray}=q at n d⊢;have z1:j.objs.size=s.heap.objs.size+1:=by rw[<-a4];exact(Vx ..)
 have z2:q.objs.size=s.heap.objs.size+2:=by rw[<-a1,Vx,z1]
 have K:∀M z,M≠q.objs.size->q.get? M=S z->U.get? M=S z:=λM z L D=>(d.2 M L).trans (Rz _ D);have gI:=K _ _ (by rw[z2];exact Iw rfl) (by rw[<-a1];exact Rz _ (by rw[<-a4];exact R3 _ c8));have gD:U.get? j.objs.size=S (listOf #[] 0):=K _ _ (by rw[z1,z2];exact JC rfl) (by rw[<-a1];exact R3 _ rfl);have H:∃z,U.get? q.objs.size=S z:=by obtain⟨z,_,_,c5,_⟩:=n;exact⟨z,c5⟩
 have Y:∀M∈[s.heap.objs.size,j.objs.size,q.objs.size],s.heap.get? M=N:=λM x=>SU (by
  simp only[RB,Sz,OF] at x;rcases x with rfl|rfl|rfl;·exact Sb _
  ·rw[z1];exact Sn _
  ·rw[z2];exact R5 _ _)
 have nd:[s.heap.objs.size,j.objs.size,q.objs.size].Nodup:=by rw[z1,z2];simp
 have P:=cu.more (own:=g) (fr:=[]) (ns:=[s.heap.objs.size,j.objs.size,q.objs.size]) Y nd (λM z D=>K M z (by rw[z2];exact Td (RQ (SD D) (R5 _ _))) (by rw[<-a1];exact Rz _ (by rw[<-a4];exact Rz _ D)));have no:=λM x=>(dO p G.inv (Y M x)).1;have c9:bk ([s.heap.objs.size,j.objs.size,q.objs.size]++g) (Nq a0 v q.objs.size c) sl':=⟨cs.kind,p.glob,p.blt,.tail _ (.tail _ (.head _)),λr C D=>⟨P.sub _ (p.jO r C (h1 r C D)).1,λL=>no C (by rw[L];exact .tail _ (.tail _ (.head _))) (p.jO r C (h1 r C D)).1⟩,λI x=>P.sub _ (p.zY I (h2 I x)),λr a5 C X m=>p.inj r a5 C (h1 r C X) (h1 a5 C m),cs.inj,λi r D L=>T r (mem_of_lookup (vp cs.cell L))⟩;have cN:∀B,St a e ([s.heap.objs.size,j.objs.size,q.objs.size]++g) l c sl b k loc {s with heap:=U,toks:=B}:=λB=>G.cY P.new P.le P.hs λM x=>by
  rcases RL.mp x with x|x
  ·simp only[RB,Sz,OF] at x;rcases x with rfl|rfl|rfl;·exact⟨_,gI⟩
   ·exact⟨_,gD⟩
   ·exact H
  ·exact G.inv.FL P.hs x
 have c6:r6 a e g l c a0 v sl sl' loc b k s o s.heap.objs.size j.objs.size q.objs.size ts U:=by
  refine⟨P,c9,λB=>⟨(cN B).inv,⟨(ba _ n (λi r E X m e3=>?_)),λr C D=>?_,by rw[ic,G.dS.len,cs.len]⟩,(cN B).live⟩,cN,gI,gD,Y,nd,λM x L=>?_⟩
  ·rcases cs.slot i r X with⟨x,_⟩|⟨_,_,L⟩;·exact Ng x (fZ m).2
   ·replace L:=(nr e3).symm.trans L;exact nomatch L
  ·refine aM ((cN B).dS.jO r C (h1 r C D)) λov hc hm=>ba ov hc (λi E X m e3=>?_);refine hF λA=>?_;rcases cs.slot i r X with⟨x,_⟩|⟨_,y,q2⟩;·exact Ng x (fZ m).2
   ·exact A (hm i E y (fZ m).1 (cs.Df r (mem_of_lookup q2)).1)
  ·rcases RB.mp L with L|L
   ·have:M≠q.objs.size:=by
     simp only[RB,Sz,OF] at x;rcases x with rfl|rfl;·rw[z2];exact Iw rfl
     ·rw[z1,z2];exact JC rfl
    exact this L
   ·exact no M (by simp only[RB,Sz,OF] at x⊢;rcases x with x|x;exact .inl x;exact .inr (.inl x)) (p.zY M (h2 M L))
 have c4:NJ (MX h a) f (.compLoop (.ListComp a2 [⟨a9,a8,a7,0⟩] a0 J) 0 (.ref s.heap.objs.size) (.ref j.objs.size) (Nq a0 v q.objs.size c)) (R (.ref j.objs.size) q.objs.size) {s with heap:=U,toks:=s.toks+([]:V (MT×MN)).length}:=hR _ _ _ _ _ c6 rfl;exact codeAny_compStart_list c4 (d0 gI c4)
theorem qV{a2:V (O MT)}{L:NB}{v:V (MT×MR)}{i:MR}{t:MR}{s:MR}{ts:V Z}{o:Nk}{X:V Q}{a1:Loc}{G:MU}{B:Z}{p:MU}(C:r6 a e g l c L v j a2 w b k d o s t i ts p)(J:bk g c j)(I:Inv a e g b k d.heap)(z:aQ a e ([s,t,i]++g) [s,t,i] b {d with heap:=p,toks:=B} ak bc ap)(h:AccAt a ([s,t,i]++g) ak ap.heap t X)(D:St a e ([s,t,i]++g) l (Nq L v i c) a2 ak bc a1 ap)(r:Sw i ap.heap G) :
  aQ a e g [] b d ak bc {ap with heap:=G}/\VR a.params (Sf G ak g) ak (.lst X) (.ref t):=by
 have H:=λM x=>(dO J I (C.new M x)).1;have P:∀M K,M∉[i]->ap.heap.get? M=S K->G.get? M=S K:=λM K q U=>(r.2 M (λU=>q (R U (.head _)))).trans U;have m:∀M∈[i],M∈[s,t,i]++g:=λM x=>by exact R (Rw.mp x) (.tail _ (.tail _ (.head _)))
 refine cj h λa3 y a0 E=>?_;have n:=C.nd;simp only[RV,RB,Sz,OF,Ol] at n;refine⟨⟨?_,(D.inv.part P m λM x=>⟨C.wh.sub M x,λq=>Ng x (H M (by refine R (Rw.mp q) ?_;exact .tail _ (.tail _ (.head _))))⟩),C.wh.keep (z.keep.trans ?_),z.le⟩,.lst _ _ a3 y (fB (P t _ (λx=>n.2.1 (Rw.mp x)) a0) ((D.inv.off t (RK _ (.tail _ (.head _)))).1) (H t (.tail _ (.head _)))) (E.mono (λM K U=>⟨P M K (λx=>U.2.2 (m M x)) U.1,U.2.1,λx=>U.2.2 (C.wh.sub M x)⟩) (.refl ak))⟩;·exact mQ z.eq λT f bG=>R bG (wa G f rfl)
 ·exact⟨λM K Y y A=>⟨y,K,P M K (λx=>A (R (Rw.mp x) (.tail _ (.tail _ (.head _))))) Y,.refl K⟩⟩
set_option maxHeartbeats 2000000 in
theorem qW{b:Src}(D:srcOf k aw=S (b,H)):H<1000:=by
 induction aw using Wm with
 |lst w=>exact cF D (λB D=>RM (R1 (Nb NT.snd (sX D)).symm) (M5 B)) λY D=>nX D
 |aE q=>exact iU D λw Y D=>cF D (λB D=>RM (R1 (Nb NT.snd (sX D)).symm) (M5 B)) λY D=>nX D
 |_=>exact nX D
theorem SE.comp{a2:V (O MT)}{c3:Z}{a1:NB}{m:V Z}{H n:LE}{a0:LO}{a3 a7:MP}{I:V MP}(R:bo N c3 f l)(d:SE h a e l c j f i n a3)(P:dX a3=MS)(cs:B0 a1 c j a2 m)(tg:Ar a2 a1 m a7)
  (hE:∀v M,SE h a e l (Nq a1 v M c) a2 f i H s) (hC:∀v M,Dh h a e l (Nq a1 v M c) a2 f i a0 I):SE h a e l c j f i (.comp H m n a0) (.ListComp s [⟨a7,a3,I,0⟩] a1 J):=by
 intro g y a4 L A p G B;have Y:aO i (.comp H m n a0) A a4=(aO i n A a4).bind λy=>match srcOf y.2 y.1 with|none=>.bad|some L=>(bP (bt i H m a0 A) L.1 (L.2+1) 0 y.2).bind λq=>.ok (.lst q.1,q.2):=by rfl
 rw[Y] at B⊢;refine wH (cs.Dg p) λv w h1 h2 h3=>QV (use:=N) rfl (λc1=>eZ P c1) w cs.kind cs.loc ((d g y a4 L A p G).dg (.refl G.inv) (λa6 z K s1 va X o1 ε E D=>?_) B);rw[X,Res.aP];induction er:srcOf z a6 using Rx with
 |none=>exact bX (er▸D)
 |some q=>
  obtain⟨b,x⟩:=q;replace D:=er▸D;dsimp only at D;refine aM (gY E er) λa' cm sa=>?_;clear w X E Y B d P;subst cm;refine cj (sa.items o1.inv) λc6 n' o ε=>Qg (bb o) (iW (R:=λa8 M=>compPost (MX h a) f (EE a e g l ((bP (bt i H m a0 A) b (x+1) 0 z).bind λq=>.ok (Q.lst q.1,q.2)).x? y L) N (QQ a e g (lO a) [] ((bP (bt i H m a0 A) b (x+1) 0 z).bind λq=>.ok (Q.lst q.1,q.2)) y L) a8 M) (acc0:=.none) (sl:=j) (sl':=a2) (ts:=m) (loc:=A) rfl (λo q=>Rp (jM _ o rfl rfl) q) cs p (G.on p o1) h1 h2 h3 λk t M h' tk C hI=>?_);have nd:=C.nd;have no:=λb9 x=>RZ (dO p o1.inv (C.new b9 x)).1;have a5:=nd;simp only[RV,RB,Sz,OF,Ol] at a5;have r:([k,t,M]++g).count k=1:=by refine R9.trans ?_;rw[no k (by simp)];refine nd.count.trans ?_;simp
  have T:([k,t,M]++g).count t=1:=by rw[R9,no t (by simp),nd.count];simp
  have n:cZ a ([k,t,M]++g) K ({s1 with heap:=h',toks:=tk}:MV).heap b k 0:=⟨(jM a' (sa.mono (λa6 c5 U=>(U.cY C.wh.new).grow C.wh.hs) (.refl _)) (λq=>by rw[q,C.new k (.head _)] at o;exact nomatch o) (jM _ C.it rfl rfl)),r⟩;refine oh (loc:=A) R.handled (hE v M) (hC v M) tg C.eo (C.Fg k (.head _)) (C.Fg t (.tail _ (.head _))) T a5.1.1 _ (λq=>D (by rw[q];rfl)) (SM (qW er)) (C.st tk) n (dI _ _ C.acc .nil) rfl λc4 vs H2 r2 c2 s2 e2 o2 ac cN=>?_;refine hF λa9=>aM cN.dS.ns λmm hn ε=>a9 (ba mm hn (λh2 sb=>?_));refine bM (qV C p o1.inv o2 ac cN sb) λo3 v3=>?_;rw[e2];exact kU _ _ r2 rfl (o1.trans o3) v3
theorem St.K9{f:V MR}(G:St a e g l c j b k w d)(p:bk g c j)(z:aQ a e g f b d ak bc ap)(P:∀I∈bA c,I∉f)(h2:∀D∈l,∀n,D.frame=S n->n∉f)(J:∀I∈f,I∈g):St a e g l c j ak bc w ap:=by
 have T:∀I z,Sf d.heap b g I z->Sf ap.heap ak g I z:=λI K U=>z.sf (λI x=>.inl (J I x)) U;refine⟨z.inv,⟨?_,λr C D=>?_,G.dS.len⟩,⟨λD x=>?_⟩⟩;·refine aM G.dS.ns λx bG H=>hF λa1=>dF bG λK y ep o h U=>z.keep.el o (G.inv.off _ p.loc).1 (P _ (.head _)) λY t L q=>a1 (ba x (kU t y ep L (q.data.trans h) U) (λi r E X m s=>?_));exact aM (H i r E X m s) λB I M=>ba B I (M.mono T z.le)
 ·refine aM (G.dS.jO r C D) λov cm H=>hF λa4=>aM cm λK o h=>z.keep.el o (G.inv.off _ (p.jO r C D).1).1 (P _ (.tail _ (lookup_mem D))) λY t L q=>a4 (ba ov (ba t L (q.data.trans h)) (λi E X m s=>?_));exact hF λa0=>aM (H i E X m s) λB I M=>a0 (ba B I (M.mono T z.le))
 ·refine G.live.el x λH n K y a3 A m1 v o h=>hF λa2=>z.keep.el o (G.inv.off n (R'.mp (n4 m1 rfl))).1 (h2 D x n A) λY t L U=>?_;exact a2 ⟨H,n,t,y,a3,A,m1,v,L,U.data.trans h⟩
set_option maxHeartbeats 2000000 in
theorem SS.IM{l:V (O MT)}{c7:Z}{a6:NB}{m:V Z}{a2 n:LE}{a3:LO}{b9 c5:MP}{c3:V MP}{d3:Nh}(R:bo N c7 f (c :: o))(d:SE h a e (c :: o) c j f i n b9)(P:dX b9=MS)(cs:B0 a6 c j l m)(tg:Ar l a6 m c5)
  (hE:∀v M,SE h a e (c :: o) (Nq a6 v M c) l f i a2 s) (hC:∀v M,Dh h a e (c :: o) (Nq a6 v M c) l f i a3 c3) (hj:j[K]? = S (S r)) (hk:c.kindOf r=S .local)
  (d5:N3 (.ListComp s [⟨c5,b9,c3,0⟩] a6 d3) (S (.Name r bj)) J.line c=pure MK):SS h a e o c j f i (.asg K (.comp a2 m n a3)) (.Assign [.Name r bj] (.ListComp s [⟨c5,b9,c3,0⟩] a6 d3) J):=λg y b t A p G B=>by
 have ev:cQ i (.asg K (.comp a2 m n a3)) A b=(aO i n A b).bind λy=>match srcOf y.2 y.1 with|none=>.bad|some t=>(bP (bt i a2 m a3 A) t.1 (t.2+1) 0 y.2).bind λq=>.ok (.next,A.set K (S (AV.lst q.1)),q.2):=by
  refine oP.trans ((bL tu).trans ?_)
  cases aO i n A b with
  |ok q=>
   dsimp only[Res.aP]
   cases srcOf q.2 q.1 with
   |none=>rfl
   |some U=>
    show Res.bind (Res.bind (bP (bt i a2 m a3 A) U.1 (U.2+1) 0 q.2) _) _=Res.bind (bP (bt i a2 m a3 A) U.1 (U.2+1) 0 q.2) _
    cases bP (bt i a2 m a3 A) U.1 (U.2+1) 0 q.2<;>rfl
  |exc _ _=>rfl
  |bad=>rfl
 rw[ev] at B⊢;refine wH (cs.Dg p) λv d0 h1 h2 h3=>?_;rw[exec_Assign_Name_used _ _ _ _ d5];refine MQ (NW (MQ ?_));refine MQ (Nj (Q:=λY s'=>QS a e g (bA c) o c j ((aO i n A b).bind λy=>match srcOf y.2 y.1 with|none=>Res.bad|some t=>(bP (bt i a2 m a3 A) t.1 (t.2+1) 0 y.2).bind λq=>Res.ok (Fl.next,A.set K (S (AV.lst q.1)),q.2)) y t .next s') (QV (use:=S (OO (.Name r bj) c)) (Q:=λY s'=>QS a e g (bA c) o c j ((aO i n A b).bind λy=>match srcOf y.2 y.1 with|none=>Res.bad|some t=>(bP (bt i a2 m a3 A) t.1 (t.2+1) 0 y.2).bind λq=>Res.ok (Fl.next,A.set K (S (AV.lst q.1)),q.2)) y t .next s') rfl (λe5=>eZ P e5) d0 cs.kind cs.loc ?_) (λY s' q=>MZ (MZ q)) λY Y a4=>a4);refine(d g y b t A p G).ei R G.live p.fP (.refl G.inv) (λI z r1 s1 va e1 o1 pp E D=>?_) B;rw[e1,Res.aP];induction er:srcOf z I using Rx with
 |none=>exact bX (er▸D)
 |some q=>
  obtain⟨d1,x⟩:=q;replace D:=er▸D;dsimp only at D⊢;generalize c2:((bP (bt i a2 m a3 A) d1 (x+1) 0 z).bind λq=>Res.ok (Fl.next,A.set K (S (AV.lst q.1)),q.2))=d2 at D⊢;refine aM (gY E er) λa' du sa=>?_;clear B d0 E ev d P d5;subst du;refine cj (sa.items o1.inv) λe7 n' a5 Y=>Qg (bb a5) ?_;have a8:=G.on p pp;refine iW (R:=λd9 M=>compPost (MX h a) f (ES a e g (MX h a) f (bA c) o c d2.x? y t) (S (OO (.Name r bj) c)) (λY s'=>QS a e g (bA c) o c j d2 y t .next s') d9 M) (acc0:=.none) (sl:=j) (sl':=l) (ts:=m) (loc:=A) rfl (λa5 q=>Rp (jM _ a5 rfl rfl) q) cs p a8 h1 h2 h3 λk a0 M h' tk C hI=>?_;have nd:=C.nd;have nI:=λa1 x=>(dO p o1.inv (C.new a1 x)).1;have no:=λa1 x=>RZ (nI a1 x);have a9:=nd;simp only[RV,RB,Sz,OF,Ol] at a9;have cI:([k,a0,M]++g).count k=1:=by refine R9.trans ?_;rw[no k (by simp)];refine nd.count.trans ?_;simp
  have T:([k,a0,M]++g).count a0=1:=by refine R9.trans ?_;rw[no a0 (by simp)];refine nd.count.trans ?_;simp
  have n:cZ a ([k,a0,M]++g) r1 ({s1 with heap:=h',toks:=tk}:MV).heap d1 k 0:=⟨(jM a' (sa.mono (λI e8 U=>(U.cY C.wh.new).grow C.wh.hs) (.refl _)) (λq=>by rw[q,C.new k (.head _)] at a5;exact nomatch a5) (jM _ C.it rfl rfl)),cI⟩;refine oh (loc:=A) R.handled (hE v M) (hC v M) tg C.eo (C.Fg k (.head _)) (C.Fg a0 (.tail _ (.head _))) T a9.1.1 _ (λq=>D (by refine c2.symm.trans ?_;exact(bL q).trans rfl)) (SM (qW er)) (C.st tk) n (dI _ _ C.acc .nil) rfl λc8 vs H2 r2 e6 s2 e2 o2 ac cN=>?_;rw[e2] at c2;have e0:=p.cY C.wh.sub;have fl:=λa4 x c1 q U=>nI c1 U (a8.live.C9 a4 x c1 q);have w:∀I∈[M]++g,I∈[k,a0,M]++g:=λI x=>(RL.mp x).elim (λx=>by rw[Rw.mp x];exact .tail _ (.tail _ (.head _))) λx=>RO _ x;refine cj ac λc6 nn gD va=>?_;refine PM (ew (j:=K) (fr:=bA c) (p.cY λI x=>RO _ x) (((C.K8 tk).K9 e0 o2 (λI x q=>nI I q (p.fP I x)) fl λI x=>RK _ x).back w (a8.live.cY (λa1=>by rw[R9];exact SQ _ _) λY Y a4=>a4)) j4.all hj (.inl hk) (.lst _ _ c6 nn (fB gD ((cN.inv.off a0 (.tail _ (.head _))).1) (λx=>(RL.mp x).elim (λx=>a9.2.1 (Rw.mp x)) (nI a0 (.tail _ (.head _))))) (va.mono (λY Y U=>U.back w) (.refl r2))) λs3 o3 d6=>?_);refine hF λd4=>aM cN.dS.ns λmm dV Y=>we dV λoC d7 d8 H dC=>?_;have CI:=λx=>nI M (.tail _ (.tail _ (.head _))) (p.fP M x);clear G h1 h2 h3 va pp D sa n' a5 hI e2 ac c6 nn gD dV nd no a9 cI T n w R cs tg hE hC hj hk;refine o3.keep.el H (cN.inv.off M (.tail _ (.tail _ (.head _)))).1 CI λY e3 e4 zC=>d4 (ba mm (kU e3 d7 d8 e4 (zC.data.trans dC.1) dC.2) (λX sb=>?_));have c9:∀a1 ob,a1∉[M]->s3.heap.get? a1=S ob->X.get? a1=S ob:=λa1 ob q U=>(sb.2 a1 (λU=>q (by rw[U];exact .head _))).trans U;have c4:St a e g (c :: o) c j r2 H2 (A.set K (S (.lst vs))) {s3 with heap:=X}:=d6.part (own:=g) (fs:=[M]) (tk:=s3.toks) p a8.live c9 (λI x=>RK _ x) (λa1 x=>⟨RO _ x,λq=>Ng x (nI a1 (by rw[Rw.mp q];exact .tail _ (.tail _ (.head _))))⟩) (λI x q=>CI (by rw[<-Rw.mp q];exact x)) λa4 x c1 q U=>fl a4 x c1 q (by rw[Rw.mp U];exact .tail _ (.tail _ (.head _)));refine gU .next _ H2 r2 c2.symm (o1.trans ⟨?_,c4.inv,?_,o2.le.trans o3.le⟩) c4 trivial;·refine mQ o2.eq λh5 L fC=>?_;clear y t p o1 cN d6 d4 oC d7 d8 H dC sb a8 nI fl CI c4 zC;subst fC;refine mQ o3.eq λh6 t6 i9=>?_;subst i9;exact wa X t6 rfl
  ·have k1:dU ([k,a0,M]++g) ([k,a0,M]++bA c) r1 h' r2 s2.heap:=o2.keep.less (λa7 x=>.inl (RK _ x)) λY x=>.inl x;have k2:dU ([k,a0,M]++g) ([k,a0,M]++bA c) r2 s2.heap r2 s3.heap:=o3.keep.less (λa7 x=>.inl (RO _ x)) λa7 x=>.inl (by rw[R9] at x⊢;have:V.count a7 [M]<=V.count a7 [k,a0,M]:=V.Sublist.count_le a7 (((V.Sublist.refl _).cons _).cons _);exact RG x (Tv this _));exact(cu.more C.new C.nd C.wh.hs).keep (k1.trans (k2.trans (⟨λa1 ob e1 c7 c8=>⟨c7,ob,c9 a1 ob (λx=>c8 (by rw[Rw.mp x];exact .tail _ (.tail _ (.head _)))) e1,.refl ob⟩⟩)))
theorem Di{T:Z}(o:d.heap.get? A=S (bC C T)):d.TypeIs (.ref A) "dict":=(ba _ o rfl)
theorem t9{T:Z}(v:(A==OB)=MS)(o:d.heap.get? A=S (bC C T))
  (H:ai (.ref d.heap.objs.size) {d with heap:=d.heap.push {cls:=.type "dict_keyiterator",data:=.fields #[.ref A,.int 0 0,.int C.size 0,.int T 0]}}):MY (MX h a) f (PH (.ref A)) ai t d:=by have b:=Di o;refine QJ b PySem.F.slot_dict_iter (N1 PySem.F.slot_dict_iter b PySem.F.entry_dict_iter ?_ (PySem.F.args_dict_iter_1 _));refine MQ ?_;refine MQ (Qz b ?_);refine MZ ?_;show MY _ _ (NK.Dict.showsAll A >>= _) _ _ d;unfold NK.Dict.showsAll;refine R (Nc (by refine R v ?_;exact RW)) ?_;refine MQ (MZ ?_);refine MQ (OX o rfl ?_);refine MQ (QW o rfl ?_);refine MQ (Ou (MZ ⟨_,rfl,"dict_keyiterator",_,(ba _ (R3 _ rfl) rfl),PySem.F.slot_dict_keyiterator_next.lookup,?_⟩));exact H
theorem uc{s:MV}{T:Z}{n:MR}{en:Nr}{d:O MN->MV->Prop}(c:s.heap.IsKeyIter n A ag C.size T)(o:s.heap.get? A=S (bC C T))(x:C[ag]? = S en)
  (H:∀m,m.IsKeyIter n A (ag+1) C.size T->Sw n s.heap m->d (S en.key) {s with heap:=m}):MY (MX h a) f (OD (.ref n)) d t s:=by refine mP (id c) λz G e b=>?_;refine MQ (OM (Oq (name:=Tw "__next__") c.typeIs PySem.F.slot_dict_keyiterator_next (N1 PySem.F.slot_dict_keyiterator_next c.typeIs PySem.F.entry_dict_keyiterator_next ?_ (PySem.F.args_dict_keyiterator_next_1 _))));refine MQ (MZ ?_);refine MQ ?_;refine MQ ?_;refine MQ (Qi c.typeIs (MZ ?_));refine MQ (wpAny_fieldsOf G b ?_);refine R (show NK.Dict_items.ownsTuple "dict_keyiterator"=MS from rfl) ?_;refine R (Nc (show¬((MN.ref A==MN.none)=MK) from RW)) ?_;refine MQ (MZ ?_);refine MQ (OX o rfl ?_);refine R (Nc (by simp)) ?_;refine MQ (MZ ?_);refine MQ (QW o rfl ?_);refine R (Nc (by simp)) ?_;refine MZ ?_;refine dD (U1.mp x) λj bG=>?_;clear o x;subst bG;dsimp only;refine R (show C[TQ (ag:ML)]? = S C[ag] from Tu j) ?_;refine MQ ?_;refine MQ (Qi c.typeIs (MZ ?_));refine MQ (Rq c.typeIs ?_);show MY _ _ (setField (.ref n) 1 (rawInt ((ag:ML)+1)) >>= _) _ _ s;refine MQ (PI G b (M5 rfl) ?_);have p:(s.heap.update n (Wf (·.setIfInBounds 1 (rawInt ((ag:ML)+1))))).IsKeyIter n A (ag+1) C.size T:=(jM _ (R8 _ G (TJ (Tq b _))) ((VU ..).trans e) (by refine(Tq b ..).trans ?_;exact rfl));refine MQ (Nx ?_);refine MQ (Rq (s:={s with heap:=s.heap.update n (Wf (·.setIfInBounds 1 (rawInt ((ag:ML)+1))))}) p.typeIs ?_);exact MZ (MZ (ba _ rfl (MZ (H _ p (So ..)))))
theorem xy{i:Z}{n:MR}{o:O MN->MV->Prop}(l:f.handled=N)(c:d.heap.IsKeyIter n A ag C.size i)(g:d.heap.get? A=S (bC C i))(x:C.size<=ag)
  (H:∀e,(∃z,e.get? n=S z)->(∀b z,b≠n->d.heap.get? b=S z->e.get? b=S z)->o N {d with heap:=e}):MY (MX h a) f (OD (.ref n)) o t d:=by refine mP (id c) λz G j q=>?_;unfold OD;refine MQ (OM (Oq (name:=Tw "__next__") c.typeIs PySem.F.slot_dict_keyiterator_next (N1 PySem.F.slot_dict_keyiterator_next c.typeIs PySem.F.entry_dict_keyiterator_next ?_ (PySem.F.args_dict_keyiterator_next_1 _))));refine MQ (MZ ?_);refine MQ ?_;refine MQ ?_;refine MQ (Qi c.typeIs (MZ ?_));refine MQ (wpAny_fieldsOf G q ?_);refine R (show NK.Dict_items.ownsTuple "dict_keyiterator"=MS from rfl) ?_;show MY _ _ (if(MN.ref A==MN.none)=MK then _ else _) _ _ d;refine R (Nc (show¬((MN.ref A==MN.none)=MK) from RW)) ?_;refine MQ (MZ ?_);refine MQ (OX g rfl ?_);refine R (Nc (by simp)) ?_;refine MQ (MZ ?_);refine MQ (QW g rfl ?_);refine R (Nc (by simp)) ?_;refine MZ ?_;dsimp only;refine R (Nc (TS.mpr (RP ag))) ?_;refine R (show C[TQ (ag:ML)]? = N from Vm x) ?_;dsimp only;refine MQ ?_;refine MQ (Qi c.typeIs (MZ ?_));show MY _ _ (setField (.ref n) 0 .none >>= _) _ _ d;refine MQ (PI G q (M5 rfl) ?_);show MY _ _ (newExc (.type "StopIteration") [] >>= _) _ _ _;refine MQ ?_;simp only[newExc,newTuple];refine MQ (Ou ?_ (by size_fits));refine MQ (m:=Pg _ _) (NM (a:=MN.none) (by first|rfl|(rw[Pg];rfl)) ?_);refine Ou ?_ (by size_fits);dsimp only[P0];refine MQ (QK ?_);refine R (show f.in1.handled=N from l) ?_;refine MQ (MZ (QL ?_));refine MQ (OW (T:="StopIteration") (b:=true) (ba _ (R3 _ rfl) rfl) QM ?_);refine MZ (H _ ⟨_,Rz _ (Rz _ (R8 _ G (TJ (Tq q _))))⟩ λb z L D=>?_);exact Rz _ (Rz _ ((S8 _ _ (S7 L)).trans D))
theorem ud{es:M0 Nr}{T:Z}{n:MR}(c:d.heap.IsKeyIter n A ag es.size T)(B:ai (.ref n) d):MY (MX h a) f (PH (.ref n)) ai t d:=wpAny_pyIter_keyiter c B
theorem xA(l:f.handled=N)(k c:MR)(j:c≠k)(y:M0 Nr)(T:Z) :
  Walks h a f k [k,c] [k] y.size (λK E=>∃g,y[K]? = S g/\E=g.key) (λK B=>B.IsKeyIter k c K y.size T/\B.get? c=S (bC y T)) where
 sub:=λM w=>by simp at w;simp[w]
 frame:=λY Y Y G J=>⟨G.1.at λz D=>J k (.head _) z D,J c (.tail _ (.head _)) _ G.2⟩
 item:=λK t o I d G H=>by refine uc G.1 G.2 (en:=y[K]) (by simp[d]) λm p b=>?_;exact H _ m t.toks (ba _ (by simp[d]) rfl) ⟨p,(b.2 c j).trans G.2⟩ λM z w D=>b.extBut M z (λB=>w (by simp[B])) D
 done:=λt o I G H=>xy l G.1 G.2 (Sb _) λm Y x=>H m t.toks λM z w D=>x M z (λB=>w (by simp[B])) D
 self:=λY Y Y Y G H=>ud G.1 H
theorem nz{k:MR}{a:Z}{n:MP}{o:NO->MV->Prop}(c:d.heap.IsKeyIter k A ag C.size a)(B:o () d):MY T f (Pk n (.ref k) aa) o t d:=by
 refine mP c λz G j H=>?_;have h:MY T f (Pk (.List [] ⟨0,0,0,0⟩) (.ref k) aa) o t d:=by
  induction aa using MN.casesOn with
  |ref M=>refine MQ (Ox G ?_);refine R j ?_;refine R H ?_;show MY _ _ (if(["enumerate","zip","dict_itemiterator","dict_reverseitemiterator","odict_iterator","itertools.zip_longest","itertools.pairwise"].contains "dict_keyiterator"&&_)=MK then _ else _) _ _ d;refine R (Nc (M5 rfl)) ?_;exact MZ B
  |_=>exact MZ B
 induction n using T2<;>first|exact MZ B|exact h
theorem me{A:Z}(C:Gr v e P be bg bf)(p:bk g c j)(H:St a e g l c j b k w d)(s:j[K]? = S (S r))(i:c.kindOf r=S .local\/c.kindOf r=S .cell\/c.kindOf r=S .free)
  (U:(r==("__debug__":MT))=MS) (hc:(r==("__classdict__":MT))=MS) (D:w[K]? = S (S m)) (X:dz k m A=S aw) (I:∀B,VR a.params (Sf d.heap b g) b aw B->ai B {d with toks:=d.toks+1}) :
  MY (MX h a) f (PySem.eval (.Attribute (.Name r bj) (sx A) J) c) ai t d:=by
 refine Attribute_any_ (O8 ?_ U) (by refine(Rj ..).trans ?_;refine R (gu rfl) rfl);have T:∀B,VR a.params (Sf d.heap b g) b m B->MY (MX h a) f (Pe B (sx A) MK) ai t d:=λB Y=>lW C H.inv Y X I;rcases i with i|i;·refine hF λo=>?_;refine aM H.dS.ns λx n E=>?_;refine hF λM=>?_;refine aM (E K r m s D i) λB h1 G=>?_;refine M ?_;refine o ?_;exact O9 p.kind i n h1 (T _ G)
 ·refine dD (p.has K r s i) λa0 z=>?_;refine aM (H.dS.jO r a0 z) λy L E=>?_;refine aM (E K m s D i) λB cm G=>?_;clear E C H s U D X I;subst cm;rcases i with i|i;·exact Q6 p.kind i z L (T _ G)
  ·exact Q7 p.kind i z L (T _ G) hc
theorem xC{f:V (Q×Q)}:∀{w:V Q},iD y f=S w->w.length=f.length/\∀(K:Z) L,f[K]? = S L->∃E,w[K]? = S E/\cX y L.1=S (S E):=by
 induction f with
 |nil=>exact λD=>sX D▸⟨rfl,λK L D=>nX D⟩
 |cons M f d=>
  intro w D
  have D:(match (cX y M.1).bind id,iD y f with|some E,S w=>S (E :: w)|_,_=>N)=S w:=D
  revert D
  induction X:(cX y M.1).bind id using Rx with
  |none=>exact nX
  |some E=>induction m:iD y f using Rx with
   |none=>exact nX
   |some c=>
    intro D
    refine sJ D (bM (d m) λr a=>⟨Nb (· + 1) r,λK L D=>?_⟩)
    induction K using RX with
    |zero=>exact sJ D (iU X λU s Y=>ba E rfl (s.trans (Nb S Y)))
    |succ K=>exact a K L D
theorem kY{E:MR}{J:M0 MN}{nn:Z}{r:MN}{X:V Q}(p:bk g c j)(G:St a e g l c j b k w d)(o:d.heap.get? E=S (listOf J nn))(va:bN a.params (Sf d.heap b g) b X J.toList)(vx:VR a.params (Sf d.heap b g) b m r)(s:X.length<1002)(a0:E∈g)(T:g.count E=1)(i:E∉bA c)
  (H:∀v,(∀M z,M≠E->d.heap.get? M=S z->v.heap.get? M=S z)->aQ a e g [E] b d b k v->St a e g l c j b k w v->AccAt a g b v.heap E (X++[m])->ai .none v):MY (MX h a) f (N2 (.builtin "list.append") [.ref E,r]) ai t d:=by
 have y:X.length=J.size:=by exact va.len.trans RH
 refine QH o (λh' sb g'=>?_) (by have:N0=_:=N8;exact y.symm▸qm s rfl);have P:∀M z,M∉[E]->d.heap.get? M=S z->h'.get? M=S z:=λM z L U=>(sb.2 M (λU=>L (R U (.head _)))).trans U;have q:∀D∈l,∀I,D.frame=S I->I∉[E]:=λD x I L U=>by refine G.live.el x λY n Y Y Y A C Y Y Y=>?_;replace A:=L.symm.trans A;obtain rfl:=sX A;rw[Rw.mp U,T] at C;exact RU _ C
 have B:=G.part (own:=g) (fs:=[E]) (tk:=d.toks) p G.live P (λm x=>by exact R (Rw.mp x) a0) (λM x=>⟨x,λL=>by refine R (Rw.mp L) ?_;exact⟨_,g'⟩⟩) (λm x L=>i (R (Rw.mp L).symm x)) q;have S5:∀m K,Sf d.heap b g m K->Sf h' b g m K:=λM K U=>⟨P M K (λx=>U.2.2 (R (Rw.mp x) a0)) U.1,U.2⟩;refine H _ (λM z L=>P M z λx=>L (Rw.mp x)) (.mk' (tk':=d.toks) B.inv ⟨λM K e1 a1 A=>⟨a1,K,P M K A e1,.refl K⟩⟩ (.refl b)) B (dI _ _ g' ?_);have:=(va.mono S5 (.refl b)).append (.cons (vx.mono S5 (.refl b)) .nil);simpa using this
theorem vt{b9:V (O MT)}{a4:NB}{cl:V (MT×MR)}{a2:MR}{t:MR}{a0:MR}{T:Z}{r a3:Z}{X kx:MT}{p1 p2 p3 p4 p5 p6 p7:Nh}(hu:f.units+64<NA)(hh:f.handled=N)(e6:Gr v e P be bg bf)(e2:b9[K]? = S (S X))(hx:b9[r]? = S (S kx))(s:a4.names.lookup kx=S .local)(e5:a4.names.lookup X=S .free)(c6:K≠r)
  (d1:(X==("__debug__":MT))=MS) (d2:(X==("__classdict__":MT))=MS) (d3:(kx==("__debug__":MT))=MS) (p:bk g (Nq a4 cl a2 c) b9) (hI:a0∉bA (Nq a4 cl a2 c)) (i:t∉bA (Nq a4 cl a2 c)) (mI:g.count a0=1) (mD:g.count t=1) (c2:a0≠t)
  (ej:w[K]? = S (S m)) (g5:r<w.length) (ea:dz k m a3=S (.ab H)) (e0:k.D[H]? = S y) (d4:b.D[H]? = S A) (hz:y.length<1000) (lv:au.length=y.length) (gv:∀(a1:Z) q,y[a1]? = S q->∃E,au[a1]? = S E/\cX y q.1=S (S E))
  (xd:DictAt a g b d A y C T ay) (G:St a e g l (Nq a4 cl a2 c) b9 b k (cv w [r]) d) (e3:d.heap.IsKeyIter a0 A 0 C.size T) (d9:AccAt a g b d.heap t []) :
  NJ (MX h a) f (.compLoop (.ListComp (.Subscript (.Attribute (.Name X p1) (sx a3) p2) (.Name kx p3) p4) [⟨.Name kx p5,.Attribute (.Name X p6) (sx a3) p7,[],0⟩] a4 J) 0 (.ref a0) (.ref t) (Nq a4 cl a2 c)) (λq s'=>match q with
   |.ok _=>∃g6,aQ a e g [a0,t,a2] b d b k s'/\AccAt a g b s'.heap t au/\St a e g l (Nq a4 cl a2 c) b9 b k g6 s'
   |.error _=>Nw) d:=by
 have a8:=R'.mp (by refine R mI ?_;decide)
 have j:=R'.mp (by refine R mD ?_;decide)
 have cD:g.count t<2:=by refine R mD ?_;decide
 have d5:a2∈g:=p.loc
 have ne:∀M∈g,A≠M:=λM x q=>(G.inv.off M x).1 (q▸(fS d4))
 have L:y.length=C.size:=by exact xd.dr.len.trans RH
 have fl:∀(M:MR),g.count M=1->∀c9∈l,∀I,c9.frame=S I->I∉[M]:=λM cb c9 x I q U=>by refine G.live.el x λY L' Y Y Y a3 a5 Y Y Y=>?_;replace a3:=q.symm.trans a3;obtain rfl:=sX a3;rw[Rw.mp U,cb] at a5;exact RU _ a5
 refine jx (λx s'=>∃a1,a1+x=C.size+1/\St a e g l (Nq a4 cl a2 c) b9 b k (cv w [r]) s'/\s'.heap.IsKeyIter a0 A a1 C.size T/\s'.heap.get? A=S (bC C T)/\aQ a e g [a0,t,a2] b d b k s'/\AccAt a g b s'.heap t (au.take a1)) (λx s' e9=>?_) (C.size+1) ⟨0,by exact T4 _,G,e3,xd.obj,.refl G.inv,by exact d9⟩
 refine KV e9 λa1 hm a7 c8 c3 o' ac=>?_
 have S':∀M ob,Sf d.heap b g M ob->Sf s'.heap b g M ob:=λM ob U=>o'.sf (λM x=>.inl (by simp only[RB,Sz,OF] at x;rcases x with rfl|rfl|rfl<;>assumption)) U
 by_cases hi:a1<C.size
 ·have c5:a1<y.length:=L▸hi;refine hF λg8=>?_;obtain⟨q,eq⟩:∃q,y[a1]? = S q:=⟨_,RA c5⟩;refine uP ((xd.dr.mono S' (.refl b)).get eq) λkv vv e1 ok vk Y=>?_;have d8:C[a1]? = S ⟨gL a q.1,kv,vv⟩:=by simpa using e1
  refine aM (gv a1 q eq) λE ev eg=>g8 (uc c8 c3 d8 λh1 D e7=>?_);have a6:∀M z,M∉[a0]->s'.heap.get? M=S z->h1.get? M=S z:=λM z q U=>(e7.2 M (λU=>q (R U (.head _)))).trans U;have dw:=a7.part (own:=g) (fs:=[a0]) (tk:=s'.toks) p a7.live a6 (λm x=>by exact R (Rw.mp x) a8) (λM x=>⟨x,λq=>by refine R (Rw.mp q) ?_;obtain⟨z,a9,_⟩:=D;exact⟨z,a9⟩⟩) (λm x q=>hI (R (Rw.mp q).symm x)) (fl a0 mI);have o1:aQ a e g [a0] b s' b k {s' with heap:=h1}:=.mk' (tk':=s'.toks) dw.inv ⟨λM ob e1 c4 a3=>⟨c4,ob,a6 M ob a3 e1,.refl ob⟩⟩ (.refl b);have S1:∀M ob,Sf s'.heap b g M ob->Sf h1 b g M ob:=λM ob U=>o1.sf (λM x=>.inl (R (Rw.mp x) a8)) U;have c1:=ac.on a7.inv j cD o1 (λx=>c2 (Rw.mp x).symm) λm x=>.inl (R (Rw.mp x) a8);have g1:h1.get? A=S (bC C T):=a6 A _ (λx=>ne a0 a8 (Rw.mp x)) c3;refine nz D (PM (l6 (j:=r) (fr:=[a2]) p dw ⟨λY=>.head _,λa5 q=>by replace q:=(dh s).symm.trans q;cases q⟩ hx (.inl (dh s)) (vk.mono S1 (.refl b)) λo d0 o2 cN=>?_));refine MZ ?_;have f2:∀m∈[a2],m∈g\/({s' with heap:=h1}:MV).heap.get? m=N:=λm x=>.inl (by rw[Rw.mp x];exact d5);have c7:o.heap.get? A=S (bC C T):=d0 A _ (λx=>ne a2 d5 (Rw.mp x)) g1;have e8:o.heap.IsKeyIter a0 A (a1+1) C.size T:=by obtain⟨z,a9,r⟩:=D;exact ba z (d0 a0 z (λx=>hI (by rw[Rw.mp x];exact .head _)) a9) r
  have lj:((cv w [r]).set r (S q.1))[K]? = S (S m):=by simp only[cv,Ue,V.foldl_nil];rw[R6 (S7 c6),R6 (S7 c6)];exact ej
  have lx:((cv w [r]).set r (S q.1))[r]? = S (S q.1):=by rw[Tg (by rw[ic];exact g5)]
  refine P1 (me e6 p cN e2 (.inr (kind_free e5)) d1 d2 lj ea λv' hv=>?_);have o3:aQ a e g [] b o b k {o with toks:=o.toks+1}:=.tok cN.inv;refine O8 ?_ d3;refine hF λe4=>aM (cN.on p o3).dS.ns λmp n g3=>aM (g3 r kx q.1 hx lx (dh s)) λk' z1 z2=>e4 (O9 p.kind (dh s) n z1 (aM (VR.inv hv) λd' bG g7=>R bG ?_))
  ·refine sJ (d4.symm.trans g7) ?_;have x3:DictAt a g b {o with toks:=o.toks+1} A y C T ay:=⟨c7,xd.dr.mono (λM ob U=>(λM ob U=>o2.sf f2 (S1 M ob U)) M ob (S' M ob U)) (.refl b),xd.nd⟩;refine fW x3.is Pw.lookup rfl (gr (own:=g) (Fb hu rfl) x3 z2 eg λnn v2 d7=>?_);have o4:aQ a e g [] b o b k {o with toks:=o.toks+1+nn}:=.tok cN.inv;refine cj ((c1.on dw.inv j cD o2 (λx=>i (by rw[Rw.mp x];exact .head _)) f2).on cN.inv j cD o4 (λx=>nomatch x) λY x=>nomatch x) λg9 n2 g2 va=>?_;refine kY p (cN.on p o4) g2 va d7 (by rw[S0];exact RM (Tb ..) (n1 (VL c5 hz) rfl)) j mD i λs5 d6 o5 B g4=>?_;refine⟨x - 1,b7 hm hi,a1+1,b8 hm hi,?_,?_,d6 A _ (ne t j) c7,?_,?_⟩
   ·have:cv ((cv w [r]).set r (S q.1)) [r]=cv w [r]:=by simp only[cv,Ue,V.foldl_nil,Te]
    rw[<-this];exact⟨B.inv,B.dS.clear,B.live⟩
   ·exact aM e8 λz a9 r=>ba z (d6 a0 z c2 a9) r
   ·exact(((o'.trans (o1.inc λa5 x=>by rw[Rw.mp x];exact .head _)).trans (o2.inc λa5 x=>by rw[Rw.mp x];exact .tail _ (.tail _ (.head _)))).trans o4.wide).trans (o5.inc λa5 x=>by rw[Rw.mp x];exact .tail _ (.head _))
   ·rw[V.take_add_one,ev];exact g4
 ·refine xy hh c8 c3 (Ti.mp hi) λh1 ex hs=>?_;have a6:∀M z,M∉[a0]->s'.heap.get? M=S z->h1.get? M=S z:=λM z q U=>hs M z (λU=>q (by rw[U];exact .head _)) U;have dw:=a7.part (own:=g) (fs:=[a0]) (tk:=s'.toks) p a7.live a6 (λm x=>by rw[Rw.mp x];exact a8) (λM x=>⟨x,λq=>by rw[Rw.mp q];exact ex⟩) (λm x q=>hI (by rw[<-Rw.mp q];exact x)) (fl a0 mI);have o1:aQ a e g [a0] b s' b k {s' with heap:=h1}:=.mk' (tk':=s'.toks) dw.inv ⟨λM ob e1 c4 a3=>⟨c4,ob,a6 M ob a3 e1,.refl ob⟩⟩ (.refl b);have c1:=ac.on a7.inv j cD o1 (λx=>c2 (Rw.mp x).symm) λm x=>.inl (by rw[Rw.mp x];exact a8);rw[V.take_of_length_le (RG (R1 (lv.trans L)) (Ti.mp hi))] at c1;exact jM _ (o'.trans (o1.inc λa5 x=>by rw[Rw.mp x];exact .head _)) c1 dw
set_option maxHeartbeats 2000000 in
theorem SE.vals{a4:V (O MT)}{d4:Z}{a2:NB}{r A:Z}{X kx:MT}{p1 p2 p3 p4 p5 p6 p7:Nh}(hf:A≠26)(a3:Gr v e P be bg bf)(R:bo N d4 f l)(cs:B0 a2 c j a4 [r])(hs:j[K]? = S (S X))(hk:c.kindOf X=S .local\/c.kindOf X=S .cell\/c.kindOf X=S .free)(c1:a4[K]? = S (S X))(x:a4[r]? = S (S kx))(c2:a2.names.lookup kx=S .local)(c4:a2.names.lookup X=S .free)(c6:K≠r)
  (H:(X==("__debug__":MT))=MS) (d2:(X==("__classdict__":MT))=MS) (d:(kx==("__debug__":MT))=MS) :
  SE h a e l c j f i (.vals (.attr (.var K) A) r) (.ListComp (.Subscript (.Attribute (.Name X p1) (sx A) p2) (.Name kx p3) p4) [⟨.Name kx p5,.Attribute (.Name X p6) (sx A) p7,[],0⟩] a2 J):=by
 intro g y b t a1 p G B;have hu:f.units+64<NA:=BW R.units rfl;refine hF λc5=>?_;induction ej:a1[K]? using Rx with
 |none=>exact(B (by refine lq.trans ?_;rw[hY,iR,ej];rfl)).elim
 |some oa=>
 refine c5 (hF λm=>?_);induction oa using Rx with
 |none=>exact(B (by refine lq.trans ?_;rw[hY,iR,ej];rfl)).elim
 |some I=>
 have ev:aO i (.vals (.attr (.var K) A) r) a1 b=(aG i b I A).bind λy=>kE y.2 y.1:=by refine lq.trans ?_;refine(bL hY).trans ?_;rw[iR,ej];rfl
 refine m ?_;rw[ev] at B⊢;have ea:∃E,dz b I A=S E:=by
  induction q:dz b I A using Rx with
  |some E=>exact⟨E,rfl⟩
  |none=>exact uP (tG q λU=>B (bL U)) λY Y Y Y U Y=>(hf U).elim
 refine dD ea λE ea=>?_;have er:aG i b I A=.ok (E,b):=by unfold aG;rw[ea]
 rw[er,Res.aP] at B⊢;refine wH (cs.Dg p) λcl c3 h1 h2 h3=>QV (use:=N) rfl (λE=>eZ rfl E) c3 cs.kind cs.loc (me a3 p G hs hk H d2 ej ea λv' hv=>?_);refine JK (CP B) λd5 as vs q e0 s ed ev=>?_;clear B;subst q;rw[ev];refine aM (VR.inv hv) λa7 cm w=>?_;subst cm;refine hF λa8=>bM (xC ed) λlv gv=>?_;have o0:aQ a e g [] y t y b {t with toks:=t.toks+1}:=.tok G.inv;have a0:=G.on p o0;refine zX (fE (s:={t with toks:=t.toks+1}) a0.inv e0 w) λes ep dk xd=>?_;have b9:r<a1.length:=by rw[G.dS.len,<-cs.len];exact(RF.mp x).1
 refine a8 (t9 (a3.mods.ne G.inv (fS w)) xd.obj (iW (s:={t with toks:=t.toks+1}) (R:=λa9 M=>compPost (MX h a) f (EE a e g l (Res.ok (Q.lst vs,b)).x? y t) N (QQ a e g (lO a) [] (.ok (Q.lst vs,b)) y t) a9 M) (acc0:=.none) (sl:=j) (sl':=a4) (ts:=[r]) (loc:=a1) rfl (λo q=>ud (es:=es) (jM _ o rfl rfl) q) cs p a0 h1 h2 h3 λk L M h' tk C hI=>?_));have n:=C.nd;have no:=λc7 a6=>RZ (dO p a0.inv (C.new c7 a6)).1;have a5:=n;simp only[RV,RB,Sz,OF,Ol] at a5;have cI:([k,L,M]++g).count k=1:=by rw[R9,no k (by simp),n.count];simp
 have T:([k,L,M]++g).count L=1:=by rw[R9,no L (by simp),n.count];simp
 have c9:DictAt a ([k,L,M]++g) y {t with heap:=h',toks:=tk} a7 as es ep dk:=⟨C.wh.hs _ _ xd.obj,xd.dr.mono (λI d6 U=>(U.cY C.wh.new).grow C.wh.hs) (.refl y),xd.nd⟩;refine O1 (vt hu R.handled a3 c1 x c2 c4 c6 H d2 d C.eo (C.Fg k (.head _)) (C.Fg L (.tail _ (.head _))) cI T a5.1.1 ej b9 ea e0 w s lv gv c9 (C.st tk) (jM _ C.it rfl rfl) (dI _ _ C.acc .nil)) λU s2 q=>hF λc8=>?_;cases U with
 |error D=>exact q.elim
 |ok A=>refine mP q λd0 o2 ac cN=>aM cN.dS.ns λz hn Y=>c8 (ba z hn (λh2 sb=>?_));exact bM (qV C p a0.inv o2 ac cN sb) λo3 v3=>kU _ _ y rfl (o0.trans o3) v3
theorem qX:Oe (.type "int") "__bytes__"=pure N:=by refine(Oc ..).trans ?_;refine R P7 ?_;kernel_rfl
theorem nA{n:NL}(H:∀c,ai (.bytes #[0,0] c) {d with toks:=d.toks+1}) :
  NJ (MX h a) f (.call (.builtin "bytes.__new__") ⟨[.type "bytes",.int 2 n],[]⟩) (wants ai t) d:=by
 refine QX (MQ (NM (F.bm_newCall _) (MZ ⟨QY F.bm_plain _,codeAny_builtin F.bm_entry ?_⟩)));refine MQ (NM (a:=true) rfl ?_);refine O4 rfl (MQ (NM F.bm_sub ?_));refine O4 rfl (MQ (NM (F.bm_bind _) ?_));refine MQ (NM (a:=()) rfl ?_);refine MQ (NM (a:=()) rfl ?_);refine O4 rfl (MQ (Oa (QO d 2 n) qX ?_));refine MQ (MQ (NM (a:=N) rfl (MZ ?_)));refine O4 rfl (MQ (Oa (QO d 2 n) F.slot_int_index.lookup ?_));refine O4 rfl ?_;first
  |refine MQ (OM (NM (a:=(2:ML)) rfl ?_))
  |(refine MQ (MQ (OM (NM (a:=(2:ML))) rfl ?_)))
 refine O4 ?_ ?_;·decide +kernel
 dsimp only;refine R (Nc (by decide)) ?_;refine R (Nc (by decide)) ?_;refine O4 ?_ ?_;·decide +kernel
 refine MQ (OY ?_);refine MQ (wpAny_mkBytes ?_ (by decide +kernel));refine bm_if_true rfl ?_;first
  |exact MZ (H _)
  |(exact MQ (MZ (MZ (H _))))
theorem mf{n:NL}(H:∀c,ai (.bytes #[0,0] c) {d with toks:=d.toks+1}):MY (MX h a) f (N2 (.type "bytes") [.int 2 n]) ai t d:=by refine callType_codes (Q₁:=λo X=>X.TypeIs o "bytes"/\ai o X) F.bm_called (F.bm_typeCall _) F.entry_object_init (nA λc=>⟨PySem.W.typeIs_bytes _ _ _,H c⟩) λo X U=>?_;exact fB U.1 (F.args_object_init_2 o _) (object_init_meets F.bm_called.init.lookup F.bm_called.made (rfl) h a f.in1 _ X (fB U.1 rfl U.2))
theorem Au{o:MO->MV->Prop}(e:d.TypeIs (.ref n) "bytearray")(B:o MS d):MY (MX h a) f (NK.List.listLengthHint (.ref n)) o t d:=by refine MQ (Oa e gX.lookup ?_);generalize c:("bytearray.__len__":Od)=i;wp_delta;refine R (show splitId i=S ("bytearray","__len__") from by subst c;decide +kernel) ?_;subst c;refine MQ (OW (T:="bytearray") (b:=true) e (by refine(Ot ..).trans ?_;kernel_rfl) ?_);refine PV (λH=>Ng H (by decide)) (λY=>?_);refine PV (λY=>?_) (λH=>Ng (by decide +kernel) H);refine MQ (wpAny_typeOf e ?_);exact MZ B
theorem Dj{b:M0 Nn}:KdlSrc h a "bytearray" n n b.size (λK E=>∃C c,b[K]? = S C/\E=.int (C.toNat:ML) c) (λB=>B.get? n=S (eH b)) where
 type:=λY v=>(ba _ v rfl)
 there:=λY v=>⟨SD v,SD v⟩
 keep:=λY Y v J=>J n (.inl rfl) _ v
 notList:=rfl
 notTuple:=rfl
 hint:=λY Y Y Y v e=>Au (ba _ v rfl) e
 iter:=λY Y l v=>(qu _ _ (λY Y e=>Ak v e) (xq l _ n (Td (SD v)) b) ⟨(jM _ (R3 _ rfl) rfl rfl),Rz _ v⟩)
theorem Dl{es:M0 Nr}{ep:Z}(v:(n==OB)=MS):KdlSrc h a "dict" n n es.size (λK E=>∃g,es[K]? = S g/\E=g.key) (λB=>B.get? n=S (bC es ep)) where
 type:=λY v=>(ba _ v rfl)
 there:=λY v=>⟨SD v,SD v⟩
 keep:=λY Y v J=>J n (.inl rfl) _ v
 notList:=rfl
 notTuple:=rfl
 hint:=λY Y Y Y v e=>kdl_hint_dict (ba _ v rfl) e
 iter:=λY Y l o=>(qu _ _ (λY Y e=>t9 v o e) (xA l _ n (Td (SD o)) es ep) ⟨(jM _ (R3 _ rfl) rfl rfl),Rz _ o⟩)
noncomputable def Av:BI->O (MT×BV)
 |.len=>S ("len",.fn "len")
 |.min=>S ("min",.fn "min")
 |.max=>S ("max",.fn "max")
 |.abs=>S ("abs",.fn "abs")
 |.int=>S ("int",.ty "int")
 |.bytes=>S ("bytes",.ty "bytes")
 |.list=>S ("list",.ty "list")
 |.tm=>S ("list",.ty "list")
 |_=>N
theorem DR.key:∀{c:V Nr} {K:Z} {g:Nr},DR a x b ay y c->c[K]? = S g->∃L,y[K]? = S L/\VR a.params x b L.1 g.key:=by
 induction y with
 |nil=>intro c K g h D;cases h;exact nX D
 |cons L y d=>
  intro c K g h D
  cases h with
  |cons _ G _ X=>
   induction K using RX with
   |zero=>obtain rfl:=sX D;exact ba _ rfl G
   |succ K=>exact d X D
theorem bN.build:∀{w:V MN},z.length=w.length->(∀(K:Z) E,w[K]? = S E->∃I,z[K]? = S I/\VR U x b I E)->bN U x b z w:=by
 induction z with
 |nil=>intro w D _;cases w with|nil=>exact .nil|cons _ _=>simp at D
 |cons I z d=>
  intro w D B
  induction w using RC with
  |nil=>simp at D
  |cons E w=>refine aM (B 0 E (rfl)) λe X p=>?_;simp at X;refine R X ?_;exact .cons p (d (by simpa using D) λK E D=>by exact B (K+1) E D)
theorem jy(B:sm q=MK):q<1000:=M5 B
set_option tactic.hygienic true in
theorem hB{r s:G}(B:(if am=MK then S r else N)=S s):am=MK/\r=s:=by
 split at B;·rename_i L;exact⟨L,Sk B⟩
 ·exact nomatch B
theorem pA{tk:Z}{items:M0 MN}{C:Z}(K:Inv a e g b k d.heap)(J:∀M z,d.heap.get? M=S z->X.get? M=S z)(o:X.get? d.heap.objs.size=S (listOf items C))
  (E:bN a.params (Sf d.heap b g) b au items.toList):QQ a e g (lO a) [] (.ok (.lst au,k)) b d (.ref d.heap.objs.size) {d with heap:=X,toks:=tk}:=
 .ok (.grown K J) (.lst au _ items C (fB o (K.fresh (bS _)) (K.no (bS _))) (E.mono (λY Y U=>U.grow J) (.refl b)))
theorem pC{A:Q->O (Q×AH)}{w:V MN}{L:Q×AH}(D:lK A z=S L)(E:bN U x b z w):∃r c,w=[c]/\VR U x b r c/\A r=S L:=by
 induction z using RC with
 |nil=>exact nX D
 |cons r z=>induction z using RC with
  |nil=>obtain⟨c,rfl,B⟩:=E.one;exact qu r c rfl B D
  |cons _ _=>exact nX D
theorem r9{A:ML->O (Q×AH)}{r:Q}{c:MN}{L:Q×AH}(D:kT A r=S L)(E:VR U x b r c):∃I n,c=.int I n/\A I=S L:=by
 induction r using Wm with
 |int I=>obtain⟨n,rfl⟩:=E.inv;exact dI I n rfl D
 |_=>exact nX D
theorem pE{A:ML->O (Q×AH)}{w:V MN}{L:Q×AH}(D:lK (kT A) z=S L)(E:bN U x b z w):∃I n,w=[.int I n]/\A I=S L:=by refine hF λH=>?_;obtain⟨r,c,rfl,E,D⟩:=pC D E;exact cj (r9 D E) λI n IP D=>H (R IP (dI I n rfl D))
theorem xE{A:ML->ML->O (Q×AH)}{w:V MN}{L:Q×AH}(D:CG (λr s=>kT (λI=>kT (A I) s) r) z=S L)(E:bN U x b z w):∃I M n c,w=[.int I n,.int M c]/\A I M=S L:=by
 induction z using RC with
 |nil=>exact nX D
 |cons r z=>induction z using RC with
  |nil=>exact nX D
  |cons s z=>induction z using RC with
   |cons _ _=>exact nX D
   |nil=>refine m5 E.two λa v CU p G=>?_;clear E;subst CU;refine cj (r9 D p) λI n Dm D=>?_;clear p;subst Dm;refine cj (r9 D G) λM c F9 D=>?_;clear G;subst F9;exact JG I M n c rfl D
theorem Dp{A:V Q->O (Q×AH)}{r:Q}{c:MN}{L:Q×AH}(D:CH A r=S L)(E:VR U x b r c):∃T I j q,c=.ref I/\x I (listOf j q)/\bN U x b T j.toList/\A T=S L:=by
 induction r using Wm with
 |lst T=>obtain⟨I,j,q,rfl,p,G⟩:=E.inv;exact gU T I j q rfl p G D
 |_=>exact nX D
inductive sd(H:AH):Q->Q×AH->Prop
 |aE {k:Z} {xs:V Q} (e:H.L[k]? = S xs) (h:xs.length<1000):sd H (.aE k) (.int xs.length,H)
 |lst {xs:V Q} (h:xs.length<1000):sd H (.lst xs) (.int xs.length,H)
 |bx {l:V Z} (h:l.length<1000):sd H (.bx l) (.int l.length,H)
 |ab {k:Z} {xs:V (Q×Q)} (e:H.D[k]? = S xs) (h:xs.length<1000):sd H (.ab k) (.int xs.length,H)
 |eP {k:Z} {xs:V ML} (e:H.B[k]? = S xs) (h:xs.length<1000):sd H (.eP k) (.int xs.length,H)
theorem Dq{r:Q}{L:Q×AH}(D:CJ k r=S L):sd k r L:=by
 induction r using Wm with
 |aE H=>obtain⟨j,X,m⟩:=SN.mp D;obtain⟨B,rfl⟩:=hB m;exact .aE X (jy B)
 |lst j=>obtain⟨B,rfl⟩:=hB D;exact .lst (jy B)
 |bx j=>obtain⟨B,rfl⟩:=hB D;exact .bx (jy B)
 |ab H=>obtain⟨j,X,m⟩:=SN.mp D;obtain⟨B,rfl⟩:=hB m;exact .ab X (jy B)
 |eP H=>obtain⟨j,X,m⟩:=SN.mp D;obtain⟨B,rfl⟩:=hB m;exact .eP X (jy B)
 |_=>exact nX D
theorem pF{x:Z}(B:q<1000)(D:q=x):x<=N0:=by have:N0=_:=N8;exact D.symm▸qm B rfl
theorem B1{x:Z}(B:q<1000)(D:q=x):(x:ML)<2 ^ 63:=by exact RT.mpr (n1 (RQ (SA _) (D▸B)) rfl)
theorem hG{j:V Q}{a:M0 MN}(B:bN U x b j a.toList):j.length=a.size:=B.len.trans RH
theorem Aw{r:Q}{c:MN}{L:Q×AH}(p:kV e)(K:Inv a e g b k d.heap)(E:VR a.params (Sf d.heap b g) b r c)(D:CJ k r=S L) :
  MY (MX h a) f (N2 (.builtin "len") [c]) (QQ a e g (lO a) [] (.ok L) b d) t d:=by
 have T:∀{q x m:Z} {n:NL},q=x->QQ a e g (lO a) [] (.ok (.int q,k)) b d (.int x n) {d with toks:=m}:=λD=>D▸.ok (.tok K) (.int _ _);have z:=Dq D;clear D;induction z using sd.casesOn with
 |aE D B=>obtain⟨I,rfl,J⟩:=E.inv;obtain⟨j,x,o,A⟩:=K.dt.L _ _ I D J;exact call_len_list (bb o) (B1 B (hG A)) (T (hG A))
 |lst B=>obtain⟨I,j,x,rfl,o,A⟩:=E.inv;exact call_len_list (bb o.1) (B1 B (hG A)) (T (hG A))
 |bx B=>refine cj E.inv λM n Dm l=>R Dm ?_;have s:=l▸(Ry (as:=M.toList) SK).trans RH;exact len_bytes (s.symm▸qm B rfl) (T s)
 |ab D B=>obtain⟨I,rfl,J⟩:=E.inv;obtain⟨y,w,v,r⟩:=fE K D J;exact xb (p.ne K (fS J)) r B λq n=>T rfl
 |eP D B=>refine aM E.inv λI wR J=>?_;clear p E;subst wR;refine aM (K.dt.B _ _ I D J) λi o qz=>?_;clear D J K;subst qz;have s:=(Ry (as:=i.toList) λM=>(M.toNat:ML)).trans RH;exact C' (s▸B) o (T s)
theorem xF{r:Q}{c:MN}{L:Q×AH}(l:f.handled=N)(p:kV e)(K:Inv a e g b k d.heap)(E:VR a.params (Sf d.heap b g) b r c)(D:BR k r=S L) :
  MY (MX h a) f (N2 (.type "list") [c]) (QQ a e g (lO a) [] (.ok L) b d) t d:=by
 induction r using Wm with
 |ab H=>refine iU D λj n m=>?_;obtain⟨U,rfl⟩:=hB m;refine aM E.inv λI Dr J=>?_;subst Dr;refine zX (fE K n J) λy T v r=>?_;have s:=r.dr.len.trans RH;refine kdl_call (Dl (es:=y) (ep:=T) (p.ne K (fS J))) l r.obj (pF (jy U) s) λP B A c' w G X=>pA K w G (.build (Ry _ |>.trans <| s.trans <| X.1.symm) λi E D=>aM (X.2 i E (SJ▸D)) λen Y wQ=>?_);refine R wQ (aM (r.dr.key (SJ.trans Y)) λL e5 x=>?_);exact ba L.1 (by refine RJ.trans ?_;exact R e5 rfl) x
 |eP H=>refine iU D λj n m=>?_;obtain⟨U,rfl⟩:=hB m;refine aM E.inv λI F' J=>?_;clear p m;refine R F' (aM (K.dt.B _ j I n J) λq o Ga=>?_);clear n;subst Ga;have s:=(Ry (as:=q.toList) λM=>(M.toNat:ML)).trans RH;refine kdl_call (Dj (b:=q)) l o (pF (jy U) s) λP B A c' w G X=>pA K w G (.build (Ry _ |>.trans <| s.trans <| X.1.symm) λi E D=>cj (X.2 i E (SJ▸D)) λC c Y xm=>?_);refine R xm ?_;exact ba (.int C.toNat) (by refine RJ.trans ?_;refine R RJ ?_;refine R SJ ?_;exact R Y rfl) (.int _ _)
 |_=>exact nX D
theorem xG{C:Prop}[OH C]{I M:ML}{n c:NL}:VR U x b (.int (if C then M else I)) (if C then .int M c else .int I n):=by
 by_cases B:C;·refine R (Na B) ?_;refine R (Na B) ?_;exact .int _ _
 ·refine R (Nc B) ?_;refine R (Nc B) ?_;exact .int _ _
theorem vu{E:MN->MV->Prop}{M:BI}{bv:MT×BV}{P:V MN}{H:Q}{t:AH}(l:f.handled=N)(p:kV e)(K:Inv a e g b k d.heap)(i:bN a.params (Sf d.heap b g) b z P)(D:bB k M z=S (H,t))(w:Av M=S bv) :
  MY (MX h a) f (N2 bv.2.val P) (QQ a e g (lO a) [] (.ok (H,t)) b d) E d:=by
 induction M using BI.casesOn with
 |len=>obtain rfl:=sX w;obtain⟨r,c,rfl,i,D⟩:=pC D i;exact Aw p K i D
 |list=>obtain rfl:=sX w;obtain⟨r,c,rfl,i,D⟩:=pC D i;exact xF l p K i D
 |min=>obtain rfl:=sX w;obtain⟨I,M,n,c,rfl,D⟩:=xE D i;exact sX D▸min_two_ints l λm C J=>.ok (.grown K J) xG
 |max=>obtain rfl:=sX w;obtain⟨I,M,n,c,rfl,D⟩:=xE D i;exact sX D▸max_two_ints l λm C J=>.ok (.grown K J) xG
 |abs=>
  obtain rfl:=sX w;obtain⟨I,n,rfl,D⟩:=pE D i;have L:(if I<0 then -I else I)=((I.natAbs:Z):ML):=by
   split;·rename_i B;exact(ML.ofNat_natAbs_of_nonpos (VK B)).symm
   ·rename_i B;exact(ML.natAbs_of_nonneg (TS.mp B)).symm
  exact sX D▸call_abs_int λc C=>.ok (.tok K) (L▸.int _ _)
 |int=>obtain rfl:=sX w;obtain⟨I,n,rfl,D⟩:=pE D i;exact sX D▸call_int_int (.ok (.refl K) (.int _ _))
 |bytes=>
  obtain rfl:=sX w;obtain⟨I,n,rfl,D⟩:=pE D i;by_cases L:I=2;·subst L;exact sX D▸mf λc=>.ok (.tok K) (.bx _ _ _ rfl)
  ·exact nX ((Nc L).symm.trans D)
 |tm=>obtain rfl:=sX w;obtain⟨r,c,rfl,i,D⟩:=pC D i;refine qw (Dp D i) λT I j q Gb o v D=>R Gb ?_;obtain⟨U,s⟩:=hB D;refine s▸call_list_seq I (.inl rfl) o.1 rfl rfl (λm X y G=>?_) (pF (jy U) (hG v));have A:=bS d.heap;exact .ok (.mk' (K.CW A y G v) ((More.L b _).keep (λI x=>Rw.mp x▸A) y) (More.L b _).le) (.aE _ _ (R K.dt.gW.symm fU))
 |_=>exact nX w
theorem SE.bq{M:BI}{bv:BV}{y:cA}{o:V MP}(w:Av M=S (r,bv))(R:bo N q f l)(C:Gr v e P be bg bf)(n:xv v c r bv.val)(s:nc h a e l c j f i y o):SE h a e l c j f i (.bq M y) (.Call (.Name r bj) o [] J):=by
 intro g d b t A p G B;rw[ja] at B⊢;refine xw C n p G.inv s ((s.run g d b t A p G).dg (.refl G.inv) (λI z K k U X o1 Y T D=>?_) B);rw[X,Res.aP];induction m:bB z M I using Rx with
 |none=>exact bX (m▸D)
 |some L=>obtain⟨H,x⟩:=L;exact Nj (vu (E:=EE a e g l (Res.ok (H,x)).x? d t) R.handled C.mods o1.inv T m w) (λa0 s' L=>L.pre o1) λY Y L=>L
theorem xH{bv:BV}{i:V MP}(C:Gr v e P be bg bf)(n:xv v c r bv.val)(p:bk g c j)(K:Inv a e g b k d.heap)(s:(NU J (NR i c)).any (·.1)=MS)
  (B:MY (MX h a) f (O0 (NU J (NR i c))) (λw X=>MY (MX h a) f (N2 bv.val w) ai t X) t d):MY (MX h a) f (PySem.eval (.Call (.Name r bj) i [] J) c) ai t d:=by
 refine MQ (tZ C n p K ?_);clear C n p;induction bv using BV.casesOn with
 |fn K=>exact PySem.Calls.callWith_builtin (args:=NU J (NR i c)) s (bD s B)
 |ty x=>exact UZ (args:=NU J (NR i c)) s (bD s B)
theorem SE.fK{tp:Nh}{cp:Nh}{n:Z}(R:bo N n f l)(C:Gr v e P be bg bf)(a0:xv v c "list" (.type "list"))(B':xv v c "range" (.type "range"))(d:SE h a e l c j f i af s)(w:notStar s=MK) :
  SE h a e l c j f i (.bq .fK (.cons af .nil)) (.Call (.Name "list" bj) [.Call (.Name "range" tp) [s] [] cp] [] J):=by
 intro g a3 b t A p G B;rw[ja] at B⊢;refine xH (bv:=.ty "list") C a0 p G.inv rfl (PySem.Calls.spliced_cons ?_);refine xw (bv:=.ty "range") C B' p G.inv (SE.jv d w) (((SE.jv d w).run g a3 b t A p G).dg (.refl G.inv) (λI H1 K k U e1 o1 Y v1 D=>?_) B);rw[e1,Res.aP];induction m:bB H1 .fK I using Rx with
 |none=>exact bX (m▸D)
 |some q=>
  obtain⟨a',r⟩:=q;refine hF λa2=>?_;refine cj (pE m v1) λx T bG af=>?_;clear e1 v1 D b A p G B C a0 B' d w;subst bG;refine bM (zW af) λcm af=>?_;refine bM cm λy q2=>?_;refine a2 ?_;rw[<-af];refine call_range_1 ?_;refine PySem.Calls.spliced_nil ?_;have hr:IsRange (k.heap.push {cls:=.type "range",data:=.fields #[.int 0 k.toks,.int x T,.int 1 (k.toks+1)]}) k.heap.objs.size 0 x 1 k.toks T (k.toks+1):=IsRange.new _ _ _ _ _ _ _;have H:∀M z,k.heap.get? M=S z->(k.heap.push {cls:=.type "range",data:=.fields #[.int 0 k.toks,.int x T,.int 1 (k.toks+1)]}).get? M=S z:=λM z af=>Rz _ af;have i1:Inv a e g K _ ({k with heap:=k.heap.push {cls:=.type "range",data:=.fields #[.int 0 k.toks,.int x T,.int 1 (k.toks+1)]},toks:=k.toks+1+1}:MV).heap:=o1.inv.grow H;refine call_list_range (n:=x.toNat) R.handled hr (small_one (by exact RP _) (by exact RP _) (by exact i4 y rfl) (by exact i3 q2 rfl)) (by refine(rangeSize_one ..).trans ?_;exact o7 y) (by exact Tf (n1 ((ML.toNat_lt y).mpr q2) rfl)) λh' tk a1 o a4 g' X=>?_;have o2:aQ a e g [] K k K _ {k with heap:=k.heap.push {cls:=.type "range",data:=.fields #[.int 0 k.toks,.int x T,.int 1 (k.toks+1)]},toks:=k.toks+1+1}:=.grown o1.inv H;refine(pA (items:=a1) (tk:=tk) i1 a4 g' ?_).pre (o1.trans o2);refine .build (by refine(Ry ..).trans ?_;refine VW.trans ?_;refine X.1.symm.trans ?_;rfl) λL E af=>?_;have e':a1[L]? = S E:=by refine SJ.symm.trans ?_;exact af
  refine dD (X.2 L E e') λa5 du=>?_;subst du;have hj:L<x.toNat:=by rw[<-X.1];exact(U1.mp e').1
  refine ba (.int L) (by refine RJ.trans ?_;rw[V.getElem?_range hj];rfl) ?_;rw[show(0:ML)+(L:ML)*1=(L:ML) from(ML.zero_add _).trans (ML.mul_one _)];exact .int _ _
theorem SE.gS{tp:Nh}(R:bo N q f l)(C:Gr v e P be bg bf)(n:xv v c "isinstance" (.builtin "isinstance"))(T:xv v c "int" (.type "int"))(d:SE h a e l c j f i af s)(w:notStar s=MK) :
  SE h a e l c j f i (.bq .gS (.cons af .nil)) (.Call (.Name "isinstance" bj) [s,.Name "int" tp] [] J):=by
 intro g y b t A p G B;rw[ja,fR] at B⊢;have M:(NU J (NR [s,.Name "int" tp] c)).any (·.1)=MS:=by rw[bz w];rfl
 refine xH (bv:=.fn "isinstance") C n p G.inv M ?_;rw[bz w];have m:(aO i af A b).bind (λr=>Res.of (bB r.2 .gS [r.1]))≠.bad:=by
  intro L;apply B
  induction Y:aO i af A b using Wn with
  |ok r=>rw[Y] at L;exact L
  |exc _ _=>replace L:=Y▸L;cases L
  |bad=>rfl
 have H:(((aO i af A b).bind λr=>(bp i .nil A r.2).bind λL=>.ok (r.1 :: L.1,L.2)).bind λL=>Res.of (bB L.2 .gS L.1))=(aO i af A b).bind (λr=>Res.of (bB r.2 .gS [r.1])):=by
  induction Y:aO i af A b using Wn with
  |ok r=>rfl
  |exc _ _=>rfl
  |bad=>rfl
 rw[H];refine PySem.Calls.spliced_cons ((d g y b t A p G).dg (.refl G.inv) (λI z K k U X o1 ε E D=>?_) m);refine PySem.Calls.spliced_cons ?_;refine tZ (x:="int") (v:=.type "int") C T p o1.inv ?_;refine PySem.Calls.spliced_nil ?_;rw[X];clear X M B H p G R C n T d w;induction I using Wm with
 |lst vs=>obtain⟨I,a0,x,rfl,o,vr⟩:=E.inv;exact IsiPair.list_int o.1 rfl (.ok (o1.trans (.tok o1.inv)) (.bool MS))
 |_=>exact bX D
noncomputable def JP(h:NX):O QZ:=vw NX.ctorIdx 8 h λB=>NX.cls.elim h B λC=>S C
theorem Gd(h:NX):aZ (JP h) λC=>h=.cls C:=dq λB=>NX.cls.elim (motive:=λh=>∀B,aZ (NX.cls.elim (motive:=λ_=>O QZ) h B λC=>S C) λC=>h=.cls C) h B (λC _=>rfl) B
theorem anyC{z:O G}{A:G->MO}(B:z.any A=MK):∃I,z=S I/\A I=MK:=by
 induction z using Rx with
 |none=>exact bF B
 |some I=>exact⟨I,rfl,B⟩
noncomputable def mh(a:Nz)(M:MR):MO:=(a.lookup M).any λz=>(JP z.data).any λK=>!K.hasDel&&(z.slots.toList[4]?).join==S (.builtin "Exception.__new__")&&!K.mro.isEmpty&&K.mro.contains (.ref M)&&K.mro.contains (.type "Exception")&&K.mro.contains (.type "BaseException")&& !K.mro.contains (.type "AttributeError")&&!K.mro.contains (.type "NameError")&&P5 a (.ref M) "__call__"==S (S (.builtin "type.__call__"))&&instIn a (.ref M) (.type "type")==S MK
structure se(M:NZ)(h:MU)(C:MR):Prop where
 obj:∃oc od cd sl,h.get? C=S ⟨oc,od,.cls cd,sl⟩/\cd.hasDel=MS/\cd.mro.isEmpty=MS
 mro:∃cd:QZ,(∃oc od sl,h.get? C=S ⟨oc,od,.cls cd,sl⟩)/\Nt M h (mroOf (.ref C)) cd.mro
 made:Nt M h (Bind.madeBy (.ref C)) (S "Exception.__new__")
 base:Nt M h (Bind.staticBase (.ref C)) (.ref C)
 self:Nt M h (Om (.ref C) (.ref C)) MK
 exc:Nt M h (Om (.ref C) (.type "Exception")) MK
 K':Nt M h (Om (.ref C) (.type "BaseException")) MK
 Ma:Nt M h (Om (.ref C) (.type "AttributeError")) MS
 Mb:Nt M h (Om (.ref C) (.type "NameError")) MS
 call:Nt M h (Q0 (.ref C) "__call__") (S (.builtin "type.__call__"))
 typ:Nt M h (O' (.ref C) (.type "type")) MK
set_option tactic.hygienic true in
theorem oi{M:NZ}(r:v.In p){n:MR}(D:mh v n=MK):se M p n:=by
 refine aM (anyC D) λz G D=>?_;obtain⟨b,J,a,i⟩:=z;refine aM (anyC D) λK q D=>?_;obtain rfl:=ot (Gd a) q;clear q;refine hF λA=>?_;simp only[To,S9,N9] at D;obtain⟨⟨⟨⟨⟨⟨⟨⟨⟨m,s⟩,Y⟩,E⟩,U⟩,g⟩,B⟩,e⟩,h⟩,k⟩:=D;have j:OC v n=S K:=by unfold OC;rw[G]
 have y:Nt M p (mroOf (.ref n)) K.mro:=(Qc r j).andThen .now;obtain⟨C,T,l⟩:∃C T,K.mro=C :: T:=by cases L:K.mro with|nil=>replace Y:=L▸Y;cases Y|cons C T=>exact wa C T rfl
 have c:Nt M p (Bind.madeBy (.ref n)) (S "Exception.__new__"):=by intro f o I t H L;refine MQ (y f _ I t H ?_);refine R l ?_;refine R (TV ..) ?_;refine MQ (MQ (MQ (MQ (O2 (H _ _ (r _ _ G)) (MZ ?_)))));refine R SJ.symm ?_;refine R s ?_;exact MZ (MZ (MZ L))
 have d:∀{x:MN} {P:MO},K.mro.contains x=P->Nt M p (Om (.ref n) x) P:=λw=>P9 r (by refine(oL j).trans ?_;refine(TF ..).trans ?_;refine(Nc (by refine R Y ?_;decide)).trans ?_;refine R w rfl);refine A ⟨(Iy b J K i (r _ _ G) m Y),(ba K (Hr b J i (r _ _ G)) y),c,?_,d E,d U,d g,d B,d e,looks_specialIn r h,looks_instIn r k⟩;intro f o I t H L;refine MQ (y f _ I t H ?_);refine R l ?_;refine R (TV ..) ?_;exact MQ (MQ (MQ (c f _ I t H (MZ (MZ (MZ L))))))
abbrev gP(M n:MR):Nk:={cls:=.ref M,data:=.fields #[.ref n,.none,.none,.none,.bool MS,.none]}
theorem Ax{M:MR}{H:NP->MV->Prop}{o:M0 PN}{v:Drawn}{n:Z}{w:OP}{j:V MN}(G:se (MX h a) p M)(s:j.length<=N0)
  (e:H (.ok (.ret (.ref (p.objs.size+1)))) ⟨(p.push {cls:=.type "tuple",data:=.seq j.toArray}).push (gP M p.objs.size),o,v,n,w⟩) :
  NJ (MX h a) f (.call (.builtin "Exception.__new__") ⟨.ref M :: j,[]⟩) H ⟨p,o,v,n,w⟩:=by
 refine hF λl=>?_
 obtain⟨⟨b,J,K,i,q,m,Y⟩,-,c,g,A,E,z,r,y,C,t⟩:=G
 have x:=PySem.F.excBase_Exception
 have D:=x.ends
 have d:Nt (MX h a) p (Bind.madeHere "BaseException.__new__" (.ref M)) ():=g.andThen (c.andThen (Nt.of_pure (by simp only[Ud,x.canon,Rr,SR,Oi])))
 refine l (codeAny_call_builtin_code (Uk _ x.quiet) ?_)
 have k:=x.noStar
 rw[Q1,x.newKind,x.newSplit]
 repeat (first|dsimp only[Rr,SR,Oi]|lk|wp_step)
 refine PySem.codeAny_builtinAt x.entry (PySem.wpAt_bind (PySem.wpAt_bind (PySem.wpAt_stack λP B=>PySem.wpAt_of_wpAny ?_)))
 wp_walk
 refine PySem.wpAt_of_wpAny ?_
 rw[x.owner]
 repeat (first|lk|wp_step)
 refine Ox (Rz _ (Rz _ q)) (MZ ?_)
 rw[m]
 refine MZ (MZ ?_)
 show H _ _
 rw[Vx]
 exact e
theorem xI{M:MR}{a1:NP->MV->Prop}{o:M0 PN}{a0:Drawn}{n:Z}{os:OP}{j:V MN}{i:MN}(G:se (MX h a) p M)(s:j.length<=N0)(d:Nt (MX h a) p (Oe (.ref M) "__init__") (S i))
  (w:∀A,Nt (MX h a) p (Q2 i A) (i,[A]))
  (e:NJ (MX h a) (f.under (.builtin "type.__call__" ⟨.ref M :: j,[]⟩)) (.call i ⟨.ref (p.objs.size+1) :: j,[]⟩) (InitBack (p.objs.size+1) a1) ⟨(p.push {cls:=.type "tuple",data:=.seq j.toArray}).push (gP M p.objs.size),o,a0,n,os⟩) :
  NJ (MX h a) f (.call (.ref M) ⟨j,[]⟩) a1 ⟨p,o,a0,n,os⟩:=by
 refine hF λE=>?_;have L:=G;obtain⟨⟨b,J,K,sl,q,m,Y⟩,⟨P,⟨T,a6,l,X⟩,hm⟩,c,g,A,a4,a3,r,a2,C,t⟩:=G;rw[q] at X;cases X;refine E (QX (nd_load q ?_));show MY _ _ (Qj.viaDunder (.ref M) _) _ _ _;unfold Qj.viaDunder;refine MQ (C.at ?_);dsimp only;rw[tc_bind];refine MQ (MZ (MQ (MZ ?_)));refine MZ (a:=Fin.again (.call (.builtin "type.__call__") ⟨.ref M :: j,[]⟩)) (Vj rfl ?_);refine codeAny_call_builtin_at (Uk _ (by decide +kernel)) Q3 (P8 tc_kind tc_split t (tc_args _ _ _) ?_);unfold Builtin.«type.__call__»;repeat (first|simp only[Y,SR,Oi]|with_reducible refine OL ?_|lk)
 refine Ax L s ?_;have H:∀I z,p.get? I=S z->((p.push {cls:=.type "tuple",data:=.seq j.toArray}).push (gP M p.objs.size)).get? I=S z:=λI z D=>Rz _ (Rz _ D);have x:((p.push {cls:=.type "tuple",data:=.seq j.toArray}).push (gP M p.objs.size)).get? (p.objs.size+1)=S (gP M p.objs.size):=by heap_get
 have B:Nt (MX h a) ((p.push {cls:=.type "tuple",data:=.seq j.toArray}).push (gP M p.objs.size)) (PO (.ref (p.objs.size+1))) (.ref M):=(Nt.ld x).andThen .now;have k:=A.keeps H;have i1:=d.keeps H;have b1:=(w (.ref (p.objs.size+1))).keeps H;unfold O' QA Q0;repeat (first|with_reducible refine OL ?_|lk)
 refine O1 e λy v U=>?_;rcases y with D|(a5|_|_|_)<;>first|exact U|exact U.elim|skip
 obtain⟨rfl,U⟩:=U;exact MZ (MZ U)
noncomputable def iy(i:V (MT×MN))(L:MT×MN):V (MT×MN):=if(Ua L.1 i).isNone=MK then i++[(L.1,L.2)] else i
theorem vz:∀(p:V (MT×MN)) (i:V (MT×MN)),(forIn p i λr t=>if(Ua r.1 t).isNone=MK then(pure (O3.yield (t++[(r.1,r.2)])):Nl _) else pure (O3.yield t))=pure (p.foldl iy i):=by
 intro p;induction p with
 |nil=>intro i;refine UP.trans ?_;rfl
 |cons L p f=>
  intro i;refine(TV ..).trans ?_;refine R Ue ?_;unfold iy;split;·exact f _
  ·exact f _
theorem gA{a:V MT}(n:a.Nodup):∀{U:V MN} {j:Z} {q:MT},a[j]? = S q->(a.zip U).lookup q=U[j]?:=by
 induction a with
 |nil=>intro U j q D;simp at D
 |cons r c d=>
  intro U j q D
  rw[RV] at n
  induction U using RC with
  |nil=>simp
  |cons E w=>
   induction j using RX with
   |zero=>simp at D;subst D;simp[Ua]
   |succ j=>
    have b:q≠r:=λL=>n.1 (L▸RI D)
    refine SG.trans ?_;refine R (OV b) ?_
    exact d n.2 D
theorem xJ{i:V (MT×MN)}:∀{p:V (MT×MN)},(∀L∈p,(i.lookup L.1).isNone=MS)->p.foldl iy i=i:=by
 intro p;induction p with
 |nil=>intro _;exact rfl
 |cons L p f=>intro B;refine Ue.trans ?_;refine R (show iy i L=i from by unfold iy;exact(Nc (by refine R (B L (.head _)) ?_;exact RW))) ?_;exact f λL x=>B L (.tail _ x)
theorem xK:∀{p i:V (MT×MN)},(p.map (·.1)).Nodup->(∀L∈p,i.lookup L.1=N)->p.foldl iy i=i++p:=by
 intro p;induction p with
 |nil=>intro i _ _;simp
 |cons L p a=>intro i n B;rw[R4,RV] at n;refine Ue.trans ?_;refine R (show iy i L=i++[L] from by unfold iy;exact(Na (by refine R (B L (.head _)) ?_;rfl))) ?_;rw[a n.2 λP x=>?_];refine R (Sm ..) ?_;rw[V.singleton_append];refine V.lookup_append.trans ?_;refine R (B P (.tail _ x)) ?_;refine SG.trans ?_;refine R (OV (show P.1≠L.1 from λD=>n.1 (D▸R2 (f:=λr:MT×MN=>r.1) x))) ?_;rfl
theorem nB{a:V MT}(n:a.Nodup){U:V MN}(l:a.length=U.length):(a.filterMap λq=>((a.zip U).lookup q).map (q,·))=a.zip U:=by
 have h:∀(H:Z),H<=a.length->((a.drop H).filterMap λq=>((a.zip U).lookup q).map (q,·))=(a.drop H).zip (U.drop H):=by
  intro H
  induction B:a.length - H generalizing H with
  |zero=>intro J;refine R (Ut (by exact Vu B)) ?_;rfl
  |succ x d=>
   intro J;have j:=Z.lt_of_sub_eq_succ B;have e:H<U.length:=by exact l▸j
   refine R (U7 j) ?_;refine R (U7 e) ?_;refine TO.trans ?_;refine R (gA n (RA j)) ?_;refine R (RA e) ?_;exact Nb _ (d (H+1) (b6 B) j)
 exact h 0 (Vo _)
theorem xM{a:V MT}:∀{U t:V MN},a.zip (U++t)=a.zip U++(a.drop U.length).zip t:=by
 induction a with
 |nil=>intro U t;simp
 |cons r j d=>
  intro U t
  induction U using RC with
  |nil=>simp
  |cons E w=>simp[d]
theorem xN{j:V MT}:∀{A:V MN} (H:Z),(j.zip A).drop H=(j.drop H).zip (A.drop H):=by
 induction j with
 |nil=>intro A H;simp
 |cons r j d=>
  intro A H
  induction A using RC with
  |nil=>simp
  |cons s A=>
   induction H using RX with
   |zero=>rfl
   |succ H=>exact d H
structure Pars(fd:NI)(names:V MT):Prop where
 ar:fd.params.args.map (·.arg)=names
 po:fd.params.posonlyargs=[]
 ko:fd.params.kwonlyargs=[]
 va:fd.params.vararg=N
 ka:fd.params.kwarg=N
 nd:names.Nodup
theorem j'{C:Prop}{r:OH C}{n D:Nl G}{o:G->MV->Prop}(B:¬C)(H:MY T f D o t d):MY T f (if C then n else D) o t d:=(Nc B).symm▸H
section
variable{vals ds:V MN}{names:V MT}(nd:names.Nodup)(h1:vals.length<=names.length)(h2:names.length<=vals.length+ds.length)(h3:ds.length<=names.length)
include nd h1 h2 in
theorem Ge:(names.take (names.length - ds.length)).filter (λn=>(Ua n (names.zip vals)).isNone)=[]:=by rw[V.filter_eq_nil_iff];intro n hn;obtain⟨j,hj,e⟩:=U8.mp hn;refine R (gA nd (j:=j) (by refine(RA (by exact RQ hj (T8 ..))).trans ?_;refine R e rfl)) ?_;refine R (RA (RQ (RQ hj (Tb ..)) (Vt.mpr h2))) ?_;exact RW
include h3 in
theorem Gf:ds.drop (ds.length - names.length)=ds:=by rw[Z.sub_eq_zero_of_le h3];rfl
include nd h1 h2 h3
theorem IQ:¬((!((names.take (names.length - (ds.drop (ds.length - names.length)).length)).filter (λq=>(Ua q (names.zip vals)).isNone)).isEmpty)=MK):=by rw[Gf h3,Ge nd h1 h2];exact RW
theorem Ds:((names.drop (names.length - ds.length)).zip ds).foldl iy (names.zip vals)=names.zip (vals++ds.drop (vals.length+ds.length - names.length)):=by
 have P:(names.drop (names.length - ds.length)).zip ds=((names.drop (names.length - ds.length)).zip ds).take (vals.length+ds.length - names.length)++(names.drop vals.length).zip (ds.drop (vals.length+ds.length - names.length)):=by
  conv=>lhs;rw[<-V.take_append_drop (vals.length+ds.length - names.length) ((names.drop (names.length - ds.length)).zip ds)]
  refine R (xN ..) ?_;refine R V.drop_drop ?_;rw[b1 h2 h3]
 have w:∀L∈((names.drop (names.length - ds.length)).zip ds).take (vals.length+ds.length - names.length),((names.zip vals).lookup L.1).isNone=MS:=λL e=>by obtain⟨i,M,D⟩:=U8.mp e;rw[V5] at D;refine R D.symm ?_;refine R (gA nd (j:=names.length - ds.length+i) (by refine R VX ?_;exact(RA (RQ (b2 h2 h3 (RQ M (Tb ..))) h1)))) ?_;refine R (RA (b2 h2 h3 (RQ M (Tb ..)))) ?_;rfl
 have K:(((names.drop vals.length).zip (ds.drop (vals.length+ds.length - names.length))).map (·.1)).Nodup:=by have:((names.drop vals.length).zip (ds.drop (vals.length+ds.length - names.length))).map (·.1)=names.drop vals.length:=V.map_fst_zip (by refine R TC ?_;refine R TC ?_;exact R1 (b3 h1 h2).symm);refine R this ?_;exact nd.sublist (V.drop_sublist _ _)
 have Y:∀L∈(names.drop vals.length).zip (ds.drop (vals.length+ds.length - names.length)),(names.zip vals).lookup L.1=N:=λL e=>by obtain⟨i,M,D⟩:=V.mem_iff_getElem.mp e;rw[V.length_zip,TC] at M;rw[V5] at D;refine R D.symm ?_;refine(gA nd (j:=vals.length+i) (by refine R VX ?_;exact(RA (b5 (RQ M (Tb ..)))))).trans ?_;exact(Sj (by exact R5 _ _))
 refine R P ?_;refine V.foldl_append.trans ?_;refine R (xJ w) ?_;refine(xK K Y).trans ?_;rw[xM]
theorem IS:((names++[]).filterMap λq=>((((names.drop (names.length - (ds.drop (ds.length - names.length)).length)).zip (ds.drop (ds.length - names.length))).foldl iy (names.zip vals)).lookup q).map (q,·))=names.zip (vals++ds.drop (vals.length+ds.length - names.length)):=by rw[Gf h3,Ds nd h1 h2 h3,Sx];exact nB nd (by rw[RE,TC];exact(b4 h1 h2).symm)
end
theorem vA{o:NI}{U:V MN}{a:V MT}{j:V MN}(c:Pars o a)(q:∀(w:NZ) (f:Nv) (I:MN->MV->Prop) (A:O (M0 MN)->MV->Prop),(∀z,(z.getD #[]).toList=j->A z d)->MY w f (Qk o.defaults) A I d)
  (p:U.length<=a.length) (G:a.length<=U.length+j.length) (T:j.length<=a.length):BindsTo d o ⟨U,[]⟩ (a.zip (U++j.drop (U.length+j.length - a.length))):=by intro w f I A H;obtain⟨J,qn,⟨P,x,E,e,k,t,y⟩,l,g,gl,C,D,b,r,h,an,K,v,B⟩:=o;obtain⟨i,X,m,s,Y,n⟩:=c;have X:P=[]:=X;have m:e=[]:=m;have s:E=N:=s;have Y:t=N:=Y;have i:x.map (·.arg)=a:=i;subst i X m s Y;refine MQ (MZ ?_);refine MQ (q _ _ _ _ λz M=>?_);clear q;subst M;refine j' (λL=>RU _ (RQ (M5 ((To ..).mp L).1) p)) ?_;refine j' (IQ n p G T) ?_;refine MQ (NM (vz ..) ?_);refine MQ (MZ ?_);refine j' nofun ?_;exact MZ ((IS n p G T).symm▸H)
theorem vB{k:MT->O Ny}{a:V MT}:∀{I:V MN} {x:MT->O MN},r∉a->bindL k (a.zip I) x r=x r:=by
 induction a with
 |nil=>intro _ _ _;rfl
 |cons q w d=>
  intro I x B
  induction I using RC with
  |nil=>rfl
  |cons E b=>
   rw[RB,Ol] at B;refine(d B.2).trans ?_;split;·exact Nc B.1
   ·rfl
theorem vC{k:MT->O Ny}{a:V MT}:∀{I:V MN} {x:MT->O MN},r∉a->bindC k (a.zip I) x r=x r:=by
 induction a with
 |nil=>intro _ _ _;rfl
 |cons q w d=>
  intro I x B
  induction I using RC with
  |nil=>rfl
  |cons E b=>
   rw[RB,Ol] at B;refine(d B.2).trans ?_;split;·rfl
   ·exact Nc B.1
theorem qY{k:MT->O Ny}{a:V MT}(J:k r=S .local):∀{I:V MN} {x:MT->O MN} {i:Z} {E:MN},a.Nodup->a[i]? = S r->I[i]? = S E->bindL k (a.zip I) x r=S E:=by
 induction a with
 |nil=>exact λ_ D=>nX D
 |cons q w d=>
  intro I x i E n D j
  induction I using RC with
  |nil=>exact nX j
  |cons c b=>
   replace n:=RV.mp n
   induction i using RX with
   |zero=>clear d;obtain rfl:=sX D;refine sJ j ?_;refine(vB n.1).trans ?_;refine R (Na J) ?_;exact Na rfl
   |succ i=>exact d n.2 D j
theorem xO{k:MT->O Ny}{a:V MT}(J:k r≠S .local):∀{I:V MN} {x:MT->O MN} {i:Z} {E:MN},a.Nodup->a[i]? = S r->I[i]? = S E->bindC k (a.zip I) x r=S E:=by
 induction a with
 |nil=>exact λ_ D=>nX D
 |cons q w d=>
  intro I x i E n D j
  induction I using RC with
  |nil=>exact nX j
  |cons c b=>
   replace n:=RV.mp n
   induction i using RX with
   |zero=>clear d;obtain rfl:=sX D;refine sJ j ?_;refine(vC n.1).trans ?_;refine R (Nc J) ?_;exact Na rfl
   |succ i=>exact d n.2 D j
theorem iJ:∀{l:V (MT×MR)},r∈l.map (·.1)->∃C,l.lookup r=S C:=by
 intro l;induction l with
 |nil=>intro B;simp at B
 |cons i y f=>
  intro B
  refine R SG ?_
  induction w:r==i.1 using RD with
  |true=>exact⟨i.2,rfl⟩
  |false=>rw[R4,RB] at B;exact f (B.resolve_left λD=>by simp[D] at w)
theorem nC{C:MR}{T:V (MT×MR)}:(T.map (·.1)).Nodup->(r,C)∈T->T.lookup r=S C:=by
 induction T with
 |nil=>exact λ_ B=>nomatch B
 |cons L y a=>
  obtain⟨H,E⟩:=L;intro n B;rw[R4,RV] at n;refine SG.trans (Wg (RB.mp B) (λD=>?_) λB=>?_);·cases D;simp
  ·have v:=R2 (f:=λL:MT×MR=>L.1) B;have j:r≠H:=λD=>n.1 (D▸v);exact R (OV j) (a n.2 B)
structure cH(fd:NI)(names:V MT)(sl:V (O MT))(body:V M8):Prop extends Pars fd names where
 body:fd.body=.stmts body
 co:fd.scope.isCoroutine=MS
 gen:fd.scope.isGenerator=MS
 kind:fd.scope.kind=.function
 JQ:fd.closure=[]
 glob:fd.globals=NN
 blt:fd.builtins=Qu
 kinds:∀x∈names,fd.scope.names.lookup x=S .local\/(fd.scope.names.lookup x=S .cell/\x∈(OQ 0 fd.scope.names []).map (·.1))
 IT:∀(j:Z) x,j<names.length->sl[j]? = S (S x)->names[j]? = S x
 Fd:∀(i j:Z) x,sl[i]? = S (S x)->sl[j]? = S (S x)->i=j
 JR:((OQ 0 fd.scope.names []).map (·.1)).Nodup
 has:∀(j:Z) x,sl[j]? = S (S x)->fd.scope.names.lookup x=S .cell\/fd.scope.names.lookup x=S .free->x∈(OQ 0 fd.scope.names []).map (·.1)
theorem sg{a5:Nv}{s:MV}{loc:Loc}{o:NI}{a2:V MT}{c5:V M8}{ds vals:V MN}{P:Nf->MV->Prop}(a1:cH o a2 j c5)(L:s.heap.NoLimit)
  (c8:∀(T:NZ) (a5:Nv) (t:MN->MV->Prop) (a7:O (M0 MN)->MV->Prop),(∀z,(z.getD #[]).toList=ds->a7 z s)->MY T a5 (Qk o.defaults) a7 t s)
  (p:vals.length<=a2.length) (G:a2.length<=vals.length+ds.length) (h3:ds.length<=a2.length)
  (K:Inv a e g b k s.heap) (lv:cM l g [] s.heap) (c9:loc.length=j.length)
  (hv:∀(i:Z) n,loc[i]? = S (S n)->∃E,(vals++ds.drop (vals.length+ds.length - a2.length))[i]? = S E/\VR a.params (Sf s.heap b g) b n E)
  (c6:∀c J s1,c=N5 o s.heap.objs.size n->bk J c j->St a e J (c :: l) c j b k loc s1->(∃h' B,s1={s with heap:=h',toks:=B}/\cu g J [] (bA c) s.heap h')->(∀M z,s.heap.get? M=S z->s1.heap.get? M=S z)->
   (∃x,s1.heap.Ns c.locals x/\∀(i:Z) r E,a2[i]? = S r->(vals++ds.drop (vals.length+ds.length - a2.length))[i]? = S E->c.kindOf r=S .local->x r=S E)->
   P c s1) :
  MY T a5 (PySem.bindArgs o ⟨vals,[]⟩) (λc1 c4=>MY T a5 (Qh o.scope o.globals o.closure c1 (o.qualname++".<locals>.") (S n) o.code N o.builtins) (λc b9=>b9.heap.NoLimit/\P c b9) t c4) t s:=by
 have H:(vals++ds.drop (vals.length+ds.length - a2.length)).length=a2.length:=by exact RE.trans (R TC (b4 p G))
 have nm:∀a3,(OQ a3 o.scope.names []).map (·.1)=(OQ 0 o.scope.names []).map (·.1):=λa3=>cellsFrom_names _ _ _ _ _ rfl;refine vA a1.toPars c8 p G h3 _ _ _ _ (R a1.JQ (wpAny_newFunctionEnv_cells a1.kind (λr hx=>?_) λc he s1 r=>?_));·have c3:=(V.of_mem_zip hx).1;refine(a1.kinds r.1 c3).imp id λq=>⟨q.1,?_⟩;refine dD (iJ (l:=OQ (s.heap.objs.size+1) o.scope.names []) (by refine R (nm ..) ?_;exact q.2)) λC D=>?_;exact R D rfl
 ·have d:c.scope=o.scope:=by exact R he rfl
  have a8:c.cells=OQ (s.heap.objs.size+1) o.scope.names []:=by exact R he rfl
  have c7:c.frame=S c.locals:=by exact R he rfl
  refine mQ r.toInCall.same λh' B bG=>?_;subst bG;have w:∀M z,s.heap.get? M=S z->h'.get? M=S z:=r.toInCall.keep;have fL:=SU r.toInCall.fresh;have A:∀C∈c.cells.map (·.2),s.heap.get? C=N/\c.locals<C:=λC hc=>by refine aM (Si.mp hc) λcm v du=>?_;obtain⟨a0,c'⟩:=cm;refine R du.symm ?_;have:=r.above a0 c' v;exact⟨SU (Tf (RM r.toInCall.fresh this)),this⟩
  have nd:(c.cells.map (·.1)).Nodup:=by refine R a8 ?_;refine R (nm ..) ?_;exact a1.JR
  have a4:cu g (c.locals :: c.locals :: c.cells.map (·.2)++g) [] (bA c) s.heap h':=by
   refine⟨w,λn x=>RO _ x,λC x=>?_,λC x=>?_,λC x=>?_,λC=>by refine R R9 ?_;exact SQ _ _⟩
   ·rcases RL.mp x with x|x
    ·rcases RB.mp x with rfl|x;·exact .inr fL
     ·rcases RB.mp x with rfl|x;·exact .inr fL
      ·exact .inr (A C x).1
    ·exact .inl x
   ·rcases RB.mp x with rfl|x;·exact .inr fL
    ·exact .inr (A C x).1
   ·rw[R9] at x;by_cases q:C∈c.locals :: c.locals :: c.cells.map (·.2)
    ·refine .inr ?_;rcases RB.mp q with rfl|q;·exact fL
     ·rcases RB.mp q with rfl|q;·exact fL
      ·exact(A C q).1
    ·rw[RZ q] at x;rw[T4] at x;exact .inl x
  have d0:=RZ (K.no fL);have eo:bk (c.locals :: c.locals :: c.cells.map (·.2)++g) c j:=by
   refine⟨by refine R d ?_;exact a1.kind,by refine R he ?_;exact a1.glob,by refine R he ?_;exact a1.blt,.head _,λa0 C D=>?_,λn x=>?_,λa0 U C X m=>name_of_addr r.apart (mem_of_lookup X) (mem_of_lookup m),a1.Fd,λi a0 X m=>?_⟩;·have v:=R2 (f:=λq:MT×MR=>q.2) (mem_of_lookup D);exact⟨RK _ (.tail _ (.tail _ v)),S6 (A C v).2⟩
   ·exact RK _ (.tail _ (.tail _ x))
   ·rw[(show∀a0,c.kindOf a0=o.scope.names.lookup a0 from λa0=>by unfold Nf.kindOf;refine R d rfl)] at m;exact iJ (by refine R a8 ?_;refine R (nm ..) ?_;exact a1.has i a0 X m)
  have lt:∀(i:Z) n,loc[i]? = S (S n)->i<a2.length:=λi n D=>by refine aM (hv i n D) λE X Y=>?_;exact R H.symm ((RF.mp X).1)
  have a6:∀n z,Sf s.heap b g n z->Sf h' b (c.locals :: c.locals :: c.cells.map (·.2)++g) n z:=λn z U=>(U.cY a4.new).grow w;have st:St a e (c.locals :: c.locals :: c.cells.map (·.2)++g) (c :: l) c j b k loc {s with heap:=h',toks:=B}:=by
   refine⟨K.cY a4.new w λM x=>?_,⟨(ba _ r.toInCall.ns (λi a0 n X m e3=>?_)),λa0 C D=>(ba _ (r.cell a0 C D) (λi n X m e3=>?_)),c9⟩,⟨λD x=>?_⟩⟩
   ·refine we r.toInCall.ns λoL Y Y I Y=>?_;rcases RL.mp x with x|x
    ·rcases RB.mp x with rfl|x;·exact⟨oL,I⟩
     ·rcases RB.mp x with rfl|x;·exact⟨oL,I⟩
      ·refine aM (Si.mp x) λdV v fC=>?_;obtain⟨a0,c'⟩:=dV;exact R fC.symm (aM ((λa0 C v=>r.cell a0 C (nC nd v)) a0 c' v) λoc gc Y=>⟨oc,gc⟩)
    ·exact K.FL w x
   ·exact aM (hv i n m) λE e4 U=>ba E (qY e3 a1.nd (a1.IT i a0 (lt i n m) X) e4) (U.mono a6 (.refl b))
   ·exact aM (hv i n m) λE e4 U=>ba E (xO (by rcases e3 with e3|e3<;>refine R e3 ?_<;>simp) a1.nd (a1.IT i a0 (lt i n m) X) e4) (U.mono a6 (.refl b))
   ·rcases RB.mp x with rfl|x;·refine dF r.toInCall.ns λoL y ep I dL Y=>?_;refine⟨by refine R d ?_;refine R a1.kind ?_;decide,D.locals,oL,y,ep,c7,?_,(λx=>nomatch x),I,dL⟩;exact R V6 (R T9 (R T9 (SQ _ _)))
    ·exact lv.el x λkk a9 ob y a3 f m1 m2 c2 h=>⟨kk,a9,ob,y,a3,f,RG m1 (a4.le a9),m2,w _ _ c2,h⟩
  refine⟨L.keeps w,c6 c _ _ ?_ eo st (dI h' B rfl a4) w (ba _ r.toInCall.ns (λi a0 E X m e3=>qY e3 a1.nd X m))⟩;refine he.trans ?_;first|rfl|(rw[a1.glob])
set_option backward.match.sparseCases true in
theorem enter{s:MV}{loc:Loc}{o:NI}{a0:V MT}{a1:V M8}{U vals:V MN}{R:NP->MV->Prop}(x:cH o a0 j a1)(a7:f.depth<QD)(ho:s.heap.get? n=S ah)(a5:ah.data=.func o)(L:s.heap.NoLimit)(t:s.heap.CodeRec o.code o.qualname)
  (a6:∀(w:NZ) (f:Nv) (I:MN->MV->Prop) (a4:O (M0 MN)->MV->Prop),(∀ah,(ah.getD #[]).toList=U->a4 ah s)->MY w f (Qk o.defaults) a4 I s)
  (p:vals.length<=a0.length) (G:a0.length<=vals.length+U.length) (T:U.length<=a0.length)
  (K:Inv a e g b k s.heap) (lv:cM l g [] s.heap) (d:loc.length=j.length)
  (hv:∀(i:Z) n,loc[i]? = S (S n)->∃E,(vals++U.drop (vals.length+U.length - a0.length))[i]? = S E/\VR a.params (Sf s.heap b g) b n E)
  (H:∀c J s1,c=N5 o s.heap.objs.size n->bk J c j->St a e J (c :: l) c j b k loc s1->(∃m B,s1={s with heap:=m,toks:=B}/\cu g J [] (bA c) s.heap m)->(∀M ah,s.heap.get? M=S ah->s1.heap.get? M=S ah)->
   (∃a3,s1.heap.Ns c.locals a3/\∀(i:Z) r E,a0[i]? = S r->(vals++U.drop (vals.length+U.length - a0.length))[i]? = S E->c.kindOf r=S .local->a3 r=S E)->
   MY (MX h a) (f.deeper c) (Oh a1 c) (λA v=>R (.ok (.ret (match A with|.ret E=>E|_=>.none))) v)
    (λD v=>MY (MX h a) (f.deeper c) (OE c D) (λY a2=>R (.error D) a2) (λe' a2=>R (.error e') a2) v) s1) :
  NJ (MX h a) f (.call (.ref n) ⟨vals,[]⟩) R s:=
 Rt a7 ho a5 x.co x.gen x.body t (sg (P:=λc X=>NJ (MX h a) f (.func a1 c) R X) x L a6 p G T K lv d hv λc J s1 y q C q4 z q6=>codeAny_func (H c J s1 y q C q4 z q6))
structure Ay(w:Ni)(g₀:MU)(fd:NI)(cy:V Q)(ds:V MN):Prop where
 read:(fd.defaults=.none/\ds=[])\/∃T o items n,fd.defaults=.ref T/\g₀.get? T=some o/\o.data=.seq items n/\items.toList=ds
 vals:∀(P:N') (S:SP) (r:bI),bN P S r cy ds
theorem Ay.reads{c:NI}{i:V Q}{j:V MN}(t:Ay a e c i j)(K:Inv a e g b k d.heap):∀(w:NZ) (f:Nv) (I:MN->MV->Prop) (o:O (M0 MN)->MV->Prop),(∀z,(z.getD #[]).toList=j->o z d)->MY w f (Qk c.defaults) o I d:=by
 intro w f I o H;refine hF λA=>?_;rcases t.read with⟨D,rfl⟩|⟨x,z,m,q,D,l,h,rfl⟩;·refine A ?_;exact R D (MZ (H N rfl))
 ·refine A ?_;refine R D ?_;exact wpAny_seqItems (K.keep x z l).1 h (H (S m) rfl)
set_option tactic.hygienic true in
theorem gB{p n:Z}{d:V Q}(D:bindArgs p d n z=S w):z.length<=p/\p<=z.length+d.length/\w=((z++d.drop (z.length+d.length - p)).map S++UN (n - p) N):=by
 unfold bindArgs at D;split at D;·rename_i L;exact fB L.1 L.2 ((Sk D).symm)
 ·exact nomatch D
theorem pG{I:V Q}{x:Z}(D:(I.map S++UN x N)[K]? = S (S m)):I[K]? = S m:=by
 replace D:=UB▸D;split at D
 ·replace D:=RJ▸D
  induction L:I[K]? using Rx with
  |none=>exact nX (L▸D)
  |some M=>replace D:=L▸D;cases D;rfl
 ·replace D:=V.getElem?_replicate▸D;split at D<;>exact nomatch D
theorem uf.at(l:e.NoLimit)(K:Inv a e g b k d.heap):d.heap.NoLimit:=l.keeps λM z D=>(K.keep M z D).1
theorem Dt{c2:Z}{o:NI}{a0:V MT}{a6:V M8}{M:dR}{ds a2:V MN}{a1:V Q}(x:cH o a0 j a6)(R:bo bh (c2+1) f l)(ho:e.get? n=S ah)(a7:ah.data=.func o)(L:e.NoLimit)(a3:e.CodeRec o.code o.qualname)
  (t:Ay a e o a1 ds) (T:a1.length<=a0.length) (X:a0.length<=j.length)
  (K:Inv a e g b k d.heap) (lv:cM l g [] d.heap) (E:bN a.params (Sf d.heap b g) b z a2) (hb:bindArgs a0.length a1 j.length z=S w) (B:aW i M w k≠.bad)
  (a5:∀I,qQ h a e l (N5 o I n) j (f.deeper (N5 o I n)) i M a6) :
  NJ (MX h a) f (.call (.ref n) ⟨a2,[]⟩) (RR a e g l ((aW i M w k).bind λb=>.ok ((match b.1 with|.ret E=>E|.next=>.none),b.2.2)) b d) d:=by
 refine fM (gB hb) λy q2 hl=>?_;have A:=E.len;have ld:=(t.vals a.params (Sf d.heap b g) b).len;have H:bN a.params (Sf d.heap b g) b (z++a1.drop (z.length+a1.length - a0.length)) (a2++ds.drop (a2.length+ds.length - a0.length)):=by rw[A,ld];exact E.append ((t.vals _ _ _).drop _)
 have k0:=λM ah D=>(K.keep M ah D).1;refine enter (loc:=w) x (JA R.depth) (k0 _ _ ho) a7 (uf.at L K) ?_ (t.reads K) (A▸y) (A▸ld▸q2) (ld▸T) K lv ?_ (λc4 n D=>H.get (pG (hl▸D))) λc J s1 C p G r hk a8=>?_;·exact qw a3 λa9 oc vs c1 e1 m s e4=>gU a9 oc vs c1 e1 (k0 _ _ m) s e4
 ·rw[hl];exact oS y q2 X
 ·subst C;refine cj r λh' tk bG P=>?_;clear y q2 hl r hk a8 A ld H k0 x R ho a7 L a3 t T X K lv hb;subst bG;refine Nj (a5 _ J b k _ _ p G B) (λa4 v q=>?_) λD v q=>?_
  ·refine qw q λfl c3 H' r' D ah b9 U=>R D ?_
   clear D p G b9 B a5
   induction fl using Fl.casesOn with
   |next=>
    induction a4 using SH with
    |next=>exact .ok (ah.back P) .none
    |_=>exact U.elim
   |ret n=>
    induction a4 using SH with
    |ret c5=>exact .ok (ah.back P) (VR.mono (λY Y U=>U.back P.sub) (.refl _) U)
    |_=>exact U.elim
  ·have x? : ((aW i M w k).bind λb=>.ok ((match b.1 with|.ret E=>E|.next=>Q.none),b.2.2)).x? = (aW i M w k).x?:=by
    induction(aW i M w k) using Wn<;>rfl
   refine Nj q (λY s2 U=>?_) λm s2 U=>?_
   ·show EE _ _ _ _ _ _ _ _ _;exact R x? (EF.back P U)
   ·show EE _ _ _ _ _ _ _ _ _;exact R x? (EF.back P U)
inductive Az(prog:Nu)(w:Ni)(g₀:MU)(l:V Nf)(env:Nf)(sl:V (O MT))(A:Nv)(cf:CF)(uh:MT):V Z->cA->V M8->Prop
 |nil:Az prog w g₀ l env sl A cf uh [] .nil []
 |cons {f:Z} {fs:V Z} {e:LE} {es:cA} {y:MP} {xs:V M8} {p1 p2 p3:Nh}:SE prog w g₀ l env sl A cf e y->Az prog w g₀ l env sl A cf uh fs es xs->Az prog w g₀ l env sl A cf uh (f :: fs) (.cons e es) (.Assign [.Attribute (.Name uh p1) (sx f) p2] y p3 :: xs)
theorem FR.xP(e:∀H∈ae,H<NS):∀{l:V Q} {y:V Nr} {H:Z},FR U x b ae l y->H<NS->H∉ae->y.findIdx? (λD=>D.key.isStr (sx H))=O.none:=by
 induction ae with
 |nil=>intro l y H B _ _;cases B;rfl
 |cons r ae d=>
  intro l y H B J n
  rw[RB,Ol] at n
  cases B with
  |@cons _ w P t _ l y p G=>
   refine Uj.trans ?_;have:(MN.str (sx r) t).isStr (sx H)=MS:=by refine(jV (e r (.head _)) J).trans ?_;rw[OI];exact λD=>n.1 D.symm
   simp only[this,SR,Oi];refine R (d (λH J=>e H (.tail _ J)) G J n.2) ?_;rfl
theorem jN.bindG{y:Z}{t:Type}{h:Rel G az}{n:Nl az}{s:Res (G×AH)}{A:G×AH->Res t}{l:az->MV->Prop}(R:bo bh y f (c :: o))(p:cM (c :: o) g [] ap.heap)(J:∀I∈aq,I∈g)(B:jN a e g T f (c :: o) h n s ak ap)(z:aQ a e g aq b d ak bc ap)
  (H:∀I i x k M,s=.ok (I,i)->aQ a e g aq b d x i k->aQ a e g [] ak ap x i k->h (Sf k.heap x g) x I M->A (I,i)≠.bad->l M k) (w:s.bind A≠.bad) :
  MY T f n l (ES a e g T f aq o c (s.bind A).x? b d) ap:=by
 refine Nj (B (λq=>w (by refine(bL q).trans ?_;rfl))) (λM v q=>?_) λj v q=>?_;·refine dF q λI i x bG o2 E=>?_;clear B;subst bG;exact H I i x v M rfl (z.trans o2.wide) o2 E w
 ·refine EF.stmt R p (EF.pre z J ?_)
  refine cj q λn r D U=>?_
  clear q R p J B z H w
  induction s using Wn with
  |ok I=>exact nX D
  |bad=>exact nX D
  |exc X m=>obtain⟨rfl,rfl⟩:=sP D;exact dI _ _ rfl U.wide
noncomputable def pH(c:Nf)(q:MT)(r:MR)(B:MU):Prop:=∃x,B.Ns c.locals x/\x q=S (.ref r)
theorem pH.keep{own:V MR}{fr:V MR}{f:MT}{r:MR}(p:bk own c j)(K:Inv a e own b k d.heap)(s:pH c f r d.heap)(z:aQ a e own fr b d ak bc ap)(n:c.locals∉fr):pH c f r ap.heap:=aM s λx cm D=>dF cm λg y T o h U=>z.keep.el o (K.off _ p.loc).1 n λY t G q=>ba x ⟨t,y,T,G,q.data.trans h,U⟩ D
structure mi(w:Ni)(g₀:MU)(own:V MR)(l:V Nf)(env:Nf)(sl:V (O MT))(uh:MT)(x d:MR)(c:dG)(loc:Loc)(ks:V Z)(vs:V Q)(r:bI)(H:AH)(s:MV):Prop where
 st:St w g₀ own l env sl r H loc s
 at':∃es n,iG s x d c es n/\FR w.params (Sf s.heap r own) r ks vs es.toList
 sat:pH env uh x s.heap
structure ke(own:V MR)(env:Nf)(uh:MT)(x d:MR)(c:dG):Prop where
 ix:own.count x=1
 id:own.count d=1
 ne:x≠d
 nx:x∉bA env
 nd:d∉bA env
 ks:env.kindOf uh=S .local
 kd:(uh==("__debug__":MT))=MS
 ce:c≠.bR
theorem eX(B:g.count n=1):n∈g:=R'.mp (by refine R B ?_;decide)
theorem mi.on{s:MV}{q:MT}{r:MR}{C:dG}(G:ke g c q r A C)(p:bk g c j)(d:mi a e g l c j q r A C w ae au b k s)(z:aQ a e g [] b s ak bc ap):mi a e g l c j q r A C w ae au ak bc ap:=by
 refine cj d.at' λy m h n=>?_;have f:∀{I:MR} {K:Nk},g.count I=1->s.heap.get? I=S K->ap.heap.get? I=S K:=λ{I K} B D=>by refine z.keep.el D (d.st.inv.off I (eX B)).1 (λx=>nomatch x) λY t i L=>?_;exact R (L.once (n6 B rfl)).symm i
 exact⟨d.st.on p z,⟨y,m,⟨f G.ix h.x,f G.id h.d⟩,n.mono (λY Y U=>z.FP U) z.le⟩,d.sat.keep p d.st.inv z λx=>nomatch x⟩
theorem oj{q:MT}{a1:MR}{C:dG}{d:Z}{fs:V Z}{U:MN}{p1:Nh}{a2:NO->MV->Prop}(X:Gr v e P be bg bf)(p:bk g c j)(G:ke g c q a1 A C)(H:mi a e g l c j q a1 A C w ae au ak bc ap)(J:ae++d :: fs=bT C)(E:VR a.params (Sf ap.heap ak g) ak m U)
  (a0:∀o,aQ a e g [A] ak ap ak bc o->mi a e g l c j q a1 A C w (ae++[d]) (au++[m]) ak bc o->a2 () o) :
  MY (MX h a) f (PySem.eval (.Name q p1) c) (λy a5=>MY (MX h a) f (PK y (sx d) U) a2 t a5) t ap:=by
 refine aM H.sat λx hn hm=>O8 ?_ G.kd;refine O9 p.kind G.ks hn hm (cj H.at' λT b k I=>?_);have hf:d∈bT C:=by rw[<-J];exact RO _ (.head _)
 have lt:=λa0 x=>gs C a0 (by rw[<-J];exact RK _ x);have a4:d∉ae:=λx=>by have n:=lz C;rw[<-J] at n;exact(Sl.mp n).2.2 d x d (.head _) rfl
 have s:T.size<500:=by
  have:(bT C).length<500:=by induction C using dG.casesOn<;>decide +kernel
  rw[<-J,RE] at this;rw[<-RH,I.len.2];exact RM (R5 _ _) this
 refine tY (r:=ak) X.ok X.set (X.In H.st.inv) G.ce hf k I lt s λh' B n' a7 a6 he g' sb=>?_;rw[I.xP lt (gs C d hf) a4] at he;have i:∀M z,M≠A->ap.heap.get? M=S z->h'.get? M=S z:=λM z L D=>(sb.2 M L).trans D;have o2:aQ a e g [A] ak ap ak bc {ap with heap:=h',toks:=B}:=.mk' (H.st.inv.loose i (.inl (eX G.id)) ((H.st.inv.off A (eX G.id)).1) λY=>⟨_,g'⟩) (.but (a:=A) i (.inr (.inl (.head _)))) (.refl ak);have S2:∀M K,Sf ap.heap ak g M K->Sf h' ak g M K:=λM K a3=>o2.sf (λm x=>.inl (by rw[Rw.mp x];exact eX G.id)) a3;refine a0 _ o2 ⟨H.st.Hy p o2 G.nd G.id,⟨a6,n',⟨i _ _ G.ne k.x,g'⟩,?_⟩,H.sat.keep p H.st.inv o2 λx=>G.nd (by rw[<-Rw.mp x];exact .head _)⟩;rw[he];exact(I.mono S2 (.refl ak)).snoc (E.mono S2 (.refl ak))
theorem xQ{a0:MT}{a2:MR}{C:dG}{fs:V Z}{y:cA}{xs:V M8}(a4:Gr v e P be bg bf)(R:bo bh q f (c :: o))(p:bk g c j)(G:ke g c a0 a2 A C)(T:Az h a e (c :: o) c j f i a0 fs y xs) :
  ∀{ks:V Z} {vs:V Q} {H:bI} {b:AH} {t:MV},mi a e g (c :: o) c j a0 a2 A C w ks vs H b t->ks++fs=bT C->bp i y w b≠.bad->
   MY (MX h a) f (Oh xs c) (λa1 s'=>a1=.next/\∃k r K,bp i y w b=.ok (k,r)/\aQ a e g [A] H t K r s'/\mi a e g (c :: o) c j a0 a2 A C w (bT C) (vs++k) K r s')
    (ES a e g (MX h a) f [A] o c (bp i y w b).x? H t) t:=by
 have a3:∀I∈[A],I∈g:=λI x=>by rw[Rw.mp x];exact eX G.id
 induction T with
 |nil=>intro ks vs H b t s J B;rw[Sx] at J;refine Oj ⟨rfl,[],b,H,rfl,.refl s.st.inv,?_⟩;rw[Sx,<-J];exact s
 |@cons a1 fs a8 y y' xs l p2 p3 a5 T d=>
  intro ks vs H b t s J B;rw[fR] at B⊢;refine PJ (QT ((a5 g H b t w p s.st).bindG R s.st.live a3 (.refl s.st.inv) (λI z r1 s1 va X o1 l E a6=>?_) B) (ib (.Name a0 _) (sx a1) _ p3.line c));rw[X,Res.aP];refine oj a4 p G (s.on G p l) J E λs2 o2 y2=>?_;have Y:bp i y w z≠.bad:=λL=>a6 ((bL L).trans rfl);refine Nj (d y2 (by refine(Sm ..).trans ?_;exact J) Y) (λf' s' L=>?_) λe' s' L=>?_;·obtain⟨rfl,k,r,K,m,o3,D⟩:=L;refine⟨rfl,I :: k,r,K,by rw[m];rfl,(o1.trans o2).trans o3,?_⟩;rw[Sm] at D;exact D
  ·refine L.mono λa7 n U=>cj U λtt r e3 U=>dI tt r ?_ (U.pre (o1.trans o2) a3)
   induction L:bp i y w z using Wn with
   |ok _=>exact nX (L▸e3)
   |bad=>exact Ng L Y
   |exc M H2=>replace e3:=L▸e3;obtain⟨rfl,rfl⟩:=sP e3;rfl
theorem cu.comp{c:V MR}{d:V MR}{b:V MR}{e:V MR}{a:MU}{G:MU}(I:cu g c [] b p a)(M:cu c d [] e a G):cu g d [] b p G:=
 have l:∀{L:MR},a.get? L=N->p.get? L=N:=λ{L} D=>by
  induction U:p.get? L using Rx with
  |none=>rfl
  |some z=>replace D:=(I.hs L z U)▸D;cases D
 ⟨λL z D=>M.hs L z (I.hs L z D),λL x=>M.sub L (I.sub L x),λL x=>(M.new L x).elim (I.new L) λD=>.inr (l D),I.C8,λL x=>(M.cnt L x).elim (I.cnt L) λD=>.inr (l D),λL=>RG (I.le L) (M.le L)⟩
theorem bo.deeper(R:bo bh (q+1) f l):bo bh q (f.deeper c) (c :: l):=⟨R.handled,Nv.frames_deeper R.frames,FG R.depth rfl,FG R.units rfl⟩
theorem bo.make{A:Nv}{M:MR}{U:V MN}(R:bo bh (q+1) A l):bo bh q ((A.under (.builtin "type.__call__" ⟨.ref M :: U,[]⟩)).deeper c) (c :: l):=⟨R.handled,Nv.frames_deeper (A:=A.under (.builtin "type.__call__" ⟨.ref M :: U,[]⟩)) R.frames,Jz R.depth rfl,Jz R.units rfl⟩
noncomputable def mj(C:dG):Res (V Q×AH)->Res (Q×AH):=λL=>L.bind λy=>if fQ C then .ok (.obj C y.1,y.2) else .ok (.aA y.2.I.length,{y.2 with I:=y.2.I++[(C,y.1)]})
theorem ui{o:NI}(H:∀M z,p.get? M=S z->X.get? M=S z)(r:p.CodeRec o.code o.qualname):X.CodeRec o.code o.qualname:=qw r λf b w n a m s Y=>gU f b w n a (H _ _ m) s Y
theorem uj{s:MV}{c4:Loc}{a0:MT}{C:dG}{o:NI}{a2:V MT}{c9:V M8}{ds a3:V MN}{d:V Q}{r:MR}{P:Nf->MV->Prop}(hc:C≠.bR)(d2:cH o a2 j c9)(a6:Ay a e o d ds)(L:e.NoLimit)(h3:d.length<=a2.length)(h4:a2.length<=j.length)
  (n0:a2[0]? = S a0) (kl:o.scope.names.lookup a0=S .local) (kd:(a0==("__debug__":MT))=MS)
  (a8:Inv a e g b k s.heap) (lv:cM l g [] s.heap) (E:bN a.params (Sf s.heap b g) b z a3) (hb:bindArgs a2.length d j.length (.none :: z)=S c4) (hl:w=c4.set 0 N)
  (H:∀c J m B,c=N5 o ((s.heap.push NH).push (NC (CA C) s.heap.objs.size)).objs.size r->bk J c j->ke J c a0 (s.heap.objs.size+1) s.heap.objs.size C->mi a e J (c :: l) c j a0 (s.heap.objs.size+1) s.heap.objs.size C w [] [] b k {s with heap:=m,toks:=B}->
   cu g J [] [s.heap.objs.size] s.heap m->P c {s with heap:=m,toks:=B}) :
  MY T f (PySem.bindArgs o ⟨.ref (s.heap.objs.size+1) :: a3,[]⟩) (λc7 X=>MY T f (Qh o.scope o.globals o.closure c7 (o.qualname++".<locals>.") (S r) o.code N o.builtins) (λc c6=>c6.heap.NoLimit/\P c c6) t X) t {s with heap:=(s.heap.push NH).push (NC (CA C) s.heap.objs.size)}:=by
 refine fM (gB hb) λy q2 c5=>?_;rw[SY] at y q2;have A:=E.len;have ld:d.length=ds.length:=(a6.vals a.params (Sf s.heap b g) b).len;have a7:s.heap.get? s.heap.objs.size=N:=bS _;have Y:s.heap.get? (s.heap.objs.size+1)=N:=SU (Sn _);have a4:∀M a9,s.heap.get? M=S a9->((s.heap.push NH).push (NC (CA C) s.heap.objs.size)).get? M=S a9:=λM a9 D=>Rz _ (Rz _ D);have gx:((s.heap.push NH).push (NC (CA C) s.heap.objs.size)).get? (s.heap.objs.size+1)=S (NC (CA C) s.heap.objs.size):=by heap_get
 have gd:((s.heap.push NH).push (NC (CA C) s.heap.objs.size)).get? s.heap.objs.size=S NH:=by heap_get
 have W1:cu g ([s.heap.objs.size+1,s.heap.objs.size]++g) [] [s.heap.objs.size] s.heap ((s.heap.push NH).push (NC (CA C) s.heap.objs.size)):=by
  have a1:=cu.more (own:=g) (fr:=[]) (ns:=[s.heap.objs.size+1,s.heap.objs.size]) (λM hb=>by
   rcases RB.mp hb with rfl|hb;·exact Y
   ·rw[Rw.mp hb];exact a7) (by simp) a4
  exact⟨a1.hs,a1.sub,a1.new,λq x=>.inr (by rw[Rw.mp x];exact a7),a1.cnt,a1.le⟩
 have v:∀{I:MR},s.heap.get? I=N->g.count I=0:=λ{I} D=>RZ (a8.no D);have i1:Inv a e ([s.heap.objs.size+1,s.heap.objs.size]++g) b k ((s.heap.push NH).push (NC (CA C) s.heap.objs.size)):=a8.cY W1.new a4 λM x=>by
  rcases RL.mp x with x|x
  ·rcases RB.mp x with rfl|x;·exact⟨_,gx⟩
   ·rw[Rw.mp x];exact⟨_,gd⟩
  ·exact a8.FL a4 x
 have d0:cM l ([s.heap.objs.size+1,s.heap.objs.size]++g) [] ((s.heap.push NH).push (NC (CA C) s.heap.objs.size)):=lv.cY W1.le a4;have v1:bN a.params (Sf ((s.heap.push NH).push (NC (CA C) s.heap.objs.size)) b ([s.heap.objs.size+1,s.heap.objs.size]++g)) b z a3:=E.mono (λε ε U=>(U.cY W1.new).grow a4) (.refl b);have tl:bN a.params (Sf ((s.heap.push NH).push (NC (CA C) s.heap.objs.size)) b ([s.heap.objs.size+1,s.heap.objs.size]++g)) b (z++d.drop (z.length+1+d.length - a2.length)) (a3++ds.drop (a3.length+1+ds.length - a2.length)):=by rw[A,ld];exact v1.append ((a6.vals _ _ _).drop _)
 refine sg (s:={s with heap:=(s.heap.push NH).push (NC (CA C) s.heap.objs.size)}) (vals:=.ref (s.heap.objs.size+1) :: a3) (loc:=w) d2 (uf.at L i1) (a6.reads i1) (by rw[SY];exact A▸y) (by rw[SY];exact A▸ld▸q2) (ld▸h3) i1 d0 ?_ (λi I D=>?_) λc J s1 he eo st d1 hk c8=>?_;·rw[hl,c5,Ta];exact oS y q2 h4
 ·induction i using RX with
  |zero=>
   replace D:=hl▸D
   refine hF λd5=>?_
   induction c4 using RC with
   |nil=>cases D
   |cons b9 ys=>cases D
  |succ i=>rw[hl,c5] at D;have e2:=pG D;refine aM (tl.get (i:=i) (a:=I) e2) λd4 e3 U=>ba d4 ?_ U;exact e3
 ·subst he;refine cj d1 λm B bG n=>?_;subst bG;have a1:=W1.comp n;have c3:∀{I:MR} {K:Nk},([s.heap.objs.size+1,s.heap.objs.size]++g).count I=1->((s.heap.push NH).push (NC (CA C) s.heap.objs.size)).get? I=S K->J.count I=1:=λ{I K} D a5=>by
   have p:1<=J.count I:=RG (R1 D.symm) (n.le I);have G:¬2<=J.count I:=λq=>(n.cnt I q).elim (λU=>Ng (RG U (R1 D)) (by decide)) λU=>by replace U:=a5▸U;cases U
   exact Vf (TZ (V7 G)) p
  have h:∀{I:MR} {K:Nk},((s.heap.push NH).push (NC (CA C) s.heap.objs.size)).get? I=S K->I∉bA (N5 o ((s.heap.push NH).push (NC (CA C) s.heap.objs.size)).objs.size r):=λ{I K} a5 x=>(n.C8 I x).elim (λU=>nomatch U) λU=>by replace U:=a5▸U;cases U
  have c1:([s.heap.objs.size+1,s.heap.objs.size]++g).count (s.heap.objs.size+1)=1:=by rw[R9,v Y,T9,Vy (Iw rfl),V.count_nil]
  have c2:([s.heap.objs.size+1,s.heap.objs.size]++g).count s.heap.objs.size=1:=by rw[R9,v a7,Vy (KC rfl),T9,V.count_nil]
  have d3:ke J (N5 o ((s.heap.push NH).push (NC (CA C) s.heap.objs.size)).objs.size r) a0 (s.heap.objs.size+1) s.heap.objs.size C:=⟨c3 c1 gx,c3 c2 gd,Vb _,h gx,h gd,kl,kd,hc⟩;have b9:mi a e J (N5 o ((s.heap.push NH).push (NC (CA C) s.heap.objs.size)).objs.size r :: l) (N5 o ((s.heap.push NH).push (NC (CA C) s.heap.objs.size)).objs.size r) j a0 (s.heap.objs.size+1) s.heap.objs.size C w [] [] b k {s with heap:=m,toks:=B}:=by refine⟨st,⟨#[],0,⟨hk _ _ gx,hk _ _ gd⟩,.nil⟩,?_⟩;exact aM c8 λx hn hm=>⟨x,hn,hm 0 a0 _ n0 rfl kl⟩
  exact H _ J _ _ rfl eo d3 b9 a1
theorem AA{s:MV}{c8:Loc}{a6:MT}{C:dG}{o:NI}{a2:V MT}{a8:V M8}{vs:cA}{ds a9:V MN}{a7:V Q}{r:MR}(c3:Gr v e P be bg bf)(hc:C≠.bR)(a3:cH o a2 j a8)(R:bo bh (q+1) f l)
  (mk:Ql v (CA C)=MK) (hi:N7 v (.ref (CA C)) "__init__"=S (S (.ref r))) (ht:Ob v (.ref r)=S (.type "function"))
  (ho:e.get? r=S ah) (c9:ah.data=.func o) (c4:e.NoLimit) (t:e.CodeRec o.code o.qualname) (c7:Ay a e o a7 ds) (h3:a7.length<=a2.length) (h4:a2.length<=j.length)
  (n0:a2[0]? = S a6) (kl:o.scope.names.lookup a6=S .local) (kd:(a6==("__debug__":MT))=MS)
  (K:Inv a e g b k s.heap) (lv:cM l g [] s.heap) (d0:bN a.params (Sf s.heap b g) b z a9) (hb:bindArgs a2.length a7 j.length (.none :: z)=S c8) (hl:w=c8.set 0 N) (B:bp i vs w k≠.bad)
  (E:∀b9,Az h a e (N5 o b9 r :: l) (N5 o b9 r) j ((f.under (.builtin "type.__call__" ⟨.ref (CA C) :: a9,[]⟩)).deeper (N5 o b9 r)) i a6 (bT C) vs a8) :
  NJ (MX h a) f (.call (.ref (CA C)) ⟨a9,[]⟩) (RR a e g l (mj C (bp i vs w k)) b s) s:=by
 have a5:v.In s.heap:=c3.In K;have k0:∀M ah,e.get? M=S ah->((s.heap.push NH).push (NC (CA C) s.heap.objs.size)).get? M=S ah:=λM ah D=>Rz _ (Rz _ (K.keep M ah D).1);obtain⟨hp,a0,p,n,os⟩:=s;refine make_core (makes_of a5 mk) (Pf a5 hi) (λc6=>bind_fn a5 c6 ht) (.inl rfl) (Rt (s:=⟨(hp.push NH).push (NC (CA C) hp.objs.size),a0,p,n,os⟩) (BW R.depth rfl) (k0 _ _ ho) c9 a3.co a3.gen a3.body (ui k0 t) (uj (s:=⟨hp,a0,p,n,os⟩) (P:=λc X=>NJ (MX h a) _ (.func a8 c) _ X) hc a3 c7 c4 h3 h4 n0 kl kd K lv d0 hb hl λc J m tk he eo c1 c5 a1=>codeAny_func ?_));subst he;refine Nj (xQ c3 R.make eo c1 (E _) c5 rfl B) (λA s' L=>?_) λD s' L=>?_
 ·obtain⟨rfl,us,H',r',e1,ah,y'⟩:=L
  refine⟨rfl,?_⟩
  rw[e1]
  refine cj y'.at' λy x a4 A=>?_
  have d:aQ a e g [] b ⟨hp,a0,p,n,os⟩ r' H' s':=aQ.back (s:=⟨hp,a0,p,n,os⟩) a1 (ah.inc λC x=>x)
  have mx:hp.objs.size+1∈J:=eX c1.ix
  have md:hp.objs.size∈J:=eX c1.id
  have c2:hp.get? hp.objs.size=N:=bS _
  have Y:hp.get? (hp.objs.size+1)=N:=SU (Sn _)
  have nx:hp.objs.size+1∉g:=K.no Y
  have nd:hp.objs.size∉g:=K.no c2
  unfold mj
  rw[Res.aP]
  induction hf:fQ C using RD with
  |true=>exact .ok d (.obj C us _ _ y x ⟨a4.x,(y'.st.inv.off _ mx).1,nx⟩ ⟨a4.d,(y'.st.inv.off _ md).1,nd⟩ (A.mono (λε ε U=>U.back a1.sub) (.refl _)))
  |false=>
   have iB:Inv a e g (r'.uQ (hp.objs.size+1,hp.objs.size)) {H' with I:=H'.I++[(C,us)]} s'.heap:=y'.st.inv.C4 (q:=(hp.objs.size+1,hp.objs.size)) mx md (Vb _) (λM x=>⟨a1.sub M x,(λD=>nx (by have D:M=hp.objs.size+1:=D;rw[<-D];exact x)),λD=>nd (by have D:M=hp.objs.size:=D;rw[<-D];exact x)⟩) a4.x a4.d A
   have G:=More.I r' (hp.objs.size+1,hp.objs.size)
   refine .ok (r':=r'.uQ (hp.objs.size+1,hp.objs.size)) ⟨d.eq,iB,⟨λM ob D z1 z2=>?_⟩,λH I D=>G.le.L H I (d.le.L H I D),λH I D=>G.le.D H I (d.le.D H I D),λH I D=>G.le.B H I (d.le.B H I D),λH I D=>G.le.I H I (d.le.I H I D)⟩ (.aA _ (hp.objs.size+1) hp.objs.size (by rw[<-y'.st.inv.dt.jc];exact fU))
   refine bM (d.keep.get M ob D z1 z2) λz3 z4=>⟨λU=>(G.mem.mp U).elim (λU=>?_) z3,z4⟩
   rcases RB.mp U with U|U
   ·rw[U,Y] at D;cases D
   ·rw[Rw.mp U,c2] at D;cases D
 ·have T : (mj C (bp i vs w k)).x? = (bp i vs w k).x?:=by
   unfold mj
   cases bp i vs w k with
   |ok L=>rw[Res.aP];induction(fQ C) using RD<;>rfl
   |exc _ _=>rfl
   |bad=>rfl
  refine Nj L (λε s2 U=>?_) λe2 s2 U=>?_
  ·show EE _ _ _ _ _ _ _ _ _;rw[T];exact EF.back (s:=⟨hp,a0,p,n,os⟩) a1 U
  ·show EE _ _ _ _ _ _ _ _ _;rw[T];exact EF.back (s:=⟨hp,a0,p,n,os⟩) a1 U
section
open Builtin.ObjectAttr
noncomputable def IU:V MN:=[.type "Exception",.type "BaseException",.type "object"]
noncomputable def Gg(E:MN):O MR:=vw MN.ctorIdx 10 E λB=>T5 E B λI=>S I
theorem Du(E:MN):aZ (Gg E) λI=>E=.ref I:=dq λB=>T5 (motive:=λE=>∀B,aZ (T5 (motive:=λ_=>O MR) E B λI=>S I) λI=>E=.ref I) E B (λI _=>rfl) B
noncomputable def ie:V MN->MO
 |[]=>MS
 |E :: y=>((Gg E).any λY=>ie y)||MW (E :: y=IU)
theorem sh(A:MN){T:V MN}(B:ie T=MK):refuseLoop A "__setattr__" T=pure ():=by
 induction T with
 |nil=>exact bF B
 |cons E y d=>
  rcases Sy.mp B with B|B;·exact k0 (P:=λE=>refuseLoop A "__setattr__" (E :: y)=pure ()) (Du E) B λI B=>((refuseLoop_ref ..).trans (d B))
  ·exact R (M5 B) (PySem.F.store_Exception.passes A)
theorem AB{T:V MN}(B:ie T=MK):T.contains (.type "object")=MK:=by
 induction T with
 |nil=>exact bF B
 |cons E y d=>
  rcases Sy.mp B with B|B;·refine aM (NQ B) λY Y B=>?_;refine V.contains_cons.trans ?_;refine R (d B) ?_;exact(MO.or_true ..)
  ·refine R (M5 B) ?_;decide +kernel
structure vD(K:Nz):Prop where
 sa:N7 K (.ref (CA .bR)) "__setattr__"=S (S (.builtin "object.__setattr__"))
 over:(OC K (CA .bR)).any (λcd=>ie cd.mro)=MK
 xk:PA K (CA .bR) (sx 76)=S N
 make:mh K (CA .bR)=MK
 init:N7 K (.ref (CA .bR)) "__init__"=S (S (.ref 36))
 fn:Ob K (.ref 36)=S (.type "function")
theorem vE{s:MV}{r:MR}{M:MR}{H:NP->MV->Prop}{z:Nk}{J:O Nk}{g:MT}{B:NL}{y:O MN}(i:v.In s.heap)(k:InstAt s.heap r z M J)(t:(OC v M).any (λK=>ie K.mro)=MK)(p:PA v M g=S y)
  (x:∀n,MY (MX h a) f.in1 (match y with|some I=>setByDescriptor I (.ref r) aa|none=>storeInOwnDict (.ref r) (.ref M) (.str g B) g aa n)
   (λT l=>match T with|.done A=>H (.ok A) l|.again o=>o.quiet=MK/\NJ (MX h a) f o H l) (λD l=>H (.error D) l) s) :
  NJ (MX h a) f (.call (.builtin "object.__setattr__") ⟨[.ref r,.str g B,aa],[]⟩) H s:=by
 have d:=PySem.F.store_object;refine aM (NQ t) λK j G=>?_;have m:K.mro.isEmpty=MS:=by cases q:K.mro with|nil=>replace G:=q▸G;cases G|cons _ _=>rfl
 refine Ri d.slot.plain d.entry (@P8 (MX h a) _ _ s "object.__setattr__" "object" "__setattr__" (.ref r) [.str g B,aa] [] _ d.kind d.split (k.type.andThen (P9 i (by refine(oL j).trans ?_;refine(TF ..).trans ?_;refine(Nc (by rw[m];decide)).trans ?_;rw[AB G]))) (d.args (.ref r) (.str g B) aa) ?_);refine iU p λb c P=>?_;have e:Nt (MX h a) s.heap (storeTaker? b) y:=by
  clear d m t p
  induction b using Rx with
  |none=>exact sJ P .now
  |some I=>refine wg P λn w bG=>?_;clear P;subst bG;refine(looks_takesIn i w).andThen ?_;clear w;induction n using RD<;>exact .now
 rw[osa_eq,refuse_eq];refine MQ (MQ (k.type.here (MQ ((show Nt (MX h a) s.heap (mroOf (.ref M)) K.mro from(Qc i j).andThen .now).here ?_))));rw[sh _ G];refine MZ (MQ (k.type.here (MQ ((Pf i c).here (MQ (e.here ?_))))));exact x _
theorem AD{s:MV}{r:MR}{n:MR}{o:MN}{c:NO->MV->Prop}(k1:uZ v)(i:vD v)(b:v.In s.heap)(x:s.heap.get? r=S (gP (CA .bR) n))
  (H:∀m B P,(∀M z,M≠r->s.heap.get? M=S z->m.get? M=S z)->m.get? r=S {gP (CA .bR) n with dict:=S s.heap.objs.size}->m.get? s.heap.objs.size=S (bC #[⟨Sr a.params (sx 76),.str (sx 76) P,o⟩] 1)->c () {s with heap:=m,toks:=B}) :
  MY (MX h a) f (PK (.ref r) (sx 76) o) c t s:=by have k:InstAt s.heap r (gP (CA .bR) n) (CA .bR) N:=⟨x,rfl,rfl,trivial⟩;refine aM k1.cls λK p e=>set_plain b k i.sa (vE (s:={s with toks:=s.toks+1}) b k i.over i.xk λM=>?_);refine MQ (MZ (MQ (MQ (O2 x (MQ (Nt.here (s:={s with toks:=s.toks+1}) (Qc b p) ?_))))));refine R e (MQ (wpAny_alloc ?_));have y:(s.heap.push NH).get? r=S (gP (CA .bR) n):=Rz _ x;refine MQ (QP y ?_);refine MZ (a:=S s.heap.objs.size) ?_;have j:=S6 (SD x);have d:((s.heap.push NH).update r λz=>{z with dict:=S s.heap.objs.size}).get? s.heap.objs.size=S NH:=(S8 _ _ (S7 j)).trans (R3 _ rfl);have g:((s.heap.push NH).update r λz=>{z with dict:=S s.heap.objs.size}).get? r=S {gP (CA .bR) n with dict:=S s.heap.objs.size}:=R8 _ y rfl;refine MQ (MZ (MQ ?_));refine MQ (MQ (Qv (MZ (MQ (QE (MQ (O2 d ?_)))))));refine R (show(!(#[]:M0 Nr).any (·.key.isStr (sx 76))&&(#[]:M0 Nr).any (·.refKey))=MS from by simp) ?_;have G:=R8 (Vn (sx 76) (Sr a.params (sx 76)) (.str (sx 76) (s.toks+1)) o) d (by refine R (show NH=bC #[] 0 from rfl) ?_;exact R (show Vn (sx 76) (Sr a.params (sx 76)) (.str (sx 76) (s.toks+1)) o (bC #[] 0)=bC #[⟨Sr a.params (sx 76),.str (sx 76) (s.toks+1),o⟩] 1 from rfl) rfl);refine Rn d ?_;refine MQ (Qb G (Ro (by refine R N8 ?_;exact Va _)) ?_);refine MZ (H _ _ _ (λM z w D=>?_) ((S8 _ _ j).trans g) G);have l:s.heap.objs.size≠M:=S6 (SD D);exact(S8 _ _ l).trans ((S8 _ _ (S7 w)).trans (Rz _ D))
end
structure si(w:Ni)(h h':MU)(x d tup:MR)(tv:MN):Prop where
 kept:∀b o,h.get? b=S o->h'.get? b=S o
 nx:h.get? x=N
 nd:h.get? d=N
 nt:h.get? tup=N
 dx:d≠x
 tx:tup≠x
 gx:h'.get? x=S {gP (CA .bR) tup with dict:=S d}
 gd:∃tt,h'.get? d=S (bC #[⟨Sr w.params (sx 76),.str (sx 76) tt,tv⟩] 1)
theorem AE{c9:Z}{a0:MT}{a2:MT}{o:NI}{ds:V MN}{a4:V Q}{n:Q}{i:MN}{R:NP->MV->Prop}{p1 p2 p3 p4:Nh}(C:Gr v e P be bg bf)(k2:vD v)(x:cH o [a0,a2] j [.Assign [.Attribute (.Name a0 p1) (sx 76) p2] (.Name a2 p3) p4])(c:bo bh (c9+1) f l)
  (G:e.get? 36=S ah) (a6:ah.data=.func o) (L:e.NoLimit) (a3:e.CodeRec o.code o.qualname) (t:Ay a e o a4 ds) (T:a4.length<=2) (X:j.length=2)
  (kl:o.scope.names.lookup a0=S .local) (kt:o.scope.names.lookup a2=S .local) (z:(a0==("__debug__":MT))=MS) (w:(a2==("__debug__":MT))=MS)
  (K:Inv a e g b k d.heap) (lv:cM l g [] d.heap) (E:VR a.params (Sf d.heap b g) b n i)
  (H:∀m B a5 a8 c2,si a d.heap m a5 a8 c2 i->R (.ok (.ret (.ref a5))) {d with heap:=m,toks:=B}) :
  NJ (MX h a) f (.call (.ref (CA .bR)) ⟨[i],[]⟩) R d:=by
 have ld:=(t.vals a.params (Sf d.heap b g) b).len;have k0:=λM ah D=>(K.keep M ah D).1;have a1:=C.In K;obtain⟨s,a9,dd,c4,os⟩:=d;have r:∀M ah,s.get? M=S ah->((s.push {cls:=.type "tuple",data:=.seq [i].toArray}).push (gP (CA .bR) s.objs.size)).get? M=S ah:=λM ah D=>Rz _ (Rz _ D);have gx:((s.push {cls:=.type "tuple",data:=.seq [i].toArray}).push (gP (CA .bR) s.objs.size)).get? (s.objs.size+1)=S (gP (CA .bR) s.objs.size):=by heap_get
 have i1:Inv a e g b k ((s.push {cls:=.type "tuple",data:=.seq [i].toArray}).push (gP (CA .bR) s.objs.size)):=K.grow r;have A:cM l g [] ((s.push {cls:=.type "tuple",data:=.seq [i].toArray}).push (gP (CA .bR) s.objs.size)):=lv.cY (λY=>Sb _) r;refine xI (oi a1 k2.make) (by have:N0=_:=N8;simp;exact Va _) (Pf a1 k2.init) (λc1=>bind_fn a1 c1 k2.fn) ?_;refine enter (s:=⟨(s.push {cls:=.type "tuple",data:=.seq [i].toArray}).push (gP (CA .bR) s.objs.size),a9,dd,c4,os⟩) (vals:=[.ref (s.objs.size+1),i]) (loc:=[N,S n]) x (BW c.depth rfl) (r _ _ (k0 _ _ G)) a6 (uf.at L i1) ?_ (t.reads i1) (Sb _) (by simp) (by rw[<-ld];exact T) i1 A (by simp[X]) (λa7 I D=>?_) λd0 d1 s1 he p st y J b9=>?_;·exact qw a3 λcc oc vs n e1 e2 e3 e4=>gU cc oc vs n e1 (r _ _ (k0 _ _ e2)) e3 e4
 ·rcases a7 with _|_|a7;·exact nX (sX D)
  ·obtain rfl:=sX (sX D);exact ba i rfl (E.mono (λY Y U=>U.grow r) (.refl b))
  ·exact nX D
 ·subst he;refine cj y λm B bG c5=>?_;clear y c5 ld k0 a1 i1 A x c G a6 L a3 t X K lv E;subst bG;refine aM b9 λc8 hn hm=>PJ (QT ?_ (ib (.Name a0 _) (sx 76) _ p4.line _));refine O8 (O9 p.kind kt hn (hm 1 a2 i rfl rfl kt) ?_) w;refine O8 (O9 p.kind kl hn (hm 0 a0 _ rfl rfl kl) ?_) z;refine AD C.err k2 (C.In st.inv) (J _ _ gx) λT c7 tt kp c6 c3=>Oj ⟨rfl,H T c7 (s.objs.size+1) m.objs.size s.objs.size ⟨λM ah D=>kp M ah (λq=>?_) (J _ _ (r _ _ D)),SU (Sn _),?_,bS _,?_,Td (SA _),c6,tt,c3⟩⟩;·have:=SD D;rw[q] at this;exact Ng this (Ti.mpr (Sn _))
  ·refine SU ?_;have:=SD (J _ _ gx);exact Tf (Z.lt_of_succ_lt this)
  ·exact S6 (SD (J _ _ gx))
theorem nE{K:Nz}{M:NZ}{r:Nl MN}{o:ND->MV->Prop}(k1:uZ K)(h:Ob K (.ref (CA .bR))=S (.type "type"))(l:f.handled=N)
  (B:MY M f r (λE X=>∃D k w,E=.ref D/\K.In X.heap/\X.heap.get? D=S k/\k.cls=.ref (CA .bR)/\k.data=.fields w/\w[1]? = S .none/\t (.ref D) X) t d):MY M f (raiseStmt c (S r) N) o t d:=by
 refine MQ (Nj B (λE X U=>?_) λY Y r=>r);refine KX U λD k w bG e C j J P y=>R bG ?_;have x:Nt M X.heap (PO (.ref D)) (.ref (CA .bR)):=by have:=(Nt.ld (M:=M) (part:=S headPart) C).andThen (f:=λz=>Pure.pure z.cls) (b:=.ref (CA .bR)) (by exact R j .now);exact this
 have a:∀{o:MO->MV->Prop},o MS X->MY M f (isType (.ref D)) o t X:=λq=>by refine MQ (O2 C ?_);exact R J (MZ q)
 refine MQ (MZ ?_);refine MQ (Nx ?_);refine MQ (MQ (a (MZ ?_)));refine MQ ((x.andThen (f:=λn=>Om n (.type "BaseException")) (P9 e k1.sub)).here ?_);refine MZ (MQ (a ?_));refine MQ (MQ (x.here (MQ ((looks_typeIn e h).here ?_))));refine MZ (MQ (MQ (ON C J P ?_)));exact MZ (wpAny_raiseNew_none l y)
theorem mn{a:MU}:∀{T:V Nf},cM T g [] p->(∀D∈T,∀I,D.frame=S I->a.get? I=N)->p.FunFrames a T:=by
 intro T;induction T with
 |nil=>intro _ _;trivial
 |cons D T f=>intro M w;refine hF λP=>M.el (.head _) λH I z y q A Y Y o h=>P ?_;exact fB H (qv I z A (w D (.head _) I A) o (λb L=>by replace L:=h.symm.trans L;cases L)) (f ⟨λj x=>M.all j (.tail _ x)⟩ λj x=>w j (.tail _ x))
theorem nH{fr:V MR}{c3:Z}{r:MR}{a3:Q}{i:MN}{n:MR}{B:Z}{a4:NO->MV->Prop}(R:bo bh c3 f (c :: o))(K:Inv a e g b k d.heap)(M:cM (c :: o) g [] d.heap)(E:VR a.params (Sf d.heap b g) b a3 i)(x:si a d.heap X r A n i)
  (H:∀v,EF a e g fr o (S (a3,k)) b d (.ref r) v->a4 () v):MY T f (OE c (.ref r)) a4 t {d with heap:=X,toks:=B}:=by
 refine hF λc2=>?_;have i2:=K.grow x.kept;have L:=M.cY (λY=>Sb _) x.kept;have xo:r∉g:=K.no x.nx;have xf:r∉(c :: o).filterMap (·.frame):=λs=>by refine aM (TX.mp s) λD C J=>M.el C λY a5 z Y Y a9 a1 Y Y Y=>?_;replace J:=a9.symm.trans J;obtain rfl:=sX J;exact xo (R'.mp (n4 a1 rfl))
 refine M.el (.head _) λY a5 Y Y Y J Y Y Y Y=>dD x.gd λP gd=>c2 ((mc _ _).at (wpAny_leaving_firstW (base:=hideAll X (r :: (c :: o).filterMap (·.frame))) (a0:=.ref n) R.frames (mn L (λD C a5 J=>Q4 _ (.tail _ (TX.mpr (ba D C J))))) J x.gx (λa2 z w=>of_hideAll _ w) (Q4 _ (.head _)) rfl rfl rfl λh4 p dk=>?_));refine hF λa8=>qo p λk1 cm k3 k4=>fM cm λY Y k2=>aM (dk r _ x.gx) λb9 G dd=>?_;have a7:A∉g:=K.no x.nd;have kS:∀I z,Sf d.heap b g I z->Sf X b g I z:=λI z U=>U.grow x.kept;refine a8 (H _ (dI a3 k rfl (.mk g b d.heap r h4 B (λY s=>s) (λY s=>.inl s) K (.refl ..) (.refl b) x.nx (.mk _ (.ref n) b9 A _ _ (qy k1 (Q4 _ (.head _)) k2 k3) (λa2 z D=>?_) G dd x.dx (hideAll_get _ gd ?_) (K.fresh x.nd) a7 (.cons E .nil) x.nx (K.fresh x.nx) xo (K.g0 x.nx)))))
 ·have m:=x.kept _ _ D;by_cases s:a2∈(c :: o).filterMap (·.frame)
  ·refine .inr (hF λa6=>aM (TX.mp s) λj C h=>?_);obtain⟨_,L',o',es,n',f',a1,_,g2,y⟩:=L.all j C;rw[h] at f';cases f';replace m:=g2.symm.trans m;obtain rfl:=sX m;refine a6 (fB a1 (wa es n' y) (hF λc1=>?_));obtain⟨l,q⟩:=k4 a2 _ g2 λvs q=>by replace q:=y.symm.trans q;cases q
   exact c1 ⟨l,q⟩
  ·refine .inl (hideAll_get _ m λU=>(RB.mp U).elim (λU=>?_) s);rw[U,x.nx] at D;exact nomatch D
 ·intro s;rcases RB.mp s with s|s;·exact x.dx s
  ·refine aM (TX.mp s) λj C h=>M.el C λY L' o' es n' f' a1 Y g2 y=>?_;rw[h] at f';cases f';replace g2:=x.nd.symm.trans g2;exact nomatch g2
structure kg(prog:Nu)(w:Ni)(g₀:MU)(K:Nz):Prop where
 ks:vD K
 ty:Ob K (.ref (CA .bR))=S (.type "type")
 keep:Pd K (.ref (CA .bR))=MK
 run:∀(own:V MR) (l:V Nf) (A:Nv) (hd:O MN) (n:Z) (r:bI) (H:AH) (s:MV) (t:Q) (tv:MN) (R:NP->MV->Prop),bo hd (n+1) A l->Inv w g₀ own r H s.heap->cM l own [] s.heap->VR w.params (Sf s.heap r own) r t tv->
  (∀h' tk x d tup,si w s.heap h' x d tup tv->R (.ok (.ret (.ref x))) {s with heap:=h',toks:=tk})->NJ (MX prog w) A (.call (.ref (CA .bR)) ⟨[tv],[]⟩) R s
theorem SS.eV{env:Nf}{cp:Nh}{H:MT}(C:Gr v e P be bg bf)(l:kg h a e v)(R:bo N (q+1) f (env :: o))(hg:NY v NN H=S (S (.ref (CA .bR))))(hx:env.kindOf H=S .globalImplicit)(c:(H==("__debug__":MT))=MS)(w:notStar s=MK)
  (d:SE h a e (env :: o) env j f i af s):SS h a e o env j f i (.eV af) (.Raise (S (.Call (.Name H bj) [s] [] cp)) N J):=λg y b t A p G B=>by
 rw[tF] at B⊢;refine MQ (NW ?_);refine nE (K:=v) C.err l.ty R.handled (MQ ?_);refine MQ (PC p.kind hx (P6 (env:=env) (by rw[p.glob];exact C.T.g.keeps λM a2 af=>(G.inv.keep M a2 af).1) (mg_of C.X C.T.g hg) ?_) c);have T:=SE.jv d w;have a4:(aO i af A b).bind (λr=>(bp i .nil A r.2).bind λL=>(Res.exc r.1 L.2:Res (Fl×Loc×AH)))≠.bad:=by
  intro L;apply B
  induction Y:aO i af A b using Wn with
  |ok r=>replace L:=Y▸L;cases L
  |exc _ _=>replace L:=Y▸L;cases L
  |bad=>rfl
 show MY _ _ (PD cp _ [] (NU cp (NR [s] env)) []) _ _ _;refine QF (P:=λa0=>v.In a0) (by simp[T.noStar]) (λa0 a1=>PE l.keep a0 a1) (bD T.noStar ?_);rw[bz w];refine PySem.Calls.spliced_cons ((d g y b t A p G).ei R G.live p.fP (.refl G.inv) (λI z K k U X o1 p1 E D=>?_) B);refine PySem.Calls.spliced_nil ⟨C.In o1.inv,?_⟩;rw[X];have dw:=G.on p p1;refine OL (l.run g (env :: o) f N q K z k I U _ R o1.inv dw.live E λm tk r a3 n x=>MQ (NW (MZ ?_)));exact KN r _ _ rfl (C.In (o1.inv.grow x.kept)) x.gx rfl rfl rfl (nH (fr:=bA env) R o1.inv dw.live E x λs' L=>EF.pre o1 p.fP L)
noncomputable def Fh(g:V MR)(P B:MU):Prop:=∀M z,P.get? M=S z->B.get? M=S z\/(2<=g.count M/\∃i,B.get? M=S {z with slots:=i})
theorem Fh.sf{P:MU}(x:Fh g P p)(U:Sf P b g n ah):Sf p b g n ah:=⟨(x n ah U.1).elim id λL=>Ng (R'.mp (RQ (by decide) L.1)) U.2.2,U.2⟩
theorem Fh.at{P:MU}(x:Fh g P p)(q:n∉g)(D:P.get? n=S ah):p.get? n=S ah:=(x n ah D).elim id λL=>Ng (R'.mp (RQ (by decide) L.1)) q
theorem Inv.slots{P:MU}(K:Inv a e g b k P)(x:Fh g P p):Inv a e g b k p:=by
 have T:∀I z,Sf P b g I z->Sf p b g I z:=λI z U=>x.sf U;have J:∀{I:MR},I∈b.M->I∉g:=λd L=>(K.off _ L).1 d;have C:=K.dt;refine⟨λM z D=>⟨?_,(K.keep M z D).2⟩,K.wK,K.off,λI d=>?_,⟨C.gW,C.jb,C.jQ,C.jc,λH w I X m=>?_,λH w I X m=>?_,λH w I X m=>?_,λH f L X m=>?_⟩⟩;·refine x.at (λd=>?_) (K.keep M z D).1;exact nX (((K.off M d).2)▸D)
 ·obtain⟨z,D⟩:=K.ex I d;rcases x I z D with U|⟨_,i,U⟩;·exact⟨_,U⟩
  ·exact⟨_,U⟩
 ·exact cj (C.L H w I X m) λj q o E=>dI j q (x.at (J (kG m)) o) (E.mono T (.refl b))
 ·exact dF (C.D H w I X m) λy q v o E c=>kU y q v (x.at (J (fS m)) o) (E.mono T (.refl b)) c
 ·exact aM (C.B H w I X m) λM o E=>ba M (x.at (J (nQ m)) o) E
 ·obtain⟨o,y,q,G,E⟩:=C.I H f L X m;exact⟨x.at (J (oW m)) o,y,q,x.at (J (jR m)) G,E.mono T (.refl b)⟩
theorem mq{M:NZ}{D:MR}{k:Nk}{o:MO->MV->Prop}(k1:uZ v)(g:vD v)(h:Ob v (.ref (CA .bR))=S (.type "type"))(r:v.In d.heap)(C:d.heap.get? D=S k)(j:k.cls=.ref (CA .bR))(B:o MK d):MY M f (excMatches (.ref D) (.ref (CA .bR))) o t d:=by
 refine hF λl=>?_;obtain⟨⟨c,J,K,i,q,_,_⟩,_,_,_,A,_,a,_,_,_,_⟩:=oi (M:=M) r g.make;have x:Nt M d.heap (PO (.ref D)) (.ref (CA .bR)):=by have:=(Nt.ld (M:=M) (part:=S headPart) C).andThen (f:=λz=>Pure.pure z.cls) (b:=.ref (CA .bR)) (by exact R j .now);exact this
 have I:∀{o:MO->MV->Prop},o MK d->MY M f (isType (.ref (CA .bR))) o t d:=λL=>by refine MQ (O2 q ?_);exact MZ L
 refine l ?_;refine MQ ((show Nt M d.heap (O' (.ref (CA .bR)) (.type "tuple")) MS from(looks_typeIn r h).andThen (f:=λn=>Om n (.type "tuple")) (Nt.of_pure (by refine(Ot ..).trans ?_;kernel_rfl))).here ?_);refine MQ (MZ ?_);refine MQ (MQ (MQ ?_));have E:∀{o:MO->MV->Prop},o MK d->MY M f (isExcClass (.ref (CA .bR))) o t d:=λL=>by refine MQ (I ?_);exact a.here L
 refine E (MZ (MZ (MQ (x.here ?_))));refine MQ (MQ (MQ (A.here ?_)));exact MZ (MZ (MZ B))
theorem bo.marked(R:bo N q f l){D:MR}:bo (S (.ref D)) q (f.mark (S (.ref D))) l:=⟨by show(S (MN.ref D)).or f.handled=_;rfl,R.frames,R.depth,R.units⟩
theorem Dv{eY:CF}(j:eY=λY Y Y=>Res.bad):iz h a e bh eY q:=⟨λg T f G X b y t w Y Y Y Y B=>Ng (by refine R j rfl) B⟩
theorem Dw{P:MU}{a:V MR}{t:MR}{n:MU}{w:MN}{m:MU}(j:VJ n l t (.ref (CA .bR)) w m)
  (v:∀M z,P.get? M=S z->n.get? M=S z\/(2<=a.count M/\(∃y q,z.data=.dict y q)/\∃i,p.get? M=S {z with slots:=i})) (h:p.UpToSlots m):Fh a P m:=λM z D=>by
 rcases v M z D with U|⟨C,⟨y,q,L⟩,i,U⟩;·exact .inl (j.1 M z U)
 ·obtain⟨I,b⟩:=h M _ U λc s=>by replace s:=L.symm.trans s;cases s
  exact .inr ⟨C,I,b⟩
theorem sj{a4:NO->MV->Prop}(p:bk g c j)(G:St a e g l c j b k w d)(hj:j[K]? = S (S r))(hk:c.kindOf r=S .local)
  (H:∀v,aQ a e g (bA c) b d b k v->St a e g l c j b k (w.set K N) v->a4 () v):MY T f (do bindName c r .none;unbindBehindTheSuite c r J) a4 t d:=by
 have a1:∀{B:Z} {C:MT} {i:Q},j[B]? = S (S C)->(w.set K N)[B]? = S (S i)->C≠r/\w[B]? = S (S i):=by
  intro B C i X m;by_cases q:K=B
  ·subst q;refine hF λA=>?_;replace m:=Up.symm.trans m;refine kF (w[K]?) (λU=>?_) (λa7 U=>?_);·exact nX (U▸m)
   ·replace m:=U▸m;cases m
  ·replace m:=(R6 q).symm.trans m;refine⟨λU=>?_,m⟩;subst U;exact q (p.Fd K B _ hj X)
 refine aM G.dS.ns λx n hm=>?_;refine wpAny_nameGoes_keeps hk n (by refine R p.kind ?_;rfl) λL a8 a3 sb=>?_;have P:∀M z,M≠c.locals->d.heap.get? M=S z->L.get? M=S z:=λM z q U=>(sb.2 M q).trans U;have S':∀I z,Sf d.heap b g I z->Sf L b g I z:=λI z U=>U.but P (.inr (.inl p.loc));have ob:∃z y a5,L.get? c.locals=S z/\z.data=.dict y a5:=by obtain⟨z,y,ep,o,h,_⟩:=a3;exact zQ z y ep o h
 have i':Inv a e g b k L:=G.inv.loose P (.inl p.loc) (G.inv.off _ p.loc).1 λY=>we ob λz Y Y o Y=>⟨z,o⟩;refine H _ (.mk' i' (.but (a:=c.locals) P (.inr (.inl (.head _)))) (.refl b)) ⟨i',⟨(ba _ a3 (λB C i X m s=>?_)),λC a2 D=>?_,by refine Ta.trans ?_;exact G.dS.len⟩,G.live.at P (.inl ob)⟩;·refine bM (a1 X m) λq a0=>?_;refine aM (hm B C i X a0 s) λu' z1 z2=>?_;exact ba u' (by refine(Nc q).trans ?_;exact z1) (z2.mono S' (.refl b))
 ·refine aM (G.dS.jO C a2 D) λov bG hc=>?_;refine hF λa6=>?_;refine aM bG λz o h=>?_;refine a6 ?_;refine ba ov (ba z (P _ _ (p.jO C a2 D).2 o) h) (λB i X m s=>?_);refine hF λE=>?_;refine bM (a1 X m) λq a0=>?_;refine aM (hc B i X a0 s) λu' z1 z2=>?_;refine E ?_;exact ba u' z1 (z2.mono S' (.refl b))
theorem SS.kR{env:Nf}{l:LE}{U:MP}{nm:MT}{p1 p2 p3:Nh}(C:Gr v e P be bg bf)(a9:kg h a e v)(R:bo N q f (env :: o))(ih:SE h a e (env :: o) env j f i af s)
  (d0:∀t:MR,SE h a e (env :: o) env j (f.mark (S (.ref t))) (λY Y Y=>Res.bad) l U) (hj:j[K]? = S (S r)) (hk:env.kindOf r=S .local)
  (hg:NY v NN nm=S (S (.ref (CA .bR)))) (hx:env.kindOf nm=S .globalImplicit) (g1:(nm==("__debug__":MT))=MS)
  (d:Ph env=MS) (c4:N3 s N p1.line env=pure MS) (d9:N3 U N p2.line env=pure MS) :
  SS h a e o env j f i (.kR af K l) (.Try [.Expr s p1] [.ExceptHandler (S (.Name nm bj)) (S r) [.Expr U p2] p3] [] [] J):=λg y b a3 A p G B=>by
 rw[oR] at B⊢;have D:aO i af A b≠.bad:=λL=>B (by rw[L]);refine wpAny_Try_except (PJ (QN (Nj (ih g y b a3 A p G D) (λd4 s1 L=>?_) λX s1 L=>?_) d c4));·refine dF L λI H1 r1 ev o1 v1=>?_;rw[ev];exact Oj (Oj (gU .next A H1 r1 rfl o1.wide (G.on p o1) trivial))
 ·refine cj L λn H1 ev x1=>?_;refine i8.el x1 λh7 r1 hr t h1 e7 za zb z1 z2 z3 z4 z7=>?_;refine z7.el λg5 a0 oe a1 es ne fw fb y1 y2 y3 y4 y5 y6 y7 f0 f1 f2 f3=>?_;have e6:aO i af A b=.exc n H1:=by
   induction L:aO i af A b using Wn with
   |ok _=>exact nX (L▸ev)
   |bad=>exact(D L).elim
   |exc t2 H2=>replace ev:=L▸ev;refine sQ ev ?_;rfl
  rw[e6] at B⊢;dsimp only at B⊢;refine G.live.el (.head _) λY g8 Y Y Y hf Y Y Y Y=>?_;refine(ju _ _).at (wpAny_looks_onW R.frames hf fw λh2 c5 e0 c1=>?_);refine(gw _ _).at (wpAny_landsW c5 λT a4 c2 c8=>?_);have k:∀M z,e.get? M=S z->T.get? M=S z:=λM z af=>by
   rcases fb M z (z1.keep M z af).1 with L|⟨a2,_⟩;·exact a4.1 M z L
   ·exact nX (((z1.off M (R'.mp (by exact n4 a2 rfl))).2)▸af)
  refine aM a4.there λh4 e4 e3=>?_;refine wpAny_handleBy_cons (codeAny_handlers_test (PC p.kind hx (P6 (env:=env) (by rw[p.glob];exact C.T.g.keeps k) (mg_of C.X C.T.g hg) ?_) g1)) (by intro L;cases L);refine mq C.err a9.ks a9.ty (C.X.keeps k) e4 e3 ?_;refine codeAny_handlers_suite_as ?_;refine(gw _ _).at (lands_againW a4 λm a5 e2 c9=>?_);have T6:=Dw a5 fb ((e0.trans c2).trans e2);have o6:aQ a e g [] y a3 r1 H1 {a3 with heap:=m,toks:=e7}:=by
   refine .mk' ((z1.slots T6).drop za) ⟨λM z af x q=>?_⟩ z3;refine hF λe9=>?_;obtain⟨m1,o1,X,sm⟩:=z2.get M z af x q;refine e9 ?_;refine⟨m1,?_⟩;refine hF λa7=>?_;rcases T6 M o1 X with L|⟨a2,d1,L⟩;·refine a7 ?_;exact ba o1 L sm
   ·refine a7 ?_;refine ba _ L (sm.trans (.inr ⟨?_,d1,rfl⟩));exact(zb M a2).elim id λL=>by exact nX (L.symm.trans af)
  refine hF λH=>?_;refine aM (c1 t oe y1) λc6 g2 d2=>?_;refine aM (c8 t c6 g2) λd5 g3 d3=>?_;refine aM (c9 t d5 g3) λd8 g6 d6=>?_;have g4:VR a.params (Sf m r1 g) r1 (.exc n) (.ref t):=by refine hF λe5=>?_;obtain⟨_,_,_,h5,c3,T7,g9,h0,g7,⟨c7,_⟩,d7,_⟩:=id a5;replace g7:=g6.symm.trans g7;obtain rfl:=sX g7;refine e5 ?_;exact .exc n t a1 d8 es ne (fB g6 f1 (λx=>f2 (za t x))) c7 (d6.trans (d3.trans (d2.trans y2))) ⟨c3,d7⟩ (fB (a5.1 a1 _ y4) y5 (λx=>y6 (za a1 x))) (y7.mono (λI z U=>⟨(T6.sf U).1,U.2.1,λx=>U.2.2 (za I x)⟩) (.refl r1))
  refine H ?_;refine ew p (G.on p o6) j4.all hj (.inl hk) g4 λs7 o7 c=>?_;have a6:aO (λY Y Y=>Res.bad) l (A.set K (S (.exc n))) H1≠.bad:=λL=>B (by rw[L];rfl);refine PJ (QN (Nj (d0 t g r1 H1 s7 _ p c a6) (λd4 w L=>?_) λe8 w L=>?_) d d9);·refine dF L λa8 H8 r8 E o8 v8=>?_;rw[E];refine Oj ?_;refine sj p (c.on p o8) hj hk λs9 o9 b9=>?_;exact gU .next _ H8 r8 rfl (((o6.wide.trans o7).trans o8.wide).trans o9) b9 trivial
  ·refine cj L λt8 H8 E Y=>?_;exfalso;refine BX (aO (λY Y Y=>Res.bad) l (A.set K (S (.exc n))) H1) (λY L=>?_) (λY Y L=>?_) (λL=>?_);·exact nX (L▸E)
   ·exact B (by rw[L];rfl)
   ·exact a6 L
set_option backward.match.sparseCases true
section
open Sem (wp)
noncomputable def cW:N4->MO
 |.builtin J _=>Tx.contains J||["bytearray.__contains__","bytearray.__mod__","bytearray.__rmod__","_struct.pack_into.held","bytearray.find.held"].contains J
 |_=>MS
noncomputable def sk(T:V (N4×Nh)):Prop:=∀L∈T,cW L.1=MS
structure Nd(Γ:Ctx)(A:Nv):Prop where
 within:Γ.In A
 code:cW Γ.code=MS
 below:sk Γ.below
noncomputable def dQ{i:Type}(w:NZ)(f:Nv)(n:Nl i)(o:i->MV->Prop)(b:MN->MV->Prop)(t:MV):Prop:=∀a P,Nd a f->wp w a n (λI Y v=>o I v) (λD Y v=>b D v) P t
noncomputable def codeN(w:NZ)(f:Nv)(C:N4)(R:NP->MV->Prop)(t:MV):Prop:=∀a P,a.code=C->a.Below f->sk a.below->wpCode w a R P t
theorem bK{n:Nl G}{o:G->MV->Prop}(B:MY T f n o t d):dQ T f n o t d:=λa P q=>B a P q.within
theorem xR{C:N4}{R:NP->MV->Prop}(B:NJ T f C R d):codeN T f C R d:=λa P j w Y=>B a P j w
theorem bu{E:MN->MV->Prop}{n:Nl G}{o b:G->MV->Prop}{c:MN->MV->Prop}(B:dQ T f n o E d)(H:∀I d,o I d->b I d)(y:∀D d,E D d->c D d):dQ T f n b c d:=λa P q=>TG T a n (λI Y d=>H I d) (λD Y d=>y D d) P d (B a P q)
theorem fj{C:N4}{R b:NP->MV->Prop}(B:codeN T f C R d)(K:∀y d,R y d->b y d):codeN T f C b d:=λa P j w n=>wpCode_mono K (B a P j w n)
theorem qZ{I:G}{o:G->MV->Prop}(B:o I d):dQ T f (pure I) o t d:=λY Y Y=>B
theorem bO{x:Nl G}{A:G->Nl az}{o:az->MV->Prop}(B:dQ T f x (λI v=>dQ T f (A I) o t v) t d):dQ T f (x >>= A) o t d:=λa P q=>by exact R (VM ..) (TG T a x (λI l v m=>m a l q) (λY Y Y m=>m) P d (B a P q))
theorem aJ{x:Nl G}{A:G->Nl az}{o:az->MV->Prop}(B:MY T f x (λI v=>dQ T f (A I) o t v) t d):dQ T f (x >>= A) o t d:=bO (bK B)
theorem fH{w:V MN}{x:Nl G}{o:G->MV->Prop}(B:dQ T f x o t d):dQ T f (Pz w x) o t d:=λa P q=>by exact R (Nl.wp_holding ..) (B a P q)
theorem xS{w:V MN}{x:Nl G}{o:G->MV->Prop}(B:dQ T f x o t d):dQ T f (x.keep w) o t d:=λa P q=>by exact R (Nl.wp_keep ..) (B a P q)
theorem hH{x:Nl G}{H:MN->Nl NO}{o:G->MV->Prop}(B:dQ T f x o (λD v=>MY T f (H D) (λY s=>t D s) t v) d):dQ T f (x.onRaise H) o t d:=λa P q=>by exact R (Nl.wp_onRaise ..) (TG T a x (λY Y Y m=>m) (λD l v m=>m a l q.within) P d (B a P q))
theorem fk{C:N4}{R:NP->MV->Prop}(j:cW C=MS)
  (B:dQ T (f.under C) (T.den C) (λb v=>match b with|.done A=>R (.ok A) v|.again o=>o.quiet=MK/\codeN T f o R v) (λD v=>R (.error D) v) d):codeN T f C R d:=λa P z h n=>by
 rw[wpCode_iff_wp,z];refine TG T a _ (λb l v m=>?_) (λY Y Y m=>m) P d (B a P ⟨z▸h.in,by rw[z];exact j,n⟩);cases b with
 |done A=>exact m
 |again o=>exact⟨m.1,m.2 (a.goto o) l rfl (h.goto o) n⟩
theorem Nd.enter{a:Ctx}(q:Nd a f)(C:N4)(B:O MN)(P:Nh):sk (a.enter C B P).below:=λL x=>by
 rcases RB.mp x with rfl|x;·exact q.code
 ·exact q.below L x
theorem pJ{C:N4}(j:codeN T f C (λy v=>match y with|.ok (.ret E)=>ai E v|.ok _=>Nw|.error D=>t D v) d):dQ T f (runValue C) ai t d:=λa P q=>by refine R (Nl.wp_runValue ..) ?_;exact j _ P rfl (q.within.enter C N P (by intro r;exact nX r)) (q.enter C N P)
theorem jz{A:MN}{p:V MN}{k:V (MT×MN)}(j:codeN T f (.call A ⟨p,k⟩) (λy v=>match y with|.ok (.ret E)=>ai E v|.ok _=>Nw|.error D=>t D v) d):dQ T f (N2 A p k) ai t d:=pJ j
theorem AF{C:N4}{B:O MN}{o:ND->MV->Prop}(j:codeN T (f.mark B) C (λy v=>match y with|.ok A=>o A v|.error D=>t D v) d)(h:B≠S byPass):dQ T f (run C B) o t d:=λa P q=>by refine R (Nl.wp_run ..) ?_;exact j _ P rfl (q.within.enter C B P h) (q.enter C B P)
theorem sr{C:N4}{h:O MN}{o:ND->MV->Prop}(j:codeN T (f.mark h) C (λy v=>match y with|.ok A=>o A v|.error D=>PL T f c t D v) d)(a:h≠S byPass):dQ T f (runOwn C c h) o t d:=hH (AF j a)
theorem pK{A:N4×Nh->MO}{o:MO->MV->Prop}(J:∀L,cW L.1=MS->A L=MS)(B:o MS d):dQ T f (do return(<-stack).any A) o t d:=λa P q=>by
 show o (((a.code,P) :: a.below).any A) d;have:((a.code,P) :: a.below).any A=MS:=by
  rw[U6];intro L x;refine R (MO.not_eq_true ..) ?_;rcases RB.mp x with rfl|x;·exact J _ q.code
  ·exact J _ (q.below L x)
 exact R this B
theorem iK{o:ND->MV->Prop}(B:o .next d):dQ T f (Oh [] c) o t d:=bK (Oj B)
theorem hK{G:M8}{j:V M8}{o:ND->MV->Prop}(B:dQ T f (exec G c) (λA v=>match A with|.next=>dQ T f (Oh j c) o t v|A=>o A v) t d):dQ T f (Oh (G :: j) c) o t d:=λa P q=>by refine R (VM ..) (TG T a _ (λA l v m=>?_) (λY Y Y m=>m) _ _ (B a P q));induction A using SH<;>first|exact m a l q|exact m
theorem Dx{a:MP}{l b:V M8}{o:ND->MV->Prop}(B:MY T f (isTrue a c (PySem.eval a c)) (λM q=>if M then dQ T f (Oh l c) o t q else dQ T f (Oh b c) o t q) t d):dQ T f (PySem.exec (.If a l b J) c) o t d:=R (exec_If ..) (aJ (NW (aJ (Nj B (λM q K=>by induction M using RD<;>exact K) λY Y r=>r))))
theorem su{D:MP}{o:ND->MV->Prop}(B:dQ T f (PySem.eval D c) (λE=>o (.ret E)) t d):dQ T f (PySem.exec (.Return (S D) J) c) o t d:=R (exec_Return_some ..) (aJ (NW (bO (bu B (λE v m=>qZ m) λY Y r=>r))))
theorem xT{D:MP}{o:ND->MV->Prop}(B:dQ (MX h a) f (PySem.eval D c) (λY=>o .next) t d)(b:Ph c=MS)(P:N3 D N J.line c=pure MS):dQ (MX h a) f (PySem.exec (.Expr D J) c) o t d:=R (exec_Expr c D J b P) (aJ (NW (bO (bu B (λE v m=>bK (wpAny_dropValue m)) λY Y r=>r))))
theorem kZ{z:MP}{b:MT}{g:Nh}{a:MP}{o:ND->MV->Prop} (B:dQ T f (PySem.eval a c) (λE X=>MY T f (PySem.eval z c) (λy q=>MY T f (PK y b E) (λY=>o .next) t q) t X) t d) (P:N3 a (S (.Attribute z b g)) J.line c=pure MS):dQ T f (PySem.exec (.Assign [.Attribute z b g] a J) c) o t d:=R (plainObj_exec_Assign_Attribute z b g a J P) (aJ (NW (bO (bu B (λE X U=>bK (MQ (MQ (Nx (Nj U (λy q K=>MQ (NW (MQ (Nx (Nj K (λY e L=>wpAny_release (MZ L)) λY Y r=>r))))) λY Y r=>r))))) λY Y r=>r))))
theorem om{P:MU->Prop}{A:MN}{first:V MN}{g:V (MO×Nl MN)}{e:V (O MT×Nl MN)}(a:(g.any (·.1)||e.any (·.1.isNone))=MS)
  (j:∀B,P B->∃H,(H=Keeper.frame\/H=Keeper.machine\/H=Keeper.boundFrame)/\Nt T B (keeperOf A) H)
  (B:MY T f (evalArgs A MK g e) (λI X=>P X.heap/\dQ T f (N2 A (first++I.pos) I.kw) ai t X) t d):dQ T f (PD J A first g e) ai t d:=by
 refine aJ (Nx (Nj B (λI X U=>aJ (NW ?_)) λY Y r=>r));refine aM (j _ U.1) λH w i=>R a (aJ (i.here ?_));have b:∀{n:Nl MN},dQ T f n ai t X->dQ T f (n >>= λy=>Pz [y] point >>= λY=>pure y) ai t X:=λh=>bO (bu h (λy q k=>bK (MQ (Nx (PZ (MZ k))))) λY Y r=>r);have m (c:MN):dQ T f (callMarked c A (first++I.pos) I.kw) ai t X:=by exact xS U.2
 clear i a B;rcases w with rfl|rfl|rfl<;>dsimp only<;>first|exact b U.2|(split<;>first|exact b U.2|exact b (m _))
theorem xU{A:MN}{X:Args}:cW (.call A X)=MS:=rfl
theorem xV{l:V M8}:cW (.func l c)=MS:=rfl
theorem mr{H:NP->MV->Prop}{l:V M8}(B:dQ (MX h a) (f.deeper c) (Oh l c) (λA v=>H (.ok (.ret (match A with|.ret E=>E|_=>.none))) v)
   (λD v=>MY (MX h a) (f.deeper c) (OE c D) (λY s=>H (.error D) s) (λj s=>H (.error j) s) v) d):codeN (MX h a) f (.func l c) H d:=by refine fk xV (aJ (PZ (bO (hH (bu B (λA v m=>?_) λY Y m=>m)))));induction A using SH<;>exact bK (MZ m)
theorem eT{s:MV}{H:NP->MV->Prop}{l:V M8}{X:Args}{o:NI}(g:f.depth<QD)(G:s.heap.get? n=S ah)
  (A:ah.data=.func o) (i:o.scope.isCoroutine=MS) (d:o.scope.isGenerator=MS) (k:o.body=.stmts l) (t:s.heap.CodeRec o.code o.qualname)
  (B:MY (MX h a) f.in1 (PySem.bindArgs o X) (λr x=>
   MY (MX h a) f.in1 (Qh o.scope o.globals o.closure r (o.qualname++".<locals>.") (S n) o.code N o.builtins)
    (λc q=>q.heap.NoLimit/\codeN (MX h a) f (.func l c) H q) (λD v=>H (.error D) v) x) (λD v=>H (.error D) v) s) :
  codeN (MX h a) f (.call (.ref n) X) H s:=by refine fk xU (bK ?_);show MY _ f.in1 (Qj (.ref n) X) _ _ s;refine MQ (Ox G ?_);refine qw t λC b w T j z y e=>?_;rw[A];dsimp only[callFunction];rw[k,d,i,j];dsimp only;rw[j] at B;refine MQ (m:=field (.ref C) 1) (ON z y e (MQ (MZ ?_)));exact MQ (Nj B (λr x U=>MQ (Nj U (λc q K=>MQ (wpAny_enterFrame K.1 g (MZ (Vj rfl K.2)))) λY Y p=>p)) λY Y p=>p)
end
set_option backward.match.sparseCases false
abbrev qp:=Loc->AH->Res (Q×AH)
abbrev mS:=Loc->AH->Res (Fl×Loc×AH)
noncomputable def Gh(A o:mS):mS:=λT b=>(A T b).bind λL=>match L.1 with
 |.next=>o L.2.1 L.2.2
 |.ret E=>.ok (.ret E,L.2.1,L.2.2)
noncomputable def Dy:mS:=λT b=>.ok (.next,T,b)
noncomputable def JS(e:CF)(C:LE)(A o:mS):mS:=λT b=>(mR e C T b).bind λL=>if L.1 then A T L.2 else o T L.2
noncomputable def Gi(D:qp):mS:=λT b=>(D T b).bind λy=>.ok (.next,T,y.2)
noncomputable def Gj(D:qp):mS:=λT b=>(D T b).bind λy=>.ok (.ret y.1,T,y.2)
noncomputable def B2(e:CF)(h:V Q->AH->Res (Q×AH))(l:cA):qp:=λT b=>(bp e l T b).bind λL=>h L.1 L.2
noncomputable def B3(e:CF)(h:V Q->AH->Res (Q×AH))(D:LE)(x A:Z)(l:cA):qp:=λT b=>(aO e D T b).bind λy=>match aK y.2 y.1 x with
 |some (.own r)=>if r=A then(bp e l T y.2).bind λL=>h (y.1 :: L.1) L.2 else .bad
 |_=>.bad
noncomputable def B4(w:NZ)(f:Nv)(c:Nf):MN->MV->Prop:=λD v=>MY w f (OE c D) (λY Y=>Nw) (λY Y=>Nw) v
noncomputable def mv(l:Nu)(a:Ni)(d:MU)(T:V Nf)(c:Nf)(i:V (O MT))(f:Nv)(e:qp)(r:MP):Prop:=∀g y b t A,bk g c i->St a d g T c i y b A t->∀L,e A b=.ok L->∀I,dQ (MX l a) f (PySem.eval r c) (QQ a d g (lO a) [] (.ok L) y t) I t
noncomputable def gM(l:Nu)(a:Ni)(d:MU)(o:V Nf)(c:Nf)(i:V (O MT))(f:Nv)(e:mS)(r:M8):Prop:=∀g y b t A,bk g c i->St a d g (c :: o) c i y b A t->∀L,e A b=.ok L->dQ (MX l a) f (PySem.exec r c) (QS a d g (bA c) o c i (.ok L) y t) (λY Y=>Nw) t
noncomputable def mT(l:Nu)(a:Ni)(d:MU)(o:V Nf)(c:Nf)(i:V (O MT))(f:Nv)(e:mS)(r:V M8):Prop:=∀g y b t A,bk g c i->St a d g (c :: o) c i y b A t->∀L,e A b=.ok L->dQ (MX l a) f (Oh r c) (QS a d g (bA c) o c i (.ok L) y t) (λY Y=>Nw) t
noncomputable def RN(a:Ni)(d:MU)(g:V MR)(L:Q×AH)(y:bI)(t:MV):NP->MV->Prop:=λr v=>match r with
 |.ok (.ret E)=>QQ a d g (lO a) [] (.ok L) y t E v
 |_=>Nw
noncomputable def oo(l:Nu)(a:Ni)(d:MU)(q:Z)(G:Key)(h:V Q->AH->Res (Q×AH)):Prop:=∀g T f X b y t w,bo N q f T->Inv a d g y b t.heap->cM T g [] t.heap->bN a.params (Sf t.heap y g) y X w->∀L,h X b=.ok L->codeN (MX l a) f (.call (.ref (fG G)) ⟨w,[]⟩) (RN a d g L y t) t
theorem bV{r:Res G}{A:G->Res az}{M:az}(B:r.bind A=.ok M):∃I,r=.ok I/\A I=.ok M:=by
 induction r using Wn with
 |ok I=>exact ba I rfl B
 |exc _ _=>cases B
 |bad=>cases B
theorem xW{a:Ctx}{n:Nl G}:∀{P:Nh} {t:MV},Nl.wp T a n (λY Y Y=>Nw) (λY Y Y=>Nw) P t->Nw:=by
 induction n with
 |pure I=>intro P t B;exact B
 |raise D=>intro P t B;exact B
 |unsupported _=>intro P t B;exact B
 |finish _=>intro P t B;exact B
 |rule _ H d | «at» _ H d|alloc _ H d|loadIfAlive _ H d|point _ H d|fresh H d|ask H d|os _ _ H d|handled _ H d|newGen _ H d|stack H d|thread H d=>intro P t B;exact d _ B
 |load I _ H d=>intro P t B;obtain⟨z,_,B⟩:=B;exact d _ B
 |update I _ A H d=>intro P t B;exact d _ B.2
 |register _ _ _=>intro P t B;exact B
 |choose _ _ H d=>intro P t B;exact d _ B.2
 |call C q b l H d=>intro P t B;obtain⟨y,v,_,B⟩:=B;exact d _ B
 |genState o H d=>intro P t B;obtain⟨_,_,B⟩:=B;exact d _ B
 |resume o y l H d=>intro P t B;obtain⟨_,v,_,B⟩:=B;exact d _ B
 |yield _ _ _ _ _=>intro P t B;exact B
 |fork _ _ _=>intro P t B;exact B
 |await _ _ _ _ _ _=>intro P t B;exact B
theorem oq{n:Nl G}{o:G->MV->Prop}(B:dQ T f n o (B4 T f c) d):dQ T f n o (λY Y=>Nw) d:=λa P q=>
 TG T a n (λY Y Y U=>U) (λD l v U=>xW (U a l q.within)) P d (B a P q)
theorem ES.B5{D:MN}{n:MV}(L:ES a e g T f aq o c N b d D n):B4 T f c D n:=Nj L (λY Y L=>EF.no L) λY Y L=>EF.no L
theorem gM.Hz{G:LS}{r:M8}(B:SS h a e o c j f i G r):gM h a e o c j f (cQ i G) r:=λg y b t A p G L D=>by have:=B g y b t A p G (R D λU=>nomatch U);rw[D] at this;exact oq (bK (Nj this (λY Y U=>U) λY Y U=>ES.B5 U))
theorem mT.Hz{G:dR}{r:V M8}(B:qQ h a e o c j f i G r):mT h a e o c j f (aW i G) r:=λg y b t A p G L D=>by have:=B g y b t A p G (R D λU=>nomatch U);rw[D] at this;exact oq (bK (Nj this (λY Y U=>U) λY Y U=>ES.B5 U))
theorem mv.Hz{n:LE}(B:SE h a e l c j f i n aj):mv h a e l c j f (aO i n) aj:=λg y b t A p G L D I=>by have:=B g y b t A p G (R D λU=>nomatch U);rw[D] at this;exact bK (Nj this (λY Y U=>U) λY Y L=>EE.no L)
theorem mT.nil:mT h a e o c j f Dy []:=λg y b t A p G L D=>by exact CT D (iK (gU .next A b y rfl (.refl G.inv) G trivial))
theorem mT.cons{C:mS}{w:mS}{r:M8}{l:V M8}(s:gM h a e o c j f C r)(v:mT h a e o c j f w l):mT h a e o c j f (Gh C w) (r :: l):=λg y b t A p G L D=>by
 refine hF λH=>aM (bV D) λq5 X m=>?_;clear D;obtain⟨q,d,n⟩:=q5;refine H (hK (bu (s g y b t A p G _ X) (λi k z=>?_) λY Y z=>z));refine qw z λY Y Y K x o1 dw z=>?_;clear b A G X s;cases x;induction q using Fl.casesOn with
 |next=>
  cases i with
  |next=>exact bu (v g K n k d p dw L m) (λY Y z=>z.pre o1) λY Y z=>z
  |_=>exact z.elim
 |ret E=>
  cases i with
  |ret B=>refine CT m ?_;exact gU (.ret E) d n K rfl o1 dw z
  |_=>exact z.elim
theorem gM.ifs{E:mS}{B:mS}{C:LE}{n l:V M8}(d:ST h a e (c :: o) c j f i C s)(r:mT h a e o c j f E n)(w:mT h a e o c j f B l):gM h a e o c j f (JS i C E B) (.If s n l J):=λg y b t A p G L D=>by
 refine hF λH=>aM (bV D) λq5 X m=>?_;obtain⟨M,q⟩:=q5;have:=d g y b t A p G (R X λz=>nomatch z);replace this:=X▸this;refine H (Dx (Nj this (λv k z=>?_) λY Y L=>EE.no L));refine dF z λY Y K x o1 z=>?_;clear D X d;obtain⟨rfl,rfl⟩:=m6 x;clear x;obtain rfl:M=v:=z;induction M using RD with
 |true=>exact bu (r g K q k A p (G.on p o1) L m) (λY Y z=>z.pre o1.wide) λY Y z=>z
 |false=>exact bu (w g K q k A p (G.on p o1) L m) (λY Y z=>z.pre o1.wide) λY Y z=>z
theorem gM.exp{D:qp}(i:mv h a e (c :: o) c j f D s)(d:Ph c=MS)(P:N3 s N J.line c=pure MS):gM h a e o c j f (Gi D) (.Expr s J):=λg y b t A p G L D=>by refine aM (bV D) λq5 X m=>CT m (xT (bu (i g y b t A p G _ X _) (λE k z=>?_) λY Y z=>z) d P);refine hF λq=>dF z λY Y K x o1 z=>?_;obtain⟨rfl,rfl⟩:=m6 x;exact q (gU .next A q5.2 K rfl o1.wide (G.on p o1) trivial)
theorem gM.ret{D:qp}(d:mv h a e (c :: o) c j f D s):gM h a e o c j f (Gj D) (.Return (S s) J):=λg y b t A p G L D=>by refine aM (bV D) λq5 X m=>CT m (su (bu (d g y b t A p G _ X _) (λE k z=>?_) λY Y z=>z));refine hF λq=>dF z λY Y K x o1 z=>?_;obtain⟨rfl,rfl⟩:=m6 x;exact q (gU (.ret q5.1) A q5.2 K rfl o1.wide (G.on p o1) z)
theorem runN{i:AH}{k:Key}{c:V Q->AH->Res (Q×AH)}{w:V MN}{X:V Q}{L:Q×AH}(j:oo h a e q k c)(R:bo N q f l)(K:Inv a e g b i d.heap)(M:cM l g [] d.heap)(P:bN a.params (Sf d.heap b g) b X w)(D:c X i=.ok L):dQ (MX h a) f (N2 (.ref (fG k)) w) (QQ a e g (lO a) [] (.ok L) b d) t d:=jz (fj (j g l f X i b d w R K M P L D) λU v n=>by rcases U with D|(E|_|_|_)<;>first|exact n|exact n.elim)
theorem mv.call{env:Nf}{H:Key}{T:V Q->AH->Res (Q×AH)}{y:cA}{d:MT}{U:V MP}(C:Gr v e P be bg bf)(M:oo h a e q H T)(R:bo N (q+1) f l)(hk:∀A,H=.fn A->A<60)(s:nc h a e l env j f i y U)
  (o:NY v NN d=S (S (.ref (fG H)))) (hx:env.kindOf d=S .globalImplicit) (c:(d==("__debug__":MT))=MS):mv h a e l env j f (B2 i T y) (.Call (.Name d bj) U [] J):=by intro g a2 b t a1 p G L D I;refine hF λa3=>aM (bV D) λLa X m=>a3 ?_;refine aJ (PC p.kind hx (P6 (env:=env) (by rw[p.glob];exact C.T.g.keeps λa0 a4 D=>(G.inv.keep a0 a4 D).1) (mg_of C.X C.T.g o) ?_) c);have:=s.run (pos:=J) g a2 b t a1 p G (by rw[X];exact λz=>nomatch z);rw[X] at this;refine om (P:=λB=>v.In B) (by rw[s.noStar];rfl) (λB r=>PE (ji (k:=H) C.ok hk) B r) (bD s.noStar (Nj this (λw k z=>?_) λY Y L=>EE.no L));refine hF λE=>dF z λY Y K x o1 z=>?_;obtain⟨rfl,rfl⟩:=m6 x;exact E ⟨C.In o1.inv,bu (runN M (R.less (Sn _)) o1.inv (G.live.keep G.inv o1) z m) (λY Y n=>n.pre o1) λY Y n=>n⟩
theorem AG{o:NI}{a0:V MT}{a2:V M8}{M:mS}{ds U:V MN}{as a1:V Q}{L:Fl×Loc×AH}(x:cH o a0 j a2)(R:bo N (q+1) f l)(G:e.get? n=S ah)(a8:ah.data=.func o)(a4:e.NoLimit)(a6:e.CodeRec o.code o.qualname)
  (t:Ay a e o a1 ds) (T:a1.length<=a0.length) (X:a0.length<=j.length)
  (K:Inv a e g b k d.heap) (lv:cM l g [] d.heap) (E:bN a.params (Sf d.heap b g) b as U) (hb:bindArgs a0.length a1 j.length as=S w) (D:M w k=.ok L)
  (c2:∀I,mT h a e l (N5 o I n) j (f.deeper (N5 o I n)) M a2) :
  codeN (MX h a) f (.call (.ref n) ⟨U,[]⟩) (RN a e g ((match L.1 with|.ret E=>E|.next=>.none),L.2.2) b d) d:=by
 refine fM (gB hb) λy q2 hl=>?_;have A:=E.len;have ld:=(t.vals a.params (Sf d.heap b g) b).len;have H:bN a.params (Sf d.heap b g) b (as++a1.drop (as.length+a1.length - a0.length)) (U++ds.drop (U.length+ds.length - a0.length)):=by rw[A,ld];exact E.append ((t.vals _ _ _).drop _)
 have k0:=λM ah D=>(K.keep M ah D).1;refine eT (JA R.depth) (k0 _ _ G) a8 x.co x.gen x.body ?_ (sg (loc:=w) (P:=λc c1=>codeN (MX h a) f (.func a2 c) _ c1) x (uf.at a4 K) (t.reads K) (A▸y) (A▸ld▸q2) (ld▸T) K lv ?_ (λi n D=>H.get (pG (hl▸D))) λc J s1 C p st r hk a9=>mr ?_);·exact qw a6 λb9 oc vs c3 e1 m s Y=>gU b9 oc vs c3 e1 (k0 _ _ m) s Y
 ·rw[hl];exact oS y q2 X
 ·subst C
  refine cj r λh' B qz a3=>?_
  clear y q2 hl r hk a9 A ld H k0 x R G a8 a4 a6 t T X K lv E hb
  subst qz
  refine bu (c2 _ J b k _ _ p st L D) (λa7 v z=>?_) λD v z=>z.elim
  refine hF λa5=>?_
  obtain⟨fl,c4,H',r',D,ah,c5,z⟩:=z
  obtain rfl:=Ht D
  induction fl using Fl.casesOn with
  |next=>
   induction a7 using SH with
   |next=>refine a5 ?_;exact .ok (ah.back a3) .none
   |_=>exact z.elim
  |ret n=>
   induction a7 using SH with
   |ret c6=>refine a5 ?_;exact .ok (ah.back a3) (VR.mono (λε ε z=>z.back a3.sub) (.refl _) z)
   |_=>exact z.elim
noncomputable def Gk(e:CF)(D:LE)(i:Z)(A:mS):mS:=λT b=>(aO e D T b).bind λy=>match srcOf y.2 y.1 with
 |none=>.bad
 |some t=>cg (λY E T b=>A (T.set i (S E)) b) t.1 (t.2+1) 0 T y.2
noncomputable def Gm(e:CF)(k:V Z)(I M:LE)(D:qp):mS:=λT b=>(aO e I T b).bind λr=>(aO e M T r.2).bind λs=>(D T s.2).bind λU=>match df T k [r.1,s.1,U.1] with
 |some v=>.ok (.next,v,U.2)
 |none=>.bad
set_option tactic.hygienic true in
theorem mv.aU{a7:Z}{n:LE}{y:cA}{L:V MP}{x A:Z}{nf:V AV->AH->Res (AV×AH)}{T:Nh}(C:Gr v e P be bg bf)(a3:oo h a e a7 (.fn A) nf)(R:bo N (a7+1) f l)(d:SE h a e l c j f i n aj)(a0:nc h a e l c j f i y L)
  (hx:eJ aj=MK) (hl:(T.endLine==J.line)=MK) (hn:L.length<30):mv h a e l c j f (B3 i nf n x A y) (.Call (.Attribute aj (sx x) T) L [] J):=by
 intro g a8 a5 t a1 p G q D c2;refine hF λa4=>aM (bV D) λbG X H=>?_;obtain⟨I,z⟩:=bG;clear D;have t1:=d g a8 a5 t a1 p G (by rw[X];exact λU=>nomatch U);rw[X] at t1;have hs:=a0.noStar (pos:=J);refine a4 ?_;rw[arm_eval_Call,gu hx];refine aJ (Nj t1 (λva s1 U=>aJ (NW ?_)) λY Y q=>EE.no q);refine hF λb9=>dF U λY Y K ez o1 E=>?_;obtain⟨rfl,rfl⟩:=m6 ez;have b:methodCallForm (L.length+([]:V Keyword).length) (NU J (NR L c)) (backToKw J (keywordEach [] c))=MK:=by have:(NU J (NR L c)).all (λq=>!q.1)=MK:=Se.mpr λq hq=>(S9 q.1).mpr (U5.mpr (U6.mp hs q hq));show((NU J (NR L c)).all (λq=>!q.1)&&MK&&MW (L.length+0+0<30))=MK;rw[this];exact Nm hn
 refine b9 ?_;unfold methodCall;rw[b];refine bO (fH ?_);refine hF λc1=>?_;dsimp only at H;refine kF (aK z I x) (λs=>?_) (λrc s=>?_);·replace H:=s▸H;cases H
 ·replace H:=s▸H
  induction rc using Recv.casesOn with
  |bJ=>cases H
  |own r=>
   dsimp only at H;split at H;·rename_i w;subst w;refine c1 (bK ((lB C o1.inv E s ?_).2));rw[show methodCallPos MK _ c T J=pure J from Na (show(!MK||T.endLine==J.line)=MK from hl)];refine aJ (MZ ?_);refine hF λa9=>aM (bV H) λcm m e3=>?_;have M:=a0.run (pos:=J) g K z s1 a1 p (G.on p o1) (by rw[m];exact λU=>nomatch U);rw[m] at M;refine a9 ?_;refine om (P:=λB=>v.In B) (by rw[hs];rfl) (λB a2=>PE (ji (k:=.fn r) C.ok λo D=>by cases D;exact((lB (Q:=λY Y=>Np) (E:=λY Y=>Np) (A:=f) (prog:=h) (pl:=pure MK) C o1.inv E s trivial).1)) B a2) (bD hs (Nj M (λvs s2 U=>?_) λY Y q=>EE.no q));refine hF λa6=>dF U λY Y r2 ez o2 U=>?_;obtain⟨rfl,rfl⟩:=m6 ez;exact a6 ⟨C.In o2.inv,bu (runN (k:=.fn r) a3 (R.less (Sn _)) o2.inv (G.live.keep G.inv (o1.trans o2)) (.cons (o2.vr E) U) e3) (λY Y n=>n.pre (o1.trans o2)) λY Y n=>n⟩
   ·exact nomatch H
theorem pM{s:Nl MN}{o:V MN->MV->Prop}(B:dQ T f s (λE v=>o [E] v) t d):dQ T f (O0 [(MS,s)]) o t d:=by refine bO (bu B (λE X U=>?_) λY Y r=>r);exact aJ (MZ (aJ (Nx (PySem.Calls.spliced_nil (bK (MZ U))))))
theorem jA{s:Nl MN}{j:V (MO×Nl MN)}{o:V MN->MV->Prop}(B:MY T f s (λE X=>dQ T f (O0 j) (λw q=>o (E :: w) q) t X) t d):dQ T f (O0 ((MS,s) :: j)) o t d:=by refine aJ (Nj B (λE X U=>?_) λY Y r=>r);exact aJ (MZ (bO (fH (bu U (λw q K=>bK (MZ K)) λY Y r=>r))))
theorem gM.tup{tp:Nh}{a9:Z}{D:qp}{I a1:LE}{z L ye:MP}{k:V Z}{m:V MP}{xs:V MT}{k2:Z}{a0:Nh}(R:bo N a9 f (c :: o))(a8:SE h a e (c :: o) c j f i I z)(a6:SE h a e (c :: o) c j f i a1 L)(a3:mv h a e (c :: o) c j f D ye)
  (n:notStar z=MK) (nb:notStar L=MK) (ne:notStar ye=MK) (nm:rZ j c k m xs) (nd:xs.Nodup) (T:k.length=3) (C:Pj [.Tuple m H tp] (.Tuple [z,L,ye] k2 a0) c=pure (S xs)) :
  gM h a e o c j f (Gm i k I a1 D) (.Assign [.Tuple m H tp] (.Tuple [z,L,ye] k2 a0) J):=λg y a7 t A p G q D=>by
 refine hF λP=>aM (bV D) λdu X D=>aM (bV D) λdV e2 D=>aM (bV D) λfC s D=>P ?_;induction eb:df A k [du.1,dV.1,fC.1] using Rx with
 |none=>replace D:=eb▸D;cases D
 |some l'=>rw[eb] at D;refine CT D ?_;have B:=a8 g y a7 t A p G (by rw[X];exact λU=>nomatch U);rw[X] at B;refine aJ (NW ?_);refine aJ (MZ ?_);refine bO (aJ (NW (bO ?_)));rw[bz n,bz nb,bz ne];refine jA (Nj B (λua s1 U=>?_) λY Y q=>EE.no q);refine hF λa2=>dF U λY Y r1 x o1 E=>?_;obtain⟨rfl,rfl⟩:=m6 x;have dw:=G.on p o1;have M:=a6 g r1 du.2 s1 A p dw (by rw[e2];exact λU=>nomatch U);rw[e2] at M;refine a2 (jA (Nj M (λub s2 U=>?_) λY Y q=>EE.no q));refine hF λa5=>dF U λY Y r2 x o2 v=>?_;obtain⟨rfl,rfl⟩:=m6 x;have cN:=dw.on p o2;refine a5 (pM (bu (a3 g r2 dV.2 s2 A p cN _ s _) (λue b U=>?_) λY Y U=>U));refine hF λa4=>dF U λY Y w x o3 v3=>?_;obtain⟨rfl,rfl⟩:=m6 x;have l:=cN.on p o3;refine a4 ?_;refine bK (wpAny_newTuple ?_ (by have:N0=_:=N8;simp;exact SQ _ _));rw[C];have o4:aQ a e g [] w b w fC.2 {b with heap:=b.heap.push {cls:=.type "tuple",data:=.seq #[ua,ub,ue]}}:=.grown l.inv λY Y D=>Rz _ D;have d:VR a.params (Sf ({b with heap:=b.heap.push {cls:=.type "tuple",data:=.seq #[ua,ub,ue]}}:MV).heap w g) w (.tup [du.1,dV.1,fC.1]) (.ref b.heap.objs.size):=.tup _ _ #[ua,ub,ue] 0 (jf rfl l.inv) (.cons ((o2.trans o3).vr E |> o4.vr) (.cons (o4.vr (o3.vr v)) (.cons (o4.vr v3) .nil)));refine bK (MQ (MZ ?_));exact MQ (OY (MQ (Nj (nW (R:=R) p nm nd (.inr T) (l.on p o4) d eb) (λc1 b9 K=>MQ (Nj K (λY Y U=>MZ (gU .next l' fC.2 w rfl ((((o1.trans o2).trans o3).trans o4).wide.trans U.1) U.2 trivial)) λY Y r=>r)) λY Y r=>r)))
theorem vF{R:NP->MV->Prop}{g:MP}{n:MN}{l:V M8}
  (t:MY (MX h a) f (OD n) (λy X=>match y with
   |none=>R (.ok .next) X
   |some b=>MY (MX h a) f (OO g c b) (λY q=>dQ (MX h a) f (Oh l c) (λA e=>match A with
     |.next|.cont=>codeN (MX h a) f (.forLoop g n l [] c) R e
     |.brk=>R (.ok .next) e
     |.ret b=>R (.ok (.ret b)) e) (λY Y=>Nw) q) (λY Y=>Nw) X) (λY Y=>Nw) d)
  (j:∀b,Pk g n b=pure ()):codeN (MX h a) f (.forLoop g n l [] c) R d:=by
 refine fk rfl ?_
 refine hH (bu (E:=λY Y=>Nw) ?_ (λY Y U=>U) λY Y U=>U.elim)
 refine aJ (NW (aJ (wpAny_onRaise (Nj t (λy X i=>?_) λY Y U=>U.elim))))
 induction y using Rx with
 |none=>exact bK (MZ ⟨rfl,xR (codeAny_block (Oj i))⟩)
 |some b=>
  refine aJ (NM (j b) ?_)
  refine aJ (Nj i (λY q K=>bO (bu K (λA e p=>?_) λY Y U=>U)) λY Y U=>U)
  induction A using SH with
  |next=>exact bK (MZ ⟨rfl,p⟩)
  |cont=>exact bK (MZ ⟨rfl,p⟩)
  |brk=>exact bK (MZ p)
  |ret b=>exact bK (MZ p)
theorem vG{M:bI}{s0:MV}{a6:Z}{L:mS}{a0:Src}{k:MR}{xs:V M8}(R:bo N a6 f (c :: o))(hj:j[K]? = S (S r))(J:c.kindOf r=S .local\/c.kindOf r=S .cell)(l:mT h a e o c j f L xs)
  (p:bk ax c j) (g:k∉bA c) (q:Fl×Loc×AH):∀{H i:Z} {A:Loc} {b:AH} {y:bI} {t:MV},St a e ax (c :: o) c j y b A t->cZ a ax y t.heap a0 k i->aQ a e ax (k :: bA c) M s0 y b t->
  cg (λY E T b=>L (T.set K (S E)) b) a0 H i A b=.ok q->
  codeN (MX h a) f (.forLoop (.Name r bj) (.ref k) xs [] c) (λU v=>match U with|.ok L=>QS a e ax (k :: bA c) o c j (.ok q) M s0 L v|.error _=>Nw) t:=by
 intro H;induction H with
 |zero=>intro i A b y t G n z D;cases D
 |succ x d=>
  intro i A b y t G n z D;rw[Ho] at D;refine kF (a0.at i b) (λw=>?_) (λov w=>?_);·replace D:=w▸D;cases D
  ·rw[w] at D
   refine vF (j5 R.handled G.inv n w λs1 o1=>?_) (λY=>rfl)
   have a1:aQ a e ax (k :: bA c) y t y b s1:=o1.inc λC x=>by rw[Rw.mp x];exact .head _
   have dw:=G.Hy p o1 g n.one
   induction ov using Rx with
   |none=>refine CT D ?_;exact gU .next A b y rfl (z.trans a1) dw trivial
   |some E=>
    dsimp only at D⊢
    intro B P a5
    refine PM (ew (j:=K) p dw j4.all hj J P λs2 o2 cN=>?_)
    refine hF λm=>?_
    refine aM (bV D) λbG X e2=>?_
    obtain⟨fl,l3,H3⟩:=bG
    refine m ?_
    refine bu (l ax y b s2 _ p cN _ X) (λf' s3 U=>?_) λY Y U=>U
    refine hF λa3=>?_
    refine qw U λY Y Y r3 ez o3 a4 U=>?_
    clear m X l
    cases ez
    have a2:=((z.trans a1).trans (o2.inc λC x=>.tail _ x)).trans (o3.inc λC x=>.tail k x)
    induction fl using Fl.casesOn with
    |next=>
     cases f' with
     |next=>refine a3 ?_;exact d a4 ((a5.on dw.inv o2 g λI x=>.inl (p.fP I x)).on cN.inv o3 g λI x=>.inl (p.fP I x)) a2 e2
     |_=>exact U.elim
    |ret s=>
     cases f' with
     |ret v2=>refine a3 ?_;refine CT e2 ?_;exact gU (.ret s) l3 H3 r3 rfl a2 a4 U
     |_=>exact U.elim
theorem gM.di{a2:Z}{A:mS}{n:LE}{xs:V M8}(R:bo N a2 f (c :: o))(d:SE h a e (c :: o) c j f i n s)(hj:j[K]? = S (S r))(hk:c.kindOf r=S .local\/c.kindOf r=S .cell)(l:mT h a e o c j f A xs)(hs:dX s=MS) :
  gM h a e o c j f (Gk i n K A) (.For (.Name r bj) s xs [] J):=λg y b t a0 p G q D=>by
 refine hF λm=>?_;refine aM (bV D) λcm X D=>?_;obtain⟨I,H1⟩:=cm;have B:=d g y b t a0 p G (by rw[X];exact λU=>nomatch U);rw[X] at B;dsimp only at D;refine m ?_;refine aJ (NW (aJ (Nj B (λva k U=>?_) λY Y q=>EE.no q)));refine dF U λY Y r1 ez o1 E=>?_;obtain⟨rfl,rfl⟩:=m6 ez;have dw:=G.on p o1;refine kF (srcOf H1 I) (λL=>?_) (λsq L=>?_);·replace D:=L▸D;cases D
 ·obtain⟨a1,x⟩:=sq
  replace D:=L▸D
  refine aM (gY E L) λH du C=>?_
  clear G m X ez E L B d
  subst du
  refine cj (C.items o1.inv) λa3 n' T Y=>?_
  refine aJ (NM (eZ hs _) (aJ (NW (aJ (Nx (Qg (bb T) ?_))))))
  have f0:k.heap.get? k.heap.objs.size=N:=bS _
  refine bM (dO p dw.inv f0) λq1 q2=>?_
  have P:=cu.more (own:=g) (fr:=bA c) (ns:=[k.heap.objs.size]) (λM w=>by rw[Rw.mp w];exact f0) (M5 rfl) (λM z D=>Rz {cls:=.type "list_iterator",data:=.fields #[.ref H,.int 0 0]} D)
  have gI:(k.heap.push {cls:=.type "list_iterator",data:=.fields #[.ref H,.int 0 0]}).get? k.heap.objs.size=S {cls:=.type "list_iterator",data:=.fields #[.ref H,.int 0 0]}:=R3 _ rfl
  have cN:=dw.cY (own':=[k.heap.objs.size]++g) (tk:=k.toks) P.new P.le P.hs λM x=>by
   rcases RL.mp x with x|x;·rw[Rw.mp x];exact⟨_,gI⟩
   ·refine dD (dw.inv.ex M x) λz D=>?_;exact⟨z,P.hs _ _ D⟩
  have it:cZ a ([k.heap.objs.size]++g) r1 ({k with heap:=k.heap.push {cls:=.type "list_iterator",data:=.fields #[.ref H,.int 0 0]},toks:=k.toks}:MV).heap a1 k.heap.objs.size 0:=⟨(jM H (C.mono (λI z U=>(U.cY P.new).grow P.hs) (.refl _)) (λq=>by rw[q,f0] at T;exact nomatch T) (jM _ gI rfl rfl)),by refine R9.trans ?_;rw[RZ q1];simp⟩
  refine sr (h:=N) (fj (vG R hj hk l (p.cY P.sub) q2 q cN it (.refl cN.inv) D) λU v n=>?_) nofun
  cases U with
  |ok A=>exact(QS.back P dw.live n).pre o1.wide
  |error D=>exact n.elim
set_option backward.match.sparseCases true
theorem iL{H:NP->MV->Prop}{K:Od}{X:Args}{M:NK}(x:cW (.builtin K X)=MS)(w:Ov Og K=S M)
  (B:dQ (MX h a) (f.under (.builtin K X)) (M X) (λT v=>match T with|.done A=>H (.ok A) v|.again o=>o.quiet=MK/\codeN (MX h a) f o H v) (λD v=>H (.error D) v) d):codeN (MX h a) f (.builtin K X) H d:=by refine fk x ?_;show dQ _ _ (match Ov Og K with|some M=>M X|none=>PySem.unsupported ((withoutEnding? K "#data").getD K)) _ _ d;rw[w];exact B
theorem fm{H:NP->MV->Prop}{K:Od}{X:Args}{M:NK}(e:(N4.builtin K X).quiet=MK)(x:cW (.builtin K X)=MS)(w:Ov Og K=S M) (B:MY (MX h a) f.in1 (Q1 K X) (λY b=>dQ (MX h a) (f.under (.builtin K X)) (M X) (λT v=>match T with|.done A=>H (.ok A) v|.again o=>o.quiet=MK/\codeN (MX h a) f o H v) (λD v=>H (.error D) v) b) (λD v=>H (.error D) v) d):codeN (MX h a) f (.call (.builtin K) X) H d:=fk rfl (aJ (Nj B (λY b U=>bK (MZ (Vj e (iL x w U)))) λY Y m=>m))
theorem xX{X:Args}:cW (.builtin "type.__call__" X)=MS:=by show(Tx.contains "type.__call__"||_)=MS;decide +kernel
theorem uk{H:NP->MV->Prop}{s:MV}{g:Nv}{b o init:MN}{j:V MN}(d:Nt (MX h a) s.heap (O' o b) MK)(i:Nt (MX h a) s.heap (Q0 o "__init__") (S init))(w:Nt (MX h a) s.heap (Q2 init o) (init,[o]))
  (e:codeN (MX h a) f (.call init ⟨o :: j,[]⟩) (λy v=>match y with|.ok (.ret E)=>E=.none/\H (.ok (.ret o)) v|.ok _=>Nw|.error D=>H (.error D) v) s) :
  dQ (MX h a) f (do
   let M<-O' o b
   if(!M)=MK then do
     rule "type.call.new-gave-other-type"
     ret o
    else do
     let y<-Pz [o] (QA o (Tw "__init__") j)
     match y with
      |none=>ret o
      |some y=>
       if(y != MN.none)=MK then do
        rule "type.call.init-returned-value"
        let q<-PySem.typeNameOf y
        raiseErrorMade "TypeError" (toString "__init__() should return None, not '"++toString q++toString "'")
        ret o
       else ret o) (λT v=>match T with|.done A=>H (.ok A) v|.again c=>c.quiet=MK/\codeN (MX h a) g c H v) (λD v=>H (.error D) v) s:=by
 refine aJ (d.here ?_)
 refine bO (fH ?_)
 refine aJ (i.here ?_)
 refine fH (aJ (w.here ?_))
 refine bO (jz (fj e λy v U=>?_))
 rcases y with D|(E|_|_|_)<;>first|exact U|exact U.elim|skip
 obtain⟨rfl,U⟩:=U
 refine bK (MZ ?_)
 exact bK (MZ U)
theorem sz{M:MR}{y:NP->MV->Prop}{o:M0 PN}{r:Drawn}{n:Z}{e:OP}{j:V MN}{i:MN}(G:Makes (MX h a) p M)(d:Nt (MX h a) p (Oe (.ref M) "__init__") (S i))
  (w:∀A,Nt (MX h a) p (Q2 i A) (i,[A])) (v:(S i != S (MN.builtin "object.__init__"))=MK)
  (E:codeN (MX h a) (f.under (.builtin "type.__call__" ⟨.ref M :: j,[]⟩)) (.call i ⟨.ref (p.objs.size+1) :: j,[]⟩) (InitBack (p.objs.size+1) y) ⟨(p.push NH).push (NC M p.objs.size),o,r,n,e⟩) :
  codeN (MX h a) f (.call (.ref M) ⟨j,[]⟩) y ⟨p,o,r,n,e⟩:=by
 refine hF λl=>?_;have L:=G;obtain⟨⟨b,J,K,I,q,X,m,Y⟩,c,g,A,T,C,t⟩:=G;refine l (fk rfl (bK (nd_load q ?_)));show MY _ _ (Qj.viaDunder (.ref M) _) _ _ _;refine MQ (C.at ?_);refine MQ (MZ (MQ (MZ ?_)));refine MZ (a:=Fin.again (.call (.builtin "type.__call__") ⟨.ref M :: j,[]⟩)) (Vj rfl ?_);refine fm (Uk _ (by decide +kernel)) xX Q3 (P8 tc_kind tc_split t (tc_args _ _ _) ?_);unfold Builtin.«type.__call__»;dsimp only;rw[Nc (show¬((MN.ref M==MN.type "type")=MK) from RW)];refine aJ ((show Nt (MX h a) p (mroOf (.ref M)) K.mro from((Nt.ld (part:=N) q).andThen .now).andThen .now).at ?_);rw[Nc (by rw[Y];exact RW)];refine aJ (c.at ?_);dsimp only;refine aJ (MZ ?_);refine aJ (Nx (OL (new_K L d (.inl v) ?_)));have H:∀k z,p.get? k=S z->((p.push NH).push (NC M p.objs.size)).get? k=S z:=λk z D=>Rz _ (Rz _ D);have x:((p.push NH).push (NC M p.objs.size)).get? (p.objs.size+1)=S (NC M p.objs.size):=by heap_get
 have B:Nt (MX h a) ((p.push NH).push (NC M p.objs.size)) (PO (.ref (p.objs.size+1))) (.ref M):=(Nt.ld x).andThen .now;exact uk (s:=⟨(p.push NH).push (NC M p.objs.size),o,r,n,e⟩) (B.andThen (f:=λn=>Om n (.ref M)) (A.keeps H)) (B.andThen (f:=λn=>Oe n "__init__") (d.keeps H)) ((w (.ref (p.objs.size+1))).keeps H) E
set_option backward.match.sparseCases false
theorem xY:mroOf (.type "bytearray")=pure [.type "bytearray",.type "object"]:=by refine(mroOf_type ..).trans ?_;kernel_rfl
theorem nJ:Oe (.type "bytearray") "__new__"=pure (S (.builtin "bytearray.__new__")):=by refine(Oc ..).trans ?_;kernel_rfl
theorem AI:Bind.madeBy (.type "bytearray")=pure (S "bytearray.__new__"):=madeBy_type xY nJ (by decide +kernel)
theorem q7(I:MN):checkTypeCall "bytearray" ⟨[I],[]⟩=pure ():=by kernel_rfl
theorem sA(I:MN):Q1 "bytearray.__new__" ⟨[.type "bytearray",I],[]⟩=pure ():=by kernel_rfl
theorem pN:Ov Og "bytearray.__new__"=S Builtin.«list.__new__»:=entryFor_alias (id':="list.__new__") (by kernel_rfl) rfl (by decide +kernel) (by kernel_rfl)
theorem pO:plainId "bytearray.__new__"=MK:=by decide +kernel
theorem sC:Om (.type "bytearray") (.type "bytearray")=pure MK:=by refine(Ot ..).trans ?_;kernel_rfl
theorem AJ(E:MN):NK.Bytes.bindOptional "bytearray.__init__" "bytearray" ["source","encoding","errors"] [E] []=pure [S E,N,N]:=by kernel_rfl
theorem sD:Oe (.type "bytearray") "__release_buffer__"=pure (S (.builtin "bytearray.__release_buffer__")):=by refine(Oc ..).trans ?_;kernel_rfl
theorem sE:Oe (.type "bytes") "__index__"=pure N:=by refine(Oc ..).trans ?_;kernel_rfl
theorem hM:Oe (.type "bytes") "__buffer__"=pure (S (.builtin "bytes.__buffer__")):=by refine(Oc ..).trans ?_;kernel_rfl
theorem pP:Oe (.type "bytes") "__release_buffer__"=pure N:=by refine(Oc ..).trans ?_;kernel_rfl
theorem xZ{X:Args}:cW (.builtin "bytearray.__init__" X)=MS:=by show(Tx.contains "bytearray.__init__"||_)=MS;decide +kernel
theorem Dz(B:ai (.ref d.heap.objs.size) {d with heap:=d.heap.push (eH #[])}) :
  NJ (MX h a) f (.call (.builtin "bytearray.__new__") ⟨[.type "bytearray",aa],[]⟩) (wants ai t) d:=by
 refine QX (MQ (NM (sA aa) (MZ ⟨QY pO _,codeAny_builtin_stack pN rfl λP G=>?_⟩)))
 have H:=sC
 have b:("bytearray.__new__".splitOn ".__new__").headD ""="bytearray":=by exact R split_bytearray rfl
 obtain⟨s,o,c,g,e⟩:=d
 dsimp only;rw[b]
 wp_walk
 exact B
set_option tactic.hygienic true in
theorem q8{o:MO->MV->Prop}(B:o MS d):dQ (MX h a) f (NK.Bytes.exported (.ref n)) o t d:=by
 refine pK (λL e=>?_) B;obtain⟨C,P⟩:=L;induction C using N4.casesOn;case builtin K l=>
  obtain⟨y,b⟩:=UD.mp (show(Tx.contains K||["bytearray.__contains__","bytearray.__mod__","bytearray.__rmod__","_struct.pack_into.held","bytearray.find.held"].contains K)=MS from e)
  clear e
  have q:∀H,["bytearray.__contains__","bytearray.__mod__","bytearray.__rmod__","_struct.pack_into.held","bytearray.find.held"].contains H=MK->¬K=H:=λH J D=>RW ((D▸b).symm.trans J)
  obtain⟨p,k⟩:=l
  delta NK.Bytes.exported.match_1
  refine(PQ (q "bytearray.__contains__" (by decide +kernel))).trans ?_
  refine(PQ (q "bytearray.__mod__" (by decide +kernel))).trans ?_
  refine(PQ (q "bytearray.__rmod__" (by decide +kernel))).trans ?_
  refine(PQ (q "_struct.pack_into.held" (by decide +kernel))).trans ?_
  refine(PQ (q "bytearray.find.held" (by decide +kernel))).trans ?_
  induction p using RC with
  |nil=>rfl
  |cons E c=>exact Vv.mpr (.inr y)
 all_goals rfl
theorem mw{o:MO->MV->Prop}(c:d.TypeIs (.ref n) "bytearray")(B:o MS d):MY (MX h a) f (NK.Bytes.ownRelease (.ref n)) o t d:=by refine MQ (MQ (Oa c sD ?_));dsimp only;refine R (Nc (by decide +kernel)) ?_;refine OW (T:="bytearray") (b:=true) c (by refine R (show("bytearray.__release_buffer__".dropRight ("__release_buffer__".length+1))="bytearray" from by decide +kernel) ?_;exact sC) ?_;exact MZ B
theorem q9{b0 b1:M0 Nn}{A:M0 Nn->M0 Nn}{b:NO->MV->Prop}(o:d.heap.get? n=S (eH b0))(D:A b0=b1)(s:b1.size<1000)(B:∀m,m.get? n=S (eH b1)->Sw n d.heap m->b () {d with heap:=m}):MY (MX h a) f (NK.Bytes.write (.ref n) A) b t d:=by
 refine MQ (Ox o ?_);refine MQ (QP o ?_);have G:(d.heap.update n (V4 A)).get? n=S (eH b1):=by refine(R8 _ o rfl).trans ?_;exact R D.symm rfl
 refine Qb G ?_ (B _ G (So ..));exact(Nc (Ti.mpr (qm s rfl)))
theorem AK{i:Ni}{s:MV}{a:MR}{b:M0 Nn}{c:NL}{R:Fin->MV->Prop}(o:s.heap.get? a=S (eH #[]))(g:b.size<1000)(B:∀m,m.get? a=S (eH b)->Sw a s.heap m->R (.done (.ret .none)) {s with heap:=m}) :
  dQ (MX h i) f (Builtin.«bytearray.__init__» ⟨[.ref a,.bytes b c],[]⟩) R t s:=by refine aJ (mw ((ba _ o rfl)) ?_);refine aJ (NM (AJ _) ?_);refine aJ (NM (a:=()) rfl ?_);refine aJ (NM (a:=()) rfl ?_);refine bO (bO (q8 ?_));refine bK (MQ ?_);refine MQ (Ox o (MZ (MZ ?_)));refine bK (MQ (q9 o (b1:=#[]) rfl (by decide) λp d y=>?_));refine MQ (NM (a:=N) rfl ?_);refine MQ (MZ ?_);refine MQ (Oa (PySem.W.typeIs_bytes _ _ _) sE ?_);refine MQ (MQ (Oa (PySem.W.typeIs_bytes _ _ _) hM ?_));dsimp only;refine MQ (MQ (Oa (PySem.W.typeIs_bytes _ _ _) hM ?_));dsimp only;rw[Nc (by decide +kernel)];refine OW (T:="bytes") (b:=true) (PySem.W.typeIs_bytes _ _ _) (by rw[show("bytes.__buffer__".dropRight ("__buffer__".length+1))="bytes" from by decide +kernel];exact F.bm_sub) ?_;refine MQ (Oa (PySem.W.typeIs_bytes _ _ _) hM ?_);refine MQ (MQ (MQ (Oa (PySem.W.typeIs_bytes _ _ _) pP (MZ (MZ ?_)))));refine MQ (MQ (MZ ?_));refine MZ (MZ ?_);refine MQ (OY ?_);refine MQ (q9 d (b1:=b) rfl g λG A e=>?_);exact MZ (B G A (y.trans e))
noncomputable def B6(e:CF)(D:LE):qp:=λT b=>(aO e D T b).bind λy=>.of (bB y.2 .mU [y.1])
theorem AL{M:M0 Nn}{c:NL}{b:NP->MV->Prop}(s:M.size<1000)(H:∀m,(∀C z,d.heap.get? C=S z->m.get? C=S z)->m.get? d.heap.objs.size=S (eH M)->b (.ok (.ret (.ref d.heap.objs.size))) {d with heap:=m}) :
  codeN (MX h a) f (.call (.type "bytearray") ⟨[.bytes M c],[]⟩) b d:=by refine fk rfl (bK (MZ (Vj (Uk _ (by decide +kernel)) (iL xX Q3 ?_))));dsimp only;refine aJ (NM (q7 _) ?_);refine aJ (NM xY ?_);refine aJ (NM AI ?_);refine aJ (MZ ?_);refine aJ (Nx (OL (Dz ?_)));have o:(d.heap.push (eH #[])).get? d.heap.objs.size=S (eH #[]):=R3 _ rfl;have x:Nt (MX h a) ({d with heap:=d.heap.push (eH #[])}:MV).heap (PO (.ref d.heap.objs.size)) (.type "bytearray"):=(Nt.ld (part:=S headPart) o).andThen .now;refine uk (init:=.builtin "bytearray.__init__") (s:={d with heap:=d.heap.push (eH #[])}) (x.andThen (f:=λn=>Om n (.type "bytearray")) (Nt.of_pure sC)) (x.andThen (f:=λn=>Oe n "__init__") (Nt.of_pure eW.lookup)) (Nt.of_pure (eW.bind _)) (fm (QY eW.plain _) xZ ni (eW.check _ _ _ _ _ _ _ _ (ba _ o rfl) (pn _ _) ?_));refine AK (s:={d with heap:=d.heap.push (eH #[])}) o s λm G r=>⟨rfl,H m (λC z D=>?_) G⟩;exact(r.2 C (Td (SD D))).trans (Rz _ D)
theorem my{x:Od}{first:V MN}{X:V (MO×Nl MN)}(a:X.any (·.1)=MS)
  (B:MY T f (evalArgs (.type x) MK X []) (λI b=>dQ T f (N2 (.type x) (first++I.pos) I.kw) ai t b) t d):dQ T f (PD J (.type x) first X []) ai t d:=by refine aJ (Nx (Nj B (λI b U=>aJ (NW ?_)) λY Y r=>r));refine R a (aJ (MZ ?_));exact bO (bu U (λy q P=>bK (MQ (Nx (PZ (MZ P))))) λY Y r=>r)
set_option tactic.hygienic true in
theorem mv.mU{n:LE}(C:Gr v e P be bg bf)(a3:xv v c "bytearray" (.type "bytearray"))(d:SE h a e l c j f i n s)(w:notStar s=MK):mv h a e l c j f (B6 i n) (.Call (.Name "bytearray" bj) [s] [] J):=by
 intro g y b t A p G q D a5;refine aM (bV D) λbG X m=>?_;clear D;obtain⟨I,z⟩:=bG;have B:=d g y b t A p G (R X λU=>nomatch U);replace B:=X▸B;refine aJ (tZ C a3 p G.inv ?_);have T:=SE.jv d w;refine my T.noStar (bD T.noStar ?_);refine R (bz w) (PySem.Calls.spliced_cons (Nj B (λva k U=>?_) λY Y q=>EE.no q));refine hF λa2=>dF U λY Y K ez o1 E=>?_;clear X U B T b A p G C d w;cases ez;refine a2 (PySem.Calls.spliced_nil (hF λa4=>?_));dsimp only at m;clear a2;induction I using Wm with
 |bx H=>
  refine cj (VR.inv E) λM a6 cm a0=>?_;clear E;subst cm;have m:Res.of (if sm H.length then S (Q.eP z.B.length,{z with B:=z.B++[H.map VH]}) else N)=.ok q:=m;split at m;·rename_i hz;obtain rfl:=Ht m;have r:=jy hz;have a1:=Nb Uu a0;rw[Ry,show M.toList.length=M.size from RH] at a1;refine a4 (jz (AL (a1.symm▸n1 r rfl) λh' L o=>?_));have f0:=bS k.heap;exact .ok (r':=K.wM k.heap.objs.size) (o1.trans (.mk' (tk':=k.toks) (o1.inv.IC (bs:=H.map VH) f0 L o (R a0.symm (R SW rfl))) ((More.B K k.heap.objs.size).keep (own:=g) (fr:=[]) (λI x=>by exact R (Rw.mp x) f0) L) (More.B K k.heap.objs.size).le)) (.eP _ _ (R o1.inv.dt.jQ.symm fU))
  ·exact nomatch m
 |_=>cases m
noncomputable def HA:V qp->Loc->AH->Res (V Q×AH)
 |[],_,b=>.ok ([],b)
 |D :: y,T,b=>(D T b).bind λr=>(HA y T r.2).bind λL=>.ok (r.1 :: L.1,L.2)
inductive pQ(prog:Nu)(w:Ni)(g₀:MU)(l:V Nf)(env:Nf)(sl:V (O MT))(A:Nv)(uh:MT):V Z->V qp->V M8->Prop
 |nil:pQ prog w g₀ l env sl A uh [] [] []
 |cons {f:Z} {fs:V Z} {e:qp} {es:V qp} {y:MP} {xs:V M8} {p1 p2 p3:Nh}:mv prog w g₀ l env sl A e y->pQ prog w g₀ l env sl A uh fs es xs->pQ prog w g₀ l env sl A uh (f :: fs) (e :: es) (.Assign [.Attribute (.Name uh p1) (sx f) p2] y p3 :: xs)
theorem vH{a3:Z}{H:MT}{a1:MR}{C:dG}{fs:V Z}{es:V qp}{xs:V M8}(a2:Gr v e P be bg bf)(R:bo N a3 f (c :: o))(p:bk g c j)(G:ke g c H a1 A C)(T:pQ h a e (c :: o) c j f H fs es xs) :
  ∀{ks:V Z} {L k:V Q} {y:bI} {b r:AH} {t:MV},mi a e g (c :: o) c j H a1 A C w ks L y b t->ks++fs=bT C->HA es w b=.ok (k,r)->
   dQ (MX h a) f (Oh xs c) (λa0 s'=>a0=.next/\∃K,aQ a e g [A] y t K r s'/\mi a e g (c :: o) c j H a1 A C w (bT C) (L++k) K r s') (λY Y=>Nw) t:=by
 induction T with
 |nil=>intro ks L k y b r t s J ev;refine bM (m6 ev) λDr IV=>?_;subst Dr;subst IV;rw[Sx] at J;refine iK ⟨rfl,y,.refl s.st.inv,?_⟩;rw[Sx,<-J];exact s
 |@cons a0 fs a4 es i xs l n p3 B T d=>intro ks L k y b r t s J ev;refine aM (bV ev) λbG X m=>?_;obtain⟨I,H1⟩:=bG;refine aM (bV m) λcm e3 e4=>?_;clear m R T;obtain⟨M,H2⟩:=cm;obtain⟨rfl,rfl⟩:=m6 e4;refine hK (kZ (bu (B g y b t w p s.st _ X _) (λU s1 z=>?_) λY Y z=>z) (ib (.Name H _) (sx a0) _ p3.line c));refine dF z λY Y r1 x l E=>?_;obtain⟨rfl,rfl⟩:=m6 x;refine oj a2 p G (s.on G p l) J E λs2 o2 y2=>?_;refine bu (d y2 (by refine(Sm ..).trans ?_;exact J) e3) (λf' s' q=>?_) λY Y q=>q;obtain⟨rfl,K,o3,D⟩:=q;refine⟨rfl,K,(l.wide.trans o2).trans o3,?_⟩;rw[Sm] at D;exact D
theorem x5{J:Loc}{a4:MT}{C:dG}{o:NI}{a0:V MT}{a6:V M8}{vs:V qp}{us:V Q}{H':AH}{ds U:V MN}{a5:V Q}{r:MR}(a8:Gr v e P be bg bf)(hc:C≠.bR)(x:cH o a0 j a6)(R:bo N (q+1) f l)(fz:fQ C=MK)
  (mk:Ql v (CA C)=MK) (hi:N7 v (.ref (CA C)) "__init__"=S (S (.ref r))) (ht:Ob v (.ref r)=S (.type "function"))
  (G:e.get? r=S ah) (c5:ah.data=.func o) (c1:e.NoLimit) (t:e.CodeRec o.code o.qualname) (c4:Ay a e o a5 ds) (T:a5.length<=a0.length) (h4:a0.length<=j.length)
  (n0:a0[0]? = S a4) (kl:o.scope.names.lookup a4=S .local) (kd:(a4==("__debug__":MT))=MS)
  (K:Inv a e g b k d.heap) (lv:cM l g [] d.heap) (c6:bN a.params (Sf d.heap b g) b z U) (hb:bindArgs a0.length a5 j.length (.none :: z)=S J) (hl:w=J.set 0 N) (Y:HA vs w k=.ok (us,H'))
  (E:∀I,pQ h a e (N5 o I r :: l) (N5 o I r) j ((f.under (.builtin "type.__call__" ⟨.ref (CA C) :: U,[]⟩)).deeper (N5 o I r)) a4 (bT C) vs a6) :
  codeN (MX h a) f (.call (.ref (CA C)) ⟨U,[]⟩) (RN a e g (.obj C us,H') b d) d:=by have a2:=a8.In K;have k0:∀M ah,e.get? M=S ah->((d.heap.push NH).push (NC (CA C) d.heap.objs.size)).get? M=S ah:=λM ah D=>Rz _ (Rz _ (K.keep M ah D).1);obtain⟨s,a3,p,n,os⟩:=d;refine sz (makes_of a2 mk) (Pf a2 hi) (λc3=>bind_fn a2 c3 ht) rfl (eT (s:=⟨(s.push NH).push (NC (CA C) s.objs.size),a3,p,n,os⟩) (BW R.depth rfl) (k0 _ _ G) c5 x.co x.gen x.body (ui k0 t) (uj (s:=⟨s,a3,p,n,os⟩) (P:=λc X=>codeN (MX h a) _ (.func a6 c) _ X) hc x c4 c1 T h4 n0 kl kd K lv c6 hb hl λc c7 m B he eo H c2 a7=>mr ?_));subst he;refine bu (vH a8 R.make eo H (E _) c2 rfl Y) (λA s' L=>?_) λD s' L=>L.elim;obtain⟨rfl,r',ah,i⟩:=L;refine⟨rfl,?_⟩;exact cj i.at' λy a1 a9 A=>.ok (aQ.back (s:=⟨s,a3,p,n,os⟩) a7 (ah.inc λC a1=>a1)) (.obj C us _ _ y a1 ⟨a9.x,(i.st.inv.off _ (eX H.ix)).1,K.no (SU (Sn _))⟩ ⟨a9.d,(i.st.inv.off _ (eX H.id)).1,K.no (bS _)⟩ (A.mono (λε ε b9=>b9.back a7.sub) (.refl _)))
noncomputable def bW(r:MP):O MT:=vw SF 23 r λB=>MP.Name.elim r B λI P=>S I
noncomputable def iX(r:MP):O OR:=vw SF 19 r λB=>MP.Constant.elim r B λC H P=>S C
noncomputable def hN(r:MP):O (MP×MT):=vw SF 20 r λB=>TA r B λs I P=>S (s,I)
noncomputable def pR(r:MP):O (MP×MT×Nh):=vw SF 20 r λB=>TA r B λs I P=>S (s,I,P)
noncomputable def hO(r:MP):O (MP×V MP×Nh):=vw SF 16 r λB=>MP.Call.elim r B λA j k P=>bif k.isEmpty then S (A,j,P) else N
noncomputable def sF(r:MP):O (MP×MP):=vw SF 21 r λB=>MP.Subscript.elim r B λI K P=>S (I,K)
noncomputable def jB(r:MP):O (V MP):=vw SF 25 r λB=>MP.Tuple.elim r B λj H P=>S j
noncomputable def DA(r:MP):O (V MP):=vw SF 24 r λB=>MP.List.elim r B λj P=>S j
noncomputable def x8(r:MP):O (V (O MP)×V MP):=vw SF 6 r λB=>MP.Dict.elim r B λg w P=>S (g,w)
noncomputable def Gn(r:MP):O (MP×O7×MP):=vw SF 2 r λB=>MP.BinOp.elim r B λI z M P=>S (I,z,M)
noncomputable def DB(r:MP):O (MP×CmpOp×MP):=vw SF 15 r λB=>MP.Compare.elim r B λI e f P=>(l1 e).bind λz=>(l1 f).map λM=>(I,z,M)
noncomputable def vBool(r:MP):O (Of×MP×MP×V MP×Nh):=vw SF 0 r λB=>TL r B λz j P=>j.head?.bind λs=>j.tail.head?.map λU=>(z,s,U,j.tail.tail,P)
noncomputable def HB(r:MP):O (UnaryOp×MP):=vw SF 3 r λB=>MP.UnaryOp.elim r B λz s P=>S (z,s)
noncomputable def IW(r:MP):O (MP×MP×MP):=vw SF 5 r λB=>MP.IfExp.elim r B λI M C P=>S (I,M,C)
noncomputable def ra(r:MP):O (MP×MP×MP×V MP×NB×ML):=vw SF 8 r λB=>MP.ListComp.elim r B λs G g P=>(l1 G).map λo=>(s,o.target,o.iter,o.ifs,g,o.is_async)
noncomputable def x9(r:MP):O (O MP×O MP):=vw SF 26 r λB=>MP.Slice.elim r B λI M C P=>bif C.isNone then S (I,M) else N
theorem bw(r:MP):aZ (bW r) λI=>∃P,r=.Name I P:=dq λB=>MP.Name.elim (motive_1:=λr=>∀B,aZ (MP.Name.elim (motive_1:=λ_=>O MT) r B λI P=>S I) λI=>∃P,r=.Name I P) r B (λI P _=>⟨_,rfl⟩) B
theorem gb(r:MP):aZ (iX r) λI=>∃L:Z×Nh,r=.Constant I L.1 L.2:=dq λB=>MP.Constant.elim (motive_1:=λr=>∀B,aZ (MP.Constant.elim (motive_1:=λ_=>O OR) r B λC H P=>S C) λI=>∃L:Z×Nh,r=.Constant I L.1 L.2) r B (λC H P _=>⟨(_,_),rfl⟩) B
theorem fI(r:MP):aZ (hN r) λI=>∃P,r=.Attribute I.1 I.2 P:=dq λB=>TA (motive_1:=λr=>∀B,aZ (TA (motive_1:=λ_=>O (MP×MT)) r B λs I P=>S (s,I)) λI=>∃P,r=.Attribute I.1 I.2 P) r B (λs I P _=>⟨_,rfl⟩) B
theorem mz(r:MP):aZ (pR r) λI=>r=.Attribute I.1 I.2.1 I.2.2:=dq λB=>TA (motive_1:=λr=>∀B,aZ (TA (motive_1:=λ_=>O (MP×MT×Nh)) r B λs I P=>S (s,I,P)) λI=>r=.Attribute I.1 I.2.1 I.2.2) r B (λs I P _=>rfl) B
theorem eC(r:MP):aZ (hO r) λI=>r=.Call I.1 I.2.1 [] I.2.2:=dq λB=>MP.Call.elim (motive_1:=λr=>∀B,aZ (MP.Call.elim (motive_1:=λ_=>O (MP×V MP×Nh)) r B λA j k P=>bif k.isEmpty then S (A,j,P) else N) λI=>r=.Call I.1 I.2.1 [] I.2.2) r B (λA j k P _=>by
  induction k using RC with
  |nil=>exact rfl
  |cons _ _=>exact RY) B
theorem ki(r:MP):aZ (sF r) λI=>∃P,r=.Subscript I.1 I.2 P:=dq λB=>MP.Subscript.elim (motive_1:=λr=>∀B,aZ (MP.Subscript.elim (motive_1:=λ_=>O (MP×MP)) r B λI K P=>S (I,K)) λI=>∃P,r=.Subscript I.1 I.2 P) r B (λI K P _=>⟨_,rfl⟩) B
theorem fN(r:MP):aZ (jB r) λI=>∃L:Z×Nh,r=.Tuple I L.1 L.2:=dq λB=>MP.Tuple.elim (motive_1:=λr=>∀B,aZ (MP.Tuple.elim (motive_1:=λ_=>O (V MP)) r B λj H P=>S j) λI=>∃L:Z×Nh,r=.Tuple I L.1 L.2) r B (λj H P _=>⟨(_,_),rfl⟩) B
theorem ya(r:MP):aZ (DA r) λI=>∃P,r=.List I P:=dq λB=>MP.List.elim (motive_1:=λr=>∀B,aZ (MP.List.elim (motive_1:=λ_=>O (V MP)) r B λj P=>S j) λI=>∃P,r=.List I P) r B (λj P _=>⟨_,rfl⟩) B
theorem um(r:MP):aZ (x8 r) λI=>∃P,r=.Dict I.1 I.2 P:=dq λB=>MP.Dict.elim (motive_1:=λr=>∀B,aZ (MP.Dict.elim (motive_1:=λ_=>O (V (O MP)×V MP)) r B λg w P=>S (g,w)) λI=>∃P,r=.Dict I.1 I.2 P) r B (λg w P _=>⟨_,rfl⟩) B
theorem DC(r:MP):aZ (Gn r) λI=>∃P,r=.BinOp I.1 I.2.1 I.2.2 P:=dq λB=>MP.BinOp.elim (motive_1:=λr=>∀B,aZ (MP.BinOp.elim (motive_1:=λ_=>O (MP×O7×MP)) r B λI z M P=>S (I,z,M)) λI=>∃P,r=.BinOp I.1 I.2.1 I.2.2 P) r B (λI z M P _=>⟨_,rfl⟩) B
theorem yb(r:MP):aZ (DB r) λI=>∃P,r=.Compare I.1 [I.2.1] [I.2.2] P:=dq λB=>MP.Compare.elim (motive_1:=λr=>∀B,aZ (MP.Compare.elim (motive_1:=λ_=>O (MP×CmpOp×MP)) r B λI e f P=>(l1 e).bind λz=>(l1 f).map λM=>(I,z,M)) λI=>∃P,r=.Compare I.1 [I.2.1] [I.2.2] P) r B (λI e f P _=>by rcases e with _|⟨z,_|⟨o2,e⟩⟩<;>rcases f with _|⟨M,_|⟨b2,f⟩⟩<;>first|exact RY|exact⟨_,rfl⟩) B
theorem lC(r:MP):aZ (vBool r) λI=>r=.BoolOp I.1 (I.2.1 :: I.2.2.1 :: I.2.2.2.1) I.2.2.2.2:=dq λB=>TL (motive_1:=λr=>∀B,aZ (TL (motive_1:=λ_=>O (Of×MP×MP×V MP×Nh)) r B λz j P=>j.head?.bind λs=>j.tail.head?.map λU=>(z,s,U,j.tail.tail,P)) λI=>r=.BoolOp I.1 (I.2.1 :: I.2.2.1 :: I.2.2.2.1) I.2.2.2.2) r B (λz j P _=>by rcases j with _|⟨s,_|⟨U,y⟩⟩<;>first|exact RY|exact rfl) B
theorem yc(r:MP):aZ (HB r) λI=>∃P,r=.UnaryOp I.1 I.2 P:=dq λB=>MP.UnaryOp.elim (motive_1:=λr=>∀B,aZ (MP.UnaryOp.elim (motive_1:=λ_=>O (UnaryOp×MP)) r B λz s P=>S (z,s)) λI=>∃P,r=.UnaryOp I.1 I.2 P) r B (λz s P _=>⟨_,rfl⟩) B
theorem B7(r:MP):aZ (IW r) λI=>∃P,r=.IfExp I.1 I.2.1 I.2.2 P:=dq λB=>MP.IfExp.elim (motive_1:=λr=>∀B,aZ (MP.IfExp.elim (motive_1:=λ_=>O (MP×MP×MP)) r B λI M C P=>S (I,M,C)) λI=>∃P,r=.IfExp I.1 I.2.1 I.2.2 P) r B (λI M C P _=>⟨_,rfl⟩) B
theorem pS(r:MP):aZ (ra r) λI=>∃P,r=.ListComp I.1 [⟨I.2.1,I.2.2.1,I.2.2.2.1,I.2.2.2.2.2⟩] I.2.2.2.2.1 P:=dq λB=>MP.ListComp.elim (motive_1:=λr=>∀B,aZ (MP.ListComp.elim (motive_1:=λ_=>O (MP×MP×MP×V MP×NB×ML)) r B λs G g P=>(l1 G).map λo=>(s,o.target,o.iter,o.ifs,g,o.is_async)) λI=>∃P,r=.ListComp I.1 [⟨I.2.1,I.2.2.1,I.2.2.2.1,I.2.2.2.2.2⟩] I.2.2.2.2.1 P) r B (λs G g P _=>by rcases G with _|⟨⟨n,K,f,I⟩,_|⟨o,y⟩⟩<;>first|exact RY|exact⟨_,rfl⟩) B
theorem yd(r:MP):aZ (x9 r) λI=>∃P,r=.Slice I.1 I.2 N P:=dq λB=>MP.Slice.elim (motive_1:=λr=>∀B,aZ (MP.Slice.elim (motive_1:=λ_=>O (O MP×O MP)) r B λI M C P=>bif C.isNone then S (I,M) else N) λI=>∃P,r=.Slice I.1 I.2 N P) r B (λI M C P _=>by
  induction C using Rx with
  |none=>exact⟨_,rfl⟩
  |some _=>exact RY) B
noncomputable def IX(r:MP):O MP:=vw SF 0 r λB=>TL r B λz j P=>l1 j
theorem Gp(r:MP):aZ (IX r) λs=>∃L:Of×Nh,r=.BoolOp L.1 [s] L.2:=dq λB=>TL (motive_1:=λr=>∀B,aZ (TL (motive_1:=λ_=>O MP) r B λz j P=>l1 j) λs=>∃L:Of×Nh,r=.BoolOp L.1 [s] L.2) r B (λz j P _=>by rcases j with _|⟨s,_|⟨U,y⟩⟩<;>first|exact RY|exact⟨(z,P),rfl⟩) B
noncomputable def zG(r:MP):MP:=(IX r).getD r
theorem Gq(r:MP):zG r=r\/∃z P,r=.BoolOp z [zG r] P:=by
 have B:=Gp r;unfold zG;revert B;cases IX r with
 |none=>exact λY=>.inl rfl
 |some s=>exact λ⟨L,D⟩=>.inr (wa L.1 L.2 D)
theorem B8{P:MP->Prop}(B:P (zG aj))(H:∀z s a,P s->P (.BoolOp z [s] a)):P aj:=by
 rcases Gq aj with D|⟨z,a,D⟩;·exact D▸B
 ·exact D▸H z _ a B
set_option genCtorIdx true in
inductive Kd|loc|cell|Df|glob
 deriving O6
noncomputable def Gs(c:Nf)(r:MT):Kd->Prop
 |.loc=>c.kindOf r=S .local
 |.cell=>c.kindOf r=S .cell
 |.Df=>c.kindOf r=S .cell\/c.kindOf r=S .free
 |.glob=>c.kindOf r=S .globalImplicit
structure Cx where
 names:V (MT×Ny)
 comp:MO
 sl:V (O MT)
noncomputable def Lb(c:MO):Ny->O Kd
 |.local=>S .loc
 |.cell=>if c then N else S .cell
 |.free=>S .Df
 |.globalImplicit=>S .glob
 |_=>N
noncomputable def Cx.kd(C:Cx)(r:MT):O Kd:=(C.names.lookup r).bind (Lb C.comp)
variable{E:Cx}
theorem Cx.Gu{H:Kd}(n:c.kindOf r=E.names.lookup r)(D:E.kd r=S H):Gs c r H:=by
 refine iU D λa X m=>?_;have s:=n.trans X;clear X n D;induction a using Vc with
 |«local»=>exact sX m▸s
 |cell=>
  revert m
  cases E.comp with
  |true=>exact nX
  |false=>exact λm=>sX m▸s
 |free=>exact sX m▸US s
 |globalImplicit=>exact sX m▸s
 |_=>exact nX m
noncomputable def gg(C:Cx)(c:Nf):Prop:=∀r H,C.kd r=S H->Gs c r H
noncomputable def Cx.slot(C:Cx)(i:Z)(r:MT):MO:=MW (C.sl[i]? = S (S r))
theorem Cx.lD(B:E.slot K r=MK):E.sl[K]? = S (S r):=M5 B
noncomputable def da(r:MT):MO:=!(r==("__debug__":MT))&&!(r==("__classdict__":MT))
theorem bH(B:da r=MK):(r==("__debug__":MT))=MS:=nF (RS.mp B).1
theorem ig(B:da r=MK):(r==("__classdict__":MT))=MS:=nF (RS.mp B).2
noncomputable def Kd.isVar:Kd->MO
 |.glob=>MS
 |_=>MK
noncomputable def Kd.isDst:Kd->MO
 |.loc|.cell=>MK
 |_=>MS
noncomputable def Cx.var(C:Cx)(i:Z)(r:MT):MO:=C.slot i r&&da r&&(C.kd r).any Kd.isVar
noncomputable def Cx.dst(C:Cx)(i:Z)(r:MT):MO:=C.slot i r&&(C.kd r).any Kd.isDst
theorem Cx.pT(z:gg E c)(B:E.var K r=MK):E.sl[K]? = S (S r)/\(c.kindOf r=S .local\/c.kindOf r=S .cell\/c.kindOf r=S .free)/\da r=MK:=
 gV B λT X G=>by
  refine fB (Cx.lD T) ?_ X;refine aM (NQ G) λH D G=>?_;have U:=z r H D;clear T X D z B;induction H using Kd.casesOn with
  |loc=>exact .inl U
  |cell=>exact .inr (.inl U)
  |Df=>exact .inr U
  |glob=>exact bF G
theorem Cx.pU(z:gg E c)(B:E.dst K r=MK):E.sl[K]? = S (S r)/\(c.kindOf r=S .local\/c.kindOf r=S .cell):=
 an B λp G=>by
  refine⟨Cx.lD p,?_⟩;refine aM (NQ G) λH D G=>?_;have U:=z r H D;induction H using Kd.casesOn with
  |loc=>exact .inl U
  |cell=>exact .inr U
  |_=>exact bF G
deriving instance DecidableEq for BV
set_option genCtorIdx true in
inductive GV|fn(k:Z)|cls(c:dG)|int(i:ML)|bi(b:BV)
 deriving O6
noncomputable def Lc:V (MT×GV):=[("Thing",GV.cls .Thing),("Text",GV.cls .Text),("Row",GV.cls .Row),("DictBody",GV.cls .Dict),("Span",GV.cls .Span),("Limits",GV.cls .CE),("VmSave",GV.cls .jP),("Memory",GV.cls .Mem),("PsError",GV.cls .bR),("GRAIN",GV.int 1000000),("READ_ONLY",GV.int 2),("UNLIMITED",GV.int 3),("ITEM_COST",GV.int 8),("ENTRY_COST",GV.int 16),("MOST_COST",GV.int 16777216),("len",GV.bi (.fn "len")),("min",GV.bi (.fn "min")),("max",GV.bi (.fn "max")),("abs",GV.bi (.fn "abs")),("int",GV.bi (.ty "int")),("bytes",GV.bi (.ty "bytes")),("bytearray",GV.bi (.ty "bytearray")),("list",GV.bi (.ty "list")),("range",GV.bi (.ty "range")),("enumerate",GV.bi (.ty "enumerate")),("isinstance",GV.bi (.fn "isinstance"))]
noncomputable def AM:V (MT×GV):=(fnName.zipIdx.filterMap λL=>match L.1 with|(H,N)=>S (sx H,GV.fn L.2)|_=>N)++Lc
noncomputable def JT(a:Nz)(r:MT):GV->Prop
 |.fn H=>NY a NN r=S (S (.ref (FA H)))/\H<60
 |.cls C=>NY a NN r=S (S (.ref (CA C)))
 |.int K=>∃n,NY a NN r=S (S (.int K n))
 |.bi M=>NY a NN r=S N/\QU r=S M.val/\r≠"__name__"
noncomputable def rE(a:Nz):Prop:=∀L∈AM,JT a L.1 L.2/\da L.1=MK
theorem kM{E:G}{T:V (MT×G)}(B:T.lookup r=S E):(r,E)∈T:=by
 induction T with
 |nil=>exact nX B
 |cons L y d=>
  rw[SG] at B;refine wb (r==L.1) (λD=>?_) (λD=>?_);·rw[D] at B;exact .tail _ (d B)
  ·rw[D] at B;exact N9.mp D▸sX B▸.head _
noncomputable def Cx.DE(C:Cx)(r:MT):O GV:=if C.kd r=S .glob then AM.lookup r else N
theorem Cx.kj{a:GV}(z:gg E c)(o:rE v)(B:E.DE r=S a):c.kindOf r=S .globalImplicit/\JT v r a/\da r=MK:=by
 by_cases D:E.kd r=S .glob;·exact⟨z r _ D,o _ (kM ((Na D).symm.trans B))⟩
 ·exact nX ((Nc D).symm.trans B)
noncomputable def Cx.bi(C:Cx)(r:MT)(M:BV):MO:=MW (C.DE r=S (.bi M))
theorem Cx.mA{M:BV}(z:gg E c)(o:rE v)(B:E.bi r M=MK):xv v c r M.val:=fM (Cx.kj z o (M5 B)) λH bG pl=>fM bG λd A g=>⟨d,A,g,H,bH pl⟩
noncomputable def ou:Of->MO|.And=>MK|_=>MS
noncomputable def B9(z:wk)(o:O7):MO:=MW (o=wN z)
noncomputable def yf(C:Cx)(g:NB)(m:V (Z×MT)):V (O MT):=C.sl.zipIdx.map λL=>(m.lookup L.2).or (L.1.bind λr=>if g.names.lookup r=S .free then S r else N)
noncomputable def DF(C:Cx)(g:NB)(l:V (O MT))(m:V Z):MO:=g.names.all (λL=>MW (L.2≠.cell))&&MW (g.kind=.function)&&g.names.all (λL=>MW (L.2≠.local)||MW (g.names.lookup L.1=S .local))&& g.names.all (λL=>MW (L.2≠.free)||((MW (C.kd L.1=S .cell)||MW (C.kd L.1=S .Df))&&C.sl.contains (S L.1)))&& l.zipIdx.all (λL=>L.1.isNone||L.1.any λr=>(m.contains L.2&&MW (g.names.lookup r=S .local))||(!m.contains L.2&&C.slot L.2 r&&MW (g.names.lookup r=S .free)))&& MW ((l.filterMap λL=>L).Nodup)&&MW (l.length=C.sl.length)
inductive It|E(e:LE)(x:MP)|T(e:LE)(x:MP)|Es(es:cA)(xs:V MP)|O(o:LO)(x:Option MP)|P(ks:V Z)(vs:cA)(xs:V (Option MP))(ys:V MP)
noncomputable def iY(r:MP)(m:V Z):V (Z×MT):=(((bW r).bind λJ=>(l1 m).map λi=>[(i,J)]).or (((jB r).bind l2).bind λL=>(bW L.1).bind λI=>(bW L.2).bind λM=>(l2 m).map λi=>[(i.1,I),(i.2,M)])).getD []
noncomputable def DG(l:V (O MT))(g:NB)(m:V (Z×MT)):MO:=m.all λL=>MW (l[L.1]? = S (S L.2))&&MW (g.names.lookup L.2=S .local)
noncomputable def Fi:cA->O LE
 |.cons D .nil=>S D
 |_=>N
noncomputable def sG(D:LE):O Z:=by induction D using LE.casesOn with|var r=>exact S r|_=>exact N
noncomputable def Fj(D:LE):O (Z×Z):=by induction D using LE.casesOn with|attr D I=>exact(sG D).map λi=>(i,I)|_=>exact N
theorem yg(D:LE):aZ (sG D) λi=>D=.var i:=by induction D using LE.casesOn<;>first|exact RY|rfl
theorem Ca(D:LE):aZ (Fj D) λL=>D=.attr (.var L.1) L.2:=by
 induction D using LE.casesOn with
 |attr D A=>
  have B:=yg D
  revert B
  show _->aZ ((sG D).map _) _
  cases sG D with
  |none=>exact λY=>RY
  |some i=>exact λB=>Nb (LE.attr · A) B
 |_=>exact RY
theorem yh(y:cA):aZ (Fi y) λD=>y=.cons D .nil:=by rcases y with _|⟨D,_|⟨m,a⟩⟩<;>first|exact RY|rfl
noncomputable def Gv(H:OR):O (V Nn):=vw OR.ctorIdx 6 H λB=>OR.bytes.elim H B λM=>S M
theorem DH(H:OR):aZ (Gv H) λM=>H=.bytes M:=dq λB=>OR.bytes.elim (motive:=λH=>∀B,aZ (OR.bytes.elim (motive:=λ_=>O (V Nn)) H B λM=>S M) λM=>H=.bytes M) H B (λM _=>rfl) B
noncomputable def Ld(h:It->MO):cA->V MP->MO
 |.nil,j=>j.isEmpty
 |.cons D y,j=>match j with
  |[]=>MS
  |r :: j=>notStar r&&h (.E D r)&&h (.Es y j)
noncomputable def cO(h:It->MO):LO->O MP->MO
 |.no,r=>r.isNone
 |.so D,r=>r.any λr=>h (.E D r)
noncomputable def cP(h:It->MO):V Z->cA->V (O MP)->V MP->MO
 |[],w,j,A=>(match w with|.nil=>MK|_=>MS)&&j.isEmpty&&A.isEmpty
 |H :: g,w,j,A=>match w with
  |.nil=>MS
  |.cons E w=>match j with
   |[]=>MS
   |r :: j=>match A with
    |[]=>MS
    |s :: A=>r.any λr=>MW (H<NS)&&(iX r).any (λL=>MW (L=.str (sx H)))&&h (.E E s)&&h (.P g w j A)
noncomputable def cT(h:It->MO)(r:MP):LE->MO
 |.and I M=>(vBool r).any λL=>ou L.1&&h (.T I L.2.1)&&h (.T M (.BoolOp .And (L.2.2.1 :: L.2.2.2.1) L.2.2.2.2))
 |.or I M=>(vBool r).any λL=>!ou L.1&&h (.T I L.2.1)&&h (.T M (.BoolOp .Or (L.2.2.1 :: L.2.2.2.1) L.2.2.2.2))
 |.not I=>(HB r).any λL=>MW (L.1=.Not)&&h (.T I L.2)
 |.cmp z I M=>(DB r).any λL=>MW (L.2.1=jh z)&&!(P4 (jh z) L.2.2)&&h (.E I L.1)&&h (.E M L.2.2)
 |.ite n I M=>(IW r).any λL=>h (.T n L.1)&&h (.T I L.2.1)&&h (.T M L.2.2)
 |D=>!(rU r)&&h (.E D r)
noncomputable def cB(h:It->MO)(C:Cx)(l:cA)(J:MT)(j:V MP):BI->MO
 |.fK=>(Fi l).any λD=>(l1 j).any λs=>(hO s).any λn=>(bW n.1).any λb=>(l1 n.2.1).any λU=>MW (J=("list":MT))&&C.bi "list" (.ty "list")&&MW (b=("range":MT))&&C.bi "range" (.ty "range")&&notStar U&&h (.E D U)
 |.gS=>(Fi l).any λD=>(l2 j).any λL=>(bW L.2).any λb=>MW (J=("isinstance":MT))&&C.bi "isinstance" (.fn "isinstance")&&MW (b=("int":MT))&&C.bi "int" (.ty "int")&&notStar L.1&&h (.E D L.1)
 |M=>(Av M).any λbv=>MW (J=bv.1)&&C.bi J bv.2&&h (.Es l j)
noncomputable def IY(A:LE->MP->MO)(f:V MP):LO->MO
 |.no=>f.isEmpty
 |.so D=>(l1 f).any (A D)
noncomputable def cE(h:Cx->It->MO)(C:Cx)(r:MP):LE->MO
 |.and I M=>(vBool r).any λL=>ou L.1&&h C (.E I L.2.1)&&h C (.E M (.BoolOp .And (L.2.2.1 :: L.2.2.2.1) L.2.2.2.2))
 |.or I M=>(vBool r).any λL=>!ou L.1&&h C (.E I L.2.1)&&h C (.E M (.BoolOp .Or (L.2.2.1 :: L.2.2.2.1) L.2.2.2.2))
 |.kP=>(iX r).any λH=>MW (H=.none)
 |.qj M=>(iX r).any λH=>MW (H=.bool M)
 |.int K=>(iX r).any λH=>MW (H=.int K)
 |.str H=>(iX r).any λL=>MW (L=.str (sx H))&&MW (H<NS)
 |.bx T=>(iX r).any λH=>(Gv H).any λM=>MW (M.map SK=T)
 |.var i=>(bW r).any λJ=>C.var i J
 |.gf A=>(bW r).any λJ=>MW (C.DE J=S (.fn A))
 |.gc v=>(bW r).any λJ=>MW (C.DE J=S (.cls v))
 |.gi _ K=>(bW r).any λJ=>MW (C.DE J=S (.int K))
 |.attr D I=>(hN r).any λL=>MW (L.2=sx I)&&eJ L.1&&h C (.E D L.1)
 |.call A l=>(hO r).any λL=>(hN L.1).isNone&&h C (.E A L.1)&&h C (.Es l L.2.1)
 |.bq M l=>(hO r).any λL=>(bW L.1).any λJ=>cB (h C) C l J L.2.1 M
 |.aU D x l=>(hO r).any λL=>(pR L.1).any λb=>MW (b.2.1=sx x)&&eJ b.1&&(b.2.2.endLine==L.2.2.line)&&MW (L.2.1.length<30)&&h C (.E D b.1)&&h C (.Es l L.2.1)
 |.sub I K=>(sF r).any λL=>fV L.2&&h C (.E I L.1)&&h C (.E K L.2)
 |.qk D o d=>(sF r).any λL=>(x9 L.2).any λb=>h C (.E D L.1)&&h C (.O o b.1)&&h C (.O d b.2)
 |.pick g w K=>(sF r).any λL=>(x8 L.1).any λb=>fV L.2&&decide g.Nodup&&MW (g.length<=15)&&h C (.P g w b.1 b.2)&&h C (.E K L.2)
 |.tup y=>(jB r).any λj=>MW (j0 y<1000)&&h C (.Es y j)
 |.lst y=>(DA r).any λj=>MW (j0 y<1000)&&h C (.Es y j)
 |.emp=>(DA r).any λj=>j.isEmpty
 |.tq g w=>(x8 r).any λb=>decide g.Nodup&&MW (g.length<=15)&&h C (.P g w b.1 b.2)
 |.bin z I M=>(Gn r).any λL=>B9 z L.2.1&&h C (.E I L.1)&&h C (.E M L.2.2)
 |.cmp z I M=>(DB r).any λL=>MW (L.2.1=jh z)&&!(P4 (jh z) L.2.2)&&h C (.E I L.1)&&h C (.E M L.2.2)
 |.not I=>(HB r).any λL=>MW (L.1=.Not)&&h C (.E I L.2)
 |.neg I=>(HB r).any λL=>MW (L.1=.USub)&&h C (.E I L.2)
 |.ite b I M=>(IW r).any λL=>h C (.T b L.1)&&h C (.E I L.2.1)&&h C (.E M L.2.2)
 |.comp a m c q=>(ra r).any λL=>cC h C a m c q L.1 L.2.1 L.2.2.1 L.2.2.2.1 L.2.2.2.2.1 L.2.2.2.2.2
 |.vals D H=>(ra r).any λL=>cV C D H L.1 L.2.1 L.2.2.1 L.2.2.2.1 L.2.2.2.2.1 L.2.2.2.2.2
where
 cC (h:Cx->It->MO) (C:Cx) (a:LE) (m:V Z) (c:LE) (q:LO) (s b K:MP) (fs:V MP) (sc:NB) (n:ML):MO:=
  (MW (n=0)&&!(dX K)&&h C (.E c K)&&MW ((iY b m).map (·.1)=m)&&!m.isEmpty&&DF C sc (yf C sc (iY b m)) m&&DG (yf C sc (iY b m)) sc (iY b m))&&
  h ⟨sc.names,MK,yf C sc (iY b m)⟩ (.E a s)&&IY (λD s=>h ⟨sc.names,MK,yf C sc (iY b m)⟩ (.T D s)) fs q
 cV (C:Cx) (D:LE) (H:Z) (s b K:MP) (fs:V MP) (sc:NB) (n:ML):MO:=
  (Fj D).any λk=>(sF s).any λI=>(hN I.1).any λM=>(bW M.1).any λX=>(bW I.2).any λY=>(bW b).any λp=>(hN K).any λG=>(bW G.1).any λe=>
   (MW (M.2=sx k.2)&&MW (G.2=sx k.2)&&MW (e=X)&&MW (p=Y)&&fs.isEmpty&&MW (n=0))&&
   (MW (k.2≠26)&&MW (k.1≠H)&&DF C sc (yf C sc [(H,Y)]) [H]&&C.var k.1 X)&&(MW (sc.names.lookup X=S .free)&&MW (sc.names.lookup Y=S .local)&&da Y&&
   MW ((yf C sc [(H,Y)])[k.1]? = S (S X))&&MW ((yf C sc [(H,Y)])[H]? = S (S Y)))
noncomputable def AN(h:Cx->It->MO)(C:Cx):It->MO
 |.Es y j=>Ld (h C) y j
 |.O z r=>cO (h C) z r
 |.P g w j A=>cP (h C) g w j A
 |.T D r=>cT (h C) (zG r) D
 |.E D r=>cE h C (zG r) D
noncomputable def fv:Z->Cx->It->MO
 |0,_,_=>MS
 |q+1,C,n=>AN (fv q) C n
theorem SE.bx{M:V Nn}:SE h a e l c j f i (.bx (M.map SK)) (.Constant (.bytes M) H J):=λg y b t A p G B=>by exact Constant_bytes (.ok (.tok G.inv) (.bx _ _ _ rfl))
theorem pV{T:V (O MT)}(B:T.contains (S r)=MK):∃i:Z,T[i]? = S (S r):=by have:=Tr.mp B;exact SI.mp this
theorem ow{T:V (O MT)}(B:(T.filterMap λL=>L).Nodup):∀(K i:Z) r,T[K]? = S (S r)->T[i]? = S (S r)->K=i:=by
 induction T with
 |nil=>intro K i r D;exact nX D
 |cons I T d=>
  intro K i r X m
  have n:(T.filterMap λL=>L).Nodup:=by
   induction I using Rx with
   |none=>exact B
   |some s=>exact(RV.mp (show(s :: T.filterMap λL=>L).Nodup from B)).2
  have l:∀{i:Z},I=S r->T[i]? = S (S r)->Nw:=λ{i} t D=>by subst t;exact(RV.mp (show(r :: T.filterMap λL=>L).Nodup from B)).1 (TX.mpr (ba (S r) (RI D) rfl))
  induction K using RX with
  |zero=>
   induction i using RX with
   |zero=>rfl
   |succ i=>simp at X m;exact(l X m).elim
  |succ K=>
   induction i using RX with
   |zero=>simp at X m;exact(l m X).elim
   |succ i=>simp at X m;refine R (d n K i r X m) rfl
theorem HC{I M:MO}(B:(I||M)=MK)(q:I≠MK):M=MK:=(Sy.mp B).resolve_left q
theorem dN{P:Prop}[OH P](B:¬P):decide P≠MK:=λU=>B (M5 U)
theorem uo{g:NB}{l:V (O MT)}{m:V Z}(z:gg E c)(B:DF E g l m=MK):B0 g c E.sl l m:=
 FJ B λp G T X k a Y=>by
  refine⟨λs x=>M5 (Se.mp p s x),M5 G,λr x D=>M5 (HC (Se.mp T r x) (dN λU=>U D)),λr x=>?_,λi r D=>?_,ow (M5 a),M5 Y⟩
  ·refine an (HC (Se.mp X _ x) (dN λU=>U rfl)) λy q=>⟨?_,pV q⟩;rcases Sy.mp y with D|D;·exact .inl (z r _ (M5 D))
   ·exact z r _ (M5 D)
  ·have x:(S r,i)∈l.zipIdx:=UQ.mpr D;rcases Sy.mp (Se.mp k _ x) with D|D;·exact bF D
   ·rcases Sy.mp D with D|D;·exact an D λy q=>.inl ⟨Tr.mp y,M5 q⟩
    ·exact gV D λy q C=>.inr ⟨λU=>RW ((nF y).symm.trans (Tr.mpr U)),Cx.lD q,M5 C⟩
theorem lE{g:NB}{v:V (MT×MR)}{M:MR}(l:V (O MT)):gg ⟨g.names,MK,l⟩ (Nq g v M c):=by
 intro r H B;refine iU B λs X m=>?_;induction s using Vc with
 |«local»=>exact sX m▸dh X
 |free=>exact sX m▸kind_free X
 |globalImplicit=>exact sX m▸vo X
 |_=>exact nX m
theorem AO{m:V Z}{l:V (Z×G)}(B:l.map (·.1)=m)(q:m.isEmpty=MS):l≠[]:=by rintro rfl;subst B;cases q
inductive DI:MP->V Z->V (Z×MT)->Prop
 |one {x:MT} {j:Z} (p:Nh):DI (.Name x p) [j] [(j,x)]
 |two {x y:MT} {i j:Z} (p1 p2:Nh) (k:Z) (p:Nh):DI (.Tuple [.Name x p1,.Name y p2] k p) [i,j] [(i,x),(j,y)]
 |no {x:MP} {ts:V Z}:DI x ts []
theorem DJ(r:MP)(m:V Z):DI r m (iY r m):=by
 unfold iY;induction X:bW r using Rx with
 |some J=>
  obtain⟨P,rfl⟩:=ot (bw r) X
  induction b:l1 m using Rx with
  |some i=>obtain rfl:=ot (oU m) b;exact .one P
  |none=>exact .no
 |none=>
  induction b:jB r using Rx with
  |none=>exact .no
  |some j=>
   obtain⟨L,rfl⟩:=ot (fN r) b
   show DI _ _ (O.getD ((l2 j).bind _) [])
   induction s:l2 j using Rx with
   |none=>exact .no
   |some a=>
    obtain rfl:=ot (zT j) s
    show DI _ _ (O.getD ((bW a.1).bind _) [])
    induction Y:bW a.1 using Rx with
    |none=>exact .no
    |some I=>
     obtain⟨l,K⟩:=ot (bw _) Y
     induction E:bW a.2 using Rx with
     |none=>exact .no
     |some M=>
      obtain⟨n,x⟩:=ot (bw _) E
      induction U:l2 m using Rx with
      |none=>exact .no
      |some i=>obtain rfl:=ot (zT m) U;refine R K (R x ?_);exact .two l n L.1 L.2
theorem AP{g:NB}{l:V (O MT)}{n:MP}{m:V Z}(B:DG l g (iY n m)=MK)(D:(iY n m).map (·.1)=m)(c:m.isEmpty=MS):Ar l g m n:=by
 revert B D;have j:∀{T:V (Z×MT)} {L:Z×MT},DG l g T=MK->L∈T->l[L.1]? = S (S L.2)/\g.names.lookup L.2=S .local:=λ{T L} B x=>
  an (Se.mp B _ x) λd b=>⟨M5 d,M5 b⟩
 generalize a:iY n m=T;have U:=a▸DJ n m;clear a;induction U using DI.casesOn with
 |one P=>exact λB Y=>let L:=j B (.head _);.one L.1 L.2
 |two e f H P=>exact λB Y=>let L:=j B (.head _);let w:=j B (.tail _ (.head _));.two L.1 L.2 w.1 w.2
 |no=>exact λY D=>Ng rfl (AO (l:=([]:V (Z×MT))) D c)
noncomputable def Good(l:Nu)(a:Ni)(d:MU)(T:V Nf)(c:Nf)(i:V (O MT))(f:Nv)(e:CF):It->Prop
 |.E D r=>SE l a d T c i f e D r
 |.T D r=>ST l a d T c i f e D r
 |.Es y j=>nc l a d T c i f e y j
 |.O z r=>SO l a d T c i f e z r
 |.P g w j A=>rW l a d T c i f e g w j A
theorem yi{z:wk}{o:O7}(B:B9 z o=MK):o=wN z:=M5 B
theorem rb{z:Of}(B:ou z=MK):z=.And:=by induction z using Of.casesOn<;>first|rfl|cases B
theorem uq{z:Of}(B:(!ou z)=MK):z=.Or:=by induction z using Of.casesOn<;>first|rfl|cases B
theorem AQ{g:It->MO}{w:cA}{d:V (O MP)}{A:V MP}(K:∀{D r},g (.E D r)=MK->SE h a e l c j f i D r)(b:∀{ae w d A},g (.P ae w d A)=MK->rW h a e l c j f i ae w d A)
  (B:cP g ae w d A=MK):rW h a e l c j f i ae w d A:=by
 induction ae using RC with
 |nil=>induction w using cA.casesOn with
  |nil=>induction d using RC with
   |nil=>induction A using RC with
    |nil=>exact .nil
    |cons _ _=>exact bF B
   |cons _ _=>exact bF B
  |cons _ _=>exact bF B
 |cons H ae=>induction w using cA.casesOn with
  |nil=>exact bF B
  |cons E w=>induction d using RC with
   |nil=>exact bF B
   |cons r d=>induction A using RC with
    |nil=>exact bF B
    |cons s A=>induction r using Rx with
     |none=>exact bF B
     |some r=>exact wG B λp G T X=>k1 (P:=λr=>rW h a e l c j f i _ _ (S r :: _) _) (gb r) G λL k B=>dE B▸(.cons (M5 p) (K T) (b X))
theorem AR{A:It->MO}{t:cA}{x:MT}{d:V MP}{M:BI}(R:bo N q f l)(C:Gr v e P be bg bf)(o:rE v)(z:gg E c)(K:∀{D r},A (.E D r)=MK->SE h a e l c j f i D r)(I:∀{y d},A (.Es y d)=MK->nc h a e l c j f i y d)
  (B:cB A E t x d M=MK):SE h a e l c j f i (.bq M t) (.Call (.Name x bj) d [] J):=by
 have g:∀{M},((Av M).any λbv=>MW (x=bv.1)&&E.bi x bv.2&&A (.Es t d))=MK->SE h a e l c j f i (.bq M t) (.Call (.Name x bj) d [] J):=λB=>by exact aM (NQ B) λbv w B=>gV B λp G T=>SE.bq (w.trans (Nb S (NT.ext (M5 p).symm rfl))) R C (Cx.mA z o G) (I T)
 induction M using BI.casesOn with
 |fK=>
  exact k0 (P:=λt=>SE h a e l c j f i (.bq _ t) _) (yh t) B λD B=>k0 (P:=λd=>SE h a e l c j f i _ (.Call _ d [] _)) (oU d) B λs B=>k0 (P:=λs=>SE h a e l c j f i _ (.Call _ [s] [] _)) (eC s) B λn B=>
   k1 (P:=λs=>SE h a e l c j f i _ (.Call _ [.Call s _ [] _] [] _)) (bw n.1) B λb P B=>k0 (P:=λs=>SE h a e l c j f i _ (.Call _ [.Call _ s [] _] [] _)) (oU n.2.1) B λU B=>
   zV B λp G T X k m=>dE p▸(dE T▸(SE.fK R C (Cx.mA z o G) (Cx.mA z o X) (K m) k))
 |gS=>
  exact k0 (P:=λt=>SE h a e l c j f i (.bq _ t) _) (yh t) B λD B=>k0 (P:=λd=>SE h a e l c j f i _ (.Call _ d [] _)) (zT d) B λL B=>k1 (P:=λs=>SE h a e l c j f i _ (.Call _ [_,s] [] _)) (bw L.2) B λb P B=>
   zV B λp G T X k m=>dE p▸(dE T▸(SE.gS R C (Cx.mA z o G) (Cx.mA z o X) (K m) k))
 |_=>exact g B
theorem ur{prog:Nu}{w:Ni}{g₀:MU}{l:V Nf}{A:Nv}{cf:CF}{go:Cx->It->MO}{a d:LE}{m:V Z}{q:LO}{n K:MP}{f:V MP}{g:NB}{H:ML}(e:∀{D r},go E (.E D r)=MK->SE prog w g₀ l c E.sl A cf D r)
  (I:∀{g b v M D r},go ⟨g.names,MK,b⟩ (.E D r)=MK->SE prog w g₀ l (Nq g v M c) b A cf D r) (i:∀{g b v M D r},go ⟨g.names,MK,b⟩ (.T D r)=MK->ST prog w g₀ l (Nq g v M c) b A cf D r)
  (z:gg E c) (B:cE.cC go E a m d q s n K f g H=MK):MW (H=0)=MK/\SE prog w g₀ l c E.sl A cf d K/\dX K=MS/\B0 g c E.sl (yf E g (iY n m)) m/\Ar (yf E g (iY n m)) g m n/\
   (∀v M,SE prog w g₀ l (Nq g v M c) (yf E g (iY n m)) A cf a s)/\∀v M,Dh prog w g₀ l (Nq g v M c) (yf E g (iY n m)) A cf q f:=
 gV B λB J j=>FJ B λp G T X k h Y=>⟨p,e T,nF G,uo z h,AP Y (M5 X) (nF k),λv M=>I J,λv M=>by
  induction q using LO.casesOn with
  |no=>induction f using RC with
   |nil=>exact .inl ⟨rfl,rfl⟩
   |cons _ _=>exact bF j
  |so D=>exact k0 (P:=λf=>Dh prog w g₀ l _ _ A cf _ f) (oU f) j λs B=>.inr (qu _ _ rfl rfl (i B))⟩
theorem AS{n K:MP}{m:V MP}{g:NB}{x:ML}(C:Gr v e P be bg bf)(R:bo N q f l)(z:gg E c)(B:cE.cV E af H s n K m g x=MK):SE h a e l c E.sl f i (.vals af H) (.ListComp s [⟨n,K,m,x⟩] g J):=
 k0 (P:=λaf=>SE h a e l c E.sl f i (.vals af H) _) (Ca af) B λk B=>k1 (P:=λs=>SE h a e l c E.sl f i _ (.ListComp s _ _ _)) (ki s) B λI P B=>
 k1 (P:=λs=>SE h a e l c E.sl f i _ (.ListComp (.Subscript s _ _) _ _ _)) (fI I.1) B λa0 P B=>k1 (P:=λs=>SE h a e l c E.sl f i _ (.ListComp (.Subscript (.Attribute s _ _) _ _) _ _ _)) (bw a0.1) B λX P B=>
 k1 (P:=λs=>SE h a e l c E.sl f i _ (.ListComp (.Subscript _ s _) _ _ _)) (bw I.2) B λY P B=>k1 (P:=λs=>SE h a e l c E.sl f i _ (.ListComp _ [⟨s,_,_,_⟩] _ _)) (bw n) B λp P B=>
 k1 (P:=λs=>SE h a e l c E.sl f i _ (.ListComp _ [⟨_,s,_,_⟩] _ _)) (fI K) B λG P B=>k1 (P:=λs=>SE h a e l c E.sl f i _ (.ListComp _ [⟨_,.Attribute s _ _,_,_⟩] _ _)) (bw G.1) B λd P B=>
 gV B λha w j=>zV ha λA D L M y t=>wG w λb1 b2 b3 b4=>zU j λc1 o T b c5=>by refine fM (Cx.pT z b4) λU z2 r=>?_;obtain rfl:=Tp.mp y;exact dE A▸(dE D▸(dE L▸(dE M▸(dE t▸(SE.vals (M5 b1) C R (uo z b3) U z2 (M5 b) (M5 c5) (M5 o) (M5 c1) (M5 b2) (bH r) (ig r) (bH T))))))
set_option maxHeartbeats 4000000 in
theorem eR{prog:Nu}{w:Ni}{l:V Nf}{A:Nv}{a7:Nu}(a8:Gr v e a7 be bg bf)(o:rE v)(CC:iz prog w e N i q)(R:bo N (q+1) A l):∀(x:Z) (C:Cx) (c:Nf) (n:It),gg C c->fv x C n=MK->Good prog w e l c C.sl A i n:=by
 have k:A.units+64<NA:=BW R.units rfl;have R0:=R.less (Sn _);intro x;induction x with
 |zero=>exact λC c n z B=>bF B
 |succ x d=>
  intro C c n z B
  have K:∀{D r},fv x C (.E D r)=MK->SE prog w e l c C.sl A i D r:=λB=>d C c _ z B
  have iT:∀{D r},fv x C (.T D r)=MK->ST prog w e l c C.sl A i D r:=λB=>d C c _ z B
  have iS:∀{y j},fv x C (.Es y j)=MK->nc prog w e l c C.sl A i y j:=λB=>d C c _ z B
  have iO:∀{I r},fv x C (.O I r)=MK->SO prog w e l c C.sl A i I r:=λB=>d C c _ z B
  have iP:∀{ks vs j ys},fv x C (.P ks vs j ys)=MK->rW prog w e l c C.sl A i ks vs j ys:=λB=>d C c _ z B
  induction n using It.casesOn with
  |Es y j=>
   induction y using cA.casesOn with
   |nil=>induction j using RC with
    |nil=>exact .nil
    |cons _ _=>exact bF B
   |cons D y=>induction j using RC with
    |nil=>exact bF B
    |cons r j=>exact gV B λp G H=>.cons (K G) p (iS H)
  |O I r=>
   induction I using LO.casesOn with
   |no=>induction r using Option.casesOn with
    |none=>exact .no
    |some _=>exact bF B
   |so D=>induction r using Option.casesOn with
    |none=>exact bF B
    |some r=>exact .so (K B)
  |P ks vs j ys=>exact AQ K iP B
  |T D r=>
   have B:cT (fv x C) (zG r) D=MK:=B
   refine B8 (P:=λr=>ST prog w e l c C.sl A i D r) ?_ λY Y Y=>ST.one
   generalize zG r=r at B
   have pl:∀{D:LE},(!(rU r)&&fv x C (.E D r))=MK->ST prog w e l c C.sl A i D r:=λB=>an B λp G=>.plain (K G) (pd (nF p))
   induction D using LE.casesOn with
   |and I M=>exact k0 (lC r) B λL B=>gV B λp G H=>(rb p).symm▸ST.and (iT G) (iT H)
   |or I M=>exact k0 (lC r) B λL B=>gV B λp G H=>(uq p).symm▸ST.or (iT G) (iT H)
   |not I=>exact k1 (yc r) B λL a7 B=>an B λp G=>dE p▸(ST.not (iT G))
   |cmp t I M=>exact k1 (yb r) B λL a7 B=>wG B λp G H X=>dE p▸(ST.cmp k a8.mods (K H) (K X) (nF G))
   |ite n I M=>exact k1 (B7 r) B λL a7 B=>gV B λp G H=>ST.ite (iT p) (iT G) (iT H)
   |_=>exact pl B
  |E D r=>
   have B:cE (fv x) C (zG r) D=MK:=B
   refine B8 (P:=λr=>SE prog w e l c C.sl A i D r) ?_ λY Y Y=>SE.one
   generalize zG r=r at B
   induction D using LE.casesOn with
   |and I M=>exact k0 (lC r) B λL B=>gV B λp G H=>(rb p).symm▸SE.and (K G) (K H)
   |or I M=>exact k0 (lC r) B λL B=>gV B λp G H=>(uq p).symm▸SE.or (K G) (K H)
   |kP=>exact k1 (gb r) B λL a7 B=>dE B▸SE.kP
   |qj M=>exact k1 (gb r) B λL a7 B=>dE B▸SE.qj
   |int a9=>exact k1 (gb r) B λL a7 B=>dE B▸SE.int
   |str c1=>exact k1 (gb r) B λL a7 B=>an B λp G=>dE p▸(SE.str (M5 G))
   |bx M=>exact k1 (gb r) B λL a7 B=>k0 (P:=λL=>SE prog w e l c C.sl A i _ (.Constant L _ _)) (DH L) B λM B=>M5 B▸SE.bx
   |var c1=>exact k1 (bw r) B λL a7 B=>by obtain⟨g,b,f⟩:=Cx.pT z B;exact SE.name g b (bH f) (ig f)
   |gf b9=>exact k1 (bw r) B λL a7 B=>by obtain⟨g,b,f⟩:=Cx.kj z o (M5 B);exact SE.gf a8 b.1 g (bH f)
   |gc c3=>exact k1 (bw r) B λL a7 B=>by obtain⟨g,b,f⟩:=Cx.kj z o (M5 B);exact SE.gc a8 b g (bH f)
   |gi J a9=>exact k1 (bw r) B λL a7 B=>by obtain⟨g,⟨_,b⟩,f⟩:=Cx.kj z o (M5 B);exact SE.gi a8 b g (bH f)
   |attr D I=>exact k1 (fI r) B λL a7 B=>gV B λp G H=>dE p▸(SE.attr a8 CC R (K H) G)
   |call b9 as=>exact k0 (eC r) B λL B=>gV B λp G H=>SE.call a8 CC R (K G) (iS H) λt a' p' U=>bF (((Nb (λr=>(hN r).isNone) U).symm.trans p))
   |bq M as=>exact k0 (eC r) B λL B=>k1 (P:=λs=>SE prog w e l c C.sl A i _ (.Call s _ [] _)) (bw L.1) B λJ a7 B=>AR R0 a8 o z K iS B
   |aU D m' as=>exact k0 (eC r) B λL B=>k0 (P:=λs=>SE prog w e l c C.sl A i _ (.Call s _ [] _)) (mz L.1) B λn B=>zV B λp G H X h5 m=>dE p▸(SE.aU a8 CC R (K h5) (iS m) G H (M5 X) λY U Y Y Y=>nU U)
   |sub I a9=>exact k1 (ki r) B λL a7 B=>gV B λp G H=>SE.sub k (K G) (K H) p
   |qk D c2 c4=>exact k1 (ki r) B λL a7 B=>k1 (P:=λs=>SE prog w e l c C.sl A i _ (.Subscript _ s _)) (yd L.2) B λn a7 B=>gV B λp G H=>SE.qk (K p) (iO G) (iO H)
   |pick ks vs a9=>exact k1 (ki r) B λL a7 B=>k1 (P:=λs=>SE prog w e l c C.sl A i _ (.Subscript s _ _)) (um L.1) B λn a7 B=>zU B λp G H X h5=>SE.pick k (iP X) (M5 G) (M5 H) (K h5) p
   |tup y=>exact k1 (fN r) B λL a7 B=>an B λp G=>SE.tup (iS G) (M5 p)
   |lst y=>exact k1 (ya r) B λL a7 B=>an B λp G=>SE.lst (iS G) (M5 p)
   |emp=>
    refine k1 (ya r) B λL a7 B=>?_
    induction L using RC with
    |nil=>exact SE.emp
    |cons _ _=>exact bF B
   |tq ks vs=>exact k1 (um r) B λL a7 B=>gV B λp G H=>SE.tq (RM (R5 _ _) k) (iP H) (M5 p) (M5 G)
   |bin t I M=>exact k1 (DC r) B λL a7 B=>gV B λp G H=>SE.bin (K G) (K H) (yi p)
   |cmp t I M=>exact k1 (yb r) B λL a7 B=>wG B λp G H X=>dE p▸(SE.cmp k a8.mods (K H) (K X) (nF G))
   |not I=>exact k1 (yc r) B λL a7 B=>an B λp G=>dE p▸(SE.not (K G))
   |neg I=>exact k1 (yc r) B λL a7 B=>an B λp G=>dE p▸(SE.neg (K G))
   |ite n I M=>exact k1 (B7 r) B λL a7 B=>gV B λp G H=>SE.ite (iT p) (K G) (K H)
   |comp a ts it c5=>exact k1 (pS r) B λL a7 B=>by obtain⟨a0,a1,h,a3,a4,a5,a6⟩:=ur K (λB=>d _ _ _ (lE _) B) (λB=>d _ _ _ (lE _) B) z B;exact dE a0▸(SE.comp R0 a1 h a3 a4 a5 a6)
   |vals D k'=>exact k1 (pS r) B λL a7 B=>AS a8 R0 z B
noncomputable def mB(r:M8):O (MP×MP):=vw TM 5 r λB=>M8.Assign.elim r B λm s P=>(l1 m).map λn=>(n,s)
noncomputable def km(r:M8):O MP:=vw TM 24 r λB=>M8.Expr.elim r B λs P=>S s
noncomputable def IZ(r:M8):O (MP×V M8×V M8):=vw TM 12 r λB=>M8.If.elim r B λs I M P=>S (s,I,M)
noncomputable def AU(r:M8):O (MP×MP×V M8):=vw TM 9 r λB=>M8.For.elim r B λn s M D P=>bif D.isEmpty then S (n,s,M) else N
noncomputable def Gw(r:M8):O (MP×V M8):=vw TM 11 r λB=>M8.While.elim r B λs M D P=>bif D.isEmpty then S (s,M) else N
noncomputable def DL(r:M8):O MP:=vw TM 3 r λB=>M8.Return.elim r B λs P=>s
noncomputable def Cb(r:M8):O MP:=vw TM 16 r λB=>M8.Raise.elim r B λs U P=>bif U.isNone then s else N
noncomputable def yj(r:ExceptHandler):O (MP×MT×MP):=match r with
 |.ExceptHandler (S n) (S r) M _=>((l1 M).bind km).map λU=>(n,r,U)
 |_=>N
noncomputable def Gx(r:M8):O (MP×MP×MT×MP):=vw TM 17 r λB=>M8.Try.elim r B λM B D A P=>bif D.isEmpty&&A.isEmpty then((l1 M).bind km).bind λs=>((l1 B).bind yj).map λL=>(s,L) else N
theorem fO(r:M8):aZ (mB r) λI=>∃P,r=.Assign [I.1] I.2 P:=dq λB=>M8.Assign.elim (motive_2:=λr=>∀B,aZ (M8.Assign.elim (motive_2:=λ_=>O (MP×MP)) r B λm s P=>(l1 m).map λn=>(n,s)) λI=>∃P,r=.Assign [I.1] I.2 P) r B (λm s P _=>by rcases m with _|⟨n,_|⟨U,y⟩⟩<;>first|exact RY|exact⟨_,rfl⟩) B
theorem sH(r:M8):aZ (km r) λI=>∃P,r=.Expr I P:=dq λB=>M8.Expr.elim (motive_2:=λr=>∀B,aZ (M8.Expr.elim (motive_2:=λ_=>O MP) r B λs P=>S s) λI=>∃P,r=.Expr I P) r B (λs P _=>⟨_,rfl⟩) B
theorem Cc(r:M8):aZ (IZ r) λI=>∃P,r=.If I.1 I.2.1 I.2.2 P:=dq λB=>M8.If.elim (motive_2:=λr=>∀B,aZ (M8.If.elim (motive_2:=λ_=>O (MP×V M8×V M8)) r B λs I M P=>S (s,I,M)) λI=>∃P,r=.If I.1 I.2.1 I.2.2 P) r B (λs I M P _=>⟨_,rfl⟩) B
theorem sI(r:M8):aZ (AU r) λI=>∃P,r=.For I.1 I.2.1 I.2.2 [] P:=dq λB=>M8.For.elim (motive_2:=λr=>∀B,aZ (M8.For.elim (motive_2:=λ_=>O (MP×MP×V M8)) r B λn s M D P=>bif D.isEmpty then S (n,s,M) else N) λI=>∃P,r=.For I.1 I.2.1 I.2.2 [] P) r B (λn s M D P _=>by
  induction D using RC with
  |nil=>exact⟨_,rfl⟩
  |cons _ _=>exact RY) B
theorem DM(r:M8):aZ (Gw r) λI=>∃P,r=.While I.1 I.2 [] P:=dq λB=>M8.While.elim (motive_2:=λr=>∀B,aZ (M8.While.elim (motive_2:=λ_=>O (MP×V M8)) r B λs M D P=>bif D.isEmpty then S (s,M) else N) λI=>∃P,r=.While I.1 I.2 [] P) r B (λs M D P _=>by
  induction D using RC with
  |nil=>exact⟨_,rfl⟩
  |cons _ _=>exact RY) B
theorem yk(r:M8):aZ (DL r) λI=>∃P,r=.Return (S I) P:=dq λB=>M8.Return.elim (motive_2:=λr=>∀B,aZ (M8.Return.elim (motive_2:=λ_=>O MP) r B λs P=>s) λI=>∃P,r=.Return (S I) P) r B (λs P _=>by
  induction s using Rx with
  |some s=>exact⟨_,rfl⟩
  |none=>exact RY) B
theorem AW(r:M8):aZ (Cb r) λI=>∃P,r=.Raise (S I) N P:=dq λB=>M8.Raise.elim (motive_2:=λr=>∀B,aZ (M8.Raise.elim (motive_2:=λ_=>O MP) r B λs U P=>bif U.isNone then s else N) λI=>∃P,r=.Raise (S I) N P) r B (λs U P _=>by
  induction U using Rx with
  |none=>induction s using Rx with
   |some s=>exact⟨_,rfl⟩
   |none=>exact RY
  |some _=>exact RY) B
theorem uu(M:V M8):aZ ((l1 M).bind km) λs=>∃P,M=[.Expr s P]:=by
 rcases M with _|⟨t,_|⟨o,y⟩⟩;·exact RY
 ·show aZ (km t) _
  have B:=sH t
  revert B
  cases km t with
  |none=>exact λY=>RY
  |some s=>exact λ⟨P,D⟩=>⟨P,D▸rfl⟩
 ·exact RY
theorem AX(M:V ExceptHandler):aZ ((l1 M).bind yj) λL=>∃P:Nh×Nh,M=[.ExceptHandler (S L.1) (S L.2.1) [.Expr L.2.2 P.1] P.2]:=by
 rcases M with _|⟨t,_|⟨o,y⟩⟩;·exact RY
 ·obtain⟨n,r,M,P⟩:=t
  induction n using Rx with
  |none=>exact RY
  |some n=>induction r using Rx with
   |none=>exact RY
   |some r=>
    show aZ (((l1 M).bind km).map _) _
    have B:=uu M
    revert B
    cases(l1 M).bind km with
    |none=>exact λY=>RY
    |some s=>exact λ⟨a,D⟩=>⟨(a,P),D▸rfl⟩
 ·exact RY
theorem DN(r:M8):aZ (Gx r) λI=>∃P:Nh×Nh×Nh×Nh,r=.Try [.Expr I.1 P.1] [.ExceptHandler (S I.2.1) (S I.2.2.1) [.Expr I.2.2.2 P.2.1] P.2.2.1] [] [] P.2.2.2:=dq λB=>M8.Try.elim (motive_2:=λr=>∀B,aZ (M8.Try.elim (motive_2:=λ_=>O (MP×MP×MT×MP)) r B λM B D A P=>bif D.isEmpty&&A.isEmpty then((l1 M).bind km).bind λs=>((l1 B).bind yj).map λL=>(s,L) else N) λI=>∃P:Nh×Nh×Nh×Nh,r=.Try [.Expr I.1 P.1] [.ExceptHandler (S I.2.1) (S I.2.2.1) [.Expr I.2.2.2 P.2.1] P.2.2.1] [] [] P.2.2.2) r B (λM B D A P _=>by
  induction D using RC with
  |cons _ _=>exact RY
  |nil=>induction A using RC with
   |cons _ _=>exact RY
   |nil=>
    show aZ (((l1 M).bind km).bind λs=>((l1 B).bind yj).map λL=>(s,L)) _
    have p:=uu M
    have G:=AX B
    revert p G
    cases(l1 M).bind km with
    |none=>exact λY Y=>RY
    |some s=>cases(l1 B).bind yj with
     |none=>exact λY Y=>RY
     |some L=>exact λ⟨l,X⟩ ⟨n,m⟩=>⟨(l,n.1,n.2,P),X▸m▸rfl⟩) B
inductive DO|S(st:LS)(x:M8)|Ss(st:dR)(xs:V M8)|U(os is:cA)(ts:V MP)
noncomputable def sL(C:Cx):V Z->V MP->O (V MT)
 |[],m=>if m.isEmpty then S [] else N
 |i :: k,m=>m.head?.bind λn=>(bW n).bind λr=>if C.dst i r then(sL C k m.tail).map (r :: ·) else N
noncomputable def sM(C:Cx)(J:MT):MO:=MW (C.DE J=S (.cls .bR))
noncomputable def Gy(a:V (MT×Ny))(r:MT)(n s:MP)(g:NB):MO:=MW (a.lookup r=S .local)&&n.pos.line==s.pos.line&&!(g.names.any λL=>L.1==r&&(L.2==.local||L.2==.cell))
set_option tactic.hygienic true in
noncomputable def Gz(D:LE):O (Z×Z×Z×Z):=by
 cases D;case aU z x l=>exact(sG z).bind λK=>((Fi l).bind Fj).map λL=>(K,x,L)
 all_goals exact N
theorem DP(D:LE):aZ (Gz D) λL=>D=.aU (.var L.1) L.2.1 (.cons (.attr (.var L.2.2.1) L.2.2.2) .nil):=by
 induction D using LE.casesOn with
 |aU z x l=>
  show aZ ((sG z).bind λK=>((Fi l).bind Fj).map λL=>(K,x,L)) _
  have p:=yg z
  have G:=yh l
  revert p G
  cases sG z with
  |none=>exact λY Y=>RY
  |some K=>cases Fi l with
   |none=>exact λY Y=>RY
   |some I=>
    show _->_->aZ ((Fj I).map _) _
    have T:=Ca I
    revert T
    cases Fj I with
    |none=>exact λY Y Y=>RY
    |some L=>exact λX m s=>by refine R (show z=_ from m) ?_;refine R (show l=_ from s) ?_;exact R (show I=_ from X) rfl
 |_=>exact RY
noncomputable def JU(C:Cx)(l:LE)(U:MP):MO:=(Gz l).any λi=>(hO U).any λL=>(pR L.1).any λn=>(bW n.1).any λI=>(l1 L.2.1).any λs=>(hN s).any λc=>(bW c.1).any λM=>
 MW (n.2.1=sx i.2.1)&&(n.2.2.endLine==L.2.2.line)&&C.var i.1 I&&MW (c.2=sx i.2.2.2)&&C.var i.2.2.1 M
set_option tactic.hygienic true in
noncomputable def isAny(t:LS):MO:=by cases t;(case any=>exact MK);all_goals exact MS
noncomputable def DQ(D:LE):O (LE×V Z×LE×LO):=by induction D using LE.casesOn with|comp I M C h=>exact S (I,M,C,h)|_=>exact N
theorem DS(D:LE):aZ (DQ D) λL=>D=.comp L.1 L.2.1 L.2.2.1 L.2.2.2:=by induction D using LE.casesOn<;>first|exact RY|rfl
theorem AY(t:LS)(B:isAny t=MK):t=.any:=by induction t using LS.casesOn<;>first|rfl|exact bF B
noncomputable def sS(w:Z)(h:DO->MO)(C:Cx)(r:M8):LS->MO
 |.asg i D=>(mB r).any λL=>(bW L.1).any λJ=>C.dst i J&&fv w C (.E D L.2)&&(!(j6 L.2)||((DQ D).any λY=>(ra L.2).any λn=>Gy C.names J L.1 L.2 n.2.2.2.2.1))
 |.eO D I E=>(mB r).any λL=>(hN L.1).any λn=>MW (n.2=sx I)&&fv w C (.E E L.2)&&fv w C (.E D n.1)
 |.et z K E=>(mB r).any λL=>(sF L.1).any λn=>fv w C (.E E L.2)&&fv w C (.E z n.1)&&fv w C (.E K n.2)
 |.qs k D=>(mB r).any λL=>(jB L.1).any λm=>(sL C k m).any λY=>(jB L.2).isNone&&fv w C (.E D L.2)
 |.gp k y=>(mB r).any λL=>(jB L.1).any λm=>(sL C k m).any λj=>(jB L.2).any λA=>fv w C (.Es y A)&&(MW (j0 y<1000)&&(F8 (λs=>C.names.lookup s) m A).any λa=>a.isNone||(MW (a=S j)&&decide j.Nodup&&MW (k.length=2\/k.length=3)))
 |.kQ e q b=>(mB r).any λL=>(jB L.1).any λm=>(jB L.2).any λA=>fv w C (.Es b A)&&h (.U e q m)&&MW (j0 b<1000)&&MW (j0 b=m.length)&&MW (0<m.length)
 |.exp D=>(km r).any λs=>!(j6 s)&&fv w C (.E D s)
 |.ifs n I M=>(IZ r).any λL=>fv w C (.T n L.1)&&h (.Ss I L.2.1)&&h (.Ss M L.2.2)
 |.di i D M=>(AU r).any λL=>(bW L.1).any λJ=>C.dst i J&&!(dX L.2.1)&&fv w C (.E D L.2.1)&&h (.Ss M L.2.2)
 |.iQ c T D M=>(AU r).any λL=>(jB L.1).any λm=>(sL C [c,T] m).any λY=>(hO L.2.1).any λn=>(bW n.1).any λJ=>(l1 n.2.1).any λU=>MW (J=("enumerate":MT))&&C.bi "enumerate" (.ty "enumerate")&&notStar U&&fv w C (.E D U)&&h (.Ss M L.2.2)
 |.zy n M=>(Gw r).any λL=>fv w C (.T n L.1)&&h (.Ss M L.2)
 |.ret D=>(DL r).any λs=>fv w C (.E D s)
 |.eV D=>(Cb r).any λs=>(hO s).any λL=>(bW L.1).any λJ=>(l1 L.2.1).any λU=>sM C J&&notStar U&&fv w C (.E D U)
 |.kR D i l=>(Gx r).any λL=>(bW L.2.1).any λJ=>sM C J&&C.slot i L.2.2.1&&MW (C.names.lookup L.2.2.1=S .local)&&!(j6 L.1)&&!(j6 L.2.2.2)&&fv w C (.E D L.1)&&JU C l L.2.2.2
 |.any=>MK
noncomputable def DT(w:Z)(h:DO->MO)(C:Cx):DO->MO
 |.Ss G j=>match G with
  |.nil=>j.isEmpty
  |.cons t v=>isAny t||(match j with
   |[]=>MS
   |r :: j=>h (.S t r)&&h (.Ss v j))
 |.U e q m=>match e with
  |.nil=>(match q with|.nil=>m.isEmpty|_=>MS)
  |.cons z e=>(match q with
   |.nil=>MS
   |.cons K q=>(match m with
    |[]=>MS
    |n :: m=>(sF n).any λL=>fv w C (.E z L.1)&&fv w C (.E K L.2)&&h (.U e q m)))
 |.S G r=>sS w h C r G
noncomputable def sN(w:Z):Z->Cx->DO->MO
 |0,_,_=>MS
 |q+1,C,n=>DT w (sN w q C) C n
noncomputable def Good2(l:Nu)(a:Ni)(d:MU)(o:V Nf)(c:Nf)(i:V (O MT))(f:Nv)(e:CF):DO->Prop
 |.S G r=>SS l a d o c i f e G r
 |.Ss G j=>qQ l a d o c i f e G j
 |.U b q m=>vl l a d (c :: o) c i f e b q m
theorem jC(z:gg E c){k:V Z}:∀{m:V MP} {j:V MT},sL E k m=S j->rZ E.sl c k m j:=by
 induction k with
 |nil=>intro m j B;induction m using RC with
  |nil=>exact sX B▸.nil
  |cons _ _=>exact nX B
 |cons i k d=>intro m j B;induction m using RC with
  |nil=>exact nX B
  |cons n m=>
   have B:((bW n).bind λr=>if E.dst i r then(sL E k m).map (r :: ·) else N)=S j:=B
   refine aM (SN.mp B) λr D B=>?_
   obtain⟨q,rfl⟩:=ot (bw n) D
   by_cases a:E.dst i r=MK
   ·refine aM (Sa.mp ((Na a).symm.trans B)) λA D cm=>?_;subst cm;exact bM (Cx.pU z a) λg b=>.cons g b (d D)
   ·exact nX ((Nc a).symm.trans B)
theorem oy{J:MT}(z:gg E c)(o:rE v)(B:sM E J=MK):NY v NN J=S (S (.ref (CA .bR)))/\c.kindOf J=S .globalImplicit/\(J==("__debug__":MT))=MS:=fM (Cx.kj z o (M5 B)) λg b f=>⟨b,g,bH f⟩
theorem DU(C:Gr v e P be bg bf)(R:bo N (q+1) f l)(z:gg E c){d:LE}{U:MP}(B:JU E d U=MK)(t:MR):SE h a e l c E.sl (f.mark (S (.ref t))) (λY Y Y=>Res.bad) d U:=
 have x:=Dv rfl
 k0 (P:=λd=>SE h a e l c E.sl _ _ d U) (DP d) B λi B=>k0 (eC U) B λL B=>k0 (P:=λs=>SE h a e l c E.sl _ _ _ (.Call s _ [] _)) (mz L.1) B λn B=>
 k1 (P:=λs=>SE h a e l c E.sl _ _ _ (.Call (.Attribute s _ _) _ [] _)) (bw n.1) B λI P B=>k0 (P:=λs=>SE h a e l c E.sl _ _ _ (.Call _ s [] _)) (oU L.2.1) B λs B=>
 k1 (P:=λs=>SE h a e l c E.sl _ _ _ (.Call _ [s] [] _)) (fI s) B λo P B=>k1 (P:=λs=>SE h a e l c E.sl _ _ _ (.Call _ [.Attribute s _ _] [] _)) (bw o.1) B λM P B=>zU B λp G T X k=>by refine fM (Cx.pT z T) λg b m=>fM (Cx.pT z k) λH j D=>?_;exact dE p▸(dE X▸SE.aU C x R.marked (SE.name g b (bH m) (ig m)) (.cons (SE.attr C x R.marked (SE.name H j (bH D) (ig D)) rfl) rfl .nil) rfl G (by show 1<30;decide) λY U Y Y Y=>nU U)
theorem DV{g:NB}{a:MP}(n:c.scope.names=E.names)(B:Gy E.names r a s g=MK):c.kindOf r=S .local:=gV B λp Y Y=>show c.scope.names.lookup r=_ from n▸M5 p
theorem AZ{g:NB}{a t:MP}{J:MT}{b:Nh}{e:V Comprehension}{l:Z}(d:c.scope.kind=.function)(n:c.scope.names=E.names)(D:s=.ListComp a e g b)(B:Gy E.names J (.Name J bj) s g=MK):N3 s (S (.Name J bj)) l c=pure MK:=by
 subst D
 unfold Gy at B
 simp only[To,OS] at B
 refine bM B λdu T=>?_
 obtain⟨p,G⟩:=du
 have w:c.blockKind=.function:=by unfold Nf.blockKind;exact R d rfl
 have X:c.kindOf J=S .local:=by show c.scope.names.lookup J=_;exact R n p
 show pure (c.blockKind==.function&&c.kindOf J==S .local&&bj.line==b.line&&!(g.names.any λ(f,H)=>f==J&&(H==.local||H==.cell)))=_
 refine R w (R X ?_)
 congr 1
 exact R (To ..) ⟨G,T⟩
theorem jD(n:c.scope.names=E.names)(j:E.comp=MS):gg E c:=λr H B=>Cx.Gu (show c.scope.names.lookup r=_ from n▸rfl) B
theorem rd(J:c.scope.kind=.function):Ph c=MS:=by unfold Ph;exact R J rfl
theorem A0{w:Z}{b:MT}(C:Gr v e P be bg bf)(D:rE v)(x:iz h a e N i q)(R:bo N (q+1) f (c :: o))(U:bo N q f (c :: o))(z:gg E c)(H:c.scope.kind=.function)(k:c.scope.names=E.names)
  (g:E.sl[K]? = S (S b)) (B:fv (w+1) E (.E af s)=MK) (G:((DQ af).any λY=>(ra s).any λn=>Gy E.names b (.Name b bj) s n.2.2.2.2.1)=MK):SS h a e o c E.sl f i (.asg K af) (.Assign [.Name b bj] s J):=by refine aM (NQ G) λI X T=>?_;clear G;obtain rfl:=ot (DS af) X;refine aM (NQ T) λn m j=>?_;clear X T;obtain⟨p',rfl⟩:=ot (pS s) m;have d:=eR (A:=f) (l:=c :: o) (prog:=h) (w:=a) C D x R w;exact KU (ur (go:=fv w) (l:=c :: o) (A:=f) (cf:=i) (prog:=h) (w:=a) (g₀:=e) (λB=>d E c _ z B) (λB=>d _ _ _ (lE _) B) (λB=>d _ _ _ (lE _) B) z B) λp A r L M y t=>dE p▸SS.IM U A r L M y t g (DV k j) (dE p▸AZ (t:=.Name b bj) H k rfl j)
set_option maxHeartbeats 4000000 in
theorem uv{a0:Nf}{c:Cx}(C:Gr v e P be bg bf)(a1:rE v)(l:kg h a e v)(CC:iz h a e N i q)(R:bo N (q+1) f (a0 :: o))(J:a0.scope.kind=.function)(hn:a0.scope.names=c.names)(hc:c.comp=MS)(w:Z) :
  ∀(x:Z) (n:DO),sN (w+1) x c n=MK->Good2 h a e o a0 c.sl f i n:=by
 have hu:f.units+64<NA:=BW R.units rfl;have R0:=R.less (Sn _);have z:=jD hn hc;have hi:=rd J;have K:∀{D r},fv (w+1) c (.E D r)=MK->SE h a e (a0 :: o) a0 c.sl f i D r:=λB=>eR C a1 CC R _ c a0 _ z B;have iT:∀{D r},fv (w+1) c (.T D r)=MK->ST h a e (a0 :: o) a0 c.sl f i D r:=λB=>eR C a1 CC R _ c a0 _ z B;have I:∀{y j},fv (w+1) c (.Es y j)=MK->nc h a e (a0 :: o) a0 c.sl f i y j:=λB=>eR C a1 CC R _ c a0 _ z B;intro x;induction x with
 |zero=>exact λn B=>bF B
 |succ x d=>
  intro n B
  have jS:∀{st j},sN (w+1) x c (.Ss st j)=MK->qQ h a e o a0 c.sl f i st j:=λB=>d _ B
  have jU:∀{os is m},sN (w+1) x c (.U os is m)=MK->vl h a e (a0 :: o) a0 c.sl f i os is m:=λB=>d _ B
  have j1:∀{t r},sN (w+1) x c (.S t r)=MK->SS h a e o a0 c.sl f i t r:=λB=>d _ B
  have B:=B
  induction n using DO.casesOn with
  |Ss st j=>
   induction st using dR.casesOn with
   |nil=>induction j using RC with
    |nil=>exact qQ.nil
    |cons _ _=>exact bF B
   |cons t ss=>
    rcases Sy.mp B with p|p;·obtain rfl:=AY t p;exact λa4 a8 a7 t A eo st nb=>bX nb
    ·induction j using RC with
     |nil=>exact bF p
     |cons r j=>exact an p λG T=>.cons (j1 G) (jS T)
  |U os is m=>
   induction os using cA.casesOn with
   |nil=>induction is using cA.casesOn with
    |nil=>induction m using RC with
     |nil=>exact vl.nil
     |cons _ _=>exact bF B
    |cons _ _=>exact bF B
   |cons o' os=>induction is using cA.casesOn with
    |nil=>exact bF B
    |cons a6 is=>induction m using RC with
     |nil=>exact bF B
     |cons n m=>exact k1 (P:=λn=>vl h a e (a0 :: o) a0 c.sl f i _ _ (n :: _)) (ki n) B λL P B=>gV B λp G T=>vl.cons (K p) (K G) (jU T)
  |S st r=>
   have B:=B
   show SS h a e o a0 c.sl f i st r
   induction st using LS.casesOn with
   |asg a3 D=>
    refine k1 (fO r) B λL P B=>?_;obtain⟨n,s⟩:=L;refine aM (NQ B) λnm e1 B=>?_;obtain⟨np,rfl⟩:=ot (bw n) e1;refine gV B λp G T=>bM (Cx.pU z p) λg b=>?_;rcases Sy.mp T with h6|h6;·exact SS.asg R (K G) g b (eK (nF h6) _ _ _)
    ·exact A0 C a1 CC R R0 z J hn g G h6
   |eO D a5 a9=>exact k1 (fO r) B λL P B=>k1 (P:=λn=>SS h a e o a0 c.sl f i _ (.Assign [n] _ _)) (fI L.1) B λn P B=>gV B λp G T=>dE p▸SS.eO C R (K G) (K T)
   |et o' a6 a9=>exact k1 (fO r) B λL P B=>k1 (P:=λn=>SS h a e o a0 c.sl f i _ (.Assign [n] _ _)) (ki L.1) B λn P B=>gV B λp G T=>SS.et hu R (K p) (K G) (K T)
   |qs js D=>exact k1 (fO r) B λL P B=>k1 (P:=λn=>SS h a e o a0 c.sl f i _ (.Assign [n] _ _)) (fN L.1) B λm P B=>aM (NQ B) λj e3 B=>an B λp G=>SS.qs (R:=R0) (K G) (jC z e3) (K7 λvs k' b9 a2=>bF ((Nb (λr=>(jB r).isNone) a2).symm.trans p))
   |gp js y=>
    refine SS.gp (k1 (P:=λr=>SS h a e o a0 c.sl f i _ r) (fO r) B λL P B=>k1 (P:=λn=>SS h a e o a0 c.sl f i _ (.Assign [n] _ _)) (fN L.1) B λm P B=>?_);refine aM (NQ B) λj Y B=>k1 (P:=λn=>SS h a e o a0 c.sl f i _ (.Assign _ n _)) (fN L.2) B λys P B=>an B λp B=>an B λG T=>aM (NQ T) λH E T=>?_;replace E:=(show(λs=>c.names.lookup s)=a0.kindOf from hn▸rfl)▸E;rcases Sy.mp T with T|T;·exact SS.qs (R:=R0) (SE.tup (I p) (M5 G)) (jC z Y) (px J (E.trans (Nb some (Ug.mp T))))
    ·exact gV T λX k h6=>SS.IL (R:=R0) (SE.tup (I p) (M5 G)) (jC z Y) (M5 k) (M5 h6) (px J (E.trans (Nb some (M5 X))))
   |kQ os is vs=>
    exact k1 (fO r) B λL P B=>k1 (P:=λn=>SS h a e o a0 c.sl f i _ (.Assign [n] _ _)) (fN L.1) B λm P B=>k1 (P:=λn=>SS h a e o a0 c.sl f i _ (.Assign _ n _)) (fN L.2) B λys P B=>
     zU B λp G T X k=>SS.kQ hu R0 (I p) (jU G) (M5 T) (M5 X) (M5 k)
   |exp D=>exact k1 (sH r) B λL P B=>an B λp G=>SS.exp R (K G) hi (eK (nF p) _ _ _)
   |ifs n a5 M=>exact k1 (Cc r) B λL P B=>gV B λp G T=>SS.ifs R (iT p) (jS G) (jS T)
   |di a3 D M=>exact k1 (sI r) B λL P B=>k1 (P:=λn=>SS h a e o a0 c.sl f i _ (.For n _ _ _ _)) (bw L.1) B λnm np B=>wG B λp G T X=>by exact bM (Cx.pU z p) λg b=>SS.di R0 (K T) g b (jS X) (nF G)
   |iQ j1 j2 D M=>
    refine k1 (sI r) B λL P B=>k1 (P:=λn=>SS h a e o a0 c.sl f i _ (.For n _ _ _ _)) (fN L.1) B λm P B=>aM (NQ B) λj e3 B=>?_
    refine k0 (P:=λn=>SS h a e o a0 c.sl f i _ (.For _ n _ _ _)) (eC L.2.1) B λn B=>k1 (P:=λn=>SS h a e o a0 c.sl f i _ (.For _ (.Call n _ _ _) _ _ _)) (bw n.1) B λnm np B=>
     k0 (P:=λn=>SS h a e o a0 c.sl f i _ (.For _ (.Call _ n _ _) _ _ _)) (oU n.2.1) B λa2 B=>zU B λp G T X k=>dE p▸?_
    cases jC z e3 with
    |cons b1 b2 nn=>cases nn with
     |cons b3 b4 nn=>cases nn with
      |nil=>exact SS.iQ C (Cx.mA z a1 G) R0 (K X) T b1 b2 b3 b4 (jS k)
   |zy n M=>exact k1 (DM r) B λL P B=>an B λp G=>SS.zy R (iT p) (jS G)
   |ret D=>exact k1 (yk r) B λL P B=>SS.ret R (K B)
   |eV D=>
    exact k1 (AW r) B λs P B=>k0 (P:=λn=>SS h a e o a0 c.sl f i _ (.Raise (some n) _ _)) (eC s) B λL B=>k1 (P:=λn=>SS h a e o a0 c.sl f i _ (.Raise (some (.Call n _ _ _)) _ _)) (bw L.1) B λnm np B=>
     k0 (P:=λn=>SS h a e o a0 c.sl f i _ (.Raise (some (.Call _ n _ _)) _ _)) (oU L.2.1) B λa2 B=>gV B λp G T=>by exact fM (oy z a1 p) λb1 b2 b3=>SS.eV C l R b1 b2 b3 G (K T)
   |kR D a3 hl=>exact k1 (DN r) B λL P B=>k1 (P:=λn=>SS h a e o a0 c.sl f i _ (.Try _ [.ExceptHandler (some n) _ _ _] _ _ _)) (bw L.2.1) B λnm np B=>FJ B λp G T X k h6 h7=>by exact fM (oy z a1 p) λb1 b2 b3=>SS.kR C l R0 (K h6) (DU C R z h7) (Cx.lD G) (show a0.scope.names.lookup _=_ from hn▸M5 T) b1 b2 b3 hi (eK (nF X) _ _ _) (eK (nF k) _ _ _)
   |any=>exact λa4 a8 a7 t A eo st nb=>bX nb
noncomputable def GA(o:NI):MO:=o.params.posonlyargs.isEmpty&&o.params.kwonlyargs.isEmpty&&o.params.vararg.isNone&&o.params.kwarg.isNone&&MW (o.params.args.map (·.arg)).Nodup
noncomputable def rf(o:NI)(i:V (O MT)):MO:=
 let a:=o.params.args.map (·.arg)
 let c:=(OQ 0 o.scope.names []).map (·.1)
 GA o&&(!o.scope.isCoroutine&&!o.scope.isGenerator&&MW (o.scope.kind=.function)&&o.closure.isEmpty&&Z.beq o.globals NN&&Z.beq o.builtins Qu)&&
 (a.all (λr=>MW (o.scope.names.lookup r=S .local)||(MW (o.scope.names.lookup r=S .cell)&&c.contains r))&&
 (i.take a.length).zipIdx.all (λL=>L.1.isNone||MW (a[L.2]? = L.1))&&
 MW ((i.filterMap λL=>L).Nodup)&&decide c.Nodup&&
 i.all (λL=>L.isNone||L.any λr=>(MW (o.scope.names.lookup r≠S .cell)&&MW (o.scope.names.lookup r≠S .free))||c.contains r))
theorem rg{o:NI}{l:V M8}(w:o.body=.stmts l)(B:rf o j=MK):cH o (o.params.args.map (·.arg)) j l:=
 gV B λs B e=>zU s λc n J C P=>zV B λp G T f k a=>zU e λY d h A I=>
  {ar:=rfl,po:=Tp.mp c,ko:=Tp.mp n,va:=Ug.mp J,ka:=Ug.mp C,nd:=M5 P,body:=w,co:=nF p,gen:=nF G,kind:=M5 T,JQ:=Tp.mp f,
   glob:=Uy k,blt:=Uy a,JR:=M5 A,Fd:=ow (M5 h)
   kinds:=λr x=>(Sy.mp (Se.mp Y r x)).imp M5 λU=>an U λg b=>⟨M5 g,Tr.mp b⟩
   IT:=λi r X m=>by exact M5 (HC (Se.mp d _ (show((S r,i):O MT×Z)∈(j.take (o.params.args.map (·.arg)).length).zipIdx from UQ.mpr ((Ul X).trans m))) RW)
   has:=λi r X m=>by
    rcases Sy.mp (HC (Se.mp I _ (RI X)) RW) with U|U;·exact an U λg b=>m.elim (λD=>Ng D (M5 g:_≠_)) λD=>Ng D (M5 b:_≠_)
    ·exact Tr.mp U}
set_option tactic.hygienic true in
noncomputable def HD(E:MN):MO:=by cases E;(case none=>exact MK);all_goals exact MS
noncomputable def JV(E:MN):O MO:=vw MN.ctorIdx 3 E λB=>MN.bool.elim E B λM=>S M
noncomputable def JW(E:MN):O (ML×NL):=vw MN.ctorIdx 4 E λB=>MN.int.elim E B λK n=>S (K,n)
noncomputable def I0(E:MN):O MR:=vw MN.ctorIdx 10 E λB=>T5 E B λI=>S I
theorem Cd(B:HD aa=MK):aa=.none:=by induction aa using MN.casesOn<;>first|rfl|exact bF B
theorem GB(E:MN):aZ (JV E) λM=>E=.bool M:=dq λB=>MN.bool.elim (motive:=λE=>∀B,aZ (MN.bool.elim (motive:=λ_=>O MO) E B λM=>S M) λM=>E=.bool M) E B (λM _=>rfl) B
theorem GC(E:MN):aZ (JW E) λL=>E=.int L.1 L.2:=dq λB=>MN.int.elim (motive:=λE=>∀B,aZ (MN.int.elim (motive:=λ_=>O (ML×NL)) E B λK n=>S (K,n)) λL=>E=.int L.1 L.2) E B (λK n _=>rfl) B
theorem Ce(E:MN):aZ (I0 E) λI=>E=.ref I:=dq λB=>T5 (motive:=λE=>∀B,aZ (T5 (motive:=λ_=>O MR) E B λI=>S I) λI=>E=.ref I) E B (λI _=>rfl) B
noncomputable def JX(h:NX):O (M0 MN×Z):=vw NX.ctorIdx 2 h λB=>NX.seq.elim h B λI q=>S (I,q)
noncomputable def JY(h:NX):O NI:=vw NX.ctorIdx 7 h λB=>NX.func.elim h B λA=>S A
theorem GD(h:NX):aZ (JX h) λL=>h=.seq L.1 L.2:=dq λB=>NX.seq.elim (motive:=λh=>∀B,aZ (NX.seq.elim (motive:=λ_=>O (M0 MN×Z)) h B λI q=>S (I,q)) λL=>h=.seq L.1 L.2) h B (λI q _=>rfl) B
theorem GF(h:NX):aZ (JY h) λA=>h=.func A:=dq λB=>NX.func.elim (motive:=λh=>∀B,aZ (NX.func.elim (motive:=λ_=>O NI) h B λA=>S A) λA=>h=.func A) h B (λA _=>rfl) B
noncomputable def JZ(M:Pl):O (V M8):=vw Pl.ctorIdx 0 M λB=>Pl.stmts.elim M B λM=>S M
theorem GG(M:Pl):aZ (JZ M) λt=>M=.stmts t:=dq λB=>Pl.stmts.elim (motive:=λM=>∀B,aZ (Pl.stmts.elim (motive:=λ_=>O (V M8)) M B λM=>S M) λt=>M=.stmts t) M B (λM _=>rfl) B
set_option tactic.hygienic true in
noncomputable def GH(I:Q)(E:MN):MO:=by cases I;(case none=>exact HD E);(case bool M=>exact(JV E).any λC=>MW (C=M));(case int K=>exact(JW E).any λL=>MW (L.1=K));all_goals exact MS
theorem A1(B:GH m aa=MK):VR U x b m aa:=by
 induction m using Wm with
 |none=>exact Cd B▸.none
 |bool M=>exact k0 (P:=λaa=>VR U x b _ aa) (GB aa) B λC B=>dE B▸.bool M
 |int K=>exact k0 (P:=λaa=>VR U x b _ aa) (GC aa) B λL B=>dE B▸.int K L.2
 |_=>exact bF B
noncomputable def DW:V Q->V MN->MO
 |[],w=>w.isEmpty
 |I :: l,w=>w.head?.any (GH I)&&DW l w.tail
theorem A2:∀{w:V MN},DW z w=MK->bN U x b z w:=by
 induction z with
 |nil=>exact λB=>Tp.mp B▸.nil
 |cons I z d=>intro w B;induction w using RC with
  |nil=>exact bF B
  |cons E w=>exact an B λp G=>.cons (A1 p) (d G)
noncomputable def Cf(a:Nz)(o:NI):O (V MN):=if HD o.defaults then S [] else(I0 o.defaults).bind λx=>(a.lookup x).bind λz=>(JX z.data).map λL=>L.1.toList
noncomputable def Fm(a:Nz)(I:MR)(p:Z)(d:V Q)(i:V (O MT))(h:NI->V M8->MO):MO:=(a.lookup I).any λz=>(JY z.data).any λo=>(JZ o.body).any λl=>
 rf o i&&MW ((o.params.args.map (·.arg)).length=p)&&codeIn a o.code o.qualname&&(Cf a o).any (DW d)&&MW (d.length<=p)&&MW (p<=i.length)&&h o l
structure FnAt(w:Ni)(g₀:MU)(a:MR)(aY:Z)(cy:V Q)(sl:V (O MT))(go:NI->V M8->MO)(fd:NI)(o:Nk)(body:V M8)(ds:V MN):Prop where
 get:g₀.get? a=S o
 dat:o.data=.func fd
 facts:cH fd (fd.params.args.map (·.arg)) sl body
 len:(fd.params.args.map (·.arg)).length=aY
 code:g₀.CodeRec fd.code fd.qualname
 GI:cy.length<=aY
 GJ:Ay w g₀ fd cy ds
 HE:aY<=sl.length
 ok:go fd body=MK
theorem yl{o:NI}{j:V MN}(r:v.In e)(D:Cf v o=S j):(o.defaults=.none/\j=[])\/∃x z a q,o.defaults=.ref x/\e.get? x=S z/\z.data=.seq a q/\a.toList=j:=by
 by_cases B:HD o.defaults=MK;·exact .inl ⟨Cd B,(sX ((Na B).symm.trans D)).symm⟩
 ·exact iU ((Nc B).symm.trans D) λx X D=>hF λl=>iU D λz m D=>wg D λL s D=>l (.inr (gU x z L.1 L.2 (ot (Ce o.defaults) X :) (r _ _ m) (ot (GD z.data) s :) D))
theorem mC{w:Ni}{b:Z}{d:V Q}{h:NI->V M8->MO}(r:v.In e)(B:Fm v n b d j h=MK):∃o z l a,FnAt w e n b d j h o z l a:=hF λE=>aM (NQ B) λz g p=>aM (NQ p) λo q G=>aM (NQ G) λl i T=>FJ T λp G T X k m Y=>aM (NQ X) λa D f=>E ⟨o,z,l,a,r _ _ g,(ot (GF z.data) q :),rg (ot (GG o.body) i :) p,M5 G,codeRec_of r T,M5 k,⟨yl r D,λc s y=>A2 f⟩,M5 m,Y⟩
noncomputable def DX(w:Z)(C:Cx)(q:MT):V Z->cA->V M8->MO
 |[],y,j=>(match y with|.nil=>MK|_=>MS)&&j.isEmpty
 |A :: f,y,j=>match y with
  |.nil=>MS
  |.cons D y=>match j with
   |[]=>MS
   |r :: j=>(mB r).any λL=>(hN L.1).any λn=>(bW n.1).any λs=>MW (s=q)&&MW (n.2=sx A)&&fv w C (.E D L.2)&&DX w C q f y j
theorem A3{b:Nf}{w:Z}{c:Cx}{g:MT}(C:Gr v e P be bg bf)(o:rE v)(x:iz h a e N i q)(R:bo N (q+1) f l)(z:gg c b)
  {k:V Z}:∀{y:cA} {j:V M8},DX w c g k y j=MK->Az h a e l b c.sl f i g k y j:=by
 induction k with
 |nil=>intro y j B;induction y using cA.casesOn with
  |nil=>induction j using RC with
   |nil=>exact .nil
   |cons _ _=>exact bF B
  |cons _ _=>exact bF B
 |cons A k d=>intro y j B;induction y using cA.casesOn with
  |nil=>exact bF B
  |cons D y=>induction j using RC with
   |nil=>exact bF B
   |cons r j=>
    exact k1 (P:=λr=>Az h a e l b c.sl f i g _ _ (r :: _)) (fO r) B λL P B=>k1 (P:=λn=>Az h a e l b c.sl f i g _ _ (.Assign [n] _ _ :: _)) (fI L.1) B λn P B=>
     k1 (P:=λn=>Az h a e l b c.sl f i g _ _ (.Assign [.Attribute n _ _] _ _ :: _)) (bw n.1) B λs P B=>wG B λp G T X=>dE p▸(dE G▸.cons (eR C o x R w c b _ z T) (d X))
noncomputable def iA(A:V (O Z)):V (O MT):=A.map (UE sx)
noncomputable def kq:V dG:=[.Thing,.Text,.Row,.Dict,.Span,.CE,.jP,.Mem]
theorem fc(C:dG)(B:C≠.bR):C∈kq:=by induction C using dG.casesOn<;>first|decide|exact(B rfl).elim
noncomputable def ym(a:Nz)(C:dG)(q:MT)(E:O MN):MO:=MW (N7 a (.ref (CA C)) q=S E)
noncomputable def DY(a:Nz):MO:=kq.all (λC=>ym a C "__getattribute__" (S (.builtin "object.__getattribute__"))&&ym a C "__getattr__" N&&(bT C).all (λH=>ym a C (sx H) N)&& (Th NS).all (λx=>match oM C x with|some A=>Z.beq x 26||(Z.blt A 60&&!((bT C).contains x)&&ym a C (sx x) (S (.ref (FA A))))|none=>MK))&& (dG.bR :: kq).all (λC=>(OC a (CA C)).any (λK=>K.hasDict)&&Pd a (.ref (CA C)))&& (Th 60).all (λH=>MW (Ob a (.ref (FA H))=S (.type "function"))&&Pd a (.ref (FA H)))&& (ym a .Mem (sx 26) (S (.ref 359))&&MW (P5 a (.ref 359) "__get__"=S (S (.builtin "property.__get__")))&&MW (takesIn a (.ref 359)=S MK)&&MW ((recIn a 359 "property").bind V.head? = S (.ref (FA 20))))
theorem A4(i:∀C x A,oM C x=S A->x<NS/\C≠.bR)(B:DY v=MK):Ff v:=by
 unfold DY at B;simp only[To,OS,Se] at B;refine fM B λbG cm Y=>?_;obtain⟨⟨p,G⟩,d⟩:=bG;obtain⟨⟨X,k⟩,c⟩:=cm;have w:∀C,C∈dG.bR :: kq:=λC=>by induction C using dG.casesOn<;>decide
 refine⟨λC a=>M5 (p C (fc C a)).1.1.1,λC a=>M5 (p C (fc C a)).1.1.2,λC=>?_,λC a H x=>M5 ((p C (fc C a)).1.2 H x),λC x A D m=>?_,λH e=>?_,λC=>(G C (w C)).2,M5 X,k,c,?_⟩;·exact aM (NQ (G C (w C)).1) λK D U=>ba K D U
 ·refine bM (i C x A D) λe n=>hF λh=>?_;have:=(p C (fc C n)).2 x (Vz.mpr e);rw[D] at this;simp only[Vk,To,S9] at this;rcases this with U|⟨⟨g,b⟩,f⟩;·exact(m (Uy U)).elim
  ·refine h ?_;exact Iz n (Wa.mp g) e (λq=>by replace b:=(Tr.mpr q).symm.trans b;cases b) (M5 f)
 ·exact bM (d H (Vz.mpr e)) λg b=>⟨g,b⟩
 ·induction D:recIn v 359 "property" using Rx with
  |none=>exact nX (D▸Y)
  |some T=>replace Y:=D▸Y;induction T using RC with
   |nil=>exact nX Y
   |cons r y=>exact⟨y,by refine R (show r=.ref (FA 20) from Sk Y) rfl⟩
noncomputable def Cg(a:Nz):MO:=kq.all λC=>ym a C "__setattr__" (S (.builtin "object.__setattr__"))&&plainOver a (CA C)&&(bT C).all λH=>MW (PA a (CA C) (sx H)=S N)
theorem yn(B:Cg v=MK):C5 v:=by have L:=λC q=>RS.mp (Se.mp B C (fc C q));have y:=λC q=>RS.mp (L C q).1;exact⟨λC q=>⟨M5 (y C q).1,(y C q).2⟩,λC q H x=>M5 (Se.mp (L C q).2 H x)⟩
noncomputable def Ci(a:Nz):MO:=ym a .bR "__getattribute__" (S (.builtin "BaseException.__getattribute__"))&&ym a .bR "__getattr__" N&&(bT .bR).all (λH=>ym a .bR (sx H) N)&&MW (mroIn a (CA .bR) (.type "BaseException")=S MK)&&(OC a (CA .bR)).any (λK=>K.hasDict)
theorem yo(B:Ci v=MK):uZ v:=zU B λp G T X k=>aM (NQ k) λK D U=>⟨M5 p,M5 G,λH x=>M5 (Se.mp T H x),M5 X,K,D,U⟩
noncomputable def Cj(a:Nz):MO:=ym a .bR "__setattr__" (S (.builtin "object.__setattr__"))&&(OC a (CA .bR)).any (λK=>ie K.mro)&&MW (PA a (CA .bR) (sx 76)=S N)&&mh a (CA .bR)&&ym a .bR "__init__" (S (.ref 36))&&MW (Ob a (.ref 36)=S (.type "function"))
theorem yp(B:Cj v=MK):vD v:=zV B λp G T X k m=>⟨M5 p,G,M5 T,X,M5 k,M5 m⟩
noncomputable def GK(a:Nz):MO:=AM.all λL=>da L.1&&(match L.2 with
 |.fn H=>MW (NY a NN L.1=S (S (.ref (FA H))))&&Z.blt H 60
 |.cls C=>MW (NY a NN L.1=S (S (.ref (CA C))))
 |.int K=>(match NY a NN L.1 with|some (S (.int i _))=>MW (i=K)|_=>MS)
 |.bi M=>MW (NY a NN L.1=S N)&&MW (QU L.1=S M.val)&&MW (L.1≠"__name__"))
theorem A5{z:O (O MN)}{K:ML}(B:(match z with|some (S (.int i _))=>MW (i=K)|_=>MS)=MK):∃n,z=S (S (.int K n)):=by
 induction z using Rx with
 |none=>exact bF B
 |some z=>
  induction z using Rx with
  |none=>exact bF B
  |some E=>induction E using MN.casesOn<;>first|exact bF B|exact⟨_,Nb (λi=>S (S (MN.int i _))) (M5 B)⟩
set_option tactic.hygienic true in
theorem A6(B:GK v=MK):rE v:=by
 intro L x;refine bM (RS.mp (Se.mp B L x)) λp G=>⟨?_,p⟩;clear p x B;obtain⟨r,E⟩:=L;induction E using GV.casesOn with
 |fn H=>exact bM (RS.mp G) λg b=>⟨M5 g,Wa.mp b⟩
 |cls C=>exact(M5 G:NY v NN r=_)
 |int K=>exact A5 G
 |bi M=>exact gV G λI M C=>fB (M5 I) (M5 M) (M5 C)
noncomputable def Le(A:de)(o:NI)(l:V M8):MO:=sN 60 60 ⟨o.scope.names,MS,iA A.slots⟩ (.Ss A.body l)
noncomputable def GL(a:Nz):MO:=(Th 60).all λH=>match nP H with
 |none=>MK
 |some A=>Fm a (FA H) A.aY A.cy (iA A.slots) (Le A)
noncomputable def Lf(C:dG)(o:NI)(l:V M8):MO:=(o.params.args.map (·.arg)).head?.any λq=>MW (o.scope.names.lookup q=S .local)&&da q&&DX 60 ⟨o.scope.names,MS,iA (bU C).slots⟩ q (bT C) (bU C).vals l
noncomputable def sO(a:Nz)(C:dG):O MR:=((N7 a (.ref (CA C)) "__init__").bind id).bind I0
theorem oz{C:dG}(B:sO v C=S n):N7 v (.ref (CA C)) "__init__"=S (S (.ref n)):=iU B λE X m=>iU X λz s Y=>s.trans (Nb S (Y.trans (Nb S (ot (Ce E) m :))))
theorem rh{T:V G}{I:G}(B:T.head? = S I):T[0]? = S I:=by induction T using RC<;>exact B
noncomputable def I4(a:Nz)(C:dG):MO:=(sO a C).any λr=>Ql a (CA C)&&MW (Ob a (.ref r)=S (.type "function"))&&Fm a r (bU C).aY (bU C).cy (iA (bU C).slots) (Lf C)
noncomputable def yq(a:Nz):MO:=(kq.filter (λC=>!MW (C=.Text))).all (I4 a)
noncomputable def Lg(o:NI)(l:V M8):MO:=(l2 (o.params.args.map (·.arg))).any λq=>(l1 l).any λr=>(mB r).any λL=>(hN L.1).any λn=>(bW n.1).any λs=>(bW L.2).any λU=>MW (s=q.1)&&MW (n.2=sx 76)&&MW (U=q.2)&&MW (o.scope.names.lookup q.1=S .local)&&MW (o.scope.names.lookup q.2=S .local)&&da q.1&&da q.2
noncomputable def GN(a:Nz):MO:=Fm a 36 2 [.none] (iA (bU .bR).slots) Lg
noncomputable def DZ(a:Nz):MO:=DY a&&Cg a&&Ci a&&Cj a&&GK a&&GL a&&yq a&&GN a&&MW (Ob a (.ref (CA .bR))=S (.type "type"))
theorem A7{I A:Z}{T:V (Z×Z)}(B:HM I T=S A):(I,A)∈T:=by
 induction T with
 |nil=>exact nX B
 |cons P y d=>
  have B:=B
  by_cases D:(I==P.1)=MK
  ·exact N9.mp D▸sX ((Na D).symm.trans B)▸.head _
  ·exact .tail _ (d ((Nc D).symm.trans B))
theorem A8(C:dG)(x A:Z)(B:oM C x=S A):x<NS/\C≠.bR:=by
 have H:=A7 B;refine⟨?_,λD=>by rw[D] at H;exact nomatch H⟩;have:∀C,∀P∈mL C,P.1<NS:=by intro C;induction C using dG.casesOn<;>decide +kernel
 exact this C _ H
theorem yr(H:Z)(A:de)(B:nP H=S A):H<60:=(RF.mp B).1
theorem jE(T:V (O Z)):(iA T).length=T.length:=Ry _
structure Base(K:Nz)(g₀:MU)(p:Nu)(loose:V MT)(mg mb:MT->O MN):Prop where
 G:Gr K g₀ p loose mg mb
 ks:vD K
 go:rE K
 fns:GL K=MK
 cls:yq K=MK
 err:GN K=MK
 ty:Ob K (.ref (CA .bR))=S (.type "type")
theorem Base.of(r:v.In e)(x:TopRead P be bg bf e)(a:kV e)(B:DZ v=MK):Base v e P be bg bf:=by refine hF λA=>?_;unfold DZ at B;simp only[To,OS] at B;refine bM B λbG h=>?_;obtain⟨⟨⟨⟨⟨⟨⟨p,G⟩,T⟩,X⟩,k⟩,m⟩,Y⟩,d⟩:=bG;exact A ⟨⟨A4 A8 p,r,x,a,yo T,yn G⟩,yp X,A6 k,m,Y,d,h⟩
theorem Base.eV(n:Base v e P be bg bf):kg h a e v:=by
 refine⟨n.ks,n.ty,n.G.ok.BY .bR,λg a4 f q a5 y b t C i R c K M E H=>?_⟩;refine hF λa3=>CS (mC (w:=a) n.G.X n.err) λo a6 l j x=>?_;have z:=x.ok;have J:=x.facts;refine aM (NQ z) λL X z=>?_;rw[ot (zT (o.params.args.map (·.arg))) X] at J;have w:∀{l:V M8} {p1 p2 p3 p4:Nh},cH o [L.1,L.2] (iA (bU .bR).slots) l->l=[.Assign [.Attribute (.Name L.1 p1) (sx 76) p2] (.Name L.2 p3) p4]->o.scope.names.lookup L.1=S .local->o.scope.names.lookup L.2=S .local->da L.1=MK->da L.2=MK->NJ (MX h a) f (.call (.ref (CA .bR)) ⟨[i],[]⟩) R t:=λJ D d h9 A I=>AE n.G n.ks (D▸J) c x.get x.dat n.G.T.nolimit x.code x.GJ x.GI rfl d h9 (bH A) (bH I) K M E H;refine a3 ?_;suffices a0:cH o [L.1,L.2] (iA (bU .bR).slots) l->NJ (MX h a) f (.call (.ref (CA .bR)) ⟨[i],[]⟩) R t from a0 J;refine k0 (P:=λa1=>cH _ _ _ a1->_) (oU l) z λr B=>k1 (P:=λr=>cH _ _ _ [r]->_) (fO r) B λC p4 B=>k1 (P:=λr=>cH _ _ _ [.Assign [r] _ _]->_) (fI C.1) B λa2 p2 B=>
  k1 (P:=λr=>cH _ _ _ [.Assign [.Attribute r _ _] _ _]->_) (bw a2.1) B λs p1 B=>k1 (P:=λr=>cH _ _ _ [.Assign [.Attribute _ _ _] r _]->_) (bw C.2) B λU p3 B=>FJ B λp G T h4 k m Y J=>
  w (p1:=p1) (p2:=p2) (p3:=p3) (p4:=p4) J (by rw[M5 p,M5 G,M5 T]) (M5 h4) (M5 k) m Y
theorem Lh{o:O de}{f:de->Res az}{P:Res az->Prop}(B:(match (generalizing:=false) o with|none=>.bad|some I=>f I)≠Res.bad)(H:∀I,o=S I->f I≠.bad->P (f I)):P (match (generalizing:=false) o with|none=>.bad|some I=>f I):=by
 induction o using Rx with
 |none=>exact bX B
 |some I=>exact H I rfl B
theorem J0{o:O Loc}{f:Loc->Res az}{P:Res az->Prop}(B:(match (generalizing:=false) o with|none=>.bad|some I=>f I)≠Res.bad)(H:∀I,o=S I->f I≠.bad->P (f I)):P (match (generalizing:=false) o with|none=>.bad|some I=>f I):=by
 induction o using Rx with
 |none=>exact bX B
 |some I=>exact H I rfl B
theorem yt{r:Res G}{A:G->Res az}(B:r.bind A≠.bad):r≠.bad:=λL=>B (L▸rfl)
theorem ri(n:Base v e P be bg bf)(q:Z):iz h a e N (aC q) (2*q):=by
 induction q with
 |zero=>exact⟨λg T f G X b y t w Y Y Y Y B=>bX B⟩
 |succ q c=>
  refine⟨λg T f G X b y t w R K M E B=>?_⟩
  induction G using Key.casesOn with
  |fn H=>
   refine Lh (P:=λU=>NJ (MX h a) f (.call (.ref (FA H)) ⟨w,[]⟩) (RR a e g T U y t) t) (o:=nP H) (f:=λA=>match Mine.Lake.bindArgs A.aY A.cy A.slots.length X with|none=>.bad|some T=>(aW (aC q) A.body T b).bind λ(y:Fl×Loc×AH)=>Res.ok (α:=Q×AH) ((match y.1 with|.ret E=>E|.next=>.none),y.2.2)) B λA D B=>J0 (P:=λU=>NJ (MX h a) f (.call (.ref (FA H)) ⟨w,[]⟩) (RR a e g T U y t) t) (o:=Mine.Lake.bindArgs A.aY A.cy A.slots.length X) (f:=λT=>(aW (aC q) A.body T b).bind λ(y:Fl×Loc×AH)=>Res.ok (α:=Q×AH) ((match y.1 with|.ret E=>E|.next=>.none),y.2.2)) B λa1 m B=>?_;have J:=Se.mp n.fns H (Vz.mpr (yr H A D));replace J:=D▸J;refine CS (mC (w:=a) n.G.X J) λo z l ds x=>?_;exact Dt x.facts R x.get x.dat n.G.T.nolimit x.code x.GJ (x.len.symm▸x.GI) (x.len.symm▸x.HE) K M E (x.len.symm▸(jE A.slots).symm▸m) (yt B) λI=>
    uv (c:=⟨o.scope.names,MS,iA A.slots⟩) n.G n.go n.eV c R.deeper x.facts.kind rfl rfl 59 60 _ x.ok
  |cls C=>
   have i:aC (q+1) (.cls C) X b=if C=.bR\/C=.Text then .bad else _:=rfl
   by_cases j:C=.bR\/C=.Text
   ·exact Ng (i.trans (Na j)) B
   ·rw[i.trans (Nc j)] at B⊢;refine J0 (P:=λU=>NJ (MX h a) f (.call (.ref (CA C)) ⟨w,[]⟩) (RR a e g T U y t) t) (o:=Mine.Lake.bindArgs (bU C).aY (bU C).cy (bU C).slots.length (.none :: X)) (f:=λT=>mj C (bp (aC q) (bU C).vals (T.set 0 N) b)) B λa1 m B=>hF λa0=>bM (Ol.mp j) λL s=>aM (NQ (Se.mp n.cls C (TY.mpr ⟨fc C L,Nb not (NG s)⟩))) λr d J=>gV J λp h2 h3=>CS (mC (w:=a) n.G.X h3) λo z l ds x=>aM (NQ x.ok) λa2 en ok=>a0 ?_;exact gV ok λk1 k2 k=>AA n.G L x.facts R p (oz d) (M5 h2) x.get x.dat n.G.T.nolimit x.code x.GJ (x.len.symm▸x.GI) (x.len.symm▸x.HE) (rh en) (M5 k1) (bH k2) K M E (x.len.symm▸(jE (bU C).slots).symm▸m) rfl (yt B) λI=>
     A3 (c:=⟨o.scope.names,MS,iA (bU C).slots⟩) n.G n.go c R.make (jD rfl rfl) k
abbrev NF:=V Q->AH->Res (Q×AH)
inductive NE|call(k:Key)(as:cA)|aU(e:LE)(m f:Z)(as:cA)
mutual
inductive D2|a(s:LS)|ifs(c:LE)(x y:iC)|exp(e:NE)|ret(e:NE)|di(j:Z)(e:LE)(b:iC)|tup(js:V Z)(a b:LE)(e:NE)
inductive iC|nil|cons(s:D2)(r:iC)
end
noncomputable def k9(e:CF)(h:Key->NF):NE->qp
 |.call H l=>B2 e (h H) l
 |.aU D x A l=>B3 e (h (.fn A)) D x A l
mutual
noncomputable def fq(cf:CF)(nf:Key->NF):D2->mS
 |.a s=>cQ cf s
 |.ifs c x y=>JS cf c (cJ cf nf x) (cJ cf nf y)
 |.exp e=>Gi (k9 cf nf e)
 |.ret e=>Gj (k9 cf nf e)
 |.di j e b=>Gk cf e j (cJ cf nf b)
 |.tup js a b e=>Gm cf js a b (k9 cf nf e)
noncomputable def cJ(cf:CF)(nf:Key->NF):iC->mS
 |.nil=>Dy
 |.cons s r=>Gh (fq cf nf s) (cJ cf nf r)
end
noncomputable def Li:Key->GV
 |.fn I=>.fn I
 |.cls I=>.cls I
noncomputable def isKey(C:Cx)(J:MT)(H:Key):MO:=MW (C.DE J=S (Li H))
noncomputable def l3{i:Type}:V i->O (i×i×i)|[I,M,C]=>S (I,M,C)|_=>N
theorem I5(r:V G):aZ (l3 r) λI=>r=[I.1,I.2.1,I.2.2]:=by rcases r with _|⟨I,_|⟨M,_|⟨C,_|⟨h,y⟩⟩⟩⟩<;>first|exact RY|rfl
noncomputable def rj(w:Z)(C:Cx):NE->MP->MO
 |.call H l,r=>(hO r).any λL=>(bW L.1).any λJ=>isKey C J H&&fv w C (.Es l L.2.1)
 |.aU D x A l,r=>(hO r).any λL=>(pR L.1).any λn=>MW (n.2.1=sx x)&&eJ n.1&&(n.2.2.endLine==L.2.2.line)&&MW (L.2.1.length<30)&&fv w C (.E D n.1)&&fv w C (.Es l L.2.1)
mutual
noncomputable def hU(M:Z)(c:Cx):D2->M8->MO
 |.a s,x=>sN M 60 c (.S s x)
 |.ifs t a b,x=>(IZ x).any λq=>fv M c (.T t q.1)&&ft M c a q.2.1&&ft M c b q.2.2
 |.exp e,x=>(km x).any λy=>!(j6 y)&&rj M c e y
 |.ret e,x=>(DL x).any λy=>rj M c e y
 |.di j e b,x=>(AU x).any λq=>(bW q.1).any λnm=>c.dst j nm&&!(dX q.2.1)&&fv M c (.E e q.2.1)&&ft M c b q.2.2
 |.tup js a b e,x=>(mB x).any λq=>(jB q.1).any λts=>(sL c js ts).any λxs=>(jB q.2).any λys=>
   (MW (F8 (λy=>c.names.lookup y) ts ys=S (S xs))&&decide xs.Nodup&&MW (js.length=3))&&(l3 ys).any λy=>notStar y.1&&notStar y.2.1&&notStar y.2.2&&fv M c (.E a y.1)&&fv M c (.E b y.2.1)&&rj M c e y.2.2
noncomputable def ft(M:Z)(c:Cx):iC->V M8->MO
 |.nil,xs=>xs.isEmpty
 |.cons s r,xs=>match xs with
  |[]=>MS
  |x :: xs=>hU M c s x&&ft M c r xs
end
theorem yu{J:MT}{H:Key}(z:gg E c)(o:rE v)(B:isKey E J H=MK):NY v NN J=S (S (.ref (fG H)))/\c.kindOf J=S .globalImplicit/\(J==("__debug__":MT))=MS/\∀A,H=.fn A->A<60:=by
 refine fM (Cx.kj z o (M5 B)) λg b f=>?_;clear z o B;induction H using Key.casesOn with
 |fn I=>exact qy b.1 g (bH f) (λA L=>Key.fn.inj L▸b.2)
 |cls I=>exact qy b g (bH f) (λA L=>nomatch L)
theorem yv{r:Key->NF}(C:Gr v e P be bg bf)(j:rE v)(x:iz h a e N i q)(d:∀H,oo h a e q H (r H))(R:bo N (q+1) f (c :: o))(w:Z)(z:gg E c){D:NE}(B:rj (w+1) E D aj=MK):mv h a e (c :: o) c E.sl f (k9 i r D) aj:=by
 induction D using NE.casesOn with
 |call H l=>exact k0 (eC aj) B λL B=>k1 (P:=λs=>mv h a e (c :: o) c E.sl f _ (.Call s _ [] _)) (bw L.1) B λJ P B=>an B λp G=>by exact qo (yu z j p) λg b t U=>mv.call C (d H) R U (eR C j x R _ E c _ z G) g b t
 |aU D y A l=>
  exact k0 (eC aj) B λL B=>k0 (P:=λs=>mv h a e (c :: o) c E.sl f _ (.Call s _ [] _)) (mz L.1) B λn B=>zV B λp G T X k m=>
   dE p▸mv.aU C (d (.fn A)) R (eR C j x R _ E c _ z k) (eR C j x R _ E c _ z m) G T (M5 X)
theorem A9{nf:Key->NF}(C:Gr v e P be bg bf)(a0:rE v)(l:kg h a e v)(x:iz h a e N i q)(CN:∀H,oo h a e q H (nf H))(R:bo N (q+1) f (c :: o))(J:c.scope.kind=.function)(hn:c.scope.names=E.names)(hc:E.comp=MS)(w:Z) :
  (∀(t:D2) (r:M8),hU (w+1) E t r=MK->gM h a e o c E.sl f (fq i nf t) r)/\∀(t:iC) (j:V M8),ft (w+1) E t j=MK->mT h a e o c E.sl f (cJ i nf t) j:=by
 have z:=jD hn hc;have K:∀{D r},fv (w+1) E (.E D r)=MK->SE h a e (c :: o) c E.sl f i D r:=λB=>eR C a0 x R _ E c _ z B;have iN:∀{D r},rj (w+1) E D r=MK->mv h a e (c :: o) c E.sl f (k9 i nf D) r:=λB=>yv C a0 x CN R w z B;have U:=R.less (Sn q);have ha:∀(t:LS) (r:M8),hU (w+1) E (.a t) r=MK->gM h a e o c E.sl f (fq i nf (.a t)) r:=λt r B=>gM.Hz ((λB=>uv C a0 l x R J hn hc w 60 _ B) B);have hi:∀(n:LE) (I M:iC),(∀j,ft (w+1) E I j=MK->mT h a e o c E.sl f (cJ i nf I) j)->(∀j,ft (w+1) E M j=MK->mT h a e o c E.sl f (cJ i nf M) j)->∀(r:M8),hU (w+1) E (.ifs n I M) r=MK->gM h a e o c E.sl f (fq i nf (.ifs n I M)) r:=λn I M ia g r B=>k1 (P:=λr=>gM h a e o c E.sl f _ r) (Cc r) B λL P B=>gV B λp G T=>gM.ifs ((λB=>eR C a0 x R _ E c _ z B) p) (ia _ G) (g _ T);have he:∀(D:NE) (r:M8),hU (w+1) E (.exp D) r=MK->gM h a e o c E.sl f (fq i nf (.exp D)) r:=λD r B=>k1 (P:=λr=>gM h a e o c E.sl f _ r) (sH r) B λL P B=>an B λp G=>gM.exp (iN G) (rd J) (eK (nF p) _ _ _);have hr:∀(D:NE) (r:M8),hU (w+1) E (.ret D) r=MK->gM h a e o c E.sl f (fq i nf (.ret D)) r:=λD r B=>k1 (P:=λr=>gM h a e o c E.sl f _ r) (yk r) B λL P B=>gM.ret (iN B);have hf:∀(a1:Z) (D:LE) (M:iC),(∀j,ft (w+1) E M j=MK->mT h a e o c E.sl f (cJ i nf M) j)->∀(r:M8),hU (w+1) E (.di a1 D M) r=MK->gM h a e o c E.sl f (fq i nf (.di a1 D M)) r:=λa1 D M g r B=>k1 (P:=λr=>gM h a e o c E.sl f _ r) (sI r) B λL P B=>k1 (P:=λn=>gM h a e o c E.sl f _ (.For n _ _ _ _)) (bw L.1) B λnm np B=>wG B λp G T X=>by exact bM (Cx.pU z p) λz1 b=>gM.di U (K T) z1 b (g _ X) (nF G)
 have ht:∀(k:V Z) (I M:LE) (D:NE) (r:M8),hU (w+1) E (.tup k I M D) r=MK->gM h a e o c E.sl f (fq i nf (.tup k I M D)) r:=λk I M D r B=>by refine k1 (P:=λr=>gM h a e o c E.sl f _ r) (fO r) B λL P B=>k1 (P:=λn=>gM h a e o c E.sl f _ (.Assign [n] _ _)) (fN L.1) B λm P B=>aM (NQ B) λj Y B=>k1 (P:=λn=>gM h a e o c E.sl f _ (.Assign _ n _)) (fN L.2) B λA P B=>an B λp B=>gV p λp G T=>?_;rw[(show(λs=>E.names.lookup s)=c.kindOf from hn▸rfl)] at p;have d:=M5 p;revert d;exact k0 (P:=λA=>F8 c.kindOf m A=_->gM h a e o c E.sl f _ (.Assign _ (.Tuple A _ _) _)) (I5 A) B λs B d=>zV B λk1 k2 k3 k4 k5 k6=>gM.tup U (K k4) (K k5) (iN k6) k1 k2 k3 (jC z Y) (M5 G) (M5 T) (px J d)
 have hn:∀(j:V M8),ft (w+1) E .nil j=MK->mT h a e o c E.sl f (cJ i nf .nil) j:=λj B=>Tp.mp (show j.isEmpty=MK from B)▸.nil;have hc:∀(t:D2) (y:iC),(∀r,hU (w+1) E t r=MK->gM h a e o c E.sl f (fq i nf t) r)->(∀j,ft (w+1) E y j=MK->mT h a e o c E.sl f (cJ i nf y) j)->∀(j:V M8),ft (w+1) E (.cons t y) j=MK->mT h a e o c E.sl f (cJ i nf (.cons t y)) j:=λt y i1 i2 j B=>by
  induction j using RC with
  |nil=>exact bF B
  |cons r j=>exact an B λp G=>.cons (i1 r p) (i2 j G)
 exact⟨λt=>D2.rec (motive_1:=λt=>∀(r:M8),hU (w+1) E t r=MK->gM h a e o c E.sl f (fq i nf t) r) (motive_2:=λt=>∀(j:V M8),ft (w+1) E t j=MK->mT h a e o c E.sl f (cJ i nf t) j) ha hi he hr hf ht hn hc t,λt=>iC.rec (motive_1:=λt=>∀(r:M8),hU (w+1) E t r=MK->gM h a e o c E.sl f (fq i nf t) r) (motive_2:=λt=>∀(j:V M8),ft (w+1) E t j=MK->mT h a e o c E.sl f (cJ i nf t) j) ha hi he hr hf ht hn hc t⟩
theorem yw{b:Nf}{c:Cx}{m:Key->NF}(C:Gr v e P be bg bf)(k:rE v)(l:kg h a e v)(x:iz h a e N i q)(d:∀H,oo h a e q H (m H))(R:bo N (q+1) f (b :: o))(J:b.scope.kind=.function)(n:b.scope.names=c.names)(g:c.comp=MS)(w:Z)(t:iC)(j:V M8)(B:ft (w+1) c t j=MK):mT h a e o b c.sl f (cJ i m t) j:=(A9 C k l x d R J n g w).2 t j B
noncomputable def aH:dR->Z->LS
 |.cons t _,0=>t
 |.cons _ y,q+1=>aH y q
 |.nil,_=>.any
set_option tactic.hygienic true in
noncomputable def dY(t:LS):dR:=by cases t;(case ifs C I M=>exact I);all_goals exact .nil
set_option tactic.hygienic true in
noncomputable def cR(t:LS):dR:=by cases t;(case ifs C I M=>exact M);all_goals exact .nil
set_option tactic.hygienic true in
noncomputable def dA(t:LS):LE:=by cases t;(case ifs C I M=>exact C);all_goals exact .kP
set_option tactic.hygienic true in
noncomputable def bodyOf(t:LS):dR:=by cases t;(case di r D M=>exact M);all_goals exact .nil
set_option tactic.hygienic true in
noncomputable def sR(t:LS):LE:=by cases t;(case di r D M=>exact D);all_goals exact .kP
set_option tactic.hygienic true in
noncomputable def zH(t:LS):LE:=by cases t;(case exp D=>exact D);(case ret D=>exact D);all_goals exact .kP
set_option tactic.hygienic true in
noncomputable def lg(D:LE):cA:=by cases D;(case call A l=>exact l);(case aU D x l=>exact l);all_goals exact .nil
set_option tactic.hygienic true in
noncomputable def yx(D:LE):LE:=by cases D;(case aU D x l=>exact D);all_goals exact .kP
set_option tactic.hygienic true in
noncomputable def HF(y:cA):LE:=by cases y;(case cons D a=>exact D);all_goals exact .kP
set_option tactic.hygienic true in
noncomputable def HG(a:cA):cA:=by cases a;(case cons D y=>exact y);all_goals exact .nil
set_option tactic.hygienic true in
noncomputable def A'(t:LS):LE×LE×LE:=by cases t;(case gp j y=>exact(HF y,HF (HG y),HF (HG (HG y))));all_goals exact(.kP,.kP,.kP)
inductive NV|a(e:LE)|mU(e:LE)
noncomputable def D4(e:CF):NV->qp
 |.a D=>aO e D
 |.mU D=>B6 e D
noncomputable def GO(w:Z)(C:Cx)(r:MP):NV->MO
 |.a D=>fv w C (.E D r)
 |.mU D=>(hO r).any λc=>(bW c.1).any λJ=>(l1 c.2.1).any λU=>MW (J=("bytearray":MT))&&C.bi "bytearray" (.ty "bytearray")&&notStar U&&fv w C (.E D U)
noncomputable def yy(w:Z)(C:Cx)(q:MT):V Z->V NV->V M8->MO
 |[],y,j=>y.isEmpty&&j.isEmpty
 |A :: f,y,j=>y.head?.any λD=>j.head?.any λr=>(mB r).any λL=>(hN L.1).any λn=>(bW n.1).any λs=>MW (s=q)&&MW (n.2=sx A)&&GO w C L.2 D&&yy w C q f y.tail j.tail
noncomputable def yz:V NV:=[.a (.var 1),.mU (.var 2),.a (.var 3),.a (.var 4)]
noncomputable def pW(e:CF):NF:=λl b=>match Mine.Lake.bindArgs (bU .Text).aY (bU .Text).cy (bU .Text).slots.length (.none :: l) with
 |none=>.bad
 |some T=>(HA (yz.map (D4 e)) (T.set 0 N) b).bind λy=>.ok (.obj .Text y.1,y.2)
noncomputable def zI(A:de)(M:mS):NF:=λl b=>match Mine.Lake.bindArgs A.aY A.cy A.slots.length l with
 |none=>.bad
 |some T=>(M T b).bind λy=>.ok ((match y.1 with|.ret E=>E|.next=>.none),y.2.2)
noncomputable def only(H:Key)(h:NF):Key->NF:=λr=>if r=H then h else λY Y=>.bad
noncomputable def eY:CF:=aC 10
noncomputable def GP:iC:=.cons (.a (aH BS.body 0)) (.cons (.ret (.call (.cls .Text) (lg (zH (aH BS.body 1))))) .nil)
noncomputable def GQ:NF:=zI BS (cJ eY (only (.cls .Text) (pW eY)) GP)
noncomputable def GR:iC:=.cons (.a (aH zN.body 0)) (.cons (.ret (.aU (yx (zH (aH zN.body 1))) 35 25 (lg (zH (aH zN.body 1))))) .nil)
noncomputable def kr:NF:=zI zN (cJ eY (only (.fn 25) GQ) GR)
noncomputable def uw:LS:=aH (cR (aH gO.body 2)) 0
noncomputable def GS:iC:=.cons (.a (aH gO.body 0)) (.cons (.a (aH gO.body 1)) (.cons (.ifs (dA (aH gO.body 2)) (.cons (.a (aH (dY (aH gO.body 2)) 0)) (.cons (.a (aH (dY (aH gO.body 2)) 1)) .nil)) (.cons (.ifs (dA uw) (.cons (.a (aH (dY uw) 0)) .nil) (.cons (.tup [4,5,6] (A' (aH (cR uw) 0)).1 (A' (aH (cR uw) 0)).2.1 (.aU (yx (A' (aH (cR uw) 0)).2.2) 63 24 (lg (A' (aH (cR uw) 0)).2.2))) .nil)) .nil)) (.cons (.a (aH gO.body 3)) (.cons (.a (aH gO.body 4)) (.cons (.a (aH gO.body 5)) .nil)))))
noncomputable def ku:NF:=zI gO (cJ eY (only (.fn 24) kr) GS)
noncomputable def nK:LS:=aH mZ.body 1
noncomputable def mE:LS:=aH (bodyOf nK) 2
noncomputable def yA:iC:=.cons (.a (aH (bodyOf nK) 0)) (.cons (.a (aH (bodyOf nK) 1)) (.cons (.ifs (dA mE) (.cons (.exp (.call (.fn 52) (lg (zH (aH (dY mE) 0))))) .nil) (.cons (.a (aH (cR mE) 0)) .nil)) (.cons (.a (aH (bodyOf nK) 3)) .nil)))
noncomputable def GU:iC:=.cons (.a (aH mZ.body 0)) (.cons (.di 2 (sR nK) yA) (.cons (.a (aH mZ.body 2)) .nil))
noncomputable def GW:NF:=zI mZ (cJ eY (only (.fn 52) ku) GU)
noncomputable def GX(k:V ML):Res (Q×AH):=GW [.lst (k.map .int)] {}
noncomputable def goN(A:de)(M:iC)(o:NI)(l:V M8):MO:=ft 60 ⟨o.scope.names,MS,iA A.slots⟩ M l
noncomputable def Ba(a:Nz)(H:Z)(A:de)(M:iC):MO:=Fm a (FA H) A.aY A.cy (iA A.slots) (goN A M)
noncomputable def Lj(o:NI)(l:V M8):MO:=(o.params.args.map (·.arg)).head?.any λq=>MW (o.scope.names.lookup q=S .local)&&da q&&yy 60 ⟨o.scope.names,MS,iA (bU .Text).slots⟩ q (bT .Text) yz l
noncomputable def Ck(a:Nz):MO:=(sO a .Text).any λr=>Ql a (CA .Text)&&MW (Ob a (.ref r)=S (.type "function"))&&Fm a r (bU .Text).aY (bU .Text).cy (iA (bU .Text).slots) Lj
noncomputable def oA(a:Nz):MO:=DZ a&&Ck a&&Ba a 25 BS GP&&Ba a 24 zN GR&&Ba a 52 gO GS&&Ba a 59 mZ GU&&(a.lookup OB).isSome
structure mF(K:Nz)(g₀:MU)(p:Nu)(loose:V MT)(mg mb:MT->O MN):Prop extends Base K g₀ p loose mg mb where
 text:Ck K=MK
 Hq:Ba K 25 BS GP=MK
 FF:Ba K 24 zN GR=MK
 Lk:Ba K 52 gO GS=MK
 Ll:Ba K 59 mZ GU=MK
theorem mF.of(r:v.In e)(x:TopRead P be bg bf e)(B:oA v=MK):mF v e P be bg bf:=by refine hF λA=>?_;unfold oA at B;simp only[To] at B;refine bM B λbG Y=>?_;obtain⟨⟨⟨⟨⟨p,G⟩,T⟩,X⟩,k⟩,m⟩:=bG;refine dD (Um.mp Y) λz a=>?_;refine A ?_;exact⟨Base.of r x ⟨z,r _ _ a⟩ p,G,T,X,k,m⟩
theorem oo.less{x:Z}{H:Key}{c:NF}(M:oo h a e q H c)(B:q<=x):oo h a e x H c:=λg T f X b y t w R=>M g T f X b y t w (R.less B)
theorem oo.only{H:Key}{c:NF}(M:oo h a e q H c):∀r,oo h a e q r (only H c r):=λr=>by
 by_cases D:r=H;·refine R D ?_;rw[Mine.Lake.only];refine R (Na rfl) ?_;exact M
 ·rw[Mine.Lake.only];refine R (Nc D) ?_;intro g T f X b y t w _ _ _ _ L U;cases U
theorem yB{b:Ni}{w:Z}{D:NV}(C:Gr v e P be bg bf)(o:rE v)(x:iz h b e N i q)(R:bo N (q+1) f l)(z:gg E c)(B:GO w E aj D=MK):mv h b e l c E.sl f (D4 i D) aj:=by
 induction D using NV.casesOn with
 |a D=>exact mv.Hz (eR C o x R w E c _ z B)
 |mU D=>
  exact k0 (eC aj) B λd B=>k1 (P:=λs=>mv h b e l c E.sl f _ (.Call s _ [] _)) (bw d.1) B λJ P B=>k0 (P:=λs=>mv h b e l c E.sl f _ (.Call _ s [] _)) (oU d.2.1) B λU B=>wG B λp G T X=>
   dE p▸mv.mU C (Cx.mA z o G) (eR C o x R w E c _ z X) T
theorem yC{g:Nf}{c:Cx}{k:MT}(C:Gr v e P be bg bf)(o:rE v)(x:iz h a e N i q)(R:bo N (q+1) f l)(w:Z)(z:gg c g){b:V Z}:∀{y:V NV} {j:V M8},yy w c k b y j=MK->pQ h a e l g c.sl f k b (y.map (D4 i)) j:=by
 induction b with
 |nil=>exact λB=>an B λp G=>Tp.mp p▸Tp.mp G▸.nil
 |cons A b d=>
  intro y j B
  induction y using RC with
  |nil=>exact bF B
  |cons D y=>induction j using RC with
   |nil=>exact bF B
   |cons r j=>
    exact k1 (P:=λr=>pQ h a e l g c.sl f k _ _ (r :: _)) (fO r) B λL P B=>k1 (P:=λn=>pQ h a e l g c.sl f k _ _ (.Assign [n] _ _ :: _)) (fI L.1) B λn P B=>
     k1 (P:=λn=>pQ h a e l g c.sl f k _ _ (.Assign [.Attribute n _ _] _ _ :: _)) (bw n.1) B λs P B=>wG B λp G T X=>dE p▸(dE G▸.cons (yB C o x R z T) (d X))
theorem Bb(n:mF v e P be bg bf):oo h a e 22 (.cls .Text) (pW eY):=by
 intro H C f X b y t w R K M E q D;refine hF λB=>?_;unfold pW at D;refine kF (Mine.Lake.bindArgs (bU .Text).aY (bU .Text).cy (bU .Text).slots.length (.none :: X)) (λm=>?_) (λA m=>?_);·replace D:=m▸D;cases D
 ·replace D:=m▸D;refine aM (bV D) λcm s Y=>?_;clear D;obtain⟨us,L⟩:=cm;obtain rfl:=Ht Y;refine aM (NQ n.text) λr d J=>?_;refine gV J λp G T=>?_;refine CS (mC (w:=a) n.G.X T) λo z l j x=>?_;refine aM (NQ x.ok) λU g ok=>?_;refine B ?_;exact gV ok λk1 i k=>x5 n.G (by decide) x.facts R rfl p (oz d) (M5 G) x.get x.dat n.G.T.nolimit x.code x.GJ (x.len.symm▸x.GI) (x.len.symm▸x.HE) (rh g) (M5 k1) (bH i) K M E (x.len.symm▸(jE (bU .Text).slots).symm▸m) rfl s λI=>
   yC (c:=⟨o.scope.names,MS,iA (bU .Text).slots⟩) n.G n.go (ri n.toBase 10) R.make 60 (jD rfl rfl) k
theorem pX{m:Z}(n:mF v e P be bg bf){A:de}{M:iC}{k:Key->NF}(B:Ba v H A M=MK)(d:∀H,oo h a e (20+m) H (k H)):oo h a e (20+m+2) (.fn H) (zI A (cJ eY k M)):=by
 intro g T f X b y t w R K p E q D;refine hF λC=>?_;unfold zI at D;refine kF (Mine.Lake.bindArgs A.aY A.cy A.slots.length X) (λi=>?_) (λU i=>?_);·replace D:=i▸D;cases D
 ·replace D:=i▸D;refine aM (bV D) λdu s Y=>?_;obtain⟨L,J,r⟩:=du;obtain rfl:=Ht Y;refine CS (mC (w:=a) n.G.X B) λo z l j x=>?_;refine C ?_;refine AG x.facts R x.get x.dat n.G.T.nolimit x.code x.GJ (x.len.symm▸x.GI) (x.len.symm▸x.HE) K p E (x.len.symm▸(jE A.slots).symm▸i) s λI=>?_;exact yw (c:=⟨o.scope.names,MS,iA A.slots⟩) n.G n.go n.eV (⟨λg T f G X b y t w R=>(ri n.toBase 10).run g T f G X b y t w (R.less (R5 20 m))⟩) d R.deeper x.facts.kind rfl rfl 59 M l x.ok
theorem D5(n:mF v e P be bg bf):oo h a e 30 (.fn 59) GW:=by exact pX (m:=8) n n.Ll (oo.only (pX (m:=6) n n.Lk (oo.only (pX (m:=4) n n.FF (oo.only (pX (m:=2) n n.Hq (oo.only (Bb n))))))))
end
section
open PySem PySem.W PySem.Calls PyProof.Rows
section
open PySem.SeqAt
noncomputable def ux:Ctx:=⟨.builtin "claim.caller" {},N,N,[],N⟩
theorem vI:Nd ux PS:=⟨caller_in,by decide +kernel,λL x=>by cases x⟩
theorem sT:bo N 30 PS []:=⟨rfl,rfl,by decide +kernel,by decide +kernel⟩
theorem D6{prog:Nu}{w:Ni}{t:Nl Fin}{a:MV}{R:NP->MV->Prop}(U:a.asleep)
  (B:dQ (MX prog w) PS t (λT v=>∃A,T=.done A/\R (.ok A) v/\Ru v.gens=MS) (λD v=>R (.error D) v/\Ru v.gens=MS) a) :
  ∃q e v b,schedN (Pm Og) prog w q (.single a ⟨t,.builtin "claim.caller" {},default,[]⟩)=.halted (outcomeOf e) b/\PySem.runN (Pm Og) prog w q a ⟨t,.builtin "claim.caller" {},default,[]⟩=.halted (outcomeOf e) b/\b.forget=v.forget/\R e v:=
 wp_halts_full (M:=MX prog w) (R:=R) (c:=.builtin "claim.caller" {}) U (TG _ _ _ (λY Y Y s=>by obtain⟨A,rfl,s⟩:=s;exact s) (λY Y Y s=>s) _ _ (B ux default vI))
end
section
open PySem.SeqAt
abbrev LR:OpenRow:=PySem.Challenge.rw_nt0500_01.row
theorem Bc{R:WRecords}:∀{j:V OG},PT.hasItems R j .int=MK->∃q:V ML,j=q.map .int:=by
 intro j;induction j with
 |nil=>exact λ_=>⟨[],rfl⟩
 |cons h j d=>intro B;refine bM (RS.mp (show(PT.has R h .int&&PT.hasItems R j .int)=MK from B)) λp G=>dD (d G) λq L=>?_;clear B G d;subst L;refine hF λJ=>?_;induction h using OG.casesOn<;>first|exact J ⟨_ :: q,rfl⟩|exact bF p
theorem vJ{a:Ni}{B:MU}{T:SP}{y:bI}:∀{q:V ML} {w:V MN},WellAll a.params B w (q.map .int)->bN a.params T y (q.map .int) w:=by
 intro q;induction q with
 |nil=>intro w s;cases s;exact .nil
 |cons K q f=>intro w s;refine m5 (Rv s) λE d L I M=>dD (MN.isInt_shape ((encInt LR.prog a).is I).1) λn D=>?_;clear s I;subst L D;exact .cons (.int _ _) (f M)
theorem D7{c:N'}{B:MU}{E:MN}{h:OG}(r:Well c B E h):(match h with|.list j=>∃I w,E=.ref I/\B.get? I=S {cls:=.type "list",data:=.seq w.toArray}/\WellAll c B w j|_=>Np):=by induction r using W.Well.casesOn<;>first|exact RY|exact⟨_,_,rfl,by assumption,by assumption⟩
theorem vK:((LR.name,GV.fn 59):MT×GV)∈AM:=kM (by decide +kernel)
theorem D8{R:WRecords}{t:WTm}{D:WCtx}{M:MO}(E:t.value R D=S (.bool M))(B:t.holds R D=MK):M=MK:=by
 unfold WTm.holds at B;rw[E] at B;induction M using RD with
 |false=>exact bF B
 |true=>rfl
set_option tactic.hygienic true in
theorem yD{X:V OG}(B:LR.toRowW.claim.pre X=MK):∃k:V ML,X=[.list (k.map .int)]/\k.length<=63:=by
 refine hF λA=>bM (pre_splitW B) λp G=>m5 (hasAllW_cons p) λh b cm T a=>?_;subst cm;induction b using RC with
 |cons _ _=>exact bF a
 |nil=>
  induction h using OG.casesOn with
  |list j=>
   refine dD (Bc (R:=LR.records) ((MO.or_false ..).symm.trans (show(PT.hasItems LR.records j PT.int||MS)=MK from T))) λk du=>?_;subst du;refine A ⟨k,rfl,?_⟩;have m:(!MW ((63:ML)<((k.map OG.int).length:Z)))=MK:=D8 (t:=WTm.not (.lt (.lit (.int 63)) (.len (.arg 0)))) rfl (holds_andW G).1;rw[Ry] at m;refine wb (MW ((63:ML)<(k.length:Z))) (λq=>?_) (λq=>?_);·exact S4.mp (TS.mp (Q5 q))
   ·rw[q] at m;exact bF m
  |_=>exact bF T
theorem yE{q:Nu}{a0:V MT}{XP:(MT->O MN)->MU->Prop}{y:Ni}{g X:MV}{J L:MT->O MN}(t:∀k:V ML,k.length<=63->∃b,GX k=.ok (.bool MK,b))
  (C:Ground q a0 LR.records XP y g J L X.heap) (G:∃a:Nz,a.In X.heap/\oA a=MK) {p:V OG} {w:V MN} {as:V MR} (i:LR.toRowW.claim.pre p=MK) (T:Laid LR.records y g X p w as) :
  ∃A,J LR.name=S A/\codeN (MX LR.prog y) PS (.call A ⟨w,[]⟩) (λe v=>(∃E,e=.ok (.ret E))/\GoodWG LR.toRowW.claim (classAt g.heap) (ExcName.means g.heap) p X e v) X:=by
 refine hF λa2=>aM (yD i) λk dV l=>?_;subst dV;refine aM G λa r c=>?_;have n:mF a X.heap q _ J L:=mF.of r (topRead_of C.T) c;refine dD (t k l) λb D=>m5 (Rv T.well) λE d q I M=>m5 (D7 I) λf ws q2 o a1=>?_;clear I;subst q q2;cases M;refine a2 ⟨.ref (FA 59),?_,fj (D5 n [] [] PS [.lst (k.map .int)] {} {} X _ sT ?_ ⟨λD x=>by cases x⟩ (.cons (.lst _ _ _ 0 ⟨o,?_,?_⟩ ?_) .nil) _ D) λe v s=>?_⟩;·exact mg_of n.G.X n.G.T.g ((n.go _ vK).1.1)
 ·exact⟨λM z D=>⟨D,by show M∉[];exact Sz⟩,.nil,(λI x=>by cases x),(λI x=>by cases x),⟨rfl,rfl,rfl,rfl,(λH w I D=>by exact nX D),(λH w I D=>by exact nX D),(λH w I D=>by exact nX D),λH P q D=>by exact nX D⟩⟩
 ·show _∉[];exact Sz
 ·exact Sz
 ·exact vJ a1
 ·rcases e with j|(E|_|_|_)<;>try exact s.elim
  refine hF λU=>dF s λa' H' K e1 o1 v1=>?_;cases e1;cases v1;refine mQ o1.eq λm B fC=>?_;subst fC;refine U ⟨⟨_,rfl⟩,.inl ⟨.bool MK,.bool MK,[],rfl,λh=>rfl,.bool MK,?_,λY=>⟨.nil,λI x=>by cases x⟩⟩,OldK.of_keep λM z D=>(o1.inv.keep M z D).1,rfl,.of_eq T.gens⟩;refine RS.mpr ⟨rfl,?_⟩;show(WTm.eq .res (.lit (.bool MK))).holds _ _=MK;dsimp only[WTm.holds,WTm.value];rw[show W.same (OG.bool MK) (OG.bool MK)=MK from by simp[W.same]]
end
noncomputable def lF(T:Od->O NK)(P:Nu)(a:Ni)(b:Z)(A:O MN):Z->Oz->Thread->O Oz
 |0,_,_=>N
 |q+1,t,n=>match Qm n with
  |true=>S t
  |false=>match stepOk b A n with
   |false=>N
   |true=>match stepT (Pm T) P a t n with
    |some (v,X)=>lF T P a b A q v X
    |none=>N
theorem sU{T:Od->O NK}{P:Nu}{a:Ni}{b:Z}{A:O MN}:∀{q:Z} {t v:Oz} {n:Thread},lF T P a b A q t n=S v->Pn T P a b A q t.abs n=S v.abs:=by
 intro q;induction q with
 |zero=>intro _ _ _ B;cases B
 |succ q f=>
  intro t v n B
  replace B:(match Qm n with
   |true=>S t
   |false=>match stepOk b A n with
    |false=>N
    |true=>match stepT (Pm T) P a t n with
     |some (v,X)=>lF T P a b A q v X
     |none=>N)=S v:=B
  show(match Qm n with
   |true=>S t.abs
   |false=>match stepOk b A n with
    |false=>N
    |true=>match step (Pm T) P a t.abs n with
     |.go v X=>Pn T P a b A q v X
     |.halt _ _=>N)=_
  induction D:Qm n using RD with
  |true=>rw[D] at B;cases B;rfl
  |false=>
   rw[D] at B
   induction m:stepOk b A n using RD with
   |false=>rw[m] at B;cases B
   |true=>
    rw[m] at B
    induction s:stepT (Pm T) P a t n using Rx with
    |none=>rw[s] at B;cases B
    |some L=>obtain⟨o,M⟩:=L;rw[s] at B;dsimp only at B⊢;rw[stepT_spec s];exact f B
noncomputable def treeOf:V Nk->Z->BT->BT
 |[],_,x=>x
 |z :: y,q,x=>treeOf y (q+1) (x.ins q z)
noncomputable def yF(c:N'):BT:=treeOf (Oo c).objs.toList 0 .nil
noncomputable def Lm:V Z:=[3,1,593,592,72,93,114,147,168,312,333,52,36,359,20,21,29,35,38,39,51,62,68,69,71,89,90,92,110,111,113,131,132,138,139,143,144,146,164,165,167,178,179,180,186,187,193,194,195,201,202,203,209,210,216,217,223,224,230,231,237,238,244,245,251,252,258,259,265,266,272,273,279,280,286,287,293,294,302,308,309,311,329,330,332,350,351,357,358,365,366,372,373,379,380,386,387,393,394,400,401,407,408,410,411,428,429,435,436,442,443,449,450,456,457,463,464,470,471,477,478,484,485,491,492,494,495,505,511,512,518,519,525,526,532,533,539,540,546,547,553,554,560,561,567,568,574,575,576,582,583,589,590,601,602,608,609,613,614,620,621,625,626,632,633,637,638,642,643,649,650,656,657]
noncomputable def yG(t:Oz):Nz:=(Lm.filter λI=>Z.blt I t.n).filterMap λI=>((t.tree.get I).bind alive).map λz=>(I,z)
set_option tactic.hygienic true in
theorem pY{f:Z->O Nk}{I:Z}{z:Nk}:∀{T:V Z},(T.filterMap λI=>(f I).map λz=>(I,z)).lookup I=S z->I∈T/\f I=S z:=by
 intro T;induction T with
 |nil=>intro B;cases B
 |cons r T a=>
  intro B
  rw[TO] at B
  induction D:f r using Rx with
  |none=>rw[D] at B;obtain⟨p,G⟩:=a B;exact⟨.tail _ p,G⟩
  |some c=>
   rw[D] at B;change Ua I ((r,c) :: _)=S z at B;rw[SG] at B;split at B;·rename_i L;obtain rfl:=N9.mp L;cases B;exact⟨.head _,D⟩
   ·obtain⟨p,G⟩:=a B;exact⟨.tail _ p,G⟩
theorem yH(t:Oz):(yG t).In t.abs.heap:=λI z D=>by
 obtain⟨p,G⟩:=pY (f:=λI=>(t.tree.get I).bind alive) D;induction o:t.tree.get I using Rx with
 |none=>rw[o] at G;cases G
 |some c=>rw[o] at G;exact(abs_get (Wa.mp (TY.mp p).2) o).trans G
abbrev PR:Nu:=PySem.Challenge.pw_nt0500_01
noncomputable def iM:Nu:={PR with main:={PR.main with body:=PR.main.body.drop 49}}
noncomputable def hV:V MT:=(["_wall","GRAIN","PostError","PsError","READ_ONLY","UNLIMITED","Thing","Text","Row","DictBody","Span","integer"]:V MT)++(["name","null","of_string","of_row","of_dict","is_number","in_millionths","is_in_array","body_of","is_local","access_of","can_read"]:V MT)++(["octets_of_span","thing_octets","key_of","key_thing","ITEM_COST","ENTRY_COST","MOST_COST","Limits","VmSave","BodyMaker","BodyChanger","Memory"]:V MT)++(["memory_check_many","memory_put_back","_law_made","_law_thing","_law_changed","_law_restored","_law_saved","_law_is_so","_law_refused"]:V MT)
noncomputable def Ln(c:N')(e:OP):Oz:=⟨yF c,11,{},T' [],Qn,Qo,e⟩
theorem vL:(λc=>absHeap (yF c) 11 {})=λc=>Oo c:=rfl
noncomputable def topG(P:Nu)(a:Ni)(t:Oz):O Oz:=lF OT P a 11 (S (.ref 6)) 4900 t (PU P)
noncomputable def lookG(P L:Nu)(l:V MT)(h:MU)(t:Oz):=(Qp (O5 P.main.body) h t.abs.heap&&Qq P t.abs.heap&&Qr t.abs&&Qs h t.abs.heap,openSeen L l (O5 P.main.body) (λY=>MK) MK t.abs)
noncomputable def goodG(L:Nu)(l:V MT):=Qt L l
set_option maxHeartbeats 0 in
lay_quick Mine.Lake.topG Mine.Lake.lookG Mine.Lake.goodG
set_option maxHeartbeats 0 in
theorem D9:(λ(a:Ni) (e:OP)=>(PySem.W.Fast.tw13822506690625674060 PR a (Ln a.params e)).map λt=>(PySem.W.Fast.tw4248594712607919379 PR iM hV (Oo a.params) t,oA (yG t)))=λY Y=>S ((MK,PySem.W.Fast.tw11905219005740949937 iM hV),MK):=by kernel_rfl
theorem Be(a:Ni)(e:OP):∃t:Oz,Pn OT PR a 11 (S (.ref 6)) 4900 ⟨Oo a.params,T' [],Qn,Qo,e⟩ (PU PR)=S t.abs/\lookG PR iM hV (Oo a.params) t=(MK,Qt iM hV)/\oA (yG t)=MK:=by refine hF λA=>?_;have D:=OU (OU D9 a) e;rw[<-PySem.W.Fast.te13822506690625674060,<-PySem.W.Fast.te4248594712607919379,<-PySem.W.Fast.te11905219005740949937] at D;obtain⟨t,p,G⟩:=Sa.mp D;refine A ⟨t,?_,(NT.mk.inj G).1,(NT.mk.inj G).2⟩;have:=sU p;rw[<-this];show _=Pn OT PR a 11 (S (.ref 6)) 4900 ⟨absHeap (yF a.params) 11 {},T' [],Qn,Qo,e⟩ (PU PR);rw[OU vL a.params]
noncomputable def YH(B:MU):Prop:=∃a:Nz,a.In B/\oA a=MK
theorem Bf{P L:Nu}{l:V MT}{o:Z}{d:N'->MU}{k:Drawn}{i:Z}{m:Z}{A:O MN}
  (p:∀a:Ni,(fencedOpening OT P a o).map (λt=>(t.heap,t.gens,t.drawn,t.toks))=S (d a.params,T' [],k,i))
  (c:(λa:Ni=>((d a.params).isNs NN&&(T' []:M0 PN).size==0,(d a.params).objs.size,(d a.params).nsMap NN "__annotations__"))=λY=>(MK,m,A))
  (w:∀(a:Ni) (e:OP),∃t:MV,Pn OT P a m A o ⟨d a.params,T' [],k,i,e⟩ (PU P)=S t/\(Qp (O5 P.main.body) (d a.params) t.heap&&Qq P t.heap&&Qr t&&Qs (d a.params) t.heap)=MK/\openSeen L l (O5 P.main.body) (λY=>MK) MK t=Qt L l/\YH t.heap) :
  LeftO P L l (λY=>MK) (λt=>YH t.heap) (λY=>Np) o:=λa=>by
 obtain⟨⟨B,G,h,H,e⟩,D,j⟩:=Sa.mp (p a);obtain⟨rfl,rfl,rfl,rfl⟩:B=d a.params/\G=T' []/\h=k/\H=i:=by simpa using j
 obtain⟨g,b,f⟩:_/\_/\_:=by simpa only[NT.mk.injEq] using OU c a
 obtain⟨t,y,l1,l2,s⟩:=w a e;have n:topFrom OT P a o ⟨d a.params,T' [],h,H,e⟩=S t:=by unfold topFrom;dsimp only;rw[g,b,f,y];show(match Qp (O5 P.main.body) (d a.params) t.heap&&Qq P t.heap&&Qr t&&Qs (d a.params) t.heap with|true=>_|false=>_)=_;rw[l1]
 unfold openEnds;rw[D];show(topFrom OT P a o _).map _=_;rw[n];exact Nb S (NT.ext l2 (eq_true s))
theorem vM:(λa:Ni=>((Oo a.params).isNs NN&&(T' []:M0 PN).size==0,(Oo a.params).objs.size,(Oo a.params).nsMap NN "__annotations__"))=λY=>(MK,11,S (.ref 6)):=by kernel_rfl
theorem Bg:opening PR=plainProg PR.main.scope.names:=by kernel_rfl
theorem yI(t:MV):fenceModules? PR t=S t:=rfl
theorem D'(a:Ni)(e:OP):∃t:MV,Pn OT PR a 11 (S (.ref 6)) 4900 ⟨Oo a.params,T' [],Qn,Qo,e⟩ (PU PR)=S t/\(Qp (O5 PR.main.body) (Oo a.params) t.heap&&Qq PR t.heap&&Qr t&&Qs (Oo a.params) t.heap)=MK/\openSeen iM hV (O5 PR.main.body) (λY=>MK) MK t=Qt iM hV/\YH t.heap:=by refine hF λl=>?_;obtain⟨t,y,T,s⟩:=Be a e;obtain⟨l1,l2⟩:=NT.mk.inj T;exact l ⟨t.abs,y,l1,l2,_,yH t,s⟩
theorem GY:LeftO PR iM hV (λY=>MK) (λt=>YH t.heap) (λY=>Np) 4900:=Bf (boot_open Bg (by decide) yI) vM D'
end
section
open Mine.Lake.AV renaming casesOn->Wm
open Mine.Lake.Res renaming casesOn->Wn
open Mine.Lake renaming AV->Q
set_option genCtorIdx true in
inductive Kq|row|dict|text
 deriving O6
open Mine.Lake.Kq renaming casesOn->Wo
structure Bd where
 k:Kq
 num:Z
 g:MO
 lv:Z
 d:Z
 a:Z
structure Ct where
 cx:V ML
 en:V (Z×ML)
 acc:ML
 most:ML
inductive Un|item(at_:Z)(v:ML)|most(m:ML)|acc(a:ML)|ent(w:Z)(o:O ML)|drop(w:Z)(v:ML)(ks:V Z)
noncomputable def cq{d:Type}(a:Z):V (Z×d)->O d
 |[]=>N
 |P :: y=>if P.1=a then S P.2 else cq a y
noncomputable def ey{d:Type}(a:Z)(E:d):V (Z×d)->V (Z×d)
 |[]=>[(a,E)]
 |P :: y=>if P.1=a then(P.1,E) :: y else P :: ey a E y
noncomputable def iZ{d:Type}(a:Z):V (Z×d)->V (Z×d)
 |[]=>[]
 |P :: y=>if P.1=a then y else P :: iZ a y
variable{q:Type}{h:Z}{f:CF}{e:Loc}{a:AH}{m:V Q}{i p:AH}{v:LE}{k t w:Q}{b:Bd}{c:Ct}{l:Z->Z}{x:Res (Fl×Loc×AH)}{n o s:Z}{r:MO}
theorem jF{P:Z×q}{y:V (Z×q)}:cq h (P :: y)=if P.1=h then S P.2 else cq h y:=rfl
theorem rk{E:q}{P:Z×q}{y:V (Z×q)}:ey h E (P :: y)=if P.1=h then(P.1,E) :: y else P :: ey h E y:=rfl
theorem Cm{P:Z×q}{y:V (Z×q)}:iZ h (P :: y)=if P.1=h then y else P :: iZ h y:=rfl
noncomputable def gQ:Un->Ct->Ct
 |.item K E,C=>{C with cx:=C.cx.set K E}
 |.most x,C=>{C with most:=x}
 |.acc I,C=>{C with acc:=I}
 |.ent a N,C=>{C with en:=iZ a C.en}
 |.ent a (S E),C=>{C with en:=ey a E C.en}
 |.drop a E g,C=>{C with en:=g.map λH=>(H,if H=a then E else(cq H C.en).getD 0)}
noncomputable def yJ(H:Kq):Un->Ct->Prop
 |.item K _,C=>H=.row/\K<C.cx.length
 |.most x,_=>H=.dict/\x=2
 |.acc _,_=>H=.dict
 |.ent a _,C=>H=.dict/\(cq a C.en).isSome=MK
 |.drop a _ g,C=>H=.dict/\g.Nodup/\(∀i∈g,i≠a->(cq i C.en).isSome=MK)/\g.length<=3
noncomputable def upd{i:Type}(A:Z->i)(q:Z)(E:i):Z->i:=λK=>if K=q then E else A K
theorem bE{i:Type}{A:Z->i}{E:i}:upd A o E o=E:=Na rfl
theorem cG{i:Type}{A:Z->i}{K:Z}{E:i}(B:K≠o):upd A o E K=A K:=Nc B
set_option tactic.hygienic true in
theorem rm{i:Type}{A:Z->i}{E:i}:upd (upd A o E) o (A o)=A:=by
 funext K;unfold upd;split;·rename_i B;rw[B]
 ·rfl
theorem rn{i:Type}{A:Z->i}{E c:i}(B:o≠s):upd (upd A o E) s c=upd (upd A s c) o E:=by
 funext K;unfold upd;by_cases p:K=o;·refine R p ?_;simp[B]
 ·simp[p]
noncomputable abbrev Jo:=V (Z×Un)
noncomputable def kN(a:Z->Ct):Jo->Z->Ct
 |[]=>a
 |(q,c) :: y=>kN (upd a q (gQ c (a q))) y
noncomputable def qq(z:Z->Kq)(a:Z->Ct):Jo->Prop
 |[]=>Np
 |(q,c) :: y=>yJ (z q) c (a q)/\qq z (upd a q (gQ c (a q))) y
theorem Bh{P:Jo}:∀{a:Z->Ct} {L:Jo},kN a (P++L)=kN (kN a P) L:=by
 induction P with
 |nil=>exact rfl
 |cons L P d=>exact d
theorem pZ{z:Z->Kq}{P:Jo}:∀{a:Z->Ct} {L:Jo},qq z a (P++L)↔qq z a P/\qq z (kN a P) L:=by
 induction P with
 |nil=>exact⟨λB=>⟨trivial,B⟩,λB=>B.2⟩
 |cons L P d=>exact⟨λB=>⟨⟨B.1,(d.mp B.2).1⟩,(d.mp B.2).2⟩,λB=>⟨B.1.1,d.mpr ⟨B.1.2,B.2⟩⟩⟩
theorem uy{P:Jo}:∀{a:Z->Ct},(∀L∈P,L.1≠o)->kN (upd a o c) P=upd (kN a P) o c:=by
 induction P with
 |nil=>exact λ_=>rfl
 |cons L P d=>intro a B;have v:=B _ (.head _);show kN (upd (upd a o c) L.1 (gQ L.2 (upd a o c L.1))) P=_;refine R (cG v) ?_;refine R (rn (S7 v)) ?_;exact d λL e=>B L (.tail _ e)
theorem uz{z:Z->Kq}{P:Jo}:∀{a:Z->Ct},(∀L∈P,L.1≠o)->qq z a P->qq z (upd a o c) P:=by
 induction P with
 |nil=>exact λ_ _=>trivial
 |cons L P d=>intro a B H;have v:=B _ (.head _);show yJ _ _ (upd a o c L.1)/\qq z (upd (upd a o c) L.1 (gQ L.2 (upd a o c L.1))) P;refine R (cG v) ?_;refine R (rn (S7 v)) ?_;exact⟨H.1,d (λL e=>B L (.tail _ e)) H.2⟩
theorem Ea{P:Jo}:∀{a:Z->Ct},(∀L∈P,L.1≠o)->kN a P o=a o:=by
 induction P with
 |nil=>exact λ_=>rfl
 |cons L P d=>exact λB=>(d λL e=>B L (.tail _ e)).trans (cG (S7 (B _ (.head _))))
theorem p0{E:q}{K:Z}:∀{T:V (Z×q)},cq K (ey h E T)=if K=h then S E else cq K T:=by
 intro T;induction T with
 |nil=>
  show(if h=K then S E else N)=_
  by_cases B:h=K
  ·exact R B rfl
  ·refine(Nc B).trans ?_;exact R (Nc (S7 B)) rfl
 |cons P y f=>
  refine R rk ?_;by_cases B:P.1=h
  ·refine R (Na B) ?_;show(if P.1=K then S E else cq K y)=if K=h then S E else if P.1=K then S P.2 else cq K y;by_cases G:K=h;·exact R (Na G) ((Na (B.trans G.symm)))
   ·refine R (Nc G) ?_;refine(Nc (λD=>G (D.symm.trans B))).trans ?_;rw[Nc (λD=>G (D.symm.trans B))]
  ·refine R (Nc B) ?_;show(if P.1=K then S P.2 else cq K (ey h E y))=if K=h then S E else if P.1=K then S P.2 else cq K y;refine R f ?_;by_cases G:P.1=K;·rw[Na G,Na G,Nc (λD=>B (G.trans D))]
   ·rw[Nc G,Nc G]
theorem yK{E z:q}:∀{T:V (Z×q)},cq h T=S z->ey h z (ey h E T)=T:=by
 intro T;induction T with
 |nil=>intro B;exact nX B
 |cons P y f=>
  intro B;rw[jF] at B;show ey h z (if P.1=h then(P.1,E) :: y else P :: ey h E y)=_;by_cases D:P.1=h;·rw[Na D] at B;refine R (Na D) ?_;refine(Na D).trans ?_;rw[<-Sk B]
  ·rw[Nc D] at B;refine R (Nc D) ?_;refine(Nc D).trans ?_;refine R (f B) rfl
theorem ij{E:q}{T:V (Z×q)}:cq h T=N->ey h E T=T++[(h,E)]:=by
 induction T with
 |nil=>exact λ_=>rfl
 |cons P y d=>
  intro B;by_cases D:P.1=h;·exact nX (B.symm.trans (Na D))
  ·exact(Nc D).trans (Nb _ (d ((Nc D).symm.trans B)))
theorem yL{E:q}{T:V (Z×q)}:cq h T=N->iZ h (ey h E T)=T:=by
 induction T with
 |nil=>exact λ_=>Na rfl
 |cons P y d=>
  intro B;by_cases D:P.1=h;·exact nX (B.symm.trans (Na D))
  ·refine R rk ?_;refine R (Nc D) ?_;refine Cm.trans ?_;refine(Nc D).trans ?_;refine R (d ((Nc D).symm.trans B)) rfl
theorem p8{E:q}{T:V (Z×q)}(B:(cq h T).isSome=MK):(ey h E T).length=T.length:=by
 induction T with
 |nil=>cases B
 |cons P y d=>
  rw[jF] at B;refine R rk ?_;by_cases L:P.1=h;·exact R (Na L) rfl
  ·rw[Nc L] at B;refine R (Nc L) ?_;refine SY.trans ?_;exact R (d B) rfl
theorem jG:∀{T:V (Z×q)},(cq h T).isSome=MK↔h∈T.map (·.1):=by
 intro T;induction T with
 |nil=>exact M5 rfl
 |cons P y f=>
  refine R jF ?_;refine R R4 ?_;rw[RB];by_cases D:P.1=h;·exact R (Na D) ⟨λY=>.inl D.symm,λY=>rfl⟩
  ·exact R (Nc D) (f.trans ⟨.inr,λB=>B.resolve_left (S7 D)⟩)
theorem mG{T:V (Z×q)}:cq h T=N↔h∉T.map (·.1):=by rw[<-jG];induction(cq h T) using Rx<;>simp
theorem gC:∀{T:V (Z×q)},(T.map (·.1)).Nodup->iZ h T=T.filter λP=>MW (P.1≠h):=by
 intro T;induction T with
 |nil=>intro _;rfl
 |cons P y f=>
  intro B;rw[R4,RV] at B;by_cases D:P.1=h;·refine(Na D).trans ?_;refine R TN ?_;refine R (Nc (by simp[D])) ?_;refine(UK.mpr λL e=>?_).symm;have:L.1≠h:=λU=>B.1 (D▸U▸R2 e);simp[this]
  ·refine(Nc D).trans ?_;refine R TN ?_;refine R (Na (by simp[D])) ?_;refine R (f B.2) rfl
theorem uA{K:Z}(B:K≠h):∀{T:V (Z×q)},cq K (iZ h T)=cq K T:=by
 intro T;induction T with
 |nil=>
  rfl
 |cons P y f=>
  show cq K (if P.1=h then y else P :: iZ h y)=if P.1=K then S P.2 else cq K y
  by_cases D:P.1=h
  ·refine R (Na D) ?_;rw[Nc (λU=>B (U.symm.trans D))]
  ·refine R (Nc D) ?_;show(if P.1=K then S P.2 else cq K (iZ h y))=_;refine R f rfl
theorem vN{z:ML}{T:V (Z×ML)}(n:(T.map (·.1)).Nodup)(B:cq h T=S z):(T.map (·.1)).map (λH=>(H,if H=h then z else(cq H (iZ h T)).getD 0))=T:=by
 have G:∀{x:V (Z×ML)},(x.map (·.1)).Nodup->(∀L∈x,cq L.1 T=S L.2)->(x.map (·.1)).map (λH=>(H,if H=h then z else(cq H (iZ h T)).getD 0))=x:=by
  intro x _ v;refine SW.trans ?_;conv=>rhs;rw[<-V1 x]
  refine UL λL e=>?_;show(L.1,_)=L;by_cases D:L.1=h;·have:=v L e;rw[D,B] at this;refine R (Na D) ?_;rw[Sk this]
  ·refine R (Nc D) ?_;refine R (uA D) ?_;exact R (v L e) rfl
 refine G n λL e=>?_;clear G B;induction T with
 |nil=>cases e
 |cons P y d=>
  rw[R4,RV] at n;refine jF.trans ?_;rcases RB.mp e with rfl|e;·exact(Na rfl)
  ·refine(Nc (λD:P.1=L.1=>n.1 (D▸R2 e))).trans ((d n.2 e).trans rfl)
theorem yM{E:q}{T:V (Z×q)}(B:(T.map (·.1)).Nodup):((ey h E T).map (·.1)).Nodup:=by
 refine kF (cq h T) (λD=>?_) (λz D=>?_);·refine R (ij D) ?_;refine R R7 ?_;rw[Sl];refine fB B (M5 rfl) (λI c M w=>?_);rw[R4,VO,Rw] at w;subst w;exact λU=>mG.mp D (U▸c)
 ·have:∀{x:V (Z×q)},(cq h x).isSome=MK->(ey h E x).map (·.1)=x.map (·.1):=by
   intro x
   induction x with
   |nil=>intro B;cases B
   |cons P y d=>
    intro B;rw[jF] at B;show(if P.1=h then(P.1,E) :: y else P :: ey h E y).map _=_;by_cases U:P.1=h;·exact R (Na U) rfl
    ·rw[Nc U] at B;refine R (Nc U) ?_;refine R4.trans ?_;exact R (d B) rfl
  refine R (this (by refine R D ?_;rfl)) ?_
  exact B
theorem yN{T:V (Z×q)}(B:(T.map (·.1)).Nodup):((iZ h T).map (·.1)).Nodup:=R (gC B) (B.sublist (UM.map _))
noncomputable def wd(a:Z):Q:=.bx [97+a]
noncomputable def tI(E:ML):Q:=.obj .Thing [.str 1,.int E,.bool MS,.int 3]
noncomputable def tN(a:Z):Q:=.obj .Thing [.str 2,wd a,.bool MS,.int 3]
noncomputable def kW(a:Z):Q:=.tup [.str 24,wd a]
noncomputable def eN(a:Z)(E:ML):Q:=.tup [tN a,tI E]
noncomputable def i5{d:Type}(k:Z->Q)(v:Z->d->Q)(P:Z×d):Q×Q:=(k P.1,v P.1 P.2)
noncomputable def oE{d:Type}(a:Z):V (Z×d)->O Z
 |[]=>N
 |P :: y=>if P.1=a then S 0 else(oE a y).map (· + 1)
theorem uB{P:Z×q}{y:V (Z×q)}:oE h (P :: y)=if P.1=h then S 0 else(oE h y).map (· + 1):=rfl
theorem yO{k:Z->Q}{v:Z->q->Q}(J:∀I M,eqT (k I) (k M)=S (MW (I=M))):∀{T:V (Z×q)},eF (k h) (T.map (i5 k v))=S (oE h T):=by
 intro T;induction T with
 |nil=>
  rfl
 |cons P y f=>
  show(match eqT (k P.1) (k h) with|some MK=>S (S 0)|some MS=>(eF (k h) (y.map (i5 k v))).map (λz:O Z=>z.map (· + 1))|none=>N)=_
  refine R (J ..) (R f ?_)
  show _=S (if P.1=h then S 0 else(oE h y).map (· + 1))
  by_cases D:P.1=h
  ·refine R (Na D) ?_;rw[Nm D]
  ·refine R (Nc D) ?_;exact R (NG D) rfl
theorem gh{k:Z->Q}{v:Z->q->Q}(J:∀I M,eqT (k I) (k M)=S (MW (I=M)))(G:keyOk (k h)=MK){T:V (Z×q)}:eG (k h) (T.map (i5 k v))=S (oE h T):=by refine(Na G).trans ((yO J).trans rfl)
theorem GZ{kf:Z->Q}{v:Z->q->Q}:∀{T:V (Z×q)},(oE h T).bind (λK=>((T.map (i5 kf v))[K]?).map (·.2))=(cq h T).map (v h):=by
 intro T;induction T with
 |nil=>
  rfl
 |cons P y f=>
  refine(oL uB).trans (R jF ?_);by_cases D:P.1=h;·refine R (Na D) ?_;refine R (Na D) ?_;show S (v P.1 P.2)=S (v h P.2);rw[D]
  ·refine(oL (Nc D)).trans ?_;refine R (Nc D) ?_;refine R f.symm ?_;induction(oE h y) using Rx<;>rfl
theorem lG:∀{T:V (Z×q)},oE h T=N↔cq h T=N:=by
 intro T;induction T with
 |nil=>exact⟨λY=>rfl,λY=>rfl⟩
 |cons P y f=>
  refine R uB (R jF ?_);by_cases D:P.1=h;·refine R (Na D) ?_;refine R (Na D) ?_;exact⟨nofun,nofun⟩
  ·refine R (Nc D) ?_;refine R (Nc D) ?_;rw[<-f];induction(oE h y) using Rx<;>simp
theorem G7{k:Z->Q}{v:Z->q->Q}{E:q}:∀{T:V (Z×q)} {K:Z},oE h T=S K->(T.map (i5 k v)).modify K (λD=>(D.1,v h E))=(ey h E T).map (i5 k v):=by
 intro T;induction T with
 |nil=>intro _ B;exact nX B
 |cons P y f=>
  intro K B;replace B:=uB.symm.trans B;show _=(if P.1=h then(P.1,E) :: y else P :: ey h E y).map _;by_cases D:P.1=h;·rw[Na D] at B⊢;refine sJ B ?_;exact R D.symm rfl
  ·rw[Nc D] at B⊢;refine kF (oE h y) (λG=>?_) (λi G=>?_);·exact nX (G▸B)
   ·replace B:=G▸B;refine sJ B ?_;refine(V.modify_succ_cons ..).trans ?_;refine R (f G) rfl
theorem G9{k:Z->Q}{v:Z->q->Q}:∀{T:V (Z×q)} {K:Z},oE h T=S K->(T.map (i5 k v)).eraseIdx K=(iZ h T).map (i5 k v):=by
 intro T;induction T with
 |nil=>intro _ B;exact nX B
 |cons P y f=>
  intro K B;replace B:=uB.symm.trans B;show _=(if P.1=h then y else P :: iZ h y).map _;by_cases D:P.1=h;·rw[Na D] at B⊢;exact sJ B rfl
  ·rw[Nc D] at B⊢;refine kF (oE h y) (λG=>?_) (λi G=>?_);·exact nX (G▸B)
   ·replace B:=G▸B;refine sJ B ?_;refine V.eraseIdx_cons_succ.trans ?_;refine R (f G) rfl
theorem gE{k:Z->Q}{v:Z->q->Q}(J:∀I M,eqT (k I) (k M)=S (MW (I=M)))(G:keyOk (k h)=MK){T:V (Z×q)}:cX (T.map (i5 k v)) (k h)=S ((cq h T).map (v h)):=by unfold cX;refine R (gh J G) ?_;exact R (GZ (kf:=k)).symm rfl
theorem uC{k:Z->Q}{v:Z->q->Q}{E:q}(J:∀I M,eqT (k I) (k M)=S (MW (I=M)))(G:keyOk (k h)=MK){T:V (Z×q)}(l:T.length<1000):mV (T.map (i5 k v)) (k h) (v h E)=S ((ey h E T).map (i5 k v)):=by
 unfold mV;refine R (gh J G) ?_;induction D:oE h T using Rx with
 |some K=>exact Nb S (G7 D)
 |none=>refine(Na (by refine R (Ry ..) ?_;exact Nm l)).trans ?_;exact R (ij (lG.mp D)) (R R7 rfl)
theorem uD{k:Z->Q}{v:Z->q->Q}(J:∀I M,eqT (k I) (k M)=S (MW (I=M)))(G:keyOk (k h)=MK){T:V (Z×q)}(o:(cq h T).isSome=MK):uM (T.map (i5 k v)) (k h)=S ((iZ h T).map (i5 k v)):=by
 unfold uM;refine R (gh J G) ?_;induction D:oE h T using Rx with
 |some K=>exact Nb S (G9 D)
 |none=>replace o:=(lG.mp D)▸o;cases o
theorem sV{I M:Z}:(([97+I]:V Z)==[97+M])=MW (I=M):=by
 by_cases D:I=M;·subst D;simp
 ·refine R (NG D) ?_;simp[D]
theorem kO(I M:Z):eqT (kW I) (kW M)=S (MW (I=M)):=by show S (MK&&((([97+I]:V Z)==[97+M])&&MK))=_;refine R sV ?_;refine R (MO.and_true ..) rfl
theorem Eb(I M:Z):eqT (.int I) (.int M)=S (MW (I=M)):=by
 show S (MW ((I:ML)=(M:ML)))=_;by_cases D:I=M;·subst D;simp
 ·refine R (NG D) ?_;refine R (NG (mt U2.mp D)) rfl
noncomputable abbrev ent:Z×ML->Q×Q:=i5 kW eN
noncomputable abbrev p9:=ML×MO×Z
noncomputable def J1(_:Z)(E:p9):Q:=.tup [.int E.1,.bool E.2.1,.int E.2.2]
noncomputable def kI(q:Z):Q:=.int q
noncomputable abbrev lH:Z×p9->Q×Q:=i5 kI J1
noncomputable def bv(M:Bd):Q:=match M.k with
 |.row=>.obj .Row [.int M.num,.aE M.a,.bool M.g,.int M.lv]
 |.text=>.obj .Text [.int M.num,.eP M.a,.bool M.g,.int M.lv]
 |.dict=>.aA M.a
noncomputable def kS:Kq->Q|.row=>.str 39|.dict=>.str 8|.text=>.str 36
noncomputable def cS(H:Kq)(C:Ct):Q:=match H with
 |.dict=>.lst (C.en.map λP=>.tup [wd P.1,.int P.2])
 |_=>.lst (C.cx.map .int)
noncomputable def dy(M:Bd)(C:Ct):V (Q×Q):=[(.str 14,bv M),(.str 9,kS M.k),(.str 59,.bool M.g),(.str 26,.int M.lv),(.str 60,cS M.k C),(.str 16,.int C.acc)]
noncomputable def fu(M:Bd)(C:Ct)(D:Z):V Q:=[.int M.num,.int C.most,.bool M.g,.int M.lv,.int C.acc,.ab D]
noncomputable def MB(b:AH)(y:Z->Z)(M:Bd)(C:Ct):Prop:=match M.k with
 |.row=>b.L[M.a]? = S (C.cx.map tI)
 |.text=>b.B[M.a]? = S C.cx
 |.dict=>b.I[M.a]? = S (.Dict,fu M C (y M.num))/\b.D[y M.num]? = S (C.en.map ent)
structure Sv where
 num:Z
 many:Z
 used:ML
 kb:V Bd
 kc:Z->Ct
noncomputable def eD(t:Sv):Q:=.obj .jP [.int t.num,.int t.many,.int t.used,.none]
noncomputable def jH(t:Sv):Q:=.tup [.int t.num,.lst (t.kb.map λM=>.tup [cS M.k (t.kc M.num),.int (t.kc M.num).acc])]
structure MG where
 g:MO
 ks:Z
 fr:Q
 u:ML
 ug:ML
 lb:Z
 ls:Z
noncomputable def i7:Q:=.obj .CE [.int 500,.int 20,.int 250,.int 15,.int 31,.int 65535,.int 65535,.int 65535,.int 127,.int 1500,.int 11,.int 15,.int 600,.int 16777216]
noncomputable def cn(a:MG):V Q:=[i7,.bool a.g,.aE a.ks,.aE 1,.ab 0,a.fr,.int a.u,.int a.ug,.int a.lb,.int a.ls]
theorem I6(B:e[n]? = S (S k)):aO f (.var n) e a=.ok (k,a):=by refine iR.trans (R B rfl)
theorem J2(B:aO f v e a=.ok (k,i))(G:aG f i k n=.ok (t,p)):aO f (.attr v n) e a=.ok (t,p):=by exact hY.trans ((bL B).trans G)
theorem J3{E:AH}{A:LE}{l:cA}{b:V Q}{c:Key}(B:aO f A e a=.ok (k,i))(J:keyOf k=S c)(G:bp f l e i=.ok (b,p))(T:f c b p=.ok (t,E)):aO f (.call A l) e a=.ok (t,E):=by refine oN.trans ?_;refine(bL B).trans ?_;show(match keyOf k with|some H=>_|none=>_)=_;exact R J ((bL G).trans T)
theorem xB{l:cA}{b:V Q}{n:BI}(B:bp f l e a=.ok (b,i))(G:bB i n b=S (k,p)):aO f (.bq n l) e a=.ok (k,p):=by refine ja.trans ?_;refine(bL B).trans ?_;show Res.of (bB i n b)=_;exact R G rfl
theorem Mc{E:AH}{l:cA}{b:V Q}(B:aO f v e a=.ok (k,i))(P:aK i k s=S (.own n))(G:bp f l e i=.ok (b,p))(T:f (.fn n) (k :: b) p=.ok (t,E)):aO f (.aU v s l) e a=.ok (t,E):=by refine lh.trans ?_;refine(bL B).trans ?_;show(match aK i k s with|some (.own A)=>_|some .bJ=>_|none=>_)=_;exact R P ((bL G).trans T)
theorem Lo{H1:AH}{E:AH}{D:LE}{l:cA}{v:Q}{k:V Q}(B:aO f D e a=.ok (v,H1))(P:aK H1 v s=S .bJ)(G:bp f l e H1=.ok (k,p))(T:gJ p v s k=S (t,E)):aO f (.aU D s l) e a=.ok (t,E):=by refine lh.trans ?_;refine(bL B).trans ?_;show(match aK H1 v s with|some (.own A)=>_|some .bJ=>_|none=>_)=_;refine R P ?_;refine(bL G).trans ?_;show Res.of (gJ p v s k)=_;exact R T rfl
theorem I7{K:LE}(B:aO f v e a=.ok (k,i))(G:aO f K e i=.ok (t,p))(T:aR p k t=S w):aO f (.sub v K) e a=.ok (w,p):=by refine wq.trans ?_;refine(bL B).trans ?_;refine(bL G).trans ?_;show(match aR p k t with|some k=>_|none=>_)=_;refine R T rfl
theorem Lp{y:cA}{k:V Q}(B:bp f y e a=.ok (k,i)):aO f (.tup y) e a=.ok (.tup k,i):=by exact lM.trans ((bL B).trans rfl)
theorem Lq{y:cA}{k:V Q}(B:bp f y e a=.ok (k,i)):aO f (.lst y) e a=.ok (.lst k,i):=by exact rH.trans ((bL B).trans rfl)
theorem Lr{I:LE}{M:LE}{z:wk}(B:aO f I e a=.ok (k,i))(G:aO f M e i=.ok (t,p))(T:bZ z k t=S w):aO f (.bin z I M) e a=.ok (w,p):=by refine wx.trans ?_;refine(bL B).trans ?_;refine(bL G).trans ?_;show(match bZ z k t with|some k=>_|none=>_)=_;refine R T rfl
theorem Ls{I:LE}{M:LE}{z:zL}(B:aO f I e a=.ok (k,i))(G:aO f M e i=.ok (t,p))(T:ct p z k t=S r):aO f (.cmp z I M) e a=.ok (.bool r,p):=by refine rI.trans ?_;refine(bL B).trans ?_;refine(bL G).trans ?_;show(match ct p z k t with|some k=>_|none=>_)=_;refine R T rfl
noncomputable def Ec(e:CF)(n:MO)(M:LE)(T:Loc)(b:AH):Res (Q×AH):=bif n then aO e M T b else .ok (.bool MS,b)
noncomputable def I8(e:CF)(n:MO)(M:LE)(T:Loc)(b:AH):Res (Q×AH):=bif n then .ok (.bool MK,b) else aO e M T b
noncomputable def Ed(e:CF)(n:MO)(I M:LE)(T:Loc)(b:AH):Res (Q×AH):=bif n then aO e I T b else aO e M T b
theorem Lu{I:LE}{M:LE}{H:Res (Q×AH)}(B:aO f I e a=.ok (.bool r,i))(G:Ec f r M e i=H):aO f (.and I M) e a=H:=by refine rJ.trans ?_;refine(bL B).trans ?_;induction r using RD<;>exact G
theorem Md{I:LE}{M:LE}{H:Res (Q×AH)}(B:aO f I e a=.ok (.bool r,i))(G:I8 f r M e i=H):aO f (.or I M) e a=H:=by refine wz.trans ?_;refine(bL B).trans ?_;induction r using RD<;>exact G
theorem aT{M:LE}{H:Res (Q×AH)}(B:r=MK)(G:aO f M e a=H):Ec f r M e a=H:=by subst B;exact G
theorem aF{M:LE}(B:r=MS):Ec f r M e a=.ok (.bool MS,a):=by subst B;rfl
theorem oT{M:LE}(B:r=MK):I8 f r M e a=.ok (.bool MK,a):=by subst B;rfl
theorem oF{M:LE}{H:Res (Q×AH)}(B:r=MS)(G:aO f M e a=H):I8 f r M e a=H:=by subst B;exact G
theorem Lv{C:LE}{I:LE}{M:LE}{H:Res (Q×AH)}(B:aO f C e a=.ok (.bool r,i))(G:Ed f r I M e i=H):aO f (.ite C I M) e a=H:=by refine rL.trans ?_;refine(bL B).trans ?_;induction r using RD<;>exact G
theorem iT{I:LE}{M:LE}{H:Res (Q×AH)}(B:r=MK)(G:aO f I e a=H):Ed f r I M e a=H:=by subst B;exact G
theorem iF{I:LE}{M:LE}{H:Res (Q×AH)}(B:r=MS)(G:aO f M e a=H):Ed f r I M e a=H:=by subst B;exact G
theorem nT(B:r=MS):(!r)=MK:=by subst B;rfl
theorem Me(B:r=MK):(!r)=MS:=by subst B;rfl
theorem Lw:aO f .emp e a=.ok (.aE a.L.length,{a with L:=a.L++[[]]}):=rfl
theorem Lx{E:AH}{o d:LO}{P L:O Q}{U:AH}(B:aO f v e a=.ok (k,i))(G:zB f o e i=.ok (P,p))(T:zB f d e p=.ok (L,E))(X:dP E k P L=S (t,U)):aO f (.qk v o d) e a=.ok (t,U):=by refine wt.trans ?_;refine(bL B).trans ?_;refine(bL G).trans ?_;refine(bL T).trans ?_;show Res.of (dP E k P L)=_;exact R X rfl
theorem Mf:zB f .no e a=.ok (N,a):=rfl
theorem Mg(B:aO f v e a=.ok (k,i)):zB f (.so v) e a=.ok (S k,i):=by exact BU.trans ((bL B).trans rfl)
theorem Ly:aO f .kP e a=.ok (.none,a):=rfl
theorem Lz:aO f (.qj r) e a=.ok (.bool r,a):=rfl
theorem LA{K:ML}:aO f (.int K) e a=.ok (.int K,a):=rfl
theorem I9:aO f (.str n) e a=.ok (.str n,a):=rfl
theorem LB{M:V Z}:aO f (.bx M) e a=.ok (.bx M,a):=rfl
theorem Mh:aO f (.gf n) e a=.ok (.fn n,a):=rfl
theorem Mi{M:dG}:aO f (.gc M) e a=.ok (.cls M,a):=rfl
theorem Mj{K:ML}:aO f (.gi n K) e a=.ok (.int K,a):=rfl
theorem LC{I:LE}(B:aO f I e a=.ok (.bool r,i)):aO f (.not I) e a=.ok (.bool (!r),i):=by exact rK.trans ((bL B).trans rfl)
theorem LD{I:LE}{K:ML}(B:aO f I e a=.ok (.int K,i)):aO f (.neg I) e a=.ok (.int (-K),i):=by exact wA.trans ((bL B).trans rfl)
theorem J4{E:AH}{K:LE}{w:cA}{b:V Q}{g:V Z}(B:bp f w e a=.ok (b,i))(G:aO f K e i=.ok (k,p))(T:gT g b k p=.ok (t,E)):aO f (.pick g w K) e a=.ok (t,E):=by refine oO.trans ?_;refine(bL B).trans ?_;show(aO f K e i).bind _=_;exact(bL G).trans T
theorem I'{w:cA}{us:V Q}{g:V Z}(B:bp f w e a=.ok (us,i))(J:g.length=us.length):aO f (.tq g w) e a=.ok (.ab i.D.length,{i with D:=i.D++[(g.map Q.str).zip us]}):=by exact wu.trans ((bL B).trans (Na J))
theorem G':bp f .nil e a=.ok ([],a):=rfl
theorem Cn{H1:AH}{D:LE}{y:cA}{v:Q}{k:V Q}(B:aO f D e a=.ok (v,H1))(G:bp f y e H1=.ok (k,p)):bp f (.cons D y) e a=.ok (v :: k,p):=by refine fR.trans ?_;refine(bL B).trans ?_;show(bp f y e H1).bind _=_;exact(bL G).trans rfl
theorem LF(B:aO f v e a=.ok (k,i)):cQ f (.asg n v) e a=.ok (.next,e.set n (S k),i):=by exact oP.trans ((bL B).trans rfl)
theorem J5{E:AH}{M:LE}(B:aO f M e a=.ok (k,i))(G:aO f v e i=.ok (t,p))(T:dH p t n k=S E):cQ f (.eO v n M) e a=.ok (.next,e,E):=by refine tw.trans ?_;refine(bL B).trans ?_;refine(bL G).trans ?_;show(match dH p t n k with|some r=>_|none=>_)=_;refine R T rfl
theorem J6{E:AH}{K:LE}{M:LE}{U:AH}(B:aO f M e a=.ok (k,i))(G:aO f v e i=.ok (t,p))(X:aO f K e p=.ok (w,E))(T:dm E t w k=S U):cQ f (.et v K M) e a=.ok (.next,e,U):=by refine tA.trans ?_;refine(bL B).trans ?_;refine(bL G).trans ?_;refine(bL X).trans ?_;show(match dm E t w k with|some r=>_|none=>_)=_;refine R T rfl
theorem Ja(B:aO f v e a=.ok (k,i)):cQ f (.exp v) e a=.ok (.next,e,i):=by exact rM.trans ((bL B).trans rfl)
theorem LG(B:aO f v e a=.ok (k,i)):cQ f (.ret v) e a=.ok (.ret k,e,i):=by exact wF.trans ((bL B).trans rfl)
theorem J7(B:aO f v e a=.ok (k,i)):cQ f (.eV v) e a=.exc k i:=by exact tF.trans ((bL B).trans rfl)
theorem LH{b:Loc}{k:V Q}{g:V Z}(B:aO f v e a=.ok (.tup k,i))(G:df e g k=S b):cQ f (.qs g v) e a=.ok (.next,b,i):=by refine oQ.trans ?_;refine(bL B).trans ?_;show(match df e g k with|some b=>_|none=>_)=_;refine R G rfl
theorem J8{v:Loc}{y:cA}{k:V Q}{g:V Z}(B:bp f y e a=.ok (k,i))(G:df e g k=S v):cQ f (.gp g y) e a=.ok (.next,v,i):=by refine tB.trans ?_;refine(bL B).trans ?_;show(match df e g k with|some v=>_|none=>_)=_;refine R G rfl
noncomputable def Jb(e:CF)(n:MO)(P L:dR)(T:Loc)(b:AH):Res (Fl×Loc×AH):=bif n then aW e P T b else aW e L T b
noncomputable def Bi(e:CF)(P:dR)(r:Res (Fl×Loc×AH)):Res (Fl×Loc×AH):=r.bind λL=>match L.1 with
  |.next=>aW e P L.2.1 L.2.2
  |.ret E=>.ok (.ret E,L.2.1,L.2.2)
theorem HH{C:LE}{t:MO}{P:dR}{L:dR}(B:aO f C e a=.ok (.bool t,i))(G:Jb f t P L e i=x):cQ f (.ifs C P L) e a=x:=by refine rN.trans ?_;refine(bL B).trans ?_;induction t using RD<;>exact G
theorem fT{P:dR}{L:dR}(B:r=MK)(G:aW f P e a=x):Jb f r P L e a=x:=by subst B;exact G
theorem fF{P:dR}{L:dR}(B:r=MS)(G:aW f L e a=x):Jb f r P L e a=x:=by subst B;exact G
theorem LI:aW f .nil e a=.ok (.next,e,a):=rfl
theorem Bj{P:dR}{t:LS}{r:Res (Fl×Loc×AH)}(B:cQ f t e a=r)(G:Bi f P r=x):aW f (.cons t P) e a=x:=by exact fe.trans ((bL B).trans G)
theorem J9{P:dR}(B:aW f P e a=x):Bi f P (.ok (.next,e,a))=x:=B
theorem LJ{P:dR}:Bi f P (.ok (.ret k,e,a))=.ok (.ret k,e,a):=rfl
theorem LK{P:dR}:Bi f P (.exc k a)=.exc k a:=rfl
theorem LL{P C:Prop}(B:P->C)(H:(P->C)->C):C:=H B
theorem Co{i:Type}{j:V i}{K:Z}(B:j.drop K=[]):j[K]? = N:=Sj (V.drop_eq_nil_iff.mp B)
theorem Cp{i:Type}{j y:V i}{r:i}{K:Z}(B:j.drop K=r :: y):j[K]? = S r:=V.head?_drop.symm.trans (Nb V.head? B)
theorem Cq{i:Type}{j y:V i}{r:i}{K:Z}(B:j.drop K=r :: y):j.drop (K+1)=y:=V.tail_drop.symm.trans (Nb V.tail B)
theorem Mk{I M:ML}(B:MW (I=M)=r):ct a .eq (.int I) (.int M)=S r:=Nb S B
theorem Ml{I M:ML}(B:MW (I<M)=r):ct a .lt (.int I) (.int M)=S r:=Nb S B
theorem Mm{I M:ML}(B:MW (I<=M)=r):ct a .le (.int I) (.int M)=S r:=Nb S B
theorem Mn{I M:ML}(B:MW (M<I)=r):ct a .gt (.int I) (.int M)=S r:=Nb S B
theorem Mo{I M:ML}(B:MW (M<=I)=r):ct a .ge (.int I) (.int M)=S r:=Nb S B
theorem Mp{i:Type}{I M C:i}(B:I=M)(G:M=C):I=C:=B.trans G
theorem Mq(B:isNone k=S r):ct a .kA k .none=S (!r):=Nb (UE (!·)) B
theorem Mr(B:isNone k=S r):ct a .is k .none=S r:=B
noncomputable def HI(g:Z->Q->Loc->AH->Res (Fl×Loc×AH))(t:Src)(q K:Z)(a:Res (Fl×Loc×AH)):Res (Fl×Loc×AH):=a.bind λy=>match y.1 with
 |.next=>cg g t q (K+1) y.2.1 y.2.2
 |.ret r=>.ok (.ret r,y.2.1,y.2.2)
theorem Ef{K:Z}{t:Src}{g:Z->Q->Loc->AH->Res (Fl×Loc×AH)}(B:t.at K a=S N):cg g t (o+1) K e a=.ok (.next,e,a):=by show(match t.at K a with|none=>_|some N=>_|some (S E)=>_)=_;refine R B rfl
theorem wi{X:Res (Fl×Loc×AH)}{K:Z}{t:Src}{g:Z->Q->Loc->AH->Res (Fl×Loc×AH)}(B:t.at K a=S (S k))(G:g K k e a=X)(T:HI g t o K X=x):cg g t (o+1) K e a=x:=by show(match t.at K a with|none=>_|some N=>_|some (S k)=>_)=_;exact R B ((bL G).trans T)
theorem yP{K:Z}{t:Src}{g:Z->Q->Loc->AH->Res (Fl×Loc×AH)}(B:cg g t o (K+1) e a=x):HI g t o K (.ok (.next,e,a))=x:=B
theorem LM{K:Z}{t:Src}{g:Z->Q->Loc->AH->Res (Fl×Loc×AH)}:HI g t o K (.ok (.ret k,e,a))=.ok (.ret k,e,a):=rfl
theorem Ms{K:Z}{t:Src}{g:Z->Q->Loc->AH->Res (Fl×Loc×AH)}:HI g t o K (.exc k a)=.exc k a:=rfl
theorem LN{C:LE}{A:Loc->AH->Res (Fl×Loc×AH)}(B:aO f C e a=.ok (.bool MS,i)):gK (λe a=>(aO f C e a).bind λy=>match truthy y.1 with|some n=>.ok (n,y.2)|none=>.bad) A (o+1) e a=.ok (.next,e,i):=Ip.trans (R B rfl)
theorem LP{J:Loc}{C:LE}{A:Loc->AH->Res (Fl×Loc×AH)}(B:aO f C e a=.ok (.bool MK,i))(G:A e i=.ok (.next,J,p))(T:gK (λe a=>(aO f C e a).bind λy=>match truthy y.1 with|some n=>.ok (n,y.2)|none=>.bad) A o J p=x):gK (λe a=>(aO f C e a).bind λy=>match truthy y.1 with|some n=>.ok (n,y.2)|none=>.bad) A (o+1) e a=x:=Ip.trans (R B ((bL G).trans T))
noncomputable def dw(e:CF)(r:Z)(M:dR):Z->Q->Loc->AH->Res (Fl×Loc×AH):=λ_ E T b=>aW e M (T.set r (S E)) b
noncomputable def cN(e:CF)(i r:Z)(M:dR):Z->Q->Loc->AH->Res (Fl×Loc×AH):=λH E T b=>aW e M ((T.set i (S (.int H))).set r (S E)) b
theorem Mt{b:Res (Fl×Loc×AH)}{K:Z}{M:dR}{r:Z}(B:aW f M (e.set r (S k)) a=b):dw f r M K k e a=b:=B
theorem Mu{b:Res (Fl×Loc×AH)}{K:Z}{i:Z}{M:dR}{r:Z}(B:aW f M ((e.set i (S (.int K))).set r (S k)) a=b):cN f i r M K k e a=b:=B
theorem LQ{M:dR}{t:Src}{r:Z}(B:aO f v e a=.ok (k,i))(G:srcOf i k=S (t,o))(T:cg (dw f r M) t (o+1) 0 e i=x):cQ f (.di r v M) e a=x:=by refine tD.trans ?_;refine(bL B).trans ?_;show(match srcOf i k with|none=>_|some t=>_)=_;exact R G T
theorem Ka{b:Z}{M:dR}{t:Src}{r:Z}(B:aO f v e a=.ok (k,i))(G:srcOf i k=S (t,o))(T:cg (cN f b r M) t (o+1) 0 e i=x):cQ f (.iQ b r v M) e a=x:=by refine tE.trans ?_;refine(bL B).trans ?_;show(match srcOf i k with|none=>_|some t=>_)=_;exact R G T
theorem LU{K:Z}{t:Src}{A:Q->AH->Res (O Q×AH)}(B:t.at K a=S N):bP A t (o+1) K a=.ok ([],a):=by show(match t.at K a with|none=>_|some N=>_|some (S E)=>_)=_;refine R B rfl
noncomputable def oC(z:O Q)(k:V Q):V Q:=z.elim k (· :: k)
theorem LV{b:V Q}{K:Z}{t:Src}{A:Q->AH->Res (O Q×AH)}{z:O Q}(B:t.at K a=S (S k))(c:A k a=.ok (z,i))(G:bP A t o (K+1) i=.ok (b,p)):bP A t (o+1) K a=.ok (oC z b,p):=by show(match t.at K a with|none=>_|some N=>_|some (S k)=>_)=_;refine R B ?_;show(A k a).bind _=_;refine(bL c).trans ?_;show(bP A t o (K+1) i).bind _=_;refine(bL G).trans ?_;induction z using Rx<;>rfl
theorem Kb{b:V Q}{t:Src}{c:LE}{n:LE}{q:LO}{m:V Z}(B:aO f n e a=.ok (k,i))(G:srcOf i k=S (t,o))(T:bP (bt f c m q e) t (o+1) 0 i=.ok (b,p)):aO f (.comp c m n q) e a=.ok (.lst b,p):=by refine tu.trans ?_;refine(bL B).trans ?_;show(match srcOf i k with|none=>_|some t=>_)=_;exact R G ((bL T).trans rfl)
noncomputable def Jc(e:CF)(a:LE)(n:MO)(T:Loc)(b:AH):Res (O Q×AH):=bif n then(aO e a T b).bind λr=>.ok (S r.1,r.2) else .ok (N,b)
theorem Mv{b:LE}(B:r=MK)(G:aO f b e a=.ok (t,i)):Jc f b r e a=.ok (S t,i):=by subst B;show(aO f b e a).bind _=_;exact(bL G).trans rfl
theorem Mw{b:LE}(B:r=MS):Jc f b r e a=.ok (N,a):=by subst B;rfl
theorem Mx{J:Loc}{c:LE}{q:LO}{m:V Z}{z:O Q}(B:fA e m k=S J)(b:zD f q J a=.ok (r,i))(G:Jc f c r J i=.ok (z,p)):bt f c m q e k a=.ok (z,p):=by
 show(match fA e m k with|none=>_|some v=>_)=_;refine R B ?_;show((zD f q J a).bind _).tr=_;refine R b ?_;clear B b;induction r using RD;·exact Nb Res.tr G
 ·exact Nb Res.tr G
theorem My:zD f .no e a=.ok (MK,a):=rfl
theorem Mz(B:aO f v e a=.ok (.bool r,i)):zD f (.so v) e a=.ok (r,i):=by exact FE.trans ((bL B).trans rfl)
theorem Kc{r:Z}(B:aO f v e a=.ok (k,i))(G:kE i k=.ok (t,p)):aO f (.vals v r) e a=.ok (t,p):=by exact lq.trans ((bL B).trans G)
theorem Jd{E:AH}{l:cA}{b:V Q}{c:Key}{A:LE}(B:aO f A e a=.ok (k,i))(J:keyOf k=S c)(G:bp f l e i=.ok (b,p))(T:f c b p=.exc t E):aO f (.call A l) e a=.exc t E:=by refine oN.trans ?_;refine(bL B).trans ?_;show(match keyOf k with|some H=>_|none=>_)=_;exact R J ((bL G).trans T)
theorem LX{E:AH}{l:cA}{b:V Q}(B:aO f v e a=.ok (k,i))(P:aK i k s=S (.own n))(G:bp f l e i=.ok (b,p))(T:f (.fn n) (k :: b) p=.exc t E):aO f (.aU v s l) e a=.exc t E:=by refine lh.trans ?_;refine(bL B).trans ?_;show(match aK i k s with|some (.own A)=>_|some .bJ=>_|none=>_)=_;exact R P ((bL G).trans T)
theorem Ke{k:V Q}{b q w:cA}(B:bp f w e a=.ok (k,i))(G:uN f b q k e i=x):cQ f (.kQ b q w) e a=x:=by exact tC.trans ((bL B).trans G)
theorem LY:uN f .nil .nil [] e a=.ok (.next,e,a):=rfl
theorem Kf{E:AH}{c:V Q}{z K:LE}{b q:cA}(B:aO f z e a=.ok (k,i))(G:aO f K e i=.ok (t,p))(T:dm p k t w=S E)(X:uN f b q c e E=x):uN f (.cons z b) (.cons K q) (w :: c) e a=x:=by refine(bL B).trans ?_;refine(bL G).trans ?_;show(match dm p k t w with|some r=>_|none=>_)=_;exact R T X
theorem Kg(B:aO f v e a=.exc t i):cQ f (.exp v) e a=.exc t i:=by exact rM.trans ((bL B).trans rfl)
theorem Kh(B:aO f v e a=.exc t i):cQ f (.asg n v) e a=.exc t i:=by exact oP.trans ((bL B).trans rfl)
theorem LZ{C:LE}{r:Z}(B:aO f v e a=.ok (k,i)):cQ f (.kR v r C) e a=.ok (.next,e,i):=by refine oR.trans (R B rfl)
theorem Ki{C:LE}{r:Z}(B:aO f v e a=.exc t i)(G:aO (λ_ _ _=>Res.bad) C (e.set r (S (.exc t))) i=.ok (k,p)):cQ f (.kR v r C) e a=.ok (.next,(e.set r (S (.exc t))).set r N,p):=by refine oR.trans ?_;refine R B ?_;show(Res.tr (aO _ C _ i)).bind _=_;exact R G rfl
noncomputable def Je(e:CF)(h:Key->NF)(P:iC)(r:Res (Fl×Loc×AH)):Res (Fl×Loc×AH):=r.bind λL=>match L.1 with
 |.next=>cJ e h P L.2.1 L.2.2
 |.ret E=>.ok (.ret E,L.2.1,L.2.2)
theorem MA{h:Key->NF}:cJ f h .nil e a=.ok (.next,e,a):=rfl
theorem rF{h:Key->NF}{X:Res (Fl×Loc×AH)}{t:D2}{P:iC}(B:fq f h t e a=X)(G:Je f h P X=x):cJ f h (.cons t P) e a=x:=(bL B).trans G
theorem Kj{h:Key->NF}{P:iC}(B:cJ f h P e a=x):Je f h P (.ok (.next,e,a))=x:=B
theorem L0{h:Key->NF}{P:iC}:Je f h P (.ok (.ret k,e,a))=.ok (.ret k,e,a):=rfl
theorem Fn{h:Key->NF}{T:LS}(B:cQ f T e a=x):fq f h (.a T) e a=x:=B
noncomputable def Eg(e:CF)(h:Key->NF)(n:MO)(P L:iC)(T:Loc)(b:AH):Res (Fl×Loc×AH):=bif n then cJ e h P T b else cJ e h L T b
theorem Ha{h:Key->NF}{C:LE}{P:iC}{L:iC}(B:aO f C e a=.ok (.bool r,i))(G:Eg f h r P L e i=x):fq f h (.ifs C P L) e a=x:=by show((aO f C e a).bind _).bind _=_;refine R B ?_;induction r using RD<;>exact G
theorem L1{h:Key->NF}{P:iC}{L:iC}(B:r=MK)(G:cJ f h P e a=x):Eg f h r P L e a=x:=by subst B;exact G
theorem L2{h:Key->NF}{P:iC}{L:iC}(B:r=MS)(G:cJ f h L e a=x):Eg f h r P L e a=x:=by subst B;exact G
theorem MD{b:Key->NF}{h:NE}(B:k9 f b h e a=.ok (k,i)):fq f b (.exp h) e a=.ok (.next,e,i):=by show(k9 f b h e a).bind _=_;exact(bL B).trans rfl
theorem ME{b:Key->NF}{h:NE}(B:k9 f b h e a=.ok (k,i)):fq f b (.ret h) e a=.ok (.ret k,e,i):=by show(k9 f b h e a).bind _=_;exact(bL B).trans rfl
theorem MF{h:Key->NF}{v:Loc}{E:AH}{I:LE}{M:LE}{s:Q}{U:Q}{b:NE}{k:V Z}(B:aO f I e a=.ok (w,i))(G:aO f M e i=.ok (s,p))(T:k9 f h b e p=.ok (U,E))(X:df e k [w,s,U]=S v):fq f h (.tup k I M b) e a=.ok (.next,v,E):=by refine(bL B).trans ?_;refine(bL G).trans ?_;refine(bL T).trans ?_;show(match df e k [w,s,U] with|some v=>_|none=>_)=_;refine R X rfl
theorem L3{h:Key->NF}{b:Z}{t:Src}{P:iC}(B:aO f v e a=.ok (k,i))(G:srcOf i k=S (t,o))(T:cg (λ_ k e a=>cJ f h P (e.set b (S k)) a) t (o+1) 0 e i=x):fq f h (.di b v P) e a=x:=by refine(bL B).trans ?_;show(match srcOf i k with|none=>_|some t=>_)=_;exact R G T
theorem MH{h:Key->NF}{l:cA}{b:V Q}{c:Key}(B:bp f l e a=.ok (b,i))(G:h c b i=.ok (k,p)):k9 f h (.call c l) e a=.ok (k,p):=by show(bp f l e a).bind _=_;exact(bL B).trans G
theorem MI{h:Key->NF}{E:AH}{l:cA}{b:V Q}(B:aO f v e a=.ok (k,i))(P:aK i k s=S (.own n))(G:bp f l e i=.ok (b,p))(T:h (.fn n) (k :: b) p=.ok (t,E)):k9 f h (.aU v s n l) e a=.ok (t,E):=by refine(bL B).trans ?_;show(match aK i k s with|some (.own A)=>_|_=>_)=_;exact R P ((Na rfl).trans ((bL G).trans T))
local macro_rules
 | `(tactic| walk_at $s) => do
  let w (x : String) : Lean.MacroM (Lean.TSyntax `tactic) := match x with
   | "=" => `(tactic| with_unfolding_all exact rfl)
   | "as" => `(tactic| assumption)
   | "ua" => `(tactic| with_unfolding_all assumption)
   | "fa" => `(tactic| (focus (apply_assumption only [*]; done)))
   | _ => `(tactic| walk_at $(Lean.Syntax.mkStrLit x))
  let [_, r] := "
fm= as| fa| ua
bt= as| =|nT bt|Me bt
lf= as|Mk as|Ml as|Mm as|Mn as|Mo as| =|Mq as|Mr as| ua
at= as| fa|aS =| ua
xl=G'|Cn xe xl
xo=Mf|Mg xe
an=aT bt xe|aF bt
or=oF bt xe|oT bt
it=iT bt xe|iF bt xe
xe=I6 va|J2 xe at|I9|LA|Ls xe xe lf|I7 xe xe lf|Mc xe fm xl fm|Lo xe lf xl lf|J3 xe va xl fm|xB xl lf|Lr xe xe lf|LC xe|Lu xe an|Md xe or|Lv xe it|Lp xl|Lq xl|Mh|Mi|Mj|Ly|Lz|LB|Lw|Lx xe xo xo lf|J4 xl xe lf|I' xl =|LD xe|Kb xe lf cg|Kc xe fm| fm
va= =| as
cg=LU =|LV = cs cg
cs=Mx = xc ck
xc=My|Mz xe
ck=Mv bt xe|Mw bt
fo=Ef =|wi = fb fk
fb=Mt zz|Mu zz
fk=LM|Ms|yP fo
xx=LX xe fm xl fm|Jd xe = xl fm
nl=MA|rF n1 nk
nk=L0|Kj nl
n1=Fn xs|Ha xe ni|MD ne|ME ne|MF xe xe ne =
ni=L1 bt nl|L2 bt nl
ne=MH xl fm|MI xe fm xl fm
if=fT bt zz|fF bt zz
xs= as|LF xe|HH xe if|L4 xe zz|Ja xe|LG xe|J5 xe xe lf|J6 xe xe xe lf|J7 xe|LH xe =|J8 xl =|LQ xe lf fo|Ka xe lf fo|Kg xx|Kh xx|LZ xe|Ki xx xe|Ke xl uu
uu=LY|Kf xe xe lf uu
zk=LJ|LK|J9 zz
zz=LI|Bj xs zk
z1= zz| xs| xe| xl| nl| n1| cs
ev=MJ zz =|Mp z1 =
".splitOn ("\n" ++ s.getString ++ "=") | Lean.Macro.throwUnsupported
  let t <- (((r.splitOn "\n").headD "").splitOn "|").toArray.mapM λd => do
   let r :: l := d.splitOn " " | Lean.Macro.throwUnsupported
   let t <- l.toArray.mapM w
   if r == "" then return t[0]! else
   if l == [] then `(tactic| exact $(Lean.mkIdent (`Mine.Lake ++ Lean.Name.mkSimple r))) else
   `(tactic| (apply $(Lean.mkIdent (`Mine.Lake ++ Lean.Name.mkSimple r)); ($[$t:tactic];*)))
  `(tactic| with_reducible first $[| $t:tactic]*)
theorem aN{f:de}{l:V Q}(T:Loc)(J:nP n=S f)(w:bindArgs f.aY f.cy f.slots.length l=S T) :
  aC (o+1) (.fn n) l a=(aW (aC o) f.body T a).bind λy=>.ok ((match y.1 with|.ret E=>E|.next=>.none),y.2.2):=by
 show(match nP n with|none=>_|some f=>_)=_
 refine R J ?_
 show(match bindArgs f.aY f.cy f.slots.length l with|none=>_|some f=>_)=_
 refine R w ?_
 try rfl
noncomputable def Hb(r:Res (Fl×Loc×AH)):Res (Q×AH):=r.bind λy=>.ok ((match y.1 with|.ret E=>E|.next=>.none),y.2.2)
theorem MJ{P:dR}{r:Res (Fl×Loc×AH)}{R:Res (Q×AH)}(B:aW f P e a=r)(G:Hb r=R):((aW f P e a).bind λy=>.ok ((match y.1 with|.ret E=>E|.next=>.none),y.2.2))=R:=by exact(bL B).trans G
theorem sW{h:Key->NF}{A:de}{M:iC}{l:V Q}{r:Res (Fl×Loc×AH)}{R:Res (Q×AH)}(T:Loc)(w:bindArgs A.aY A.cy A.slots.length l=S T)(B:cJ f h M T a=r)(G:Hb r=R):zI A (cJ f h M) l a=R:=by show(match bindArgs A.aY A.cy A.slots.length l with|none=>_|some A=>_)=_;refine Mine.Lake.R w ?_;refine(bL B).trans ?_;induction r using Wn<;>exact G
theorem eE(B:n+1<=s):∃q,s=q+1/\n<=q:=(ba (s - 1) ((Z.sub_add_cancel (RG (SQ 1 n) B)).symm) (Z.le_sub_one_of_lt B))
structure GM(H:AH)(μ:MG)(svs:V Sv)(J:V Q)(md:V (Z×p9)):Prop where
 i:H.I[0]? = S (.Mem,cn μ)
 s:H.L[μ.ks]? = S (svs.map eD)
 j:H.L[1]? = S J
 m:H.D[0]? = S (md.map lH)
 n:μ.ks≠1
 sl:svs.length<16
 jl:J.length<99
 ml:md.length<99
variable{d:MG}{g:V Sv}{j:V (Z×p9)}
theorem GM.at(B:GM a d g m j){I:Z}(D:((gH .Mem I).bind λK=>(cn d)[K]?)=S k):aG f a (.aA 0) I=.ok (k,a):=by
 have:dz a (.aA 0) I=S k:=by exact(oL B.i).trans D
 unfold aG;refine R this rfl
theorem aS{I:Z}(B:dz a w I=S k):aG f a w I=.ok (k,a):=by unfold aG;refine R B rfl
theorem GM.rc(B:GM a d g m j){I:Z}{y:Recv}(D:(if I=26 then N else(oM .Mem I).map Recv.own)=S y):aK a (.aA 0) I=S y:=by show(match a.I[0]? with|some (C,_)=>_|none=>_)=_;exact R B.i D
theorem jI{w:V Q}(B:a.L[n]? = S w)(l:w.length<1000):bB a .len [.aE n]=S (.int w.length,a):=(oL B).trans (Na (Nm l))
theorem Eh(C:GM a d g m j)(v:1<=s):aC s (.fn 20) [.aA 0] a=.ok (.int g.length,a):=by refine aM (eE v) λb bG Y=>R bG ?_;have A:∀e,aG e a (.aA 0) 25=.ok (.aE d.ks,a):=λe=>C.at rfl;have h:=jI C.s (by refine R (Ry ..) ?_;have:=C.sl;exact n1 this rfl);rw[Ry] at h;refine(aN (f:=HS) [S (.aA 0)] rfl rfl).trans ?_;delta HS;walk_at "ev"
theorem qa(C:GM a d g m j)(v:1<=s):aG (aC s) a (.aA 0) 26=.ok (.int g.length,a):=by
 have:dz a (.aA 0) 26=N:=by exact(oL C.i).trans rfl
 unfold aG;refine R this ?_;show(match a.I[0]? with|some (.Mem,_)=>_|_=>_)=_;refine R C.i ?_;exact R (Eh C v) rfl
theorem mH{c:V Q}{m:Z}(C:GM a d g c j)(v:2<=m){o:MO}{M:Z}(p:dz a w 15=S (.bool o))(G:dz a w 26=S (.int M)):aC m (.fn 28) [.aA 0,w] a=.ok (.bool (!o&&MW (M<g.length)),a):=by
 refine aM (eE v) λi cm n=>R cm ?_;have A:=qa C n;have h:∀e,aG e a w 15=.ok (.bool o,a):=λe=>aS p;have L:∀e,aG e a w 26=.ok (.int M,a):=λe=>aS G;have b:ct a .lt (.int M) (.int g.length)=S (MW (M<g.length)):=by show S (MW ((M:ML)<(g.length:ML)))=_;simp
 refine(aN (f:=HY) [S (.aA 0),S w] rfl rfl).trans ?_;delta HY;induction o using RD<;>walk_at "ev"
theorem ik{C:dG}{l:V Q}(T:Loc)(j:¬(C=.bR\/C=.Text))(w:bindArgs (bU C).aY (bU C).cy (bU C).slots.length (.none :: l)=S T) :
  aC (o+1) (.cls C) l a=(bp (aC o) (bU C).vals (T.set 0 N) a).bind λy=>if fQ C then .ok (.obj C y.1,y.2) else .ok (.aA y.2.I.length,{y.2 with I:=y.2.I++[(C,y.1)]}):=by refine(Nc j).trans (R w rfl)
theorem yQ{H:AH}{x:Q}{y:Q}(v:1<=s):aC s (.cls .Thing) [x,y] H=.ok (.obj .Thing [x,y,.bool MS,.int 3],H):=by refine aM (eE v) λa bG Y=>R bG ?_;refine(ik [S .none,S x,S y,S (.bool MS),S (.int 3)] (by decide) rfl).trans ?_;rfl
theorem Ei{H:AH}{x:Q}{y:Q}{z:Q}(v:1<=s):aC s (.cls .Thing) [x,y,z] H=.ok (.obj .Thing [x,y,z,.int 3],H):=by refine aM (eE v) λa cm Y=>R cm ?_;refine(ik [S .none,S x,S y,S z,S (.int 3)] (by decide) rfl).trans ?_;rfl
theorem Ej{b:Q}{U:Q}(v:1<=s):aC s (.cls .Thing) [w,b,U,t] a=.ok (.obj .Thing [w,b,U,t],a):=by refine aM (eE v) λc du Y=>R du ?_;refine(ik [S .none,S w,S b,S U,S t] (by decide) rfl).trans ?_;rfl
theorem Hc{b:Q}{U:Q}(v:1<=s):aC s (.cls .Span) [w,b,U] a=.ok (.obj .Span [w,b,U],a):=by refine aM (eE v) λc dV Y=>R dV ?_;refine(ik [S .none,S w,S b,S U] (by decide) rfl).trans ?_;rfl
theorem yR{K:ML}(v:2<=s):aC s (.fn 3) [.int K] a=.ok (tI K,a):=by refine aM (eE v) λb fC n=>R fC ?_;have I:=yQ (H:=a) (x:=.str 1) (y:=.int K) n;refine(aN (f:=f3) [S (.int K)] rfl rfl).trans ?_;delta f3;walk_at "ev"
theorem Hd(v:2<=s):aC s (.fn 4) [wd h] a=.ok (tN h,a):=by refine aM (eE v) λb i9 n=>R i9 ?_;have I:=Ei (H:=a) (x:=.str 2) (y:=wd h) (z:=.bool MS) n;refine(aN (f:=f4) [S (wd h),S (.bool MS)] rfl rfl).trans ?_;delta f4;walk_at "ev"
noncomputable def dB(M:Bd)(C:Ct):Q:=match M.k with
 |.row=>.obj .Thing [.str 7,.obj .Span [bv M,.int 0,.int C.cx.length],.bool MS,.int 3]
 |.text=>.obj .Thing [.str 5,.obj .Span [bv M,.int 0,.int C.cx.length],.bool MS,.int 3]
 |.dict=>.obj .Thing [.str 8,bv M,.bool MS,.int 3]
theorem gN(B:MB a l b c):dz a (bv b) 15=S (.bool b.g)/\dz a (bv b) 26=S (.int b.lv)/\dz a (bv b) 23=S (.int b.num):=by
 unfold MB bv at *;induction D:b.k using Wo<;>rw[D] at B<;>dsimp only at B;·exact fB rfl rfl rfl
 ·have U:∀I,dz a (.aA b.a) I=(gH .Dict I).bind λK=>(fu b c (l b.num))[K]?:=λI=>by
   exact(oL B.1).trans rfl
  refine R (U ..) ?_;refine R (U ..) ?_;exact R (U ..) (fB rfl rfl rfl)
 ·exact fB rfl rfl rfl
theorem yS{H:AH}{x:Q}(v:1<=s){k:Z}(B:dz H x 9=S (.str k)):aC s (.fn 11) [x] H=.ok (.bool (k==7||k==13),H):=by refine aM (eE v) λa jT Y=>R jT ?_;have I:∀e,aG e H x 9=.ok (.str k,H):=λe=>aS B;refine(aN (f:=HO) [S x] rfl rfl).trans ?_;delta HO;induction D:k==7 using RD<;>walk_at "ev"
theorem yT(v:2<=s)(B:dz a w 9=S (.str n))(K:(n==8)=MS)(d:(n==5)=MS)(k:(n==7)=MS)(b:(n==13)=MS):aC s (.fn 12) [w] a=.ok (.none,a):=by refine aM (eE v) λg lP c=>?_;subst lP;have I:∀e,aG e a w 9=.ok (.str n,a):=λe=>aS B;have M:=yS c B;rw[k,b] at M;refine(aN (f:=Fs) [S w] rfl rfl).trans ?_;delta Fs;walk_at "ev"
theorem ro{H:AH}{m:Z}{b:Bd}{c:Ct}(v:2<=m):aC m (.fn 12) [dB b c] H=.ok (bv b,H):=by
 refine aM (eE v) λd rP n=>?_;clear v;subst rP;refine(aN (f:=Fs) [S (dB b c)] rfl rfl).trans ?_;delta Fs;have a:=yS (x:=dB b c) (H:=H) n (k:=match b.k with|.row=>7|.text=>5|.dict=>8) (by unfold dB;induction b.k using Wo<;>rfl);have I:∀e,aG e H (dB b c) 9=.ok (.str (match b.k with|.row=>7|.text=>5|.dict=>8),H):=λe=>aS (by unfold dB;induction b.k using Wo<;>rfl);induction D:b.k using Wo with
 |dict=>rw[D] at I a;have h:∀e,aG e H (dB b c) 11=.ok (bv b,H):=λe=>aS (by unfold dB;exact R D rfl);walk_at "ev"
 |row=>rw[D] at I a;have h:∀e,aG e H (dB b c) 11=.ok (.obj .Span [bv b,.int 0,.int c.cx.length],H):=λe=>aS (by unfold dB;exact R D rfl);have L:∀e,aG e H (.obj .Span [bv b,.int 0,.int c.cx.length]) 14=.ok (bv b,H):=λe=>aS rfl;walk_at "ev"
 |text=>rw[D] at I a;have h:∀e,aG e H (dB b c) 11=.ok (.obj .Span [bv b,.int 0,.int c.cx.length],H):=λe=>aS (by unfold dB;exact R D rfl);have L:∀e,aG e H (.obj .Span [bv b,.int 0,.int c.cx.length]) 14=.ok (bv b,H):=λe=>aS rfl;walk_at "ev"
theorem uE:isNone (bv b)=S MS:=by unfold bv;induction b.k using Wo<;>rfl
theorem rp(v:3<=s){k:Z}(B:dz a w 9=S (.str k))(K:(k==8)=MS)(d:(k==5)=MS)(c:(k==7)=MS)(b:(k==13)=MS):aC s (.fn 13) [w] a=.ok (.bool MS,a):=by refine aM (eE v) λe iV n=>?_;subst iV;have I:=yT n B K d c b;have h:isNone .none=S MK:=rfl;refine(aN (f:=Ft) [S w,N] rfl rfl).trans ?_;delta Ft;walk_at "ev"
theorem yU(v:3<=s)(B:MB a l b c){o:Ct}:aC s (.fn 13) [dB b o] a=.ok (.bool (!b.g),a):=by refine aM (eE v) λd lR n=>?_;clear v;subst lR;have I:=ro (b:=b) (c:=o) (H:=a) n;have h:∀e,aG e a (bv b) 15=.ok (.bool b.g,a):=λe=>aS (gN B).1;have D:=@uE b;refine(aN (f:=Ft) [S (dB b o),N] rfl rfl).trans ?_;delta Ft;walk_at "ev"
set_option genCtorIdx true in
inductive Ad|L(n:Z)|D(n:Z)|I(n:Z)|B(n:Z)
theorem Ad.L.inj{I M:Z}(B:Ad.L I=.L M):I=M:=by cases B;rfl
theorem Ad.D.inj{I M:Z}(B:Ad.D I=.D M):I=M:=by cases B;rfl
theorem Ad.I.inj{I M:Z}(B:Ad.I I=.I M):I=M:=by cases B;rfl
structure Fr(P:Ad->Prop)(H H':AH):Prop where
 L:∀k v,¬P (.L k)->H.L[k]? = S v->H'.L[k]? = S v
 D:∀k v,¬P (.D k)->H.D[k]? = S v->H'.D[k]? = S v
 I:∀k v,¬P (.I k)->H.I[k]? = S v->H'.I[k]? = S v
 B:∀k v,¬P (.B k)->H.B[k]? = S v->H'.B[k]? = S v
noncomputable def wL(b:AH)(r:Z)(E:V Q):AH:={b with L:=b.L.set r E}
noncomputable def wD(b:AH)(r:Z)(E:V (Q×Q)):AH:={b with D:=b.D.set r E}
noncomputable def wI(b:AH)(r:Z)(E:dG×V Q):AH:={b with I:=b.I.set r E}
noncomputable def wB(b:AH)(r:Z)(E:V ML):AH:={b with B:=b.B.set r E}
noncomputable def aL(b:AH)(v:V Q):AH:={b with L:=b.L++[v]}
noncomputable def aD(b:AH)(E:V (Q×Q)):AH:={b with D:=b.D++[E]}
noncomputable def aI(b:AH)(E:dG×V Q):AH:={b with I:=b.I++[E]}
noncomputable def aB(b:AH)(E:V ML):AH:={b with B:=b.B++[E]}
theorem bY{i:Type}{T:V i}{r:Z}{E:i}{c:i}(B:T[r]? = S c):(T.set r E)[r]? = S E:=(Tg (RF.mp B).1)
theorem dZ{i:Type}{T:V i}{r:Z}{s:Z}{E:i}{c:i}(q:s≠r)(B:T[s]? = S c):(T.set r E)[s]? = S c:=by refine(R6 (S7 q)).trans ?_;exact B
theorem ec{i:Type}{T:V i}{r:Z}{E:i}{c:i}(B:T[r]? = S c):(T++[E])[r]? = S c:=by refine(Tc (RF.mp B).1).trans ?_;exact B
theorem dK{i:Type}{T:V i}{E:i}:(T++[E])[T.length]? = S E:=UR ..
theorem bQ{i:Type}{T:V i}{r:Z}{c:i}(B:T[r]? = S c):r<T.length:=(RF.mp B).1
theorem Fr.refl{c:Ad->Prop}:Fr c a a:=⟨λY Y Y B=>B,λY Y Y B=>B,λY Y Y B=>B,λY Y Y B=>B⟩
theorem Fr.trans{c:Ad->Prop}{H':AH}(I:Fr c a H')(M:Fr c H' p):Fr c a p:=⟨λH E q B=>M.L H E q (I.L H E q B),λH E q B=>M.D H E q (I.D H E q B),λH E q B=>M.I H E q (I.I H E q B),λH E q B=>M.B H E q (I.B H E q B)⟩
theorem Fr.mono{c:Ad->Prop}{o:Ad->Prop}{r:AH}(I:Fr c a r)(B:∀U,c U->o U):Fr o a r:=⟨λH E q=>I.L H E λP=>q (B _ P),λH E q=>I.D H E λP=>q (B _ P),λH E q=>I.I H E λP=>q (B _ P),λH E q=>I.B H E λP=>q (B _ P)⟩
theorem Fr.wL{c:Ad->Prop}{r:Z}{E:V Q}(P:c (.L r)):Fr c a (wL a r E):=⟨λH Y q B=>dZ (λD=>q (D▸P)) B,λY Y Y B=>B,λY Y Y B=>B,λY Y Y B=>B⟩
theorem Fr.wD{P:Ad->Prop}{r:Z}{E:V (Q×Q)}(b:P (.D r)):Fr P a (wD a r E):=⟨λY Y Y B=>B,λH Y q B=>dZ (λD=>q (D▸b)) B,λY Y Y B=>B,λY Y Y B=>B⟩
theorem Fr.wI{c:Ad->Prop}{r:Z}{E:dG×V Q}(P:c (.I r)):Fr c a (wI a r E):=⟨λY Y Y B=>B,λY Y Y B=>B,λH Y q B=>dZ (λD=>q (D▸P)) B,λY Y Y B=>B⟩
theorem Fr.wB{c:Ad->Prop}{r:Z}{E:V ML}(P:c (.B r)):Fr c a (wB a r E):=⟨λY Y Y B=>B,λY Y Y B=>B,λY Y Y B=>B,λH Y q B=>dZ (λD=>q (D▸P)) B⟩
theorem Fr.aL{P:Ad->Prop}{v:V Q}:Fr P a (aL a v):=⟨λY Y Y B=>ec B,λY Y Y B=>B,λY Y Y B=>B,λY Y Y B=>B⟩
theorem Fr.aD{c:Ad->Prop}{E:V (Q×Q)}:Fr c a (aD a E):=⟨λY Y Y B=>B,λY Y Y B=>ec B,λY Y Y B=>B,λY Y Y B=>B⟩
theorem Fr.aI{c:Ad->Prop}{E:dG×V Q}:Fr c a (aI a E):=⟨λY Y Y B=>B,λY Y Y B=>B,λY Y Y B=>ec B,λY Y Y B=>B⟩
theorem Fr.aB{c:Ad->Prop}{E:V ML}:Fr c a (aB a E):=⟨λY Y Y B=>B,λY Y Y B=>B,λY Y Y B=>B,λY Y Y B=>ec B⟩
noncomputable def Gl:Ad->Prop:=λU=>U=.I 0\/U=.D 0\/U=.L 1
noncomputable def eU(y:Z->Z)(M:Bd):Ad->Prop:=λU=>match M.k with
 |.row=>U=.L M.a
 |.text=>U=.B M.a
 |.dict=>U=.I M.a\/U=.D (y M.num)
theorem MB.fr{P:Ad->Prop}{r:AH}(B:MB a l b c)(A:Fr P a r)(q:∀U,eU l b U->¬P U):MB r l b c:=by
 unfold MB eU at *;induction D:b.k using Wo<;>rw[D] at B<;>rw[D] at q;·exact A.L _ _ (q _ rfl) B
 ·exact⟨A.I _ _ (q _ (.inl rfl)) B.1,A.D _ _ (q _ (.inr rfl)) B.2⟩
 ·exact A.B _ _ (q _ rfl) B
theorem GM.wI{Bk:MG}(B:GM a d g m j)(D:Bk.ks=d.ks):GM (wI a 0 (.Mem,cn Bk)) Bk g m j:=⟨bY B.i,D▸B.s,B.j,B.m,D▸B.n,B.sl,B.jl,B.ml⟩
theorem GM.wD{md':V (Z×p9)}(B:GM a d g m j)(T:md'.length<99):GM (wD a 0 (md'.map lH)) d g m md':=⟨B.i,B.s,B.j,bY B.m,B.n,B.sl,B.jl,T⟩
theorem GM.wJ{J':V Q}(B:GM a d g m j)(T:J'.length<99):GM (wL a 1 J') d g J' j:=⟨B.i,dZ B.n B.s,bY B.j,B.m,B.n,B.sl,T,B.ml⟩
theorem GM.fr{P:Ad->Prop}{r:AH}(B:GM a d g m j)(A:Fr P a r)(n1:¬P (.I 0))(n2:¬P (.D 0))(n3:¬P (.L 1))(n4:¬P (.L d.ks)):GM r d g m j:=⟨A.I _ _ n1 B.i,A.L _ _ n4 B.s,A.L _ _ n3 B.j,A.D _ _ n2 B.m,B.n,B.sl,B.jl,B.ml⟩
theorem GM.dH(B:GM a d g m j){I K:Z}(D:gH .Mem I=S K)(c:K<10)(b:MG)(P:(cn d).set K k=cn b):dH a (.aA 0) I k=S (Mine.Lake.wI a 0 (.Mem,cn b)):=by refine(oL B.i).trans ((oL D).trans ?_);exact(Na ⟨c,rfl⟩).trans (R P rfl)
theorem Ek{H:AH}{w:Z}(v:1<=s):aC s (.fn 17) [tN w] H=.ok (wd w,H):=by refine aM (eE v) λa bG Y=>R bG ?_;have I:∀e,aG e H (tN w) 9=.ok (.str 2,H):=λe=>aS rfl;have h:∀e,aG e H (tN w) 11=.ok (wd w,H):=λe=>aS rfl;refine(aN (f:=HP) [S (tN w)] rfl rfl).trans ?_;delta HP;walk_at "ev"
theorem sY{H:AH}{m:Z}{w:Z}(v:2<=m):aC m (.fn 18) [tN w] H=.ok (kW w,H):=by refine aM (eE v) λa cm n=>R cm ?_;have I:∀e,aG e H (tN w) 9=.ok (.str 2,H):=λe=>aS rfl;have h:=Ek (H:=H) (w:=w) n;refine(aN (f:=HQ) [S (tN w)] rfl rfl).trans ?_;delta HQ;walk_at "ev"
theorem yV{H:AH}{m:Z}{w:Z}(v:1<=m):aC m (.fn 19) [tN w] H=.ok (tN w,H):=by refine aM (eE v) λa du n=>?_;subst du;have I:∀e,aG e H (tN w) 9=.ok (.str 2,H):=λe=>aS rfl;refine(aN (f:=HR) [S (tN w)] rfl rfl).trans ?_;delta HR;walk_at "ev"
theorem sZ{K:ML}(v:3<=s):aC s (.fn 13) [tI K] a=.ok (.bool MS,a):=rp (k:=1) v rfl rfl rfl rfl rfl
theorem El(v:3<=s):aC s (.fn 13) [tN h] a=.ok (.bool MS,a):=rp (k:=2) v rfl rfl rfl rfl rfl
theorem qb{H:AH}{m:Z}{y:Q}(v:4<=m){o l:MO}(B:dz H w 15=S (.bool o))(a:∀m,3<=m->aC m (.fn 13) [y] H=.ok (.bool l,H)):aC m (.fn 29) [.aA 0,w,y] H=if o&&l then .exc (.bx [105,110,118,97,108,105,100,97,99,99,101,115,115]) H else .ok (.none,H):=by refine aM (eE v) λb dV n=>?_;clear v;subst dV;have I:∀e,aG e H w 15=.ok (.bool o,H):=λe=>aS B;have h:=a b n;clear B a;refine(aN (f:=HZ) [S (.aA 0),S w,S y] rfl rfl).trans ?_;delta HZ;induction o using RD<;>induction l using RD<;>walk_at "ev"
theorem ta(v:1<=s){I H:ML}(E:0<=I)(p:I<=H):aC s (.fn 50) [.int I,.int H] a=.ok (.none,a):=by refine aM (eE v) λb fC n=>R fC ?_;have A:MW (I<0)=MS:=NG (TS.mpr (by assumption));have h:=NG (TS.mpr (by assumption));refine(aN (f:=Ih) [S (.int I),S (.int H)] rfl rfl).trans ?_;delta Ih;walk_at "ev"
theorem qc{b:V Q}{m:Z}(C:GM a d g b j)(v:2<=m):aC m (.fn 21) [.aA 0] a=.ok (.int (if d.g then 0 else g.length:Z),a):=by refine aM (eE v) λc i9 n=>?_;clear v;subst i9;have A:=qa C n;have h:∀e,aG e a (.aA 0) 15=.ok (.bool d.g,a):=λe=>C.at rfl;refine(aN (f:=HT) [S (.aA 0)] rfl rfl).trans ?_;delta HT;induction o:d.g using RD<;>walk_at "ev"
theorem yW{n:V Q}{m:Z}{K:ML}(C:GM a d g n j)(v:1<=m)(B:d.u+d.ug+K<=16777216):aC m (.fn 23) [.aA 0,.int K] a=.ok (.none,a):=by refine aM (eE v) λc jT b=>?_;subst jT;have A:∀e,aG e a (.aA 0) 29=.ok (.int d.u,a):=λe=>C.at rfl;have h:∀e,aG e a (.aA 0) 28=.ok (.int d.ug,a):=λe=>C.at rfl;have L:∀e,aG e a (.aA 0) 33=.ok (i7,a):=λe=>C.at rfl;have M:∀e,aG e a i7 34=.ok (.int 16777216,a):=λe=>aS rfl;have y:=NG (TS.mpr B);refine(aN (f:=HV) [S (.aA 0),S (.int K)] rfl rfl).trans ?_;delta HV;walk_at "ev"
theorem mJ(I M:Z):eqT (kI I) (kI M)=S (MW (I=M)):=Eb I M
theorem tb(B:a.D[0]? = S (j.map lH)){k:Z}{i:ML}{g:MO}{l:Z}(b:j.length<1000):dm a (.ab 0) (.int k) (.tup [.int i,.bool g,.int l])=S (wD a 0 ((ey k (i,g,l) j).map lH)):=by refine(oL B).trans ?_;show(mV (j.map lH) (kI k) (J1 k (i,g,l))).map _=_;exact R (uC mJ rfl b) rfl
theorem tc{a9:V Q}{m:Z}{K:ML}(C:GM a d g a9 j)(v:3<=m)(B:d.u+d.ug+K<=16777216)(J:cq (d.lb+1) j=N)(hl:j.length<98){n:Z}(w:n=if d.g then 0 else g.length):∃r,aC m (.fn 22) [.aA 0,.int K] a=.ok (.int (d.lb+1:Z),r)/\
  GM r {d with lb:=d.lb+1,u:=if d.g then d.u else d.u+K,ug:=if d.g then d.ug+K else d.ug} g a9 (j++[(d.lb+1,(K,d.g,n))])/\Fr Gl a r:=by
 obtain⟨o,P,E,c,T,L,H⟩:=d;dsimp only at *;refine aM (eE v) λa0 lP hn=>?_;clear v;subst lP;have b1:=yW (m:=a0) C (n4 hn rfl) B;have r1:aK a (.aA 0) 32=S (.own 23):=C.rc rfl;have A:∀e,aG e a (.aA 0) 27=.ok (.int L,a):=λe=>C.at rfl;have s1:dH a (.aA 0) 27 (.int (L+1))=S (wI a 0 (.Mem,cn ⟨o,P,E,c,T,L+1,H⟩)):=C.dH rfl (by decide) _ rfl;have G:=C.wI (Bk:=⟨o,P,E,c,T,L+1,H⟩) rfl;have p:Fr Gl a (wI a 0 (.Mem,cn ⟨o,P,E,c,T,L+1,H⟩)):=Fr.wI (.inl rfl);generalize wI a 0 (.Mem,cn ⟨o,P,E,c,T,L+1,H⟩)=z at s1 G p;have h:∀e,aG e z (.aA 0) 27=.ok (.int (L+1:Z),z):=λe=>G.at rfl;have a3:∀e,aG e z (.aA 0) 15=.ok (.bool o,z):=λe=>G.at rfl;have M:∀e,aG e z (.aA 0) 30=.ok (.ab 0,z):=λe=>G.at rfl;have r2:aK z (.aA 0) 31=S (.own 21):=G.rc rfl;have b2:=qc G hn;rw[<-w] at b2;have s2:=tb G.m (k:=L+1) (i:=K) (g:=o) (l:=n) (n1 hl rfl);replace s2:=(ij J)▸s2;have D:=G.wD (md':=j++[(L+1,(K,o,n))]) (R RE (Ux hl));have F2:Fr Gl z (wD z 0 ((j++[(L+1,(K,o,n))]).map lH)):=Fr.wD (.inr (.inl rfl));generalize wD z 0 ((j++[(L+1,(K,o,n))]).map lH)=I at s2 D F2;have y:∀e,aG e I (.aA 0) 15=.ok (.bool o,I):=λe=>D.at rfl;have t:∀e,aG e I (.aA 0) 28=.ok (.int T,I):=λe=>D.at rfl;have a7:∀e,aG e I (.aA 0) 29=.ok (.int c,I):=λe=>D.at rfl;have x:=p.trans F2;refine R (aN (f:=HU) [S (.aA 0),S (.int K)] rfl rfl) ?_;delta HU;obtain⟨Y,U,b,X,e2⟩:∃Y U:ML,dH I (.aA 0) (if o then 28 else 29) (if o then .int (T+K) else .int (c+K))=S (wI I 0 (.Mem,cn ⟨o,P,E,Y,U,L+1,H⟩))/\(if o then c else c+K)=Y/\(if o then T+K else T)=U:=by
  clear a0 hn b1 r1 A s1 h a3 M r2 b2 s2 y t a7;induction o using RD;·exact qu (c+K) T (D.dH rfl (by decide) _ rfl) rfl rfl
  ·exact qu c (T+K) (D.dH rfl (by decide) _ rfl) rfl rfl
 refine R X (R e2 ?_);have G3:=D.wI (Bk:=⟨o,P,E,Y,U,L+1,H⟩) rfl;have i:Fr Gl I (wI I 0 (.Mem,cn ⟨o,P,E,Y,U,L+1,H⟩)):=Fr.wI (.inl rfl);generalize wI I 0 (.Mem,cn ⟨o,P,E,Y,U,L+1,H⟩)=H3 at b i G3;have s:∀e,aG e H3 (.aA 0) 27=.ok (.int (L+1:Z),H3):=λe=>G3.at rfl;refine jM H3 ?_ G3 (x.trans i);clear x p F2 i C G D G3 B J hl w X e2;induction o using RD<;>simp only[PF,Oi,reduceCtorEq] at b<;>walk_at "ev"
noncomputable def has(b:AH):Ad->Prop
 |.L q=>q<b.L.length
 |.D q=>q<b.D.length
 |.I q=>q<b.I.length
 |.B q=>q<b.B.length
structure HJ(H H':AH)(μ:MG)(svs:V Sv)(J:V Q)(md:V (Z×p9))(cost:ML)(bl:Z)(b:Bd)(c:Ct)(e:Z):Prop where
 G:GM H' {μ with lb:=μ.lb+1,u:=if μ.g then μ.u else μ.u+cost,ug:=if μ.g then μ.ug+cost else μ.ug} svs J (md++[(μ.lb+1,(cost,μ.g,bl))])
 F:Fr Gl H H'
 M:MB H' (λε=>e) b c
 n:b.num=μ.lb+1
 g:b.g=μ.g
 lv:b.lv=bl
 f:∀z,eU (λε=>e) b z->¬has H z
 w:∀z,eU (λε=>e) b z->has H' z
theorem Fr.has{P:Ad->Prop}{r:AH}(A:Fr P a r){z:Ad}(q:¬P z)(b:has a z):Mine.Lake.has r z:=by
 induction z using Ad.casesOn with
 |L H=>exact bQ (A.L H _ q (RA b))
 |D H=>exact bQ (A.D H _ q (RA b))
 |I H=>exact bQ (A.I H _ q (RA b))
 |B H=>exact bQ (A.B H _ q (RA b))
theorem Bl(C:GM a d g m j):(∀E,GM (aL a E) d g m j)/\(∀E,GM (aD a E) d g m j)/\(∀E,GM (aI a E) d g m j)/\∀E,GM (aB a E) d g m j:=(qy (λE=>⟨C.i,ec C.s,ec C.j,C.m,C.n,C.sl,C.jl,C.ml⟩) (λE=>⟨C.i,C.s,C.j,ec C.m,C.n,C.sl,C.jl,C.ml⟩) (λE=>⟨ec C.i,C.s,C.j,C.m,C.n,C.sl,C.jl,C.ml⟩) (λE=>⟨C.i,C.s,C.j,C.m,C.n,C.sl,C.jl,C.ml⟩))
theorem yX{H:AH}{v:Q}{x:Q}{y:Q}{z:Q}{u:Q}{i:ML}{m:Z}(a:1<=m):aC m (.cls .Row) [x,.lst [y,z,u],v,.int i] H=.ok (.obj .Row [x,.aE H.L.length,v,.int i],aL H [y,z,u]):=by refine aM (eE a) λb bG Y=>R bG ?_;rfl
theorem vO{H:AH}{v:Q}{x:Q}{y:Q}{i:ML}{m:Z}(a:1<=m):aC m (.cls .Dict) [x,y,v,.int i] H=.ok (.aA H.I.length,aI (aD H []) (.Dict,[x,y,v,.int i,.int 3,.ab H.D.length])):=by refine aM (eE a) λb cm Y=>R cm ?_;rfl
theorem Em{a0:V Q}{p:V (Z×p9)}{m:Z}{D:Z}{i:ML}{j:ML}{k:ML}(C:GM a d g a0 p)(hm:4<=m)(B:d.u+d.ug+24<=16777216)(J:cq (d.lb+1) p=N)(l:p.length<98)(w:D=if d.g then 0 else g.length):∃r I,(∀h,HJ a r d g a0 p 24 D ⟨.row,d.lb+1,d.g,D,h,I⟩ ⟨[i,j,k],[],3,0⟩ 0)/\
  aC m (.fn 26) [.aA 0,.lst [tI i,tI j,tI k]] a=.ok (bv ⟨.row,d.lb+1,d.g,D,0,I⟩,r):=by
 refine aM (eE hm) λt du n=>R du (mP (tc (m:=t) C n B J l w) λz X G F1=>?_);have H:∀i,aC t (.fn 13) [tI i] a=.ok (.bool MS,a):=λi=>sZ n;have e3:aC t (.fn 50) [.int 3,.int 65535] a=.ok (.none,a):=ta (n4 n rfl) (RP _) (RP _);have Y:=qc G (m:=t) (n4 n rfl);rw[<-w] at Y;have E:=yX (m:=t) (H:=z) (x:=.int (d.lb+1:Z)) (y:=tI i) (z:=tI j) (u:=tI k) (v:=.bool d.g) (i:=(D:Z)) (n4 n rfl);refine dI (aL z [tI i,tI j,tI k]) z.L.length (λh=>⟨(Bl G).1 _,F1.trans Fr.aL,dK,rfl,rfl,rfl,λU s=>?_,λU s=>?_⟩) ?_
 ·obtain rfl:U=.L z.L.length:=s;intro q;by_cases P:Gl (.L z.L.length)
  ·rcases P with P|P|P;·cases P
   ·cases P
   ·exact S6 (bQ G.j) (Ad.L.inj P)
  ·exact RU _ (F1.has P q)
 ·obtain rfl:U=.L z.L.length:=s;show _<(z.L++[_]).length;exact R RE (SA _)
 have K:aK a (.aA 0) 37=S (.own 22):=C.rc rfl;have r2:aK z (.aA 0) 31=S (.own 21):=G.rc rfl;have A:∀e,aG e a (.aA 0) 33=.ok (i7,a):=λe=>C.at rfl;have a2:∀e,aG e a i7 39=.ok (.int 65535,a):=λe=>aS rfl;have L:∀e,aG e a (.aA 0) 15=.ok (.bool d.g,a):=λe=>C.at rfl;have M:∀e,aG e z (.aA 0) 15=.ok (.bool d.g,z):=λe=>G.at rfl;have c1:bB a .gS [.lst [tI i,tI j,tI k]]=S (.bool MS,a):=rfl;have c2:bB a .len [.lst [tI i,tI j,tI k]]=S (.int 3,a):=rfl;have T:bZ .mul (.int 8) (.int 3)=S (.int 24):=rfl;have b:srcOf a (.lst [tI i,tI j,tI k])=S (.dS [tI i,tI j,tI k],3):=rfl;refine(aN (f:=HW) [S (.aA 0),S (.lst [tI i,tI j,tI k]),N] rfl rfl).trans ?_;delta HW;have a5:=H i;have a6:=H j;have c:=H k;induction o:d.g using RD<;>rw[o] at E L M<;>walk_at "ev"
theorem En{k:V Q}{m:Z}{n:Z}(C:GM a d g k j)(o:4<=m)(B:d.u+d.ug+32<=16777216)(J:cq (d.lb+1) j=N)(l:j.length<98)(w:n=if d.g then 0 else g.length):∃r I D,(∀h,HJ a r d g k j 32 n ⟨.dict,d.lb+1,d.g,n,h,I⟩ ⟨[],[],3,2⟩ D)/\
  aC m (.fn 27) [.aA 0,.int 2] a=.ok (bv ⟨.dict,d.lb+1,d.g,n,0,I⟩,r):=by
 refine aM (eE o) λc dV b=>R dV (mP (tc (m:=c) C b B J l w) λz X G p=>?_);have t:aC c (.fn 50) [.int 2,.int 65535] a=.ok (.none,a):=ta (n4 b rfl) (RP _) (RP _);have Y:=qc G (m:=c) (n4 b rfl);rw[<-w] at Y;have E:=vO (m:=c) (H:=z) (x:=.int (d.lb+1:Z)) (y:=.int 2) (v:=.bool d.g) (i:=(n:Z)) (n4 b rfl);refine zQ (aI (aD z []) (.Dict,[.int (d.lb+1:Z),.int 2,.bool d.g,.int n,.int 3,.ab z.D.length])) z.I.length z.D.length (λh=>⟨(Bl ((Bl G).2.1 _)).2.2.1 _,(p.trans Fr.aD).trans Fr.aI,⟨dK,dK⟩,rfl,rfl,rfl,λU s=>?_,λU s=>?_⟩) ?_
 ·rcases s with rfl|rfl<;>intro q
  ·by_cases P:Gl (.I z.I.length)
   ·rcases P with P|P|P;·exact S6 (bQ G.i) (Ad.I.inj P)
    ·cases P
    ·cases P
   ·exact RU _ (p.has P q)
  ·by_cases P:Gl (.D z.D.length)
   ·rcases P with P|P|P;·cases P
    ·exact S6 (bQ G.m) (Ad.D.inj P)
    ·cases P
   ·exact RU _ (p.has P q)
 ·rcases s with rfl|rfl;·show _<(z.I++[_]).length;exact R RE (SA _)
  ·show _<(z.D++[_]).length;exact R RE (SA _)
 have K:aK a (.aA 0) 37=S (.own 22):=C.rc rfl;have L:aK z (.aA 0) 31=S (.own 21):=G.rc rfl;have A:∀e,aG e a (.aA 0) 33=.ok (i7,a):=λe=>C.at rfl;have H:∀e,aG e a i7 0=.ok (.int 65535,a):=λe=>aS rfl;have M:∀e,aG e z (.aA 0) 15=.ok (.bool d.g,z):=λe=>G.at rfl;have T:bZ .mul (.int 16) (.int 2)=S (.int 32):=rfl;refine(aN (f:=HX) [S (.aA 0),S (.int 2)] rfl rfl).trans ?_;delta HX;walk_at "ev"
theorem Eo{n:Z}(C:GM a d g m j)(B:d.u+d.ug+2<=16777216)(J:cq (d.lb+1) j=N)(l:j.length<98)(w:n=if d.g then 0 else g.length):∃r I,(∀h,HJ a r d g m j 2 n ⟨.text,d.lb+1,d.g,n,h,I⟩ ⟨[0,0],[],3,0⟩ 0)/\
  kr [.aA 0,.int 2] a=.ok (bv ⟨.text,d.lb+1,d.g,n,0,I⟩,r):=by
 refine mP (tc (m:=10) C (by decide) B J l w) λz X G p=>?_;have b:aC 10 (.fn 50) [.int 2,.int 65535] a=.ok (.none,a):=ta (Va _) (RP _) (RP _);have Y:=qc G (m:=10) (SQ _ _);replace Y:=w.symm▸Y;refine dI (aB z [0,0]) z.B.length (λh=>⟨(Bl G).2.2.2 _,p.trans Fr.aB,dK,rfl,rfl,rfl,λU s=>?_,λU s=>?_⟩) ?_;·obtain rfl:U=.B z.B.length:=s;intro L;exact RU _ (p.has (by rintro(P|P|P)<;>cases P) L)
 ·obtain rfl:U=.B z.B.length:=s;show _<(z.B++[_]).length;exact R RE (SA _)
 have K:aK a (.aA 0) 37=S (.own 22):=C.rc rfl;have x:aK z (.aA 0) 31=S (.own 21):=G.rc rfl;have H:aK a (.aA 0) 35=S (.own 25):=C.rc rfl;have A:∀e,aG e a (.aA 0) 33=.ok (i7,a):=λe=>C.at rfl;have c:∀e,aG e a i7 36=.ok (.int 65535,a):=λe=>aS rfl;have M:∀e,aG e z (.aA 0) 15=.ok (.bool d.g,z):=λe=>G.at rfl;have i:bB a .bytes [.int 2]=S (.bx [0,0],a):=rfl;have o:bB a .len [.bx [0,0]]=S (.int 2,a):=rfl;have f:only (.cls .Text) (pW eY) (.cls .Text) [.int (d.lb+1:Z),.bx [0,0],.bool d.g,.int n] z=.ok (bv ⟨.text,d.lb+1,d.g,n,0,z.B.length⟩,aB z [0,0]):=rfl;have Hq:GQ [.aA 0,.bx [0,0]] a=.ok (bv ⟨.text,d.lb+1,d.g,n,0,z.B.length⟩,aB z [0,0]):=by show zI BS (cJ eY _ GP) _ _=_;dsimp only[GP,BS,aH,lg,zH];apply sW [S (.aA 0),S (.bx [0,0])] rfl;walk_at "nl";rfl
 show zI zN (cJ eY _ GR) _ _=_;dsimp only[GR,zN,aH,lg,zH,yx];apply sW [S (.aA 0),S (.int 2)] rfl;walk_at "nl";rfl
noncomputable def wV(b k:Z)(g:Q):V (Q×Q):=[(.str 64,.aA 0),(.str 58,.aE b),(.str 25,.aE k),(.str 70,g)]
structure LW(H:AH)(kb gR:Z)(gone:Q)(ds:V Z)(sv:V Q):Prop where
 w:H.D[1]? = S (wV kb gR gone)
 b:H.L[kb]? = S (ds.map .ab)
 s:H.L[gR]? = S sv
 n1:kb≠1
 n2:gR≠1
 n3:kb≠gR
 bl:ds.length<99
 sl:sv.length<99
noncomputable def Bm(b:Z):Ad->Prop:=λU=>Gl U\/U=.L b
theorem LW.fr{P:Ad->Prop}{r:AH}{b:Z}{k:Z}{g:Q}{j:V Z}{L:V Q}(c:LW a b k g j L)(x:Fr P a r)(d:¬P (.D 1))(n1:¬P (.L b))(n2:¬P (.L k)):LW r b k g j L:=⟨x.D _ _ d c.w,x.L _ _ n1 c.b,x.L _ _ n2 c.s,c.n1,c.n2,c.n3,c.bl,c.sl⟩
theorem Cr(B:n≠1):¬Gl (.L n):=λP=>by
 rcases P with P|P|P;·cases P
 ·cases P
 ·exact B (Ad.L.inj P)
theorem zJ(B:n≠0):¬Gl (.D n):=λP=>by
 rcases P with P|P|P;·cases P
 ·exact B (Ad.D.inj P)
 ·cases P
theorem LW.gl{r:AH}{b:Z}{k:Z}{g:Q}{j:V Z}{L:V Q}(P:LW a b k g j L)(x:Fr Gl a r):LW r b k g j L:=P.fr x (zJ (by decide)) (Cr P.n1) (Cr P.n2)
theorem rq{y:V (Q×Q)}(B:a.D[n]? = S y)(D:(cX y w).bind id=S k):aR a (.ab n) w=S k:=(oL B).trans D
theorem LW.sub{b:Z}{k:Z}{v:Q}{x:Q}{g:Q}{j:V Z}{L:V Q}(P:LW a b k g j L)(D:(cX (wV b k g) x).bind id=S v):aR a (.ab 1) x=S v:=rq P.w D
theorem fJ{x:Q}{w:V Q}(B:a.L[n]? = S w)(l:w.length<1000):gJ a (.aE n) 44 [x]=S (.none,wL a n (w++[x])):=(oL B).trans (Na (Nm l))
theorem uF(C:GM a d g m j)(o:MO):dH a (.aA 0) 15 (.bool o)=S (wI a 0 (.Mem,cn {d with g:=o}))/\GM (wI a 0 (.Mem,cn {d with g:=o})) {d with g:=o} g m j/\Fr Gl a (wI a 0 (.Mem,cn {d with g:=o})):=(fB (C.dH rfl (by decide) _ rfl) (C.wI rfl) (Fr.wI (.inl rfl)))
theorem vP{kb:Z}{k:Z}{a9:Z}{a7:Q}{way:Q}{b:Bd}{rest:ML}{ds:V Z}{L:V Q}(h:Key->NF)(C:GM a d g m j)(t:d.ks≠kb)(a0:LW a kb k a7 ds L)(w:MB a (λY=>a9) b c)(J:∀U,eU (λY=>a9) b U->¬Bm kb U)(q:b.d=a.D.length)(T:c.acc=3)
  (o:b.g=MW (rest.fmod 4=3)) (a8:b.lv=if b.g then 0 else L.length) (l:ds.length<98) :
  ∃r l',cJ eY h (.cons (.a (aH gO.body 3)) (.cons (.a (aH gO.body 4)) (.cons (.a (aH gO.body 5)) .nil))) [S (.ab 1),S way,S (.int rest),S (.aA 0),S (kS b.k),S (cS b.k c),S (bv b),x',y'] a=.ok (.next,l',r)/\
   GM r {d with g:=MS} g m j/\LW r kb k a7 (ds++[b.d]) L/\MB r (λY=>a9) b c/\r.D[b.d]? = S (dy b c)/\Fr (Bm kb) a r:=by
 have p:Fr (Bm kb) a (aD a (dy b c)):=Fr.aD;have G:=(Bl C).2.1 (dy b c);have e:LW (aD a (dy b c)) kb k a7 ds L:=a0.fr (P:=λY=>Nw) Fr.aD id id id;have D1:(aD a (dy b c)).D[b.d]? = S (dy b c):=by exact R q dK
 have A:aR a (.ab 1) (.str 25)=S (.aE k):=a0.sub rfl;have a2:aR a (.ab 1) (.str 58)=S (.aE kb):=a0.sub rfl;have a3:=jI a0.s (by have:=a0.sl;exact n1 this rfl);have X:({a with D:=a.D++[[(.str 14,bv b),(.str 9,kS b.k),(.str 59,.bool b.g),(.str 26,.int b.lv),(.str 60,cS b.k c),(.str 16,.int 3)]]}:AH)=aD a (dy b c):=by unfold dy;exact R T rfl
 have d1:Q.ab a.D.length=.ab b.d:=by rw[q]
 generalize aD a (dy b c)=z at p G e D1 X;have M:=fJ (x:=.ab b.d) e.b (by refine R (Ry ..) ?_;have:=e.bl;exact n1 l rfl);have f:Fr (Bm kb) z (wL z kb (ds.map .ab++[.ab b.d])):=Fr.wL (.inr rfl);have D:GM (wL z kb (ds.map .ab++[.ab b.d])) d g m j:=G.fr (P:=λU=>U=.L kb) (Fr.wL rfl) nofun nofun (λa5=>a0.n1 (Ad.L.inj a5).symm) (λa5=>t (Ad.L.inj a5));have n:LW (wL z kb (ds.map .ab++[.ab b.d])) kb k a7 (ds++[b.d]) L:=⟨e.w,by refine R R7 ?_;exact bY e.b,dZ (S7 e.n3) e.s,e.n1,e.n2,e.n3,by refine R RE ?_;exact Ux l,e.sl⟩;have B:(wL z kb (ds.map .ab++[.ab b.d])).D[b.d]? = S (dy b c):=D1;generalize wL z kb (ds.map .ab++[.ab b.d])=I at M f D n B;refine fM (uF D MS) λs3 H i=>?_;have a6:Fr (Bm kb) a (wI I 0 (.Mem,cn {d with g:=MS})):=(p.trans f).trans (i.mono λY a5=>Vd a5);have y:=n.gl i;have D3:(wI I 0 (.Mem,cn {d with g:=MS})).D[b.d]? = S (dy b c):=B;generalize wI I 0 (.Mem,cn {d with g:=MS})=E at s3 H i a6 y D3;refine KJ E [S (.ab 1),S way,S (.int rest),S (.aA 0),S (kS b.k),S (cS b.k c),S (bv b),S (.int b.lv),y'] ?_ H y (w.fr a6 J) D3 a6;have K:bZ .mod (.int rest) (.int 4)=S (.int (rest.fmod 4)):=rfl;have s:aK z (.aE kb) 44=S .bJ:=rfl;have b9:Q.int b.lv=if b.g then .int 0 else .int L.length:=by rw[a8];induction b.g using RD<;>rfl
 have o:=o.symm;clear a6 p f i C G D H a0 e n y D1 B D3 w J T l t a8 q;have k3:cQ eY (aH gO.body 3) [S (.ab 1),S way,S (.int rest),S (.aA 0),S (kS b.k),S (cS b.k c),S (bv b),x',y'] a=.ok (.next,[S (.ab 1),S way,S (.int rest),S (.aA 0),S (kS b.k),S (cS b.k c),S (bv b),S (.int b.lv),y'],a):=by dsimp only[gO,aH];rw[b9];generalize b.g=c1 at *;clear X;induction c1 using RD<;>walk_at "ev"
 have k4:cQ eY (aH gO.body 4) [S (.ab 1),S way,S (.int rest),S (.aA 0),S (kS b.k),S (cS b.k c),S (bv b),S (.int b.lv),y'] a=.ok (.next,[S (.ab 1),S way,S (.int rest),S (.aA 0),S (kS b.k),S (cS b.k c),S (bv b),S (.int b.lv),y'],I):=by
  refine Ja (Lo (v:=.aE kb) (H1:=a) ?_ (rfl) (Cn (v:=.ab b.d) (H1:=z) ((I' (us:=[bv b,kS b.k,.bool b.g,.int b.lv,cS b.k c,.int 3]) ?_ rfl).trans (Nb Res.ok (NT.ext d1 X))) G') M);·walk_at "xe"
  ·walk_at "xl"
 have k5:cQ eY (aH gO.body 5) [S (.ab 1),S way,S (.int rest),S (.aA 0),S (kS b.k),S (cS b.k c),S (bv b),S (.int b.lv),y'] I=.ok (.next,[S (.ab 1),S way,S (.int rest),S (.aA 0),S (kS b.k),S (cS b.k c),S (bv b),S (.int b.lv),y'],E):=by dsimp only[gO,aH];walk_at "ev"
 exact rF k3 (rF k4 (rF k5 rfl))
structure uG(H H':AH)(μ:MG)(svs:V Sv)(J:V Q)(md:V (Z×p9))(kb gR:Z)(gone:Q)(ds:V Z)(sv:V Q)(b:Bd)(c:Ct)(e:Z)(cost:ML):Prop where
 G:GM H' {μ with g:=MS,lb:=μ.lb+1,u:=if b.g then μ.u else μ.u+cost,ug:=if b.g then μ.ug+cost else μ.ug} svs J (md++[(μ.lb+1,(cost,b.g,b.lv))])
 W:LW H' kb gR gone (ds++[b.d]) sv
 M:MB H' (λε=>e) b c
 D:H'.D[b.d]? = S (dy b c)
 F:Fr (Bm kb) H H'
 n:b.num=μ.lb+1
 lv:b.lv=if b.g then 0 else svs.length
 fd:¬has H (.D b.d)
 fp:∀z,eU (λε=>e) b z->¬has H z
 ne:b.k=.dict->e≠b.d
 en:c.en=[]
 acc:c.acc=3
 il:b.k=.row->c.cx.length=3
 it:b.k=.text->c.cx.length=2
 dk:b.k=.dict->c.cx=[]/\c.most=2
 co:cost<=32
theorem vQ{b:Z}{L:V Q}{n:Z}(C:GM a d g m j)(w:a.L[b]? = S L){U:Ad}(B:¬has a U):¬Bm b U:=λP=>by
 rcases P with(rfl|rfl|rfl)|rfl;·exact B (bQ C.i)
 ·exact B (bQ C.m)
 ·exact B (bQ C.j)
 ·exact B (bQ w)
theorem mK{q:AH}{r:AH}{bl:Z}{p:Z}{a3:Z}{D:Z}{G:Q}{b:Bd}{rest:ML}{way:ML}{x:ML}{z:V Z}{E:V Q}{nf:Key->NF}{a:O Q}{b':O Q}(C:GM q d g m j)(A:LW q p a3 G z E)(t:d.ks≠p)(a2:E.length=g.length)(l:z.length<98)(hg:d.g=MW (rest.fmod 4=3))
  (o:∀h,HJ q r d g m j x bl {b with d:=h} c D) (w:bl=if d.g then 0 else g.length) (T:c.acc=3) (e:c.en=[]) (a1:b.k=.row->c.cx.length=3) (a0:b.k=.text->c.cx.length=2) (H:b.k=.dict->c.cx=[]/\c.most=2) (i:x<=32) :
  ∃I v h,cJ eY nf (.cons (.a (aH gO.body 3)) (.cons (.a (aH gO.body 4)) (.cons (.a (aH gO.body 5)) .nil))) [S (.ab 1),S (.int way),S (.int rest),S (.aA 0),S (kS b.k),S (cS b.k c),S (bv b),a,b'] r=.ok (.next,v,I)/\
   uG q I d g m j p a3 G z E {b with d:=h} c D x:=by
 have o:=o r.D.length;have J:∀U,eU (λY=>D) {b with d:=r.D.length} U->¬Bm p U:=λU s=>vQ (n:=0) C A.b (o.f U s);refine KW (vP (b:={b with d:=r.D.length}) (way:=.int way) (rest:=rest) (x':=a) (y':=b') nf o.G t (A.gl o.F) o.M J rfl T (o.g.trans hg) (by refine o.lv.trans ?_;refine w.trans (R o.g (R a2 rfl))) l) λI v X G2 K k B f=>?_;refine zQ I v r.D.length X ⟨?_,K,k,B,(o.F.mono λY P=>Vd P).trans f,o.n,by refine o.lv.trans ?_;refine w.trans ?_;refine R o.g rfl,λP=>?_,o.f,λL y=>?_,e,T,a1,a0,H,i⟩;·have M:=o.g;refine R M ?_;refine R (o.lv) ?_;exact G2
 ·by_cases L:Gl (.D r.D.length)
  ·rcases L with L|L|L;·cases L
   ·exact S6 (bQ o.G.m) (Ad.D.inj L)
   ·cases L
  ·exact RU _ (o.F.has L P)
 ·have:=o.w (.D D) (by show(match b.k with|.row=>_|.text=>_|.dict=>_);exact R (show b.k=.dict from L) (.inr rfl));exact Ng (show D<r.D.length from this) (R (show D=r.D.length from y) (RU _))
theorem Ep{b:Z}{a7:Z}{a5:Q}{rest:ML}{way:ML}{ds:V Z}{L:V Q}(C:GM a d g m j)(P:LW a b a7 a5 ds L)(a6:d.ks≠b)(r:L.length=g.length)(l:ds.length<98)(h:j.length<98)(J:cq (d.lb+1) j=N)(B:d.u+d.ug+32<=16777216) :
  ∃I M a3 D c,ku [.ab 1,.int way,.int rest] a=.ok (.none,I)/\uG a I d g m j b a7 a5 ds L M a3 D c:=by
 refine hF λA=>?_;have m4:bZ .mod (.int rest) (.int 4)=S (.int (rest.fmod 4)):=rfl;have m7:bZ .mod (.int rest) (.int 7)=S (.int (rest.fmod 7)):=rfl;have a1:aR a (.ab 1) (.str 64)=S (.aA 0):=P.sub rfl;refine fM (uF C (MW (rest.fmod 4=3))) λs1 G p=>?_;have e:=P.gl p;have v:∀U,has a U->has (wI a 0 (.Mem,cn {d with g:=MW (rest.fmod 4=3)})) U:=λU a2=>by induction U using Ad.casesOn<;>first|exact a2|exact TH a2 (Ta ..).symm
 generalize wI a 0 (.Mem,cn {d with g:=MW (rest.fmod 4=3)})=z at s1 G p e v;have y:fq eY (only (.fn 24) kr) (.a (aH gO.body 0)) [S (.ab 1),S (.int way),S (.int rest),N,N,N,N,N,N] a=.ok (.next,[S (.ab 1),S (.int way),S (.int rest),S (.aA 0),N,N,N,N,N],a):=by dsimp only[gO,aH];clear C G p P e;walk_at "ev"
 have q:fq eY (only (.fn 24) kr) (.a (aH gO.body 1)) [S (.ab 1),S (.int way),S (.int rest),S (.aA 0),N,N,N,N,N] a=.ok (.next,[S (.ab 1),S (.int way),S (.int rest),S (.aA 0),N,N,N,N,N],z):=by dsimp only[gO,aH];clear C G p P e;walk_at "ev"
 obtain⟨n,f⟩:∃n:Z,n=if MW (rest.fmod 4=3) then 0 else g.length:=⟨_,rfl⟩;have T:∀{l':Loc} {I:AH},(cJ eY (only (.fn 24) kr) (.cons (.ifs (dA (aH gO.body 2)) (.cons (.a (aH (dY (aH gO.body 2)) 0)) (.cons (.a (aH (dY (aH gO.body 2)) 1)) .nil))
  (.cons (.ifs (dA uw) (.cons (.a (aH (dY uw) 0)) .nil) (.cons (.tup [4,5,6] (A' (aH (cR uw) 0)).1 (A' (aH (cR uw) 0)).2.1 (.aU (yx (A' (aH (cR uw) 0)).2.2) 63 24 (lg (A' (aH (cR uw) 0)).2.2))) .nil)) .nil)) (.cons (.a (aH gO.body 3)) (.cons (.a (aH gO.body 4)) (.cons (.a (aH gO.body 5)) .nil)))) [S (.ab 1),S (.int way),S (.int rest),S (.aA 0),N,N,N,N,N] z=.ok (.next,l',I))->ku [.ab 1,.int way,.int rest] a=.ok (.none,I):=λ{l' I} U=>by
  show(cJ eY (only (.fn 24) kr) GS [S (.ab 1),S (.int way),S (.int rest),N,N,N,N,N,N] a).bind _=_
  have:cJ eY (only (.fn 24) kr) GS [S (.ab 1),S (.int way),S (.int rest),N,N,N,N,N,N] a=.ok (.next,l',I):=by exact rF y (rF q U)
  rw[this];rfl
 have a0:∀{E:AH} {M:Bd} {a3:Ct} {D:Z} {c:ML},uG z E {d with g:=MW (rest.fmod 4=3)} g m j b a7 a5 ds L M a3 D c->uG a E d g m j b a7 a5 ds L M a3 D c:=λw=>
  ⟨w.G,w.W,w.M,w.D,(p.mono λε a2=>Vd a2).trans w.F,w.n,w.lv,λa4=>w.fd (v _ a4),λU hz a4=>w.fp U hz (v _ a4),w.ne,w.en,w.acc,w.il,w.it,w.dk,w.co⟩
 have i:cJ eY (only (.fn 24) kr) .nil=Dy:=rfl;by_cases w2:way<2;·refine cj (Em (m:=10) (i:=rest.fmod 7) (j:=5) (k:=5) G (by decide) (o8 B (by decide)) J h f) λI x o e2=>?_;have s:∀K a,aC 10 (.fn 3) [.int K] a=.ok (tI K,a):=λK a=>yR (by decide);refine we (mK (way:=way) (rest:=rest) (nf:=only (.fn 24) kr) (b:=⟨.row,d.lb+1,MW (rest.fmod 4=3),n,0,x⟩) (a:=N) (b':=N) G e a6 r l rfl o f rfl rfl (λε=>rfl) nofun nofun (RP _)) λE l' a8 Y MB=>?_;refine A ⟨E,_,_,_,_,T (l':=l') ?_,a0 MB⟩;have c4:srcOf z (.lst [.int (rest.fmod 7),.int 5,.int 5])=S (.dS [.int (rest.fmod 7),.int 5,.int 5],3):=rfl;have r1:aK z (.aA 0) 61=S (.own 26):=G.rc rfl;have H:=Nm w2;refine rF (X:=.ok (.next,[S (.ab 1),S (.int way),S (.int rest),S (.aA 0),S (kS .row),S (cS .row ⟨[rest.fmod 7,5,5],[],3,0⟩),S (bv ⟨.row,d.lb+1,MW (rest.fmod 4=3),n,0,x⟩),N,N],I)) ?_ Y;dsimp only[gO,aH,dA,dY];have a9:=s (rest.fmod 7) z;have b9:=s 5 z;clear Y MB o C G p P e y q T a0 v w2;walk_at "ev"
 ·by_cases t:way=2;·refine we (En (m:=10) G (by decide) B J h f) λI x D o e2=>?_;refine we (mK (way:=way) (rest:=rest) (nf:=only (.fn 24) kr) (b:=⟨.dict,d.lb+1,MW (rest.fmod 4=3),n,0,x⟩) (a:=N) (b':=N) G e a6 r l rfl o f rfl rfl nofun nofun (λε=>⟨rfl,rfl⟩) (Vp _)) λE l' a8 Y MB=>?_;refine A ⟨E,_,_,_,_,T (l':=l') ?_,a0 MB⟩;have r1:aK z (.aA 0) 62=S (.own 27):=G.rc rfl;have H:=NG w2;have d2:=Nm t;refine rF (X:=.ok (.next,[S (.ab 1),S (.int way),S (.int rest),S (.aA 0),S (kS .dict),S (cS .dict ⟨[],[],3,2⟩),S (bv ⟨.dict,d.lb+1,MW (rest.fmod 4=3),n,0,x⟩),N,N],I)) ?_ Y;dsimp only[gO,uw,aH,dA,dY,cR];clear Y MB o C G p P e y q T a0 v t w2;walk_at "ev"
  ·refine cj (Eo G (o8 B (by decide)) J h f) λI x o e2=>?_;refine we (mK (way:=way) (rest:=rest) (nf:=only (.fn 24) kr) (b:=⟨.text,d.lb+1,MW (rest.fmod 4=3),n,0,x⟩) (a:=N) (b':=N) G e a6 r l rfl o f rfl rfl nofun (λε=>rfl) nofun (RP _)) λE l' a8 Y MB=>?_;refine A ⟨E,_,_,_,_,T (l':=l') ?_,a0 MB⟩;have r1:aK z (.aA 0) 63=S (.own 24):=G.rc rfl;have H:=NG w2;have d2:=NG t;refine rF (X:=.ok (.next,[S (.ab 1),S (.int way),S (.int rest),S (.aA 0),S (kS .text),S (cS .text ⟨[0,0],[],3,0⟩),S (bv ⟨.text,d.lb+1,MW (rest.fmod 4=3),n,0,x⟩),N,N],I)) ?_ Y;dsimp only[gO,uw,aH,dA,dY,cR,A',HF,HG,yx,lg];have e2:=(OU (OU (show only (.fn 24) kr (.fn 24)=kr from Na rfl) _) _).trans e2;clear Y MB o C G p P e y q T a0 v t w2;walk_at "ev"
theorem c0:((0:Z):ML)=0:=rfl
noncomputable def aV(M:Bd):Un->Q
 |.item K E=>.tup [.str 45,bv M,.int K,tI E]
 |.most x=>.tup [.str 47,bv M,.int x]
 |.acc I=>.tup [.str 16,bv M,.int I]
 |.ent a N=>.tup [.str 49,bv M,kW a,.none]
 |.ent a (S E)=>.tup [.str 49,bv M,kW a,eN a E]
 |.drop a E g=>.tup [.str 52,bv M,kW a,eN a E,.lst (g.map kW)]
noncomputable def yY(y:Z->Z)(M:Bd):Ad->Prop:=λU=>Gl U\/eU y M U
noncomputable def cw(s:V Sv)(M:Bd):MO:=!M.g&&MW (M.lv<s.length)
noncomputable def jw(el:MO)(b:AH)(n:V Q)(x:Q):AH:=if el then wL b 1 (n++[x]) else b
theorem L4{b:LE}{I:dR}{D:MO}(C:aO f b e a=.ok (.bool D,a))(n:aW f I e a=.ok (.next,e,wL a 1 (m++[w]))):cQ f (.ifs b I .nil) e a=.ok (.next,e,jw D a m w):=by
 refine rN.trans ?_;refine(bL C).trans ?_;induction D using RD;·rfl
 ·exact n
noncomputable def jn(x:MO)(n:V Q)(r:Q):V Q:=if x then n++[r] else n
structure Sp(μ:MG)(es:Z->Z)(b:Bd):Prop where
 g:∀z,eU es b z->¬Gl z
 k:∀z,eU es b z->z≠.L μ.ks
theorem GM.jw{x:Q}{el:MO}(C:GM a d g m j)(M:m.length<98):GM (jw el a m x) d g (jn el m x) j/\Fr Gl a (Mine.Lake.jw el a m x):=by
 induction el using RD;·exact⟨C,Fr.refl⟩
 ·exact⟨C.wJ (R RE (Ux M)),Fr.wL (.inr (.inr rfl))⟩
theorem Sp.fr{r:AH}(T:Sp d l b)(x:Fr Gl a r)(w:MB a l b c):MB r l b c:=w.fr x T.g
theorem Sp.gm{r:AH}(T:Sp d l b)(x:Fr (eU l b) a r)(C:GM a d g m j):GM r d g m j:=C.fr x (λP=>T.g _ P (.inl rfl)) (λP=>T.g _ P (.inr (.inl rfl))) (λP=>T.g _ P (.inr (.inr rfl))) λP=>T.k _ P rfl
theorem Cs{y:Z->Z}(J:b.k=.row)(w:MB a y b c){l:V ML}:MB (wL a b.a (l.map tI)) y b {c with cx:=l}/\Fr (eU y b) a (wL a b.a (l.map tI)):=by unfold MB eU at *;rw[J] at w;refine R J ?_;exact⟨bY w,Fr.wL rfl⟩
theorem uH(J:b.k=.dict)(w:MB a l b c){c':Ct}(B:c'.en=c.en):MB (wI a b.a (.Dict,fu b c' (l b.num))) l b c'/\Fr (eU l b) a (wI a b.a (.Dict,fu b c' (l b.num))):=by unfold MB eU at *;rw[J] at w;refine R J ?_;exact⟨⟨bY w.1,by refine R B ?_;exact w.2⟩,Fr.wI (.inl rfl)⟩
theorem uI{y:Z->Z}(J:b.k=.dict)(w:MB a y b c){l:V (Z×ML)}:MB (wD a (y b.num) (l.map ent)) y b {c with en:=l}/\Fr (eU y b) a (wD a (y b.num) (l.map ent)):=by unfold MB eU at *;rw[J] at w;refine R J ?_;exact⟨⟨w.1,bY w.2⟩,Fr.wD (.inr rfl)⟩
theorem Er{y:Z->Z}(J:b.k=.text)(w:MB a y b c){l:V ML}:MB (wB a b.a l) y b {c with cx:=l}/\Fr (eU y b) a (wB a b.a l):=by unfold MB eU at *;rw[J] at w;refine R J ?_;exact⟨bY w,Fr.wB rfl⟩
theorem eA(J:b.k=.dict)(w:MB a l b c){A:Z}(D:((gH .Dict A).bind λK=>(fu b c (l b.num))[K]?)=S k):aG f a (bv b) A=.ok (k,a):=by refine aS ?_;unfold MB at w;unfold bv;rw[J] at w;refine R J ?_;exact(oL w.1).trans D
theorem lI{v:Q}(J:b.k=.dict)(w:MB a l b c){f i:Z}(D:gH .Dict f=S i)(d:i<6)(o:Ct)(P:(fu b c (l b.num)).set i v=fu b o (l b.num)):dH a (bv b) f v=S (wI a b.a (.Dict,fu b o (l b.num))):=by unfold MB at w;unfold bv;rw[J] at w;refine R J ?_;refine(oL w.1).trans ((oL D).trans ?_);exact(Na ⟨d,rfl⟩).trans (R P rfl)
theorem Et{m:Z}{i:ML}(v:1<=m)(J:b.k=.text)(w:MB a l b c){p:Z}(s:p<c.cx.length)(G:c.cx.length<1000)(d:0<=i)(h:i<256):aC m (.fn 32) [.aA 0,bv b,.int p,.int i] a=.ok (.none,wB a b.a (c.cx.set p i)):=by
 refine aM (eE v) λg bG n=>R bG ?_;have j:a.B[b.a]? = S c.cx:=by unfold MB at w;replace w:=J▸w;exact w
 have D:bv b=.obj .Text [.int b.num,.eP b.a,.bool b.g,.int b.lv]:=by unfold bv;rw[J]
 have I:∀e,aG e a (bv b) 4=.ok (.eP b.a,a):=λe=>aS (R D rfl);have t:dm a (.eP b.a) (.int p) (.int i)=S (wB a b.a (c.cx.set p i)):=by refine(oL j).trans ?_;refine(Na ⟨by exact RP _,by exact RT.mpr s,d,h,Nm G⟩).trans ?_;rfl
 refine(aN (f:=H6) [S (.aA 0),S (bv b),S (.int p),S (.int i)] rfl rfl).trans ?_;delta H6;walk_at "ev"
theorem Eu{n:V Q}{m:Z}{i:ML}(C:GM a d g n j)(M:n.length<98)(T:Sp d l b)(s:3<=m)(J:b.k=.dict)(w:MB a l b c)(z:i<=c.acc):∃r,aC m (.fn 37) [.aA 0,bv b,.int i] a=.ok (.none,r)/\
  GM r d g (jn (cw g b) n (aV b (.acc c.acc))) j/\MB r l b {c with acc:=i}/\Fr (yY l b) a r:=by refine hF λD=>aM (eE s) λL cm y=>?_;clear s;subst cm;refine fM (gN w) λb1 b2 b3=>?_;have X:=mH C y b1 b2;have K:aK a (.aA 0) 42=S (.own 28):=C.rc rfl;have A:∀e,aG e a (bv b) 16=.ok (.int c.acc,a):=λe=>eA J w rfl;have h:∀e,aG e a (.aA 0) 43=.ok (.aE 1,a):=λe=>C.at rfl;have H:=NG (TS.mpr z);have t:=fJ (x:=aV b (.acc c.acc)) C.j (n1 M rfl);refine bM (C.jw (el:=cw g b) (x:=aV b (.acc c.acc)) M) λG p=>?_;have B:=T.fr p w;have E:=lI J B (f:=16) (i:=4) (v:=.int i) rfl (by decide) {c with acc:=i} rfl;refine bM (uH J B (c':={c with acc:=i}) rfl) λk o=>D (zE _ ?_ (T.gm o G) k ((p.mono λY=>.inl).trans (o.mono λY=>.inr)));have I:aK a (.aE 1) 44=S .bJ:=rfl;refine(aN (f:=H9) [S (.aA 0),S (bv b),S (.int i)] rfl rfl).trans ?_;delta H9;walk_at "ev"
theorem Ew{n:V Q}{m:Z}{i:ML}(C:GM a d g n j)(M:n.length<98)(T:Sp d l b)(v:6<=m)(J:b.k=.row)(w:MB a l b c){p:Z}(s:p<c.cx.length)(G:c.cx.length<1000)(x:∀m,3<=m->∀a,aC m (.fn 13) [tI i] a=.ok (.bool MS,a)):∃r z,c.cx[p]? = S z/\aC m (.fn 30) [.aA 0,bv b,.int p,tI i] a=.ok (.none,r)/\
  GM r d g (jn (cw g b) n (aV b (.item p z))) j/\MB r l b {c with cx:=c.cx.set p i}/\Fr (yY l b) a r:=by
 refine hF λE=>aM (eE v) λa6 du hn=>?_;clear v;subst du;refine aM (eE hn) λH dV a0=>?_;clear hn;subst dV;refine fM (gN w) λb1 b2 b3=>?_;have X:=mH C (m:=H) (n4 a0 rfl) b1 b2;have U:=qb (m:=H) (H:=a) (y:=tI i) a0 b1 (l:=false) λm a5=>x m a5 a;have K:aK a (.aA 0) 42=S (.own 28):=C.rc rfl;have r3:aK a (.aA 0) 46=S (.own 29):=C.rc rfl;have r4:aK a (.aA 0) 41=S (.own 31):=C.rc rfl;have D:bv b=.obj .Row [.int b.num,.aE b.a,.bool b.g,.int b.lv]:=by unfold bv;rw[J]
 have A:∀e a,aG e a (bv b) 6=.ok (.aE b.a,a):=λe a=>aS (R D rfl);have h:∀e,aG e a (.aA 0) 43=.ok (.aE 1,a):=λe=>C.at rfl;have M':a.L[b.a]? = S (c.cx.map tI):=by unfold MB at w;rw[J] at w;exact w
 have q1:aR a (.aE b.a) (.int p)=S (tI c.cx[p]):=by show(a.L[b.a]?).bind _=_;rw[M'];show(place p (c.cx.map tI).length).bind _=_;unfold place;rw[Na (RP _),Na (by rw[Ry];exact⟨RT.mpr s,S4.mpr (qm (RM s G) rfl)⟩)];show(c.cx.map tI)[p]? = _;rw[RJ,RA s];rfl
 have t:=fJ (x:=aV b (.item p c.cx[p])) C.j (n1 M rfl);refine bM (C.jw (el:=cw g b) (x:=aV b (.item p c.cx[p])) M) λG1 I=>?_;have B:=T.fr I w;refine bM (Cs J B (l:=c.cx.set p i)) λk L=>?_;have s1:dm (jw (cw g b) a n (aV b (.item p c.cx[p]))) (.aE b.a) (.int p) (tI i)=S (wL (jw (cw g b) a n (aV b (.item p c.cx[p]))) b.a ((c.cx.set p i).map tI)):=by
  have a3:(jw (cw g b) a n (aV b (.item p c.cx[p]))).L[b.a]? = S (c.cx.map tI):=by unfold MB at B;rw[J] at B;exact B
  show((jw _ a n _).L[b.a]?).bind _=_;rw[a3];show(if 0<=(p:ML)/\(p:ML)<((c.cx.map tI).length:ML)/\sm (c.cx.map tI).length=MK then _ else N)=_;rw[Na ⟨by exact RP _,by rw[Ry];exact RT.mpr s,by rw[Ry];exact Nm G⟩,VN];rfl
 refine E (Fc _ (c.cx[p]) (RA s) ?_ (T.gm L G1) k ((I.mono λY=>.inl).trans (L.mono λY=>.inr)));have r2:aK a (.aE 1) 44=S .bJ:=rfl;have q2:srcOf a (.lst [tI i])=S (.dS [tI i],1):=rfl;rw[aN (f:=Fu) [S (.aA 0),S (bv b),S (.int p),S (tI i)] rfl rfl];delta Fu;have a8:aC (H+1) (.fn 31) [.aA 0,bv b,.int p,.lst [tI i]] a=.ok (.none,wL (jw (cw g b) a n (aV b (.item p c.cx[p]))) b.a ((c.cx.set p i).map tI)):=by rw[aN (f:=Fv) [S (.aA 0),S (bv b),S (.int p),S (.lst [tI i]),N,N] rfl rfl];delta Fv;have a7:=λe=>A e a;have o:=λe=>A e (jw (cw g b) a n (aV b (.item p c.cx[p])));have P:bZ .add (.int p) (.int (0:Z))=S (.int p):=Nb (λa4=>S (Q.int a4)) (ML.add_zero _);replace U:=U.trans (Nc (λq=>RW ((UO _).symm.trans q)));walk_at "ev"
 walk_at "ev"
theorem qd{T:V (Z×q)}:(oE h T).isSome=(cq h T).isSome:=by
 induction B:oE h T using Rx with
 |none=>refine R (lG.mp B) ?_;rfl
 |some K=>induction G:cq h T using Rx with
  |none=>exact nX ((lG.mpr G)▸B)
  |some z=>rfl
theorem dM(J:b.k=.dict)(w:MB a l b c):a.D[l b.num]? = S (c.en.map ent):=by unfold MB at w;replace w:=J▸w;exact w.2
theorem qe{w:Z}{D:Z}(B:a.D[D]? = S (c.en.map ent)):ct a .in (kW w) (.ab D)=S (cq w c.en).isSome/\ct a .qr (kW w) (.ab D)=S (!(cq w c.en).isSome):=by
 have:E9 a (kW w) (.ab D)=S (cq w c.en).isSome:=by refine(oL B).trans ?_;show(eG (kW w) (c.en.map ent)).map (·.isSome)=_;exact R (gh kO rfl) (R qd.symm rfl)
 exact⟨this,by show(E9 a (kW w) (.ab D)).map _=_;refine R this ?_;rfl⟩
theorem qf{w:Z}{D:Z}{c:Ct}{z:ML}(B:a.D[D]? = S (c.en.map ent))(o:cq w c.en=S z):aR a (.ab D) (kW w)=S (eN w z):=by refine rq B ?_;exact(oL (gE kO rfl)).trans (R o rfl)
theorem qg{w:Z}{D:Z}{c:Ct}{i:ML}(B:a.D[D]? = S (c.en.map ent))(l:c.en.length<1000):dm a (.ab D) (kW w) (eN w i)=S (wD a D ((ey w i c.en).map ent)):=by refine(oL B).trans ?_;show(mV (c.en.map ent) (kW w) (eN w i)).map _=_;exact R (uC kO rfl l) rfl
theorem uJ{D:Z}{z:ML}(B:a.D[D]? = S (c.en.map ent))(o:cq h c.en=S z)(l:c.en.length<1000):gJ a (.ab D) 51 [kW h]=S (eN h z,wD a D ((iZ h c.en).map ent)):=by refine(oL B).trans ?_;refine(Na (by refine R (Ry ..) ?_;exact Nm l)).trans ?_;refine R (gE kO rfl) (R o ?_);refine R (uD kO rfl (by refine R o ?_;rfl)) ?_;rfl
theorem Bn{w:Z}{D:Z}(B:a.D[D]? = S (c.en.map ent)):gJ a (.ab D) 48 [kW w]=S (((cq w c.en).map (eN w)).getD .none,a):=by refine(oL B).trans ?_;show(cX (c.en.map ent) (kW w)).map _=_;exact R (gE kO rfl) rfl
theorem yZ{D:Z}(B:a.D[D]? = S (c.en.map ent))(l:c.en.length<1000):bB a .list [.ab D]=S (.lst ((c.en.map (·.1)).map kW),a):=by refine(oL B).trans ?_;refine(Na (by refine R (Ry ..) ?_;exact Nm l)).trans ?_;exact R SW (R SW rfl)
theorem Bo{D:Z}(B:a.D[D]? = S (c.en.map ent))(l:c.en.length<1000):bB a .len [.ab D]=S (.int c.en.length,a):=by refine(oL B).trans ?_;refine(Na (by refine R (Ry ..) ?_;exact Nm l)).trans ?_;refine R (Ry ..) rfl
theorem Ex{m:Z}(v:3<=m)(J:b.k=.dict)(w:MB a l b c)(n:cq h c.en=N):aC m (.fn 36) [.aA 0,bv b,tN h] a=.ok (.none,a):=by refine aM (eE v) λd bG k=>R bG ?_;have X:=sY (H:=a) (w:=h) k;have A:∀e,aG e a (bv b) 0=.ok (.ab (l b.num),a):=λe=>eA J w rfl;have y:=(qe (w:=h) (dM J w)).1;rw[n] at y;refine(aN (f:=Fw) [S (.aA 0),S (bv b),S (tN h),N] rfl rfl).trans ?_;delta Fw;walk_at "ev"
theorem Ey{n:V Q}{m:Z}(C:GM a d g n j)(M:n.length<98)(T:Sp d l b)(v:3<=m)(J:b.k=.dict)(w:MB a l b c){z:ML}(G:cq h c.en=S z)(o:c.en.length<1000):∃r,aC m (.fn 36) [.aA 0,bv b,tN h] a=.ok (.none,r)/\
  GM r d g (jn (cw g b) n (aV b (.drop h z (c.en.map (·.1))))) j/\MB r l b {c with en:=iZ h c.en}/\Fr (yY l b) a r:=by refine hF λE=>aM (eE v) λa0 cm I=>?_;clear v;subst cm;refine fM (gN w) λb1 b2 b3=>?_;have i:=mH C I b1 b2;have X:=sY (H:=a) (w:=h) I;have K:aK a (.aA 0) 42=S (.own 28):=C.rc rfl;have A:∀e,aG e a (bv b) 0=.ok (.ab (l b.num),a):=λe=>eA J w rfl;have U:∀e,aG e a (.aA 0) 43=.ok (.aE 1,a):=λe=>C.at rfl;have y:=(qe (w:=h) (dM J w)).1;rw[G] at y;have q2:=qf (dM J w) G;have q3:=yZ (dM J w) o;have t:=fJ (x:=aV b (.drop h z (c.en.map (·.1)))) C.j (n1 M rfl);refine bM (C.jw (el:=cw g b) (x:=aV b (.drop h z (c.en.map (·.1)))) M) λP p=>?_;have B:=T.fr p w;have L:∀e,aG e (jw (cw g b) a n (aV b (.drop h z (c.en.map (·.1))))) (bv b) 0=.ok (.ab (l b.num),(jw (cw g b) a n (aV b (.drop h z (c.en.map (·.1)))))):=λe=>eA J B rfl;have s:=uJ (dM J B) G o;refine bM (uI J B (l:=iZ h c.en)) λk D=>E (zE _ ?_ (T.gm D P) k ((p.mono λY=>.inl).trans (D.mono λY=>.inr)));have r2:aK a (.aE 1) 44=S .bJ:=rfl;have H:∀a,aK a (.ab (l b.num)) 51=S .bJ:=λY=>rfl;refine(aN (f:=Fw) [S (.aA 0),S (bv b),S (tN h),N] rfl rfl).trans ?_;delta Fw;walk_at "ev"
theorem Ez{n:V Q}{m:Z}{a0:ML}(C:GM a d g n j)(M:n.length<98)(b9:Sp d l b)(hm:3<=m)(J:b.k=.dict)(w:MB a l b c)(h2:c.most=2)(E:cq b.num j=S (a0,b.g,b.lv))(d0:d.u+d.ug+96<=16777216) :
  ∃r,aC m (.fn 34) [.aA 0,bv b] a=.ok (.none,r)/\
  GM r {d with u:=if b.g then d.u else d.u+96,ug:=if b.g then d.ug+96 else d.ug} g (jn (cw g b) n (aV b (.most 2))) (ey b.num (a0+96,b.g,b.lv) j)/\MB r l b {c with most:=8}/\Fr (yY l b) a r:=by
 refine hF λd7=>aM (eE hm) λc9 du hn=>?_;clear hm;subst du;refine fM (gN w) λb1 b2 b3=>?_;have K:aK a (.aA 0) 32=S (.own 23):=C.rc rfl;have A:∀e,aG e a (bv b) 47=.ok (.int 2,a):=λe=>eA J w (by rw[<-h2];rfl);have a2:∀e,aG e a (.aA 0) 33=.ok (i7,a):=λe=>C.at rfl;have a3:∀e,aG e a i7 0=.ok (.int 65535,a):=λe=>aS rfl;have a4:∀e,aG e a (bv b) 23=.ok (.int b.num,a):=λe=>aS b3;have a5:∀e,aG e a (.aA 0) 30=.ok (.ab 0,a):=λe=>C.at rfl;have t:∀e,aG e a (bv b) 15=.ok (.bool b.g,a):=λe=>aS b1;have a7:∀e,aG e a (bv b) 26=.ok (.int b.lv,a):=λe=>aS b2;have c1:bZ .mul (.int 2) (.int 2)=S (.int 4):=rfl;have c2:bB a .max [.int 4,.int 8]=S (.int 8,a):=rfl;have c3:bB a .min [.int 8,.int 65535]=S (.int 8,a):=rfl;have c4:MW ((8:ML)<=2)=MS:=rfl;have c5:bZ .mul (.int 16) (.int (8 - 2))=S (.int 96):=rfl;have e1:=yW (m:=c9) C (n4 hn rfl) d0;have P:ct a .in (.int b.num) (.ab 0)=S MK:=by show(a.D[0]?).bind _=_;rw[C.m];show(eG (kI b.num) (j.map lH)).map (·.isSome)=_;rw[gh mJ rfl];show S ((oE b.num j).isSome)=_;rw[qd,E];rfl
 have c7:aR a (.ab 0) (.int b.num)=S (.tup [.int a0,.bool b.g,.int b.lv]):=by refine rq C.m ?_;show(cX (j.map lH) (kI b.num)).bind id=_;rw[gE mJ rfl,E];rfl
 have c8:aR a (.tup [.int a0,.bool b.g,.int b.lv]) (.int 0)=S (.int a0):=rfl;have s1:=tb C.m (k:=b.num) (i:=a0+96) (g:=b.g) (l:=b.lv) (by have:=C.ml;exact n1 this rfl);have h:(ey b.num (a0+96,b.g,b.lv) j).length=j.length:=p8 (by rw[E];rfl);have G:=C.wD (md':=ey b.num (a0+96,b.g,b.lv) j) (by rw[h];exact C.ml);have p:Fr Gl a (wD a 0 ((ey b.num (a0+96,b.g,b.lv) j).map lH)):=Fr.wD (.inr (.inl rfl));have B:=b9.fr p w;generalize wD a 0 ((ey b.num (a0+96,b.g,b.lv) j).map lH)=z at s1 G p B;refine fM (gN B) λd1 y d3=>?_;have a8:∀e,aG e z (bv b) 15=.ok (.bool b.g,z):=λe=>aS d1;have a9:∀e,aG e z (.aA 0) 28=.ok (.int d.ug,z):=λe=>G.at rfl;have d9:∀e,aG e z (.aA 0) 29=.ok (.int d.u,z):=λe=>G.at rfl;obtain⟨u',U,s3,s,e2⟩:∃u' U:ML,dH z (.aA 0) (if b.g then 28 else 29) (if b.g then .int (d.ug+96) else .int (d.u+96))=S (wI z 0 (.Mem,cn {d with u:=u',ug:=U}))/\(if b.g then d.u else d.u+96)=u'/\(if b.g then d.ug+96 else d.ug)=U:=by
  induction b.g using RD;·exact qu (d.u+96) d.ug (G.dH rfl (by decide) _ rfl) rfl rfl
  ·exact qu d.u (d.ug+96) (G.dH rfl (by decide) _ rfl) rfl rfl
 refine d7 ?_;rw[s,e2];have D:=G.wI (Bk:={d with u:=u',ug:=U}) rfl;have F2:Fr Gl z (wI z 0 (.Mem,cn {d with u:=u',ug:=U})):=Fr.wI (.inl rfl);have M2:=b9.fr F2 B;generalize wI z 0 (.Mem,cn {d with u:=u',ug:=U})=I at s3 F2 D M2;refine fM (gN M2) λd4 L d6=>?_;have Y:=mH D hn d4 L;have r4:aK I (.aA 0) 42=S (.own 28):=D.rc rfl;have e0:∀e,aG e I (.aA 0) 43=.ok (.aE 1,I):=λe=>D.at rfl;have d8:∀e,aG e I (bv b) 47=.ok (.int 2,I):=λe=>eA J M2 (by rw[<-h2];rfl);have m1:=fJ (x:=aV b (.most 2)) D.j (n1 M rfl);refine bM (D.jw (el:=cw g b) (x:=aV b (.most 2)) M) λH F3=>?_;have M3:=b9.fr F3 M2;have X:=lI J M3 (f:=47) (i:=1) (v:=.int 8) rfl (by decide) {c with most:=8} rfl;refine bM (uH J M3 (c':={c with most:=8}) rfl) λM4 F4=>?_;have S':Sp {d with u:=u',ug:=U} l b:=⟨b9.g,b9.k⟩;have G4:=S'.gm F4 H;refine zE _ ?_ G4 M4 ((((p.trans F2).trans F3).mono λε=>.inl).trans (F4.mono λε=>.inr));have r2:aK I (.aE 1) 44=S .bJ:=rfl;rw[aN (f:=E') [S (.aA 0),S (bv b),N,N,N] rfl rfl];delta E';change aC c9 _ _ _=.ok (.bool (cw g b),I) at Y;clear C G D H G4 w B M2 M3 M4 p F2 F3 F4 b9 S' b1 b2 b3 J d1 y d3 d4 L d6 s e2 E h h2 d0;have ch:∀T:Loc,T=((([S (.aA 0),S (bv b),N,N,N].set 2 (S (.int 8))).set 3 (S (.int 96))).set 4 (S (.int a0)))->cQ (aC c9) (aH E'.body 6) T z=.ok (.next,T,I):=by intro T hl;have v0:T[0]? = S (S (.aA 0)):=hl▸rfl;have v1:T[1]? = S (S (bv b)):=hl▸rfl;have v3:T[3]? = S (S (.int 96)):=hl▸rfl;dsimp only[E',aH];generalize b.g=o at *;induction o using RD<;>simp only[PF,Oi,SR] at s3<;>walk_at "ev"
 replace ch:=ch _ rfl;dsimp only[E',aH] at ch;walk_at "ev"
noncomputable def rt:V LS->dR->dR
 |[],M=>M
 |t :: y,M=>.cons t (rt y M)
theorem td{M:dR}{v:Loc}{r:AH}:∀{xs:V LS} {T:Loc} {b:AH},aW f (rt xs .nil) T b=.ok (.next,v,r)->aW f (rt xs M) T b=aW f M v r:=by
 intro xs;induction xs with
 |nil=>intro T b B;have B:=B;cases B;rfl
 |cons t y a=>
  intro T b B
  replace B:=fe.symm.trans B
  refine fe.trans ?_
  induction D:cQ f t T b using Wn with
  |ok L=>
   rw[D] at B
   obtain⟨A,l2,I⟩:=L
   induction A using Fl.casesOn with
   |next=>exact a B
   |ret E=>cases B
  |exc n b=>replace B:=D▸B;cases B
  |bad=>replace B:=D▸B;cases B
theorem EA{J:V Q}{x:Q}{el:MO}:(jn el J x).length<=J.length+1:=by
 unfold jn;split;·exact R RE (Sb _)
 ·exact Sn _
theorem uK{n:Z}{w:Z}{i:ML}(C:GM a d g m j)(M:m.length<98)(T:Sp d l b)(v:2<=n)(J:b.k=.dict)(D:MB a l b c)(U:c.en.length<999):∃r,aW (aC n) (.cons (aH mW.body 4) (.cons (aH mW.body 5) (.cons (aH mW.body 6) .nil))) [S (.aA 0),S (bv b),S (tN w),S (tI i),S (kW w),N] a=.ok (.next,[S (.aA 0),S (bv b),S (tN w),S (tI i),S (kW w),S (tN w)],r)/\
  GM r d g (jn (cw g b) m (aV b (.ent w (cq w c.en)))) j/\MB r l b {c with en:=ey w i c.en}/\Fr (yY l b) a r:=by
 refine fM (gN D) λb1 b2 b3=>?_;have e0:=mH C v b1 b2;have K:aK a (.aA 0) 42=S (.own 28):=C.rc rfl;have A:∀e,aG e a (bv b) 0=.ok (.ab (l b.num),a):=λe=>eA J D rfl;have h:∀e,aG e a (.aA 0) 43=.ok (.aE 1,a):=λe=>C.at rfl;have y:=Bn (w:=w) (dM J D);have t:=fJ (x:=aV b (.ent w (cq w c.en))) C.j (n1 M rfl);refine bM (C.jw (el:=cw g b) (x:=aV b (.ent w (cq w c.en))) M) λG p=>?_;have B:=T.fr p D;have L:∀e,aG e (jw (cw g b) a m (aV b (.ent w (cq w c.en)))) (bv b) 0=.ok (.ab (l b.num),(jw (cw g b) a m (aV b (.ent w (cq w c.en))))):=λe=>eA J B rfl;have q:=(qe (w:=w) (dM J B)).1;have I:∀z,cq w c.en=S z->aR (jw (cw g b) a m (aV b (.ent w (cq w c.en)))) (.ab (l b.num)) (kW w)=S (eN w z):=λz P=>qf (dM J B) P;have s:=qg (w:=w) (i:=i) (dM J B) (n1 U rfl);have X:=yV (m:=n) (H:=jw (cw g b) a m (aV b (.ent w (cq w c.en)))) (w:=w) (n4 v rfl);have q6:∀z a,aR a (eN w z) (.int 0)=S (tN w):=λY Y=>rfl;have E:Q.tup [tN w,tI i]=eN w i:=rfl;refine bM (uI J B (l:=ey w i c.en)) λk f=>zE _ ?_ (T.gm f G) k ((p.mono λY=>.inl).trans (f.mono λY=>.inr));have r2:aK a (.aE 1) 44=S .bJ:=rfl;have H:∀a,aK a (.ab (l b.num)) 48=S .bJ:=λY=>rfl;dsimp only[mW,aH];induction o:cq w c.en using Rx with
 |none=>rw[o] at y t L q s X;walk_at "ev"
 |some z=>
  have I:=I z o
  rw[o] at y t L q I s
  walk_at "ev"
noncomputable def wj(a:Z)(C:Ct):MO:=!(cq a C.en).isSome&&MW (C.most<=C.en.length)
noncomputable def Jf(o:MO)(M:Bd)(a:MG):MG:=if o then{a with u:=if M.g then a.u else a.u+96,ug:=if M.g then a.ug+96 else a.ug} else a
theorem EB{a0:V Q}{m:Z}{w:Z}{i:ML}{a3:ML}(C:GM a d g a0 j)(M:a0.length<97)(T:Sp d l b)(v:6<=m)(J:b.k=.dict)(U:MB a l b c)(hl:c.en.length<999)(G:wj w c=MK->c.most=2)(E:cq b.num j=S (a3,b.g,b.lv))(B:d.u+d.ug+96<=16777216) :
  ∃r,aC m (.fn 35) [.aA 0,bv b,tN w,tI i] a=.ok (.none,r)/\
  GM r (Jf (wj w c) b d) g (jn (cw g b) (if wj w c then jn (cw g b) a0 (aV b (.most 2)) else a0) (aV b (.ent w (cq w c.en)))) (if wj w c then ey b.num (a3+96,b.g,b.lv) j else j)/\MB r l b {c with en:=ey w i c.en,most:=if wj w c then 8 else c.most}/\Fr (yY l b) a r:=by
 refine aM (eE v) λL bG n=>?_;subst bG;refine fM (gN U) λb1 b2 b3=>?_;have e1:=sY (m:=L) (H:=a) (w:=w) (n4 n rfl);have e2:=qb (m:=L) (H:=a) (y:=tI i) (n4 n rfl) b1 (l:=false) λm B=>sZ B;have s:=qb (m:=L) (H:=a) (y:=tN w) (n4 n rfl) b1 (l:=false) λm B=>El B;rw[UO,Nc (by decide)] at e2 s;have Y:=yV (m:=L) (H:=a) (w:=w) (n4 n rfl);have K:aK a (.aA 0) 46=S (.own 29):=C.rc rfl;have r2:aK a (.aA 0) 50=S (.own 34):=C.rc rfl;have A:∀e,aG e a (bv b) 0=.ok (.ab (l b.num),a):=λe=>eA J U rfl;have a2:∀e,aG e a (bv b) 47=.ok (.int c.most,a):=λe=>eA J U rfl;have q1:=(qe (w:=w) (dM J U)).2;have q2:=Bo (dM J U) (n1 hl rfl);have h:∀z,aW (aC L) (.cons (aH mW.body 0) (.cons (aH mW.body 1) (.cons (aH mW.body 2) (.cons (aH mW.body 3) .nil)))) [S (.aA 0),S (bv b),S (tN w),S (tI i),N,N] a=.ok (.next,[S (.aA 0),S (bv b),S (tN w),S (tI i),S (kW w),N],z)->
   ∀I,aW (aC L) (.cons (aH mW.body 4) (.cons (aH mW.body 5) (.cons (aH mW.body 6) .nil))) [S (.aA 0),S (bv b),S (tN w),S (tI i),S (kW w),N] z=.ok (.next,[S (.aA 0),S (bv b),S (tN w),S (tI i),S (kW w),S (tN w)],I)->aC (L+1) (.fn 35) [.aA 0,bv b,tN w,tI i] a=.ok (.none,I):=λz p I G=>by
  change (aW (aC L) (rt [aH mW.body 0,aH mW.body 1,aH mW.body 2,aH mW.body 3] (.cons (aH mW.body 4) (.cons (aH mW.body 5) (.cons (aH mW.body 6) .nil)))) _ a).bind _=_
  exact R (td p) (R G rfl)
 induction o:wj w c using RD with
 |false=>
  refine wH (uK (n:=L) (w:=w) (i:=i) C (n1 M rfl) T (n4 n rfl) J U hl) λI X x2 x3 x4=>?_;refine zE I (h a ?_ I X) x2 x3 x4;dsimp only[mW,aH];unfold wj at o;refine wb ((cq w c.en).isSome) (λP=>?_) (λP=>?_)<;>rw[P] at o q1;·rw[Wc,MO.true_and] at o;walk_at "ev"
  ·walk_at "ev"
 |true=>refine wH (Ez (m:=L) C (n1 M rfl) T (n4 n rfl) J U (G o) E B) λz H y2 D y4=>?_;have f:Sp {d with u:=if b.g then d.u else d.u+96,ug:=if b.g then d.ug+96 else d.ug} l b:=⟨T.g,T.k⟩;refine wH (uK (n:=L) (w:=w) (i:=i) y2 (by have:=EA (el:=cw g b) (J:=a0) (x:=aV b (.most 2));exact n2 (RG this M) rfl) f (n4 n rfl) J D hl) λI X x2 x3 x4=>?_;refine zE I (h z ?_ I X) x2 x3 (y4.trans x4);dsimp only[mW,aH];refine bM (RS.mp o) λt k=>?_;walk_at "ev"
noncomputable def fy(L:ML):V Sv->O Z
 |[]=>N
 |t :: y=>if(t.num:ML)=L then S 0 else(fy L y).map (· + 1)
theorem EC{L:ML}{t:Sv}{y:V Sv}:fy L (t :: y)=if(t.num:ML)=L then S 0 else(fy L y).map (· + 1):=rfl
noncomputable def te:O Z->Q|none=>.none|some P=>.int P
theorem qh{cf:CF}{i x:Z}{e:LE}{M:dR}{l:Loc}{H H1:AH}{v:Q}{t:Src}{R:Res (Fl×Loc×AH)}(p:aO cf e l H=.ok (v,H1))(G:srcOf H1 v=S (t,o))(T:cg (λa v l H=>aW cf M ((l.set i (S (.int a))).set x (S v)) H) t (o+1) 0 l H1=R):cQ cf (.iQ i x e M) l H=R:=by refine(bL p).trans ?_;dsimp only[Res.bind];rw[G];exact T
theorem ip{cf:CF}{x:Z}{e:LE}{M:dR}{l:Loc}{H1:AH}{v:Q}{t:Src}{R:Res (Fl×Loc×AH)}(p:aO cf e l a=.ok (v,H1))(G:srcOf H1 v=S (t,o))(T:cg (λY v l a=>aW cf M (l.set x (S v)) a) t (o+1) 0 l H1=R):cQ cf (.di x e M) l a=R:=by refine(bL p).trans ?_;dsimp only[Res.bind];rw[G];exact T
theorem aX{s:LS}{y:dR}{l':Loc}{H':AH}(B:cQ f s e a=.ok (.next,l',H')):aW f (.cons s y) e a=aW f y l' H':=by exact fe.trans ((bL B).trans rfl)
theorem y0{t:LS}{y:dR}{v:Loc}{r:AH}(B:cQ f t e a=.ok (.ret k,v,r)):aW f (.cons t y) e a=.ok (.ret k,v,r):=by exact fe.trans ((bL B).trans rfl)
theorem y8{x I:Z}{l:Loc}{v:Q}(B:l[x]? = S (S v))(G:aG f a v I=.ok (t,a)):aO f (.attr (.var x) I) l a=.ok (t,a):=by refine hY.trans ((bL iR).trans (R B ?_));exact G
theorem y9{cf:CF}{h:Z}{q:ML}(p:a.L[h]? = S (g.map eD)):∀(y:V Sv) (K:Z) (I M:O Q),g.drop K=y->∃v,cg (λH E T a=>aW cf (.cons (.ifs (.cmp .eq (.attr (.var 3) 23) (.var 1)) (.cons (.ret (.var 2)) .nil) .nil) .nil) ((T.set 2 (S (.int H))).set 3 (S E)) a) (.lL h) (y.length+1) K [S (.aA 0),S (.int q),I,M] a =
  .ok ((match fy q y with|some P=>.ret (.int (K+P:Z))|none=>.next),v,a):=by
 intro y;induction y with
 |nil=>
  intro K I M B;refine⟨[S (.aA 0),S (.int q),I,M],?_⟩;refine Ho.trans ?_;have D:Src.at (.lL h) K a=S N:=by show(a.L[h]?).map _=_;refine R p ?_;show S ((g.map eD)[K]?)=_;refine R RJ ?_;exact R (Co B) rfl
  exact R D rfl
 |cons t y f=>
  intro K I M B;have D:Src.at (.lL h) K a=S (S (eD t)):=by show(a.L[h]?).map _=_;refine R p ?_;show S ((g.map eD)[K]?)=_;refine R RJ ?_;exact R (Cp B) rfl
  have A:∀cf,aG cf a (eD t) 23=.ok (.int t.num,a):=λcf=>aS rfl;refine R EC ?_;by_cases o:(t.num:ML)=q
  ·have G:=Nm o;refine R (Na o) ⟨[S (.aA 0),S (.int q),S (.int K),S (eD t)],?_⟩;apply wi D;·walk_at "z1"
   ·exact LM
  ·have G:=NG o
   refine R (Nc o) (dD (f (K+1) (S (.int K)) (S (eD t)) (Cq B)) λv d=>⟨v,?_⟩)
   refine(wi D (X:=.ok (.next,[S (.aA 0),S (.int q),S (.int K),S (eD t)],a)) (by show aW cf _ [S (.aA 0),S (.int q),S (.int K),S (eD t)] a=_;walk_at "ev") (yP d)).trans ?_
   cases fy q y with
   |none=>rfl
   |some P=>show Res.ok (Fl.ret (.int ((K+1+P:Z):ML)),v,a)=.ok (Fl.ret (.int ((K+(P+1):Z):ML)),v,a);refine R (show K+1+P=K+(P+1) by exact TU ..) rfl
theorem tf{n:V Q}{m:Z}{q:ML}(C:GM a d g n j)(v:1<=m):aC m (.fn 39) [.aA 0,.int q] a=.ok (te (fy q g),a):=by
 refine aM (eE v) λc bG o=>R bG ?_;have h:srcOf a (.aE d.ks)=S (.lL d.ks,g.length):=by refine(oL C.s).trans ?_;refine(Na (by refine R (Ry ..) ?_;exact Nm (by have:=C.sl;exact n1 this rfl))).trans ?_;rw[Ry]
 refine dD (y9 (cf:=aC c) (q:=q) C.s g 0 N N rfl) λk D=>?_;have b:=qh (i:=2) (x:=3) (y8 (x:=0) (l:=[S (.aA 0),S (.int q),N,N]) rfl ((show∀e,aG e a (.aA 0) 25=.ok (.aE d.ks,a) from λe=>C.at rfl) _)) h D;refine(aN (f:=Jv) [S (.aA 0),S (.int q),N,N] rfl rfl).trans ?_;induction B:fy q g using Rx with
 |none=>rw[B] at b;exact(bL (aX b)).trans rfl
 |some P=>rw[B] at b;dsimp only at b;rw[T4] at b;exact(bL (y0 b)).trans rfl
theorem th{b:V Q}{m:Z}{q:ML}(C:GM a d g b j)(v:2<=m):aC m (.fn 42) [.aA 0,.int q] a=match fy q g with|some P=>.ok (.int P,a)|none=>.exc (.bx [105,110,118,97,108,105,100,114,101,115,116,111,114,101]) a:=by
 refine aM (eE v) λc cm n=>R cm ?_;have K:aK a (.aA 0) 54=S (.own 39):=C.rc rfl;have D:=tf (q:=q) C n;refine(aN (f:=Ic) [S (.aA 0),S (.int q),N] rfl rfl).trans ?_;delta Ic;induction B:fy q g using Rx with
 |none=>replace D:=B▸D;clear B;have i1:isNone .none=S MK:=rfl;walk_at "ev"
 |some P=>rw[B] at D;clear B;have i1:isNone (.int P)=S MS:=rfl;walk_at "ev"
theorem ED{b:V Q}{m:Z}{q:ML}(C:GM a d g b j)(v:2<=m):aC m (.fn 40) [.aA 0,.int q] a=.ok (.bool (fy q g).isSome,a):=by
 refine aM (eE v) λc du n=>R du ?_;have K:aK a (.aA 0) 54=S (.own 39):=C.rc rfl;have D:=tf (q:=q) C n;refine(aN (f:=Ib) [S (.aA 0),S (.int q)] rfl rfl).trans ?_;delta Ib;induction B:fy q g using Rx with
 |none=>replace D:=B▸D;clear B;have i1:isNone .none=S MK:=rfl;walk_at "ev"
 |some P=>rw[B] at D;clear B;have i1:isNone (.int P)=S MS:=rfl;walk_at "ev"
theorem EG{p:V Q}{m:Z}{c':Ct}{q:ML}(C:GM a d g p j)(v:4<=m)(w:MB a l b c){P:Z}(s:fy q g=S P):aC m (.fn 43) [.aA 0,.int q,dB b c'] a=.ok (.bool (!b.g&&MW (P<b.lv)),a):=by
 refine aM (eE v) λi dV n=>R dV (fM (gN w) λb1 b2 b3=>?_);have X:=ro (m:=i) (b:=b) (c:=c') (H:=a) (n4 n rfl);have k:=th (q:=q) (m:=i) C (n4 n rfl);rw[s] at k;have K:aK a (.aA 0) 55=S (.own 42):=C.rc rfl;have A:∀e,aG e a (dB b c') 9=.ok (.str (match b.k with|.row=>7|.text=>5|.dict=>8),a):=λe=>aS (by unfold dB;induction b.k using Wo<;>rfl);have k1:((match b.k with|.row=>7|.text=>5|.dict=>8:Z)==21)=MS:=by induction b.k using Wo<;>rfl
 have h:∀e,aG e a (bv b) 15=.ok (.bool b.g,a):=λe=>aS b1;have L:∀e,aG e a (bv b) 26=.ok (.int b.lv,a):=λe=>aS b2;have i1:=@uE b;have H:ct a .gt (.int b.lv) (.int P)=S (MW (P<b.lv)):=Nb S (Pt.mpr RT);refine(aN (f:=Ie) [S (.aA 0),S (.int q),S (dB b c'),N,N,N,N,N] rfl rfl).trans ?_;delta Ie;clear C w b1 b2 b3 s;generalize (match b.k with|.row=>7|.text=>5|.dict=>8:Z)=z at *;generalize b.g=o at *;induction o using RD<;>walk_at "ev"
theorem EH{b:V Q}{m:Z}(C:GM a d g b j)(v:2<=m):aC m (.fn 46) [.aA 0] a=.ok (.tup [.int g.length,.int (d.u+d.ug),.int 16777216],a):=by refine aM (eE v) λc fC n=>?_;subst fC;have i:=qa C n;have A:∀e,aG e a (.aA 0) 29=.ok (.int d.u,a):=λe=>C.at rfl;have h:∀e,aG e a (.aA 0) 28=.ok (.int d.ug,a):=λe=>C.at rfl;have L:∀e,aG e a (.aA 0) 33=.ok (i7,a):=λe=>C.at rfl;have M:∀e,aG e a i7 34=.ok (.int 16777216,a):=λe=>aS rfl;refine(aN (f:=Ig) [S (.aA 0)] rfl rfl).trans ?_;delta Ig;walk_at "ev"
theorem zc{H:AH}{x:Q}{y:Q}{z:Q}{u:Q}{m:Z}(v:1<=m):aC m (.cls .jP) [x,y,z,u] H=.ok (.obj .jP [x,y,z,u],H):=by refine aM (eE v) λa i9 Y=>R i9 ?_;rfl
theorem EI{n:V Q}{m:Z}(C:GM a d g n j)(v:2<=m)(P:g.length<15)(b:V Bd)(c:Z->Ct):∃r,aC m (.fn 38) [.aA 0] a=.ok (.int (d.ls+1:Z),r)/\
  GM r {d with ls:=d.ls+1} (g++[⟨d.ls+1,n.length,d.u,b,c⟩]) n j/\Fr (λU=>Gl U\/U=.L d.ks) a r:=by refine aM (eE v) λo jT l=>?_;clear v;subst jT;have i:=qa C l;have A:∀e,aG e a (.aA 0) 53=.ok (.int d.ls,a):=λe=>C.at rfl;have L:∀e,aG e a (.aA 0) 33=.ok (i7,a):=λe=>C.at rfl;have M:∀e,aG e a i7 25=.ok (.int 15,a):=λe=>aS rfl;have H:MW ((15:ML)<=g.length)=MS:=NG (mt S4.mp (Uo.mpr P));have k:dH a (.aA 0) 53 (.int (d.ls+1))=S (wI a 0 (.Mem,cn {d with ls:=d.ls+1})):=C.dH rfl (by decide) _ rfl;have G:=C.wI (Bk:={d with ls:=d.ls+1}) rfl;have p:Fr Gl a (wI a 0 (.Mem,cn {d with ls:=d.ls+1})):=Fr.wI (.inl rfl);generalize wI a 0 (.Mem,cn {d with ls:=d.ls+1})=z at k G p;have J:∀e,aG e z (.aA 0) 25=.ok (.aE d.ks,z):=λe=>G.at rfl;have B:∀e,aG e z (.aA 0) 53=.ok (.int (d.ls+1:Z),z):=λe=>G.at rfl;have w:∀e,aG e z (.aA 0) 43=.ok (.aE 1,z):=λe=>G.at rfl;have s:∀e,aG e z (.aA 0) 29=.ok (.int d.u,z):=λe=>G.at rfl;have l1:=jI G.j (by have:=G.jl;exact n1 this rfl);have n1:=zc (m:=o) (H:=z) (x:=.int (d.ls+1:Z)) (y:=.int n.length) (z:=.int d.u) (u:=.none) l;have t:=fJ (x:=.obj .jP [.int (d.ls+1:Z),.int n.length,.int d.u,.none]) G.s (by refine R (Ry ..) ?_;have:=G.sl;exact n3 P rfl);have D:GM (wL z d.ks (g.map eD++[.obj .jP [.int (d.ls+1:Z),.int n.length,.int d.u,.none]])) {d with ls:=d.ls+1} (g++[⟨d.ls+1,n.length,d.u,b,c⟩]) n j:=⟨G.i,by refine R R7 ?_;exact bY G.s,dZ (S7 G.n) G.j,G.m,G.n,by refine R RE ?_;exact Ux P,G.jl,G.ml⟩;have h:Fr (λU=>Gl U\/U=.L d.ks) z (wL z d.ks (g.map eD++[.obj .jP [.int (d.ls+1:Z),.int n.length,.int d.u,.none]])):=Fr.wL (.inr rfl);generalize wL z d.ks (g.map eD++[.obj .jP [.int (d.ls+1:Z),.int n.length,.int d.u,.none]])=I at t D h;have E:∀e,aG e I (.aA 0) 53=.ok (.int (d.ls+1:Z),I):=λe=>D.at rfl;refine jM I ?_ D ((p.mono λY=>.inl).trans h);have K:aK z (.aE d.ks) 44=S .bJ:=rfl;refine(aN (f:=Ia) [S (.aA 0),S .none] rfl rfl).trans ?_;delta Ia;walk_at "ev"
theorem uL{E:Z->Z}(w:MB a l b c)(B:E b.num=l b.num):MB a E b c:=by
 unfold MB at *;induction D:b.k using Wo<;>rw[D] at w<;>dsimp only at w;·exact w
 ·exact R B w
 ·exact w
theorem EJ{I M:Z}:ct a .eq (kW I) (kW M)=S (MW (I=M)):=by show eqT (kW I) (kW M)=_;exact kO I M
theorem vR{cf:CF}{w:Z}{D:Z}{b:Bd}{o:ML}{e:V (Z×ML)}:∀(g:V Z) (K:Z) (a:V (Z×ML)) (z:AH) (h:Z) (M:O Q) (I:V Z),I.drop K=g->z.D[h]? = S (a.map ent)->h≠D->z.D[D]? = S (e.map ent)->(∀r:AH,r.I=z.I->aG cf r (bv b) 0=.ok (.ab D,r))->g.Nodup->(∀i∈g,cq i a=N)->(∀i∈g,i≠w->(cq i e).isSome=MK)->a.length+g.length<99->
  ∃r v,cg (λY E a0 a3=>aW cf (.cons (.et (.var 3) (.var 4) (.ite (.cmp .eq (.var 4) (.sub (.var 0) (.int 2))) (.sub (.var 0) (.int 3)) (.sub (.attr (.var 2) 0) (.var 4)))) .nil) (a0.set 4 (S E)) a3) (.dS (I.map kW)) (g.length+1) K [S (.tup [.str 52,bv b,kW w,eN w o,.lst (I.map kW)]),S (.str 52),S (bv b),S (.ab h),M] z =
   .ok (.next,[S (.tup [.str 52,bv b,kW w,eN w o,.lst (I.map kW)]),S (.str 52),S (bv b),S (.ab h),v],r)/\r.L=z.L/\r.B=z.B/\r.I=z.I/\r.D=z.D.set h ((a++g.map λH=>(H,if H=w then o else(cq H e).getD 0)).map ent):=by
 intro g;induction g with
 |nil=>
  intro K a z h M I L q hn p T n s P l;refine Fc z M ?_ rfl rfl rfl ?_;·refine Ef (show S ((I.map kW)[K]?)=_ from ?_);refine R RJ ?_;exact R (Co L) rfl
  ·refine R VO ?_;refine R (Sx ..) ?_;have:=RF.mp q;refine R this.2.symm ?_;rw[VA]
 |cons i g f=>
  intro K a z h M I L q hn p T n s P l;refine hF λA=>?_;rw[RV] at n;have a1:=Cq L;have X:Src.at (.dS (I.map kW)) K z=S (S (kW i)):=by show S ((I.map kW)[K]?)=_;refine R RJ ?_;exact R (Cp L) rfl
  have G:∃E,(if i=w then o else(cq i e).getD 0)=E/\(i≠w->cq i e=S E)/\(i=w->E=o):=by
   refine jM _ rfl (λB=>?_) (λB=>Na B)
   refine R (Nc B) ?_
   have:=P i (.head _) B
   induction a2:cq i e using Rx with
   |none=>replace this:=a2▸this;cases this
   |some a4=>rfl
  refine mP G λE v1 v2 v3=>?_;have k:dm z (.ab h) (kW i) (eN i E)=S (wD z h ((a++[(i,E)]).map ent)):=by have:=qg (c:=⟨[],a,0,0⟩) (w:=i) (i:=E) q (n1 (RM (R5 ..) l) rfl);rw[ij (s i (.head _))] at this;exact this
  have r1:aR z (.tup [.str 52,bv b,kW w,eN w o,.lst (I.map kW)]) (.int 2)=S (kW w):=rfl;have x:aR z (.tup [.str 52,bv b,kW w,eN w o,.lst (I.map kW)]) (.int 3)=S (eN w o):=rfl;have r3:ct z .eq (kW i) (kW w)=S (MW (i=w)):=EJ;have t:=T z rfl;have j:aW cf (.cons (.et (.var 3) (.var 4) (.ite (.cmp .eq (.var 4) (.sub (.var 0) (.int 2))) (.sub (.var 0) (.int 3)) (.sub (.attr (.var 2) 0) (.var 4)))) .nil) [S (.tup [.str 52,bv b,kW w,eN w o,.lst (I.map kW)]),S (.str 52),S (bv b),S (.ab h),S (kW i)] z=.ok (.next,[S (.tup [.str 52,bv b,kW w,eN w o,.lst (I.map kW)]),S (.str 52),S (bv b),S (.ab h),S (kW i)],wD z h ((a++[(i,E)]).map ent)):=by
   by_cases C:i=w
   ·have d:=Nm C;have v3:=v3 C;refine R v3.symm ?_;have m:eN i E=eN w E:=by rw[C]
    rw[m] at k;walk_at "ev"
   ·have d:=NG C;have y:=qf (c:=⟨[],e,0,0⟩) (w:=i) p (v2 C);replace r3:=d▸r3;walk_at "ev"
  obtain⟨r,v,f1,f2,f3,f4,f5⟩:=f (K+1) (a++[(i,E)]) (wD z h ((a++[(i,E)]).map ent)) h (S (kW i)) I a1 (bY q) hn (dZ (S7 hn) p) T n.2 (λH J=>by refine R (ij (s i (.head _))).symm ?_;rw[p0,Nc (λU:H=i=>n.1 (U▸J))];exact s H (.tail _ J)) (λH J=>P H (.tail _ J)) (by rw[RE];exact FF l);refine A (Fc r v ?_ f2 f3 f4 ?_);·exact wi X j (yP f1)
  ·rw[f5,R4,v1];show(z.D.set h _).set h _=_;rw[Te,Sm];rfl
theorem EK{m:Z}(hm:1<=m)(w:MB a l b c){a0:Un}(ok:yJ b.k a0 c)(hl:c.cx.length<1000)(C:c.en.length<50):∃r e',aC m (.fn 51) [aV b a0] a=.ok (.none,r)/\MB r (upd l b.num e') b (gQ a0 c)/\Fr (eU l b) a r/\(e'=l b.num\/e'=a.D.length):=by
 refine aM (eE hm) λa2 bG hn=>R bG ?_;have h:∀p,a.D[0]? = a.D[0]?/\∀r,aW (aC a2) wo.body [S (aV b a0),N,N,N,N] a=.ok (.next,p,r)->aC (a2+1) (.fn 51) [aV b a0] a=.ok (.none,r):=λp=>⟨rfl,λr B=>by rw[aN (f:=wo) [S (aV b a0),N,N,N,N] rfl rfl,B];rfl⟩;have K:∀{r:AH} {c':Ct},MB r l b c'->MB r (upd l b.num (l b.num)) b c':=λw=>uL w bE;induction a0 using Un.casesOn with
 |item P z=>
  refine hF λM=>bM ok λJ s=>bM (Cs J w (l:=c.cx.set P z)) λk I=>M (qv _ (l b.num) ((h [S (aV b (.item P z)),S (.str 45),S (bv b),N,N]).2 _ ?_) (K k) I (.inl rfl));have D:bv b=.obj .Row [.int b.num,.aE b.a,.bool b.g,.int b.lv]:=by unfold bv;rw[J]
  have a1:∀e a,aG e a (bv b) 6=.ok (.aE b.a,a):=λe a=>aS (by rw[D];rfl);have j:a.L[b.a]? = S (c.cx.map tI):=by unfold MB at w;rw[J] at w;exact w
  have s1:dm a (.aE b.a) (.int P) (tI z)=S (wL a b.a ((c.cx.set P z).map tI)):=by show(a.L[b.a]?).bind _=_;rw[j];show(if 0<=(P:ML)/\(P:ML)<((c.cx.map tI).length:ML)/\sm (c.cx.map tI).length=MK then _ else N)=_;rw[Na ⟨by exact RP _,by rw[Ry];exact RT.mpr s,by rw[Ry];exact Nm hl⟩,VN];rfl
  have q0:aR a (aV b (.item P z)) (.int 0)=S (.str 45):=rfl;have y:aR a (aV b (.item P z)) (.int 1)=S (bv b):=rfl;have q2:aR a (aV b (.item P z)) (.int 2)=S (.int P):=rfl;have q3:aR a (aV b (.item P z)) (.int 3)=S (tI z):=rfl;have T:=λe=>a1 e a;simp only[wo];walk_at "ev"
 |most P=>
  have s1:=lI ok.1 w (f:=47) (i:=1) (v:=.int P) rfl (by decide) {c with most:=P} rfl
  refine bM (uH ok.1 w (c':={c with most:=P}) rfl) λk I=>qv _ (l b.num) ((h [S (aV b (.most P)),S (.str 47),S (bv b),N,N]).2 _ ?_) (K k) I (.inl rfl)
  have q0:aR a (aV b (.most P)) (.int 0)=S (.str 47):=rfl
  have y:aR a (aV b (.most P)) (.int 1)=S (bv b):=rfl
  have q2:aR a (aV b (.most P)) (.int 2)=S (.int P):=rfl
  simp only[wo]
  clear w k I ok h K
  walk_at "ev"
 |acc P=>
  have s1:=lI ok w (f:=16) (i:=4) (v:=.int P) rfl (by decide) {c with acc:=P} rfl
  refine bM (uH ok w (c':={c with acc:=P}) rfl) λk I=>qv _ (l b.num) ((h [S (aV b (.acc P)),S (.str 16),S (bv b),N,N]).2 _ ?_) (K k) I (.inl rfl)
  have q0:aR a (aV b (.acc P)) (.int 0)=S (.str 16):=rfl
  have y:aR a (aV b (.acc P)) (.int 1)=S (bv b):=rfl
  have q2:aR a (aV b (.acc P)) (.int 2)=S (.int P):=rfl
  simp only[wo]
  clear w k I ok h K
  walk_at "ev"
 |ent p z=>
  refine bM ok λJ o=>?_
  have a1:∀e,aG e a (bv b) 0=.ok (.ab (l b.num),a):=λe=>eA J w rfl
  induction z using Rx with
  |none=>refine dD (Um.mp o) λz G=>bM (uI J w (l:=iZ p c.en)) λk I=>?_;have p1:=uJ (dM J w) G (n1 C rfl);refine qv _ (l b.num) ((h [S (aV b (.ent p N)),S (.str 49),S (bv b),N,N]).2 _ ?_) (K k) I (.inl rfl);have q0:aR a (aV b (.ent p N)) (.int 0)=S (.str 49):=rfl;have y:aR a (aV b (.ent p N)) (.int 1)=S (bv b):=rfl;have q2:aR a (aV b (.ent p N)) (.int 2)=S (kW p):=rfl;have q3:aR a (aV b (.ent p N)) (.int 3)=S .none:=rfl;have i1:isNone .none=S MK:=rfl;have r1:aK a (.ab (l b.num)) 51=S .bJ:=rfl;simp only[wo];clear w k I J h K o;walk_at "ev"
  |some E=>refine hF λa7=>bM (uI J w (l:=ey p E c.en)) λk I=>?_;have p1:=qg (w:=p) (i:=E) (dM J w) (n1 C rfl);refine a7 (qv _ (l b.num) ((h [S (aV b (.ent p (S E))),S (.str 49),S (bv b),N,N]).2 _ ?_) (K k) I (.inl rfl));have q0:aR a (aV b (.ent p (S E))) (.int 0)=S (.str 49):=rfl;have y:aR a (aV b (.ent p (S E))) (.int 1)=S (bv b):=rfl;have q2:aR a (aV b (.ent p (S E))) (.int 2)=S (kW p):=rfl;have q3:aR a (aV b (.ent p (S E))) (.int 3)=S (eN p E):=rfl;have i1:isNone (eN p E)=S MS:=rfl;simp only[wo];clear w k I J h K o;walk_at "ev"
 |drop p E g=>
  refine qo ok λJ n hs a6=>?_;have d:(aD a []).D[a.D.length]? = S (([]:V (Z×ML)).map ent):=dK;have a5:=dM J w;have j:a.I[b.a]? = S (.Dict,fu b c (l b.num)):=by unfold MB at w;rw[J] at w;exact w.1
  have a3:bv b=.aA b.a:=by unfold bv;rw[J]
  have A:∀e (r:AH),r.I=(aD a []).I->aG e r (bv b) 0=.ok (.ab (l b.num),r):=λe r U=>aS (by rw[a3];show(r.I[b.a]?).bind _=_;rw[U];show(a.I[b.a]?).bind _=_;rw[j];rfl);refine Hs (vR (cf:=aC a2) (w:=p) (o:=E) (b:=b) g 0 [] (aD a []) a.D.length N g rfl d (λU=>by have:=bQ a5;exact Ng (U.symm▸this) (RU _)) (ec a5) (A _) n (λa8 Y=>rfl) hs (n2 (RG (R1 (T4 _)) a6) rfl)) λL v f1 f2 f3 f4 f5=>?_;have s1:dH L (bv b) 0 (.ab a.D.length)=S (wI L b.a (.Dict,fu b c a.D.length)):=by rw[a3];show(L.I[b.a]?).bind _=_;rw[show L.I[b.a]? = S (.Dict,fu b c (l b.num)) by rw[f4];exact j];rfl
  have M1:L.I[b.a]? = S (.Dict,fu b c (l b.num)):=by rw[f4];exact j
  have D1:L.D[a.D.length]? = S ((g.map λH=>(H,if H=p then E else(cq H c.en).getD 0)).map ent):=by rw[f5];exact bY d
  refine qv (wI L b.a (.Dict,fu b c a.D.length)) a.D.length ((h [S (aV b (.drop p E g)),S (.str 52),S (bv b),S (.ab a.D.length),v]).2 _ ?_) ?_ ?_ (.inr rfl)
  ·have q0:aR a (aV b (.drop p E g)) (.int 0)=S (.str 52):=rfl;have y:aR a (aV b (.drop p E g)) (.int 1)=S (bv b):=rfl;have q4:∀a,aO (aC a2) (.sub (.var 0) (.int 4)) [S (aV b (.drop p E g)),S (.str 52),S (bv b),S (.ab a.D.length),N] a=.ok (.lst (g.map kW),a):=λY=>rfl;have X:srcOf (aD a []) (.lst (g.map kW))=S (.dS (g.map kW),g.length):=by show(if sm (g.map kW).length=MK then _ else N)=_;rw[Na (by rw[Ry];exact Nm (n2 a6 rfl)),Ry]
   have a4:=ip (x:=4) (l:=[S (aV b (.drop p E g)),S (.str 52),S (bv b),S (.ab a.D.length),N]) (show aO (aC a2) (.sub (.var 0) (.int 4)) _ (aD a [])=.ok (.lst (g.map kW),aD a []) from rfl) X f1;show aW _ (.cons (aH wo.body 0) (.cons (aH wo.body 1) .nil)) _ a=_;rw[aX (l':=[S (aV b (.drop p E g)),S (.str 52),S (bv b),N,N]) (H':=a) (by dsimp only[wo,aH];clear f1 f2 f3 f4 f5 s1 M1 D1 a4 w h K A a3;walk_at "ev")];have br:aW (aC a2) (.cons (.asg 3 (.tq [] .nil)) (.cons (.di 4 (.sub (.var 0) (.int 4)) (.cons (.et (.var 3) (.var 4) (.ite (.cmp .eq (.var 4) (.sub (.var 0) (.int 2))) (.sub (.var 0) (.int 3)) (.sub (.attr (.var 2) 0) (.var 4)))) .nil)) (.cons (.eO (.var 2) 0 (.var 3)) .nil))) [S (aV b (.drop p E g)),S (.str 52),S (bv b),N,N] a=.ok (.next,[S (aV b (.drop p E g)),S (.str 52),S (bv b),S (.ab a.D.length),v],wI L b.a (.Dict,fu b c a.D.length)):=by rw[aX (l':=[S (aV b (.drop p E g)),S (.str 52),S (bv b),S (.ab a.D.length),N]) (H':=aD a []) rfl,aX a4];clear f1 f2 f3 f4 f5 M1 D1 a4 w h K A a3;unfold aV;walk_at "ev"
   exact Bj (HH (t:=false) rfl (fF rfl (Bj (HH (t:=false) rfl (fF rfl (Bj (HH (t:=false) rfl (fF rfl (Bj (HH (t:=true) rfl (fT rfl br)) rfl))) rfl))) rfl))) rfl
  ·have:(gQ (.drop p E g) c).en=g.map λH=>(H,if H=p then E else(cq H c.en).getD 0):=rfl;unfold MB;rw[J];refine⟨?_,?_⟩;·rw[bE];exact bY M1
   ·rw[bE];exact D1
  ·refine(Fr.trans (H':=L) ⟨λH E Y B=>?_,λH E nk B=>?_,λH E Y B=>?_,λH E Y B=>?_⟩ (Fr.wI (by unfold eU;rw[J];exact .inl rfl)));·rw[f2];exact B
   ·rw[f5];exact dZ (λU=>by have:=bQ B;exact Ng (U.symm▸this) (RU _)) (ec B)
   ·rw[f4];exact B
   ·rw[f3];exact B
structure Sep(X:Ad->Prop)(es:Z->Z)(bs:V Bd):Prop where
 x:∀b∈bs,∀z,eU es b z->¬X z
 d:∀b∈bs,∀b'∈bs,b.num≠b'.num->∀z,eU es b z->¬eU es b' z
noncomputable def zd(C:Ct):Prop:=C.cx.length<=3/\C.en.length<=3
noncomputable def enc(b:Z->Bd)(P:Z×Un):Q:=aV (b P.1) P.2
theorem Bp{T:V (Z×q)}:(iZ h T).length<=T.length:=by
 induction T with
 |nil=>exact Sb _
 |cons P y d=>
  refine R Cm ?_;by_cases L:P.1=h;·exact R (Na L) (Sn _)
  ·exact R (Nc L) (VY d)
theorem ze{H:Kq}{b:Un}(B:zd c)(z:yJ H b c):zd (gQ b c):=by
 induction b using Un.casesOn with
 |item K E=>exact⟨by show(c.cx.set K E).length<=3;refine R Ta ?_;exact B.1,B.2⟩
 |most x=>exact B
 |acc I=>exact B
 |ent a d=>induction d using Rx with
  |none=>exact⟨B.1,RG Bp B.2⟩
  |some E=>exact⟨B.1,by show(ey a E c.en).length<=3;refine R (p8 z.2) ?_;exact B.2⟩
 |drop a E g=>exact⟨B.1,by show(V.map _ g).length<=3;refine R (Ry ..) ?_;exact z.2.2.2⟩
theorem GM.has(C:GM a d g m j){z:Ad}(B:Gl z\/z=.L d.ks):has a z:=by
 rcases B with(rfl|rfl|rfl)|rfl;·exact bQ C.i
 ·exact bQ C.m
 ·exact bQ C.j
 ·exact bQ C.s
theorem MB.has(w:MB a l b c){z:Ad}(B:eU l b z):Mine.Lake.has a z:=by
 unfold MB eU at *;induction D:b.k using Wo<;>rw[D] at w<;>simp only[D] at B;·subst B;exact bQ w
 ·rcases B with rfl|rfl;·exact bQ w.1
  ·exact bQ w.2
 ·subst B;exact bQ w
theorem Bq{j h:Z}(C:j=l b.num\/j=h){U:Ad}(B:eU (upd l b.num j) b U):eU l b U\/U=.D h:=by
 unfold eU at *;induction D:b.k using Wo<;>simp only[D] at B⊢;·exact .inl B
 ·rcases B with B|B;·exact .inl (.inl B)
  ·rw[bE] at B;rcases C with L|L;·exact .inl (.inr (L▸B))
   ·exact .inr (L▸B)
 ·exact .inl B
theorem lJ{j:Z}(n:b.num≠o){U:Ad}:eU (upd l o j) b U↔eU l b U:=by unfold eU;rw[cG n]
noncomputable abbrev Jg:dR:=.cons (.exp (.aU (.var 4) 44 (.cons (.aU (.attr (.var 0) 43) 51 .nil) .nil))) (.cons (.exp (.call (.gf 51) (.cons (.sub (.var 4) (.neg (.int 1))) .nil))) .nil)
noncomputable abbrev Jh:LE:=.cmp .gt (.bq .len (.cons (.attr (.var 0) 43) .nil)) (.attr (.var 3) 19)
theorem EL{r:Ad->Prop}{m:Z}{un:Z}{f:V Bd}{bd:Z->Bd}(hm:1<=m)(o:∀U,Gl U\/U=.L d.ks->r U)(t:Sv)(p:Jo)(P:t.many=p.length)(Y:∀M∈f,∀b'∈f,M.num=b'.num->M=b')(x1 x2:O Q)(l5:Loc):∀(a:Jo) (b:AH) (y:Z->Z) (cs:Z->Ct) (K:V Q) (a4:Z),
  GM b d g (((a++p).map (enc bd)).reverse) j->(∀M∈f,MB b y M (cs M.num))->(∀M∈f,zd (cs M.num))->Sep r y f->(∀U,r U->has b U)->(∀L∈a,bd L.1∈f/\(bd L.1).num=L.1)->qq (λq=>(bd q).k) cs a->
  b.L[un]? = S K->¬r (.L un)->(∀M∈f,¬eU y M (.L un))->a.length+K.length<98->a.length<a4->
  ∃H' d7,gK (λc5 b=>(aO (aC m) Jh c5 b).bind λd5=>match truthy d5.1 with|some d9=>.ok (d9,d5.2)|none=>.bad) (λc5 b=>aW (aC m) Jg c5 b) a4 (S (.aA 0) :: x1 :: x2 :: S (eD t) :: S (.aE un) :: l5) b=.ok (.next,S (.aA 0) :: x1 :: x2 :: S (eD t) :: S (.aE un) :: l5,H')/\
   GM H' d g ((p.map (enc bd)).reverse) j/\(∀M∈f,MB H' d7 M (kN cs a M.num))/\(∀M∈f,zd (kN cs a M.num))/\Sep r d7 f/\(∀U,r U->has H' U)/\H'.L[un]? = S (K++a.map (enc bd))/\Fr (λU=>¬r U\/Gl U) b H':=by
 intro a;induction a with
 |nil=>
  intro b y cs K a4 C A sm T l hq ok hu nu h hl J
  induction a4 using RX with
  |zero=>exact Ng J (UC _)
  |succ a4=>refine JF b y ?_ C A sm T l (by refine R VO ?_;refine R (Sx ..) ?_;exact hu) Fr.refl;have a1:∀e,aG e b (.aA 0) 43=.ok (.aE 1,b):=λe=>C.at rfl;have l1:=jI C.j (by have:=C.jl;exact n1 this rfl);rw[Sq,Ry,Uh] at l1;have a2:∀e,aG e b (eD t) 19=.ok (.int t.many,b):=λe=>aS rfl;have d1:=NG (mt RT.mp (Ti.mpr (R1 P.symm)));refine LN ?_;walk_at "xe"
 |cons q_ a e0=>
  obtain⟨q,c⟩:=q_
  intro b y cs K a4 C A sm T l hq ok hu nu h hl J
  induction a4 using RX with
  |zero=>exact Ng J (UC _)
  |succ a4=>
   refine bM (hq _ (.head _)) λw n=>?_;dsimp only at w n;generalize k:bd q=M at w n;have c3:yJ M.k c (cs M.num):=by rw[<-k];refine R (show(bd q).num=q by rw[k];exact n) ?_;exact ok.1
   have E:((((q,c) :: a)++p).map (enc bd)).reverse=((a++p).map (enc bd)).reverse++[aV M c]:=by rw[V6,R4,Us];show _++[aV (bd q) c]=_;rw[k]
   have a8:((a++p).map (enc bd)).reverse.length<98:=by have:=C.jl;rw[E,RE] at this;exact qm this rfl
   have G:=C.j;replace G:=E▸G;have p1:gJ b (.aE 1) 51 []=S (aV M c,wL b 1 ((a++p).map (enc bd)).reverse):=by show(b.L[1]?).bind _=_;rw[G];show(if Mine.Lake.sm (((a++p).map (enc bd)).reverse++[aV M c]).length=MK then _ else N)=_;rw[Na (by rw[RE];exact Nm (n2 a8 rfl)),V.getLast?_concat,V.dropLast_concat];rfl
   have a1:∀e,aG e b (.aA 0) 43=.ok (.aE 1,b):=λe=>C.at rfl;have l1:=jI G (by rw[RE];exact n2 a8 rfl);have a2:∀e,aG e b (eD t) 19=.ok (.int t.many,b):=λe=>aS rfl;have d1:MW ((t.many:ML)<(((a++p).map (enc bd)).reverse++[aV M c]).length)=MK:=Nm (by rw[RE,Sq,Ry,RE];exact VI (ML.le_of_eq (Nb Z.cast P)) (RT.mpr (VY (SQ ..))));have G1:=C.wJ (J':=((a++p).map (enc bd)).reverse) (n1 a8 rfl);have F1:Fr Gl b (wL b 1 ((a++p).map (enc bd)).reverse):=Fr.wL (.inr (.inr rfl));have c1:un≠1:=λU=>nu (by rw[U];exact o _ (.inl (.inr (.inr rfl))));have D:(wL b 1 ((a++p).map (enc bd)).reverse).L[un]? = S K:=dZ c1 hu;have H:=λU s=>by
    by_cases a3:Gl U;·exact G1.has (.inl a3)
    ·exact F1.has a3 (l U s)
   have c4:=λM w=>(A M w).fr F1 λU s a3=>T.x M w U s (o U (.inl a3));generalize wL b 1 ((a++p).map (enc bd)).reverse=z at p1 G1 F1 D H c4;have p2:=fJ (x:=aV M c) D (n1 (RM (SQ ..) hl) rfl);have F2:Fr (λU=>U=.L un) z (wL z un (K++[aV M c])):=Fr.wL rfl;have nX:∀U,r U->U≠.L un:=λU s L=>nu (L▸s);have G2:GM (wL z un (K++[aV M c])) d g ((a++p).map (enc bd)).reverse j:=G1.fr F2 (nX _ (o _ (.inl (.inl rfl)))) (nX _ (o _ (.inl (.inr (.inl rfl))))) (nX _ (o _ (.inl (.inr (.inr rfl))))) (nX _ (o _ (.inr rfl)));have X:(wL z un (K++[aV M c])).L[un]? = S (K++[aV M c]):=bY D;have b9:∀U,r U->Mine.Lake.has (wL z un (K++[aV M c])) U:=λU s=>F2.has (nX U s) (H U s);have a7:∀v∈f,MB (wL z un (K++[aV M c])) y v (cs v.num):=λv d6=>(c4 v d6).fr F2 λU s (a3:U=.L un)=>h v d6 (a3▸s);generalize wL z un (K++[aV M c])=I at p2 F2 G2 X b9 a7;have q1:aR I (.aE un) (.int (-1))=S (aV M c):=by show(I.L[un]?).bind _=_;rw[X];show(place (-1) (K++[aV M c]).length).bind _=_;rw[show place (-1) (K++[aV M c]).length=S K.length by unfold place;rw[RE];rfl];show(K++[aV M c])[K.length]? = _;exact dK
   refine uP (EK (m:=m) hm (a7 M w) c3 (by have:=(sm M w).1;exact n2 this rfl) (by have:=(sm M w).2;exact n2 this rfl)) λH3 e' f1 M3 i he=>?_;have a6:∀U,r U->¬eU y M U:=λU s L=>T.x M w U L s;have G3:=G2.fr i (a6 _ (o _ (.inl (.inl rfl)))) (a6 _ (o _ (.inl (.inr (.inl rfl))))) (a6 _ (o _ (.inl (.inr (.inr rfl))))) (a6 _ (o _ (.inr rfl)));have d2:∀U,r U->Mine.Lake.has H3 U:=λU s=>i.has (a6 U s) (b9 U s);have a5:∀v∈f,v≠M->v.num≠M.num:=λv a0 ne L=>ne (Y _ a0 _ w L);have fx:∀U,eU (upd y M.num e') M U->eU y M U\/U=.D I.D.length:=λU s=>Bq he s;have nw:¬Mine.Lake.has I (.D I.D.length):=λL=>RU _ L;have c7:∀v∈f,MB H3 (upd y M.num e') v (upd cs q (gQ c (cs q)) v.num):=λv a0=>by
    by_cases L:v=M;·rw[L,n,bE,<-n];exact M3
    ·have:=a5 _ a0 L;rw[cG (by rw[<-n];exact this)];refine uL ((a7 _ a0).fr i λU s=>T.d _ a0 _ w this U s) (cG this)
   have c6:∀v∈f,zd (upd cs q (gQ c (cs q)) v.num):=λv a0=>by
    by_cases L:v=M;·rw[L,n,bE,<-n];exact ze (sm M w) c3
    ·rw[cG (by rw[<-n];exact a5 _ a0 L)];exact sm _ a0
   have S3:Sep r (upd y M.num e') f:=⟨λv a0 U s hx=>by
     clear n f1 M3 he a1 l1 a2 d1 E a8 G p1 c1 D p2 X q1;by_cases L:v=M
     ·subst L;rcases fx U s with B|B;·exact T.x _ w U B hx
      ·exact nw (B▸b9 U hx)
     ·exact T.x _ a0 U ((lJ (a5 _ a0 L)).mp s) hx,λv a0 d4 a9 ne U s d0=>by
     have al:∀c2∈f,c2≠M->eU (upd y M.num e') c2 U->eU y c2 U/\Mine.Lake.has I U:=λc2 d3 L s=>by have:=(lJ (a5 _ d3 L)).mp s;exact⟨this,(a7 _ d3).has this⟩
     clear n f1 M3 he a1 l1 a2 d1 E a8 G p1 c1 D p2 X q1;by_cases q2:v=M
     ·by_cases q3:d4=M;·exact ne (by rw[q2];refine R q3 rfl)
      ·refine bM (al _ a9 q3 d0) λk1 k2=>?_;subst q2;rcases fx U s with B|B;·exact T.d _ a0 _ a9 ne U B k1
       ·exact nw (B▸k2)
     ·refine bM (al _ a0 q2 s) λk1 k2=>?_;by_cases q3:d4=M
      ·subst q3;rcases fx U d0 with B|B;·exact T.d _ a0 _ a9 ne U k1 B
       ·exact nw (B▸k2)
      ·exact T.d _ a0 _ a9 ne U k1 (al _ a9 q3 d0).1⟩
   have c9:∀v∈f,¬eU (upd y M.num e') v (.L un):=λv a0 s=>by
    clear n f1 M3 he a1 l1 a2 d1 E a8 G p1 c1 D p2 X q1 nw;by_cases L:v=M
    ·subst L;rcases fx _ s with B|B;·exact h _ w B
     ·cases B
    ·exact h _ a0 ((lJ (a5 _ a0 L)).mp s)
   have c8:qq (λq=>(bd q).k) (upd cs q (gQ c (cs q))) a:=ok.2;refine JJ (e0 H3 (upd y M.num e') (upd cs q (gQ c (cs q))) (K++[aV M c]) a4 G3 c7 c6 S3 d2 (λL d8=>hq L (.tail _ d8)) c8 (i.L _ _ (h M w) X) nu c9 (by rw[RE];exact Hq hl) (by rw[SY] at J;exact TZ J)) λH4 e1 w1 w2 w3 w4 w5 w6 w7 w8=>?_;refine JF H4 e1 ?_ w2 w3 w4 w5 w6 ?_ ?_
   ·have r1:aK b (.aE un) 44=S .bJ:=rfl;have r2:aK b (.aE 1) 51=S .bJ:=rfl;have t1:aO (aC m) Jh (S (.aA 0) :: x1 :: x2 :: S (eD t) :: S (.aE un) :: l5) b=.ok (.bool MK,b):=by clear w1 w2 w3 w4 w5 w6 w7 w8 S3 c7 a7 c4 A sm c6 h c9 F1 F2 i C G1 G2 G3 ok c8 c3 l H b9 d2 hq o P Y fx a5 nX a6 T;walk_at "xe"
    have t2:aW (aC m) Jg (S (.aA 0) :: x1 :: x2 :: S (eD t) :: S (.aE un) :: l5) b=.ok (.next,S (.aA 0) :: x1 :: x2 :: S (eD t) :: S (.aE un) :: l5,H3):=by clear w1 w2 w3 w4 w5 w6 w7 w8 S3 c7 a7 c4 A sm c6 h c9 F1 F2 i C G1 G2 G3 ok c8 c3 l H b9 d2 hq o P Y fx a5 nX a6 T t1;walk_at "ev"
    exact LP t1 t2 w1
   ·rw[w7,Sm];show _=S (K++([aV (bd q) c]++_));rw[k]
   ·exact(((F1.mono λε a3=>US a3).trans (F2.mono λU (a3:U=.L un)=>Vd (a3▸nu))).trans (i.mono λU s=>Vd (T.x M w U s))).trans w8
noncomputable def ru(P:Z×p9):Z×MO×Z:=(P.1,P.2.2)
noncomputable def oG(place:Z)(P:Z×p9):MO:=P.2.2.1||MW (P.2.2.2<=place)
theorem zf{c0 i:ML}{o:MO}{T:Z}:∀{p:V (Z×p9)},cq n p=S (c0,o,T)->(ey n (i,o,T) p).map ru=p.map ru:=by
 intro p;induction p with
 |nil=>intro B;exact nX B
 |cons P y f=>
  intro B;rw[jF] at B;refine R rk ?_;by_cases L:P.1=n;·rw[Na L] at B;refine R (Na L) ?_;show(P.1,o,T) :: _=(P.1,P.2.2) :: _;rw[Sk B]
  ·rw[Nc L] at B;refine R (Nc L) ?_;refine R4.trans ?_;refine R (f B) rfl
theorem Br{E:q}:∀{I y:V (Z×q)},n∉I.map (·.1)->iZ n (I++(n,E) :: y)=I++y:=by
 intro I;induction I with
 |nil=>intro y _;exact(Na rfl).trans rfl
 |cons P I f=>intro y B;rw[R4,RB,Ol] at B;refine(Nc (S7 B.1)).trans ?_;exact R (f B.2) rfl
theorem Bs{E:q}:∀{I y:V (Z×q)},n∉I.map (·.1)->cq n (I++(n,E) :: y)=S E:=by
 intro I;induction I with
 |nil=>intro y _;exact(Na rfl)
 |cons P I f=>intro y B;rw[R4,RB,Ol] at B;exact(Nc (S7 B.1)).trans (f B.2)
theorem zg(B:a.D[0]? = S (j.map lH)){P:p9}(J:cq n j=S P):aR a (.ab 0) (.int n)=S (.tup [.int P.1,.bool P.2.1,.int P.2.2]):=by refine rq B ?_;exact(oL (gE mJ rfl)).trans (R J rfl)
theorem EM(B:a.D[0]? = S (j.map lH)){P:p9}(J:cq n j=S P)(l:j.length<1000):gJ a (.ab 0) 51 [.int n]=S (.tup [.int P.1,.bool P.2.1,.int P.2.2],wD a 0 ((iZ n j).map lH)):=by refine(oL B).trans ?_;refine(Na (by refine R (Ry ..) ?_;exact Nm l)).trans ?_;refine R (gE mJ rfl) (R J ?_);refine R (uD mJ rfl (by refine R J ?_;rfl)) ?_;rfl
noncomputable abbrev Ji:dR:=.cons (.qs [6,7,8] (.sub (.attr (.var 0) 30) (.var 5))) (.cons (.ifs (.and (.not (.var 7)) (.cmp .gt (.var 8) (.var 2))) (.cons (.exp (.aU (.attr (.var 0) 30) 51 (.cons (.var 5) .nil))) (.cons (.exp (.aU (.attr (.var 0) 57) 44 (.cons (.var 5) .nil))) .nil)) .nil) .nil)
theorem Cu(I M:Z):MW ((M:ML)<(I:ML)) = !MW (I<=M):=by exact R decide_not.symm (Pt.mpr (RT.trans Uo.symm))
theorem Bt{μ:MG}{cf:CF}{fa:Z}{place:Z}(hf:μ.fr=.aE fa)(f1:fa≠1)(f2:fa≠μ.ks)(L:V Z)(X G a:O Q):∀(y C:V (Z×p9)) (K:Z) (b:AH) (q:V Q) (s y6 y7 Y:O Q),L.drop K=y.map (·.1)->GM b μ g m (C++y)->((C++y).map (·.1)).Nodup->b.L[fa]? = S q->q.length+y.length<900->
  ∃r v,cg (λε E T b=>aW cf Ji (T.set 5 (S E)) b) (.dS (L.map kI)) (y.length+1) K [S (.aA 0),X,S (.int place),G,a,s,y6,y7,Y] b=.ok (.next,S (.aA 0) :: X :: S (.int place) :: G :: a :: v,r)/\
   GM r μ g m (C++y.filter (oG place))/\Fr (λU=>U=.D 0\/U=.L fa) b r/\v.length=4:=by
 intro y;induction y with
 |nil=>
  intro C K b q s y6 y7 Y J e n p l;refine qv b [s,y6,y7,Y] ?_ e Fr.refl rfl;have:Src.at (.dS (L.map kI)) K b=S N:=by show S ((L.map kI)[K]?)=_;refine R RJ ?_;exact R (Co J) rfl
  exact Ef this
 |cons q_ y a6=>
  obtain⟨H,a8⟩:=q_;intro C K b q s y6 y7 Y J e n p l;have hi:L[K]? = S H:=Cp J;have a3:=Cq J;have e1:Src.at (.dS (L.map kI)) K b=S (S (.int H)):=by show S ((L.map kI)[K]?)=_;rw[RJ,hi];rfl
  have a4:=λU=>by rw[R7,R4,Sl] at n;exact n.2.2 H U H (.head _) rfl
  obtain⟨i,o,M⟩:=a8;have A:cq H (C++(H,i,o,M) :: y)=S (i,o,M):=Bs a4;have q1:=zg e.m A;have a1:∀cf,aG cf b (.aA 0) 30=.ok (.ab 0,b):=λcf=>e.at rfl;have h:=e.ml;have d1:MW ((place:ML)<(M:ML)) = !MW (M<=place):=by
   by_cases B:M<=place;·rw[Nm B,NG (mt RT.mp (Ti.mpr B))];rfl
   ·rw[NG B,Nm (RT.mpr (Uo.mp B))];rfl
  refine wb (oG place (H,i,o,M)) (λc=>?_) (λc=>?_)
  ·have p1:=EM e.m A (n1 h rfl);rw[Br a4] at p1;have G1:=e.wD (md':=C++y) (by rw[RE];rw[RE,SY] at h;exact qm h rfl);have F1:Fr (λU=>U=.D 0\/U=.L fa) b (wD b 0 ((C++y).map lH)):=Fr.wD (.inl rfl);have a0:(wD b 0 ((C++y).map lH)).L[fa]? = S q:=p;generalize wD b 0 ((C++y).map lH)=z at p1 G1 F1 a0;have a2:∀cf,aG cf z (.aA 0) 57=.ok (.aE fa,z):=λcf=>by rw[<-hf];exact G1.at rfl
   have p2:=fJ (x:=.int H) a0 (n1 (RM (R5 ..) l) rfl);have f:Fr (λU=>U=.D 0\/U=.L fa) z (wL z fa (q++[.int H])):=Fr.wL (.inr rfl);have D:GM (wL z fa (q++[.int H])) μ g m (C++y):=G1.fr (P:=λU=>U=.L fa) (Fr.wL rfl) nofun nofun (λU=>f1 (Ad.L.inj U).symm) (λU=>f2 (Ad.L.inj U).symm);have d:(wL z fa (q++[.int H])).L[fa]? = S (q++[.int H]):=bY a0;generalize wL z fa (q++[.int H])=I at p2 f D d;refine hF λa7=>?_;obtain⟨r,v,w1,w,t,k⟩:=a6 C (K+1) I (q++[.int H]) (S (.int H)) (S (.int i)) (S (.bool o)) (S (.int M)) a3 D (by refine n.sublist ?_;rw[R7,R7];exact V.Sublist.append_left (V.sublist_cons_self _ _) _) d (by rw[RE];exact FF l);refine a7 ?_;refine qv r v ?_ (by rw[TN,c];exact w) ((F1.trans f).trans t) k;have j:aW cf Ji [S (.aA 0),X,S (.int place),G,a,S (.int H),y6,y7,Y] b=.ok (.next,[S (.aA 0),X,S (.int place),G,a,S (.int H),S (.int i),S (.bool o),S (.int M)],I):=by unfold oG at c;have r1:aK b (.ab 0) 51=S .bJ:=rfl;have r2:aK z (.aE fa) 44=S .bJ:=rfl;clear w1 w t k J a3 hi a4 A p l n h hf f1 f2 e G1 D F1 f a0 d;dsimp only at q1 c p1;have d1:ct b .gt (.int M) (.int place)=S (!MW (M<=place)):=Nb S (Cu ..);generalize MW (M<=place)=a5 at *;induction o using RD<;>induction a5 using RD<;>first|exact Ng c (by decide)|(clear c;walk_at "ev")
   exact wi e1 j (yP w1)
  ·refine uP (a6 (C++[(H,i,o,M)]) (K+1) b q (S (.int H)) (S (.int i)) (S (.bool o)) (S (.int M)) a3 (by rw[Sm];exact e) (by rw[Sm];exact n) p (by rw[SY] at l;exact qm l rfl)) λr v w1 w t k=>?_;refine qv r v ?_ (by rw[TN,c,Na rfl];rw[Sm] at w;exact w) t k;have j:aW cf Ji [S (.aA 0),X,S (.int place),G,a,S (.int H),y6,y7,Y] b=.ok (.next,[S (.aA 0),X,S (.int place),G,a,S (.int H),S (.int i),S (.bool o),S (.int M)],b):=by unfold oG at c;clear w1 w t k J a3 hi a4 A p l n h hf f1 f2 e;dsimp only at q1 c;have d1:ct b .gt (.int M) (.int place)=S (!MW (M<=place)):=Nb S (Cu ..);generalize MW (M<=place)=a5 at *;induction o using RD<;>induction a5 using RD<;>first|exact Ng c (by decide)|(clear c;walk_at "ev")
   exact wi e1 j (yP w1)
noncomputable abbrev HK:dR:=.cons (.ifs (.and (.cmp .eq (.sub (.var 2) (.int 0)) (.str 47)) (.cmp .in (.attr (.sub (.var 2) (.int 1)) 23) (.attr (.var 0) 30))) (.cons (.qs [3,4,5] (.sub (.attr (.var 0) 30) (.attr (.sub (.var 2) (.int 1)) 23))) (.cons (.et (.attr (.var 0) 30) (.attr (.sub (.var 2) (.int 1)) 23) (.tup (.cons (.bin .mul (.gi 40 16) (.sub (.var 2) (.int 2))) (.cons (.var 4) (.cons (.var 5) .nil))))) .nil)) .nil) .nil
theorem EN(B:(cq o j).isSome=MK){P:p9}:(ey o P j).length=j.length:=p8 B
theorem zh{cf:CF}{un:Z}{f:V Bd}{bd:Z->Bd}{cs:Z->Ct}(a9:∀a7∈f,¬eU l a7 (.D 0))(I:Jo)(X:O Q):∀(y:Jo) (K:Z) (b:AH) (p:V (Z×p9)) (y2 D c s:O Q),I.drop K=y->GM b d g m p->b.L[un]? = S (I.map (enc bd))->(∀a7∈f,MB b l a7 (cs a7.num))->(∀L∈y,bd L.1∈f/\∀x,L.2=.most x->x=2)->
  ∃r v a0,cg (λY E T b=>aW cf HK (T.set 2 (S E)) b) (.lL un) (y.length+1) K [S (.aA 0),X,y2,D,c,s] b=.ok (.next,v,r)/\GM r d g m a0/\a0.map ru=p.map ru/\Fr (λU=>U=.D 0) b r:=by
 intro y;induction y with
 |nil=>
  intro K b p y2 D c s J C hL A e;refine zF b [S (.aA 0),X,y2,D,c,s] p ?_ C rfl Fr.refl;have:Src.at (.lL un) K b=S N:=by show(b.L[un]?).map _=_;refine R hL ?_;show S ((I.map (enc bd))[K]?)=_;refine R RJ ?_;exact R (Co J) rfl
  exact Ef this
 |cons i y b9=>
  obtain⟨q,a3⟩:=i
  intro K b p y2 D c s J C hL A e
  have hi:=Cp J
  have a5:=Cq J
  have e1:Src.at (.lL un) K b=S (S (aV (bd q) a3)):=by show(b.L[un]?).map _=_;refine R hL ?_;show S ((I.map (enc bd))[K]?)=_;refine R RJ ?_;exact R hi rfl
  refine bM (e _ (.head _)) λhb G=>?_
  dsimp only at hb G
  refine LL (P:=∃H,aR b (aV (bd q) a3) (.int 0)=S (.str H)/\(H==47)=MS) (λB=>?_) λa4=>?_
  ·refine hF λa=>aM B λH q0 q1=>CR (b9 (K+1) b p (S (aV (bd q) a3)) D c s a5 C hL A (λL B=>e L (.tail _ B))) λr v a0 w1 w t k=>a (zF r v a0 ?_ w t k);have j:aW cf HK [S (.aA 0),X,S (aV (bd q) a3),D,c,s] b=.ok (.next,[S (.aA 0),X,S (aV (bd q) a3),D,c,s],b):=by walk_at "ev"
   exact wi e1 j (yP w1)
  induction a3 using Un.casesOn with
  |item a6 c4=>exact a4 (ba 45 rfl rfl)
  |acc a6=>exact a4 (ba 16 rfl rfl)
  |ent c7 c4=>induction c4 using Rx<;>exact a4 (ba 49 rfl rfl)
  |drop c7 E ks=>exact a4 (ba 52 rfl rfl)
  |most a6=>
   clear a4;obtain rfl:=G a6 rfl;refine fM (gN (A _ hb)) λY Y b3=>?_;have a1:∀cf,aG cf b (bv (bd q)) 23=.ok (.int (bd q).num,b):=λcf=>aS b3;have a2:∀cf,aG cf b (.aA 0) 30=.ok (.ab 0,b):=λcf=>C.at rfl;have q0:aR b (aV (bd q) (.most 2)) (.int 0)=S (.str 47):=rfl;have q1:aR b (aV (bd q) (.most 2)) (.int 1)=S (bv (bd q)):=rfl;have q2:aR b (aV (bd q) (.most 2)) (.int 2)=S (.int 2):=rfl;have n:bZ .mul (.int 16) (.int 2)=S (.int 32):=rfl;have c6:ct b .in (.int (bd q).num) (.ab 0)=S (cq (bd q).num p).isSome:=by refine(oL C.m).trans ?_;show(eG (kI (bd q).num) (p.map lH)).map (·.isSome)=_;refine R (gh mJ rfl) ?_;show S ((oE (bd q).num p).isSome)=_;rw[qd]
   refine kF (cq (bd q).num p) (λhg=>?_) (λa6 hg=>?_)
   ·refine CR (b9 (K+1) b p (S (aV (bd q) (.most 2))) D c s a5 C hL A (λL B=>e L (.tail _ B))) λr v a0 w1 w t k=>zF r v a0 ?_ w t k;replace c6:=hg▸c6;unfold VD at c6;have j:aW cf HK [S (.aA 0),X,S (aV (bd q) (.most 2)),D,c,s] b=.ok (.next,[S (.aA 0),X,S (aV (bd q) (.most 2)),D,c,s],b):=by clear w1 w t k J a5 hi hL A e hb G C a9 hg b3;walk_at "ev"
    exact wi e1 j (yP w1)
   ·obtain⟨cc,o,M⟩:=a6;have q3:=zg C.m hg;have h:=C.ml;have s1:=tb C.m (k:=(bd q).num) (i:=32) (g:=o) (l:=M) (n1 h rfl);have G1:=C.wD (md':=ey (bd q).num (32,o,M) p) (by refine R (EN (by refine R hg ?_;rfl)) ?_;exact h);have F1:Fr (λU=>U=.D 0) b (wD b 0 ((ey (bd q).num (32,o,M) p).map lH)):=Fr.wD rfl;have a8:(wD b 0 ((ey (bd q).num (32,o,M) p).map lH)).L[un]? = S (I.map (enc bd)):=hL;have c1:∀c2∈f,MB (wD b 0 ((ey (bd q).num (32,o,M) p).map lH)) l c2 (cs c2.num):=λc2 c3=>(A _ c3).fr F1 λU hz (H:U=.D 0)=>a9 _ c3 (H▸hz);generalize wD b 0 ((ey (bd q).num (32,o,M) p).map lH)=z at s1 G1 F1 a8 c1;refine CR (b9 (K+1) z (ey (bd q).num (32,o,M) p) (S (aV (bd q) (.most 2))) (S (.int cc)) (S (.bool o)) (S (.int M)) a5 G1 a8 c1 (λL B=>e L (.tail _ B))) λr v a0 w1 w t k=>zF r v a0 ?_ w (t.trans (zf hg)) (F1.trans k);replace c6:=hg▸c6;unfold VD at c6;have j:aW cf HK [S (.aA 0),X,S (aV (bd q) (.most 2)),D,c,s] b=.ok (.next,[S (.aA 0),X,S (aV (bd q) (.most 2)),S (.int cc),S (.bool o),S (.int M)],z):=by clear w1 w t k J a5 hi hL A e hb G C a9 hg b3 G1 F1 a8 c1 h;dsimp only at q3;walk_at "ev"
    exact wi e1 j (yP w1)
theorem EO{n:V Q}{m:Z}{c:Z}{es:Z->Z}{i:V Bd}{bd:Z->Bd}{cs:Z->Ct}(C:GM a d g n j)(v:1<=m)(H:∀M∈i,¬eU es M (.D 0))(I:Jo)(y:I.length<500)(p:a.L[c]? = S (I.map (enc bd)))(A:∀M∈i,MB a es M (cs M.num))(z:∀q∈I,bd q.1∈i/\∀m,q.2=.most m->m=2) :
  ∃r L,aC m (.fn 45) [.aA 0,.aE c] a=.ok (.none,r)/\GM r d g n L/\L.map ru=j.map ru/\Fr (λU=>U=.D 0) a r:=by
 refine aM (eE v) λo bG D=>R bG (CR (zh (cf:=aC o) H I (S (.aE c)) I 0 a j N N N N rfl C p A z) λr B L b w t k=>?_);have h:srcOf a (.aE c)=S (.lL c,I.length):=by refine(oL p).trans ?_;refine(Na (by refine R (Ry ..) ?_;exact Nm (n1 y rfl))).trans ?_;rw[Ry]
 refine qv r L ?_ w t k;have s:=ip (cf:=aC o) (x:=2) (e:=.var 1) (l:=[S (.aA 0),S (.aE c),N,N,N,N]) (show aO _ _ _ a=.ok (.aE c,a) from rfl) h b;refine(aN (f:=Jw) [S (.aA 0),S (.aE c),N,N,N,N] rfl rfl).trans ?_;exact(bL (aX s)).trans rfl
theorem zi{w:V Q}{P:Z}:cut w N (S (P:ML))=w.take P:=by show V.drop 0 (V.take (TQ P) w)=_;refine V.drop_zero.trans ?_;refine R (T1 ..) rfl
theorem Bu{lo d:O Q}{T B:O ML}(p:oK lo=S T)(G:oK d=S B):dP a (.aE n) lo d=(a.L[n]?).bind λw=>if sm w.length then S (.aE a.L.length,{a with L:=a.L++[cut w T B]}) else N:=by unfold dP;refine R p (R G rfl)
theorem rx{place:Z}(s:place<1000):oK (S (.int place))=S (S (place:ML)):=by unfold oK;exact Na ⟨by exact RP _,TR (show(place:ML)<1000 by exact RT.mpr s) (by decide)⟩
theorem Cv{place:Z}{w:V Q}(B:a.L[n]? = S w)(l:w.length<1000)(s:place<1000):dP a (.aE n) N (S (.int place))=S (.aE a.L.length,aL a (w.take place)):=by refine(Bu (lo:=N) rfl (rx s)).trans ((oL B).trans ?_);exact(Na (show sm w.length=MK from Nm l)).trans rfl
theorem L5{U:AH}{g:Z}{L:ML}{t l1 P:Q}{r:Q×AH}{a:Loc}(c:∀f,aG f p (.aA 0) 25=.ok (.aE g,p))(I:dP p (.aE g) N (S P)=S r)(b:dH r.2 (.aA 0) 25 r.1=S U):cQ f (aH jL.body 4) (S (.aA 0) :: S (.int L) :: S P :: S t :: S l1 :: a) p=.ok (.next,S (.aA 0) :: S (.int L) :: S P :: S t :: S l1 :: a,U):=by dsimp only[jL,aH];walk_at "ev"
theorem Bv{C:LE}{M:dR}{R:Res (Fl×Loc×AH)}(B:gK (λe a=>(aO f C e a).bind λy=>match truthy y.1 with|some n=>.ok (n,y.2)|none=>.bad) (λe a=>aW f M e a) 100 e a=R):cQ f (.zy C M) e a=R:=wC.trans B
theorem Jj:(j.map lH).map (·.1)=(j.map (·.1)).map kI:=by exact SW.trans (R SW rfl)
theorem EP{a:Z}{g D:AH}{X e G:O Q}{l:Loc}(r:aK g (.aA 0) 56=S (.own 45))(B:aC o (.fn 45) [.aA 0,.aE a] g=.ok (.none,D)):cQ (aC o) (aH jL.body 7) (S (.aA 0) :: X :: e :: G :: S (.aE a) :: l) g=.ok (.next,S (.aA 0) :: X :: e :: G :: S (.aE a) :: l,D):=by dsimp only[jL,aH];walk_at "ev"
theorem ER{D b:AH}{X e a:O Q}{t:Sv}{l:Loc}(s:∀c,aG c D (eD t) 29=.ok (.int t.used,D))(w:dH D (.aA 0) 29 (.int t.used)=S b):cQ (aC o) (aH jL.body 8) (S (.aA 0) :: X :: e :: S (eD t) :: a :: l) D=.ok (.next,S (.aA 0) :: X :: e :: S (eD t) :: a :: l,b):=by dsimp only[jL,aH];walk_at "ev"
theorem ET{X:Ad->Prop}{m:Z}{place:Z}{q:ML}{bs:V Bd}{b:Z->Bd}{cs:Z->Ct}(hm:3<=m){pre suf:Jo}{s:Sv}(C:GM a d g (((pre++suf).map (enc b)).reverse) j)(hp:fy q g=S place)(hs:g[place]? = S s)(a4:s.many=suf.length)(hX:∀U,Gl U\/U=.L d.ks->X U)(a7:∀M∈bs,∀b'∈bs,M.num=b'.num->M=b')
  (A:∀M∈bs,MB a l M (cs M.num)) (h:∀M∈bs,zd (cs M.num)) (T:Sep X l bs) (hh:∀U,X U->has a U) (hq:∀a3∈pre,b a3.1∈bs/\(b a3.1).num=a3.1) (a5:∀a3∈pre,∀m,a3.2=.most m->m=2) (ok:qq (λa2=>(b a2).k) cs pre) (nd:(j.map (·.1)).Nodup) (p:pre.length<98) :
  ∃H' E b9 a0 d9 d7,aC m (.fn 44) [.aA 0,.int q] a=.ok (d7,H')/\GM H' {d with ks:=a0,fr:=d9,u:=s.used} (g.take place) ((suf.map (enc b)).reverse) b9/\b9.map ru=(j.filter (oG place)).map ru/\
   (∀M∈bs,MB H' E M (kN cs pre M.num))/\(∀M∈bs,zd (kN cs pre M.num))/\Sep (λU=>X U\/U=.L a0) E bs/\(∀U,X U->has H' U)/\¬has a (.L a0)/\Fr (λU=>¬X U\/Gl U) a H':=by
 refine aM (eE hm) λa2 bG n=>R bG ?_;have hJ:pre.length+suf.length<99:=by have:=C.jl;rw[Sq,Ry,RE] at this;exact this
 have e1:=th (q:=q) (m:=a2) C n;rw[hp] at e1;have r1:aK a (.aA 0) 55=S (.own 42):=C.rc rfl;have a1:∀e,aG e a (.aA 0) 25=.ok (.aE d.ks,a):=λe=>C.at rfl;have pl:=(RF.mp hs).1;have sl:=C.sl;have q1:aR a (.aE d.ks) (.int place)=S (eD s):=by show(a.L[d.ks]?).bind _=_;refine(oL C.s).trans ?_;show(Mine.Lake.place place (g.map eD).length).bind _=_;refine(oL (show Mine.Lake.place place (g.map eD).length=S place by refine(Na (RP _)).trans ?_;refine(Na (by refine R (Ry ..) ?_;exact⟨RT.mpr pl,S4.mpr (qm (RM pl sl) rfl)⟩)).trans ?_;rfl)).trans ?_;show(g.map eD)[place]? = _;refine RJ.trans ?_;exact R hs rfl
 have k0:cQ (aC a2) (aH jL.body 0) [S (.aA 0),S (.int q),N,N,N,N,N,N,N] a=.ok (.next,[S (.aA 0),S (.int q),S (.int place),N,N,N,N,N,N],a):=by dsimp only[jL,aH];clear C hX a7 A h T hh hq a5 ok nd hp hs a4;walk_at "ev"
 have k1:cQ (aC a2) (aH jL.body 1) [S (.aA 0),S (.int q),S (.int place),N,N,N,N,N,N] a=.ok (.next,[S (.aA 0),S (.int q),S (.int place),S (eD s),N,N,N,N,N],a):=by dsimp only[jL,aH];clear C hX a7 A h T hh hq a5 ok nd hp hs a4;walk_at "ev"
 have e2:=bQ C.s;refine JJ (EL (un:=a.L.length) (m:=a2) (n4 n rfl) hX s suf a4 a7 (S (.int q)) (S (.int place)) [N,N,N,N] pre (aL a []) l cs [] 100 ((Bl C).1 _) (λM w=>(A M w).fr (P:=λY=>Nw) Fr.aL λY Y=>id) h T (λU hz=>Fr.has (P:=λY=>Nw) Fr.aL id (hh U hz)) hq ok dK (λB=>RU _ (hh _ B)) (λM w hz=>by have:=(A M w).has hz;exact RU _ this) (by simp only[V.length_nil];exact p) (n1 p rfl)) λI G w1 G2 M2 y r d3 a6 F2=>?_;rw[Uh] at a6;have c8:dP I (.aE d.ks) N (S (.int place))=S (.aE I.L.length,aL I ((g.take place).map eD)):=by have:=Cv (place:=place) G2.s (R (Ry ..) (n1 sl rfl)) (qm (RM pl sl) rfl);refine this.trans ?_;rw[UX]
 have a8:=bQ a6;have c7:=λU=>Z.lt_asymm (show a.L.length<I.L.length from a8) (show I.L.length<a.L.length from U);have G3:GM (aL I ((g.take place).map eD)) d g ((suf.map (enc b)).reverse) j:=(Bl G2).1 _;have s3:dH (aL I ((g.take place).map eD)) (.aA 0) 25 (.aE I.L.length)=S (wI (aL I ((g.take place).map eD)) 0 (.Mem,cn {d with ks:=I.L.length})):=G3.dH rfl (by decide) _ rfl;have G4:GM (wI (aL I ((g.take place).map eD)) 0 (.Mem,cn {d with ks:=I.L.length})) {d with ks:=I.L.length} (g.take place) ((suf.map (enc b)).reverse) j:=⟨bY G3.i,dK,G3.j,G3.m,λU=>S6 (VL (bQ C.j) (show a.L.length<I.L.length from a8)) U,by refine R S0 ?_;exact RM (T8 ..) sl,G3.jl,G3.ml⟩;have J:Fr Gl I (wI (aL I ((g.take place).map eD)) 0 (.Mem,cn {d with ks:=I.L.length})):=Fr.aL.trans (Fr.wI (.inl rfl));have k:(wI (aL I ((g.take place).map eD)) 0 (.Mem,cn {d with ks:=I.L.length})).L[a.L.length]? = S (pre.map (enc b)):=ec a6;have k4:∀L,cQ (aC a2) (aH jL.body 4) (S (.aA 0) :: S (.int q) :: S (.int place) :: S (eD s) :: S (.aE a.L.length) :: L) I=.ok (.next,S (.aA 0) :: S (.int q) :: S (.int place) :: S (eD s) :: S (.aE a.L.length) :: L,wI (aL I ((g.take place).map eD)) 0 (.Mem,cn {d with ks:=I.L.length})):=λL=>by exact L5 (λe=>G2.at rfl) c8 s3
 have M4:∀M∈bs,MB (wI (aL I ((g.take place).map eD)) 0 (.Mem,cn {d with ks:=I.L.length})) G M (kN cs pre M.num):=λM w=>(M2 M w).fr J λU hz o=>r.x M w U hz (hX U (.inl o));have a9:∀U,X U->has (wI (aL I ((g.take place).map eD)) 0 (.Mem,cn {d with ks:=I.L.length})) U:=λU hz=>by
  by_cases o:Gl U;·exact G4.has (.inl o)
  ·exact J.has o (d3 U hz)
 have d0:has (wI (aL I ((g.take place).map eD)) 0 (.Mem,cn {d with ks:=I.L.length})) (.L I.L.length):=G4.has (.inr rfl);generalize d2:I.L.length=a0 at *;generalize wI (aL I ((g.take place).map eD)) 0 (.Mem,cn {d with ks:=a0})=H4 at *;have G5:GM (aL H4 []) {d with ks:=a0} (g.take place) ((suf.map (enc b)).reverse) j:=(Bl G4).1 _;have s5:dH (aL H4 []) (.aA 0) 57 (.aE H4.L.length)=S (wI (aL H4 []) 0 (.Mem,cn {d with ks:=a0,fr:=.aE H4.L.length})):=G5.dH rfl (by decide) _ rfl;have G6:=G5.wI (Bk:={d with ks:=a0,fr:=.aE H4.L.length}) rfl;have F6:Fr Gl H4 (wI (aL H4 []) 0 (.Mem,cn {d with ks:=a0,fr:=.aE H4.L.length})):=Fr.aL.trans (Fr.wI (.inl rfl));have c1:(wI (aL H4 []) 0 (.Mem,cn {d with ks:=a0,fr:=.aE H4.L.length})).L[H4.L.length]? = S []:=dK;have d8:(wI (aL H4 []) 0 (.Mem,cn {d with ks:=a0,fr:=.aE H4.L.length})).L[a.L.length]? = S (pre.map (enc b)):=ec k;have k5:∀L,cQ (aC a2) (aH jL.body 5) (S (.aA 0) :: S (.int q) :: S (.int place) :: S (eD s) :: S (.aE a.L.length) :: L) H4=.ok (.next,S (.aA 0) :: S (.int q) :: S (.int place) :: S (eD s) :: S (.aE a.L.length) :: L,wI (aL H4 []) 0 (.Mem,cn {d with ks:=a0,fr:=.aE H4.L.length})):=λL=>by change (match dH (aL H4 []) (.aA 0) 57 (.aE H4.L.length) with|some H'=>Res.ok (Fl.next,_,H')|none=>.bad)=_;rw[s5]
 have M6:∀M∈bs,MB (wI (aL H4 []) 0 (.Mem,cn {d with ks:=a0,fr:=.aE H4.L.length})) G M (kN cs pre M.num):=λM w=>(M4 M w).fr F6 λU hz o=>r.x M w U hz (hX U (.inl o));have d1:∀U,X U->has (wI (aL H4 []) 0 (.Mem,cn {d with ks:=a0,fr:=.aE H4.L.length})) U:=λU hz=>by
  by_cases o:Gl U;·exact G6.has (.inl o)
  ·exact F6.has o (a9 U hz)
 have c6:H4.L.length≠1:=λU=>by have:=bQ G4.j;exact Ng (U.symm▸this) (RU _)
 have d4:H4.L.length≠a0:=λU=>by have:=show a0<H4.L.length from d0;exact Ng (U.symm▸this) (RU _)
 have c2:∀M∈bs,¬eU G M (.L H4.L.length):=λM w hz=>RU _ ((M4 M w).has hz);have c9:¬X (.L H4.L.length):=λhz=>RU _ (a9 _ hz);have d6:a.L.length≠H4.L.length:=λU=>by have:=bQ k;exact Ng (U.symm▸this) (RU _)
 generalize H4.L.length=fa at *;generalize wI (aL H4 []) 0 (.Mem,cn {d with ks:=a0,fr:=.aE fa})=v at *;refine uP (Bt (place:=place) (cf:=aC a2) (μ:={d with ks:=a0,fr:=.aE fa}) rfl c6 d4 (j.map (·.1)) (S (.int q)) (S (eD s)) (S (.aE a.L.length)) j [] 0 v [] N N N N rfl G6 nd c1 (n1 (RM (R1 (T4 _)) C.ml) rfl)) λH7 l7 w7 i F7 e3=>?_;rw[Uh] at i;have n7:∀U,X U->¬(U=.L fa):=λU hz H=>c9 (H▸hz);have M7:=λM w=>(M6 M w).fr F7 λU hz o=>by
  rcases o with o|o;·exact r.x M w U hz (hX U (.inl (.inr (.inl o))))
  ·exact c2 M w (o▸hz)
 have c4:∀U,X U->has H7 U:=λU hz=>by
  by_cases o:Gl U;·exact i.has (.inl o)
  ·exact F7.has (λH=>H.elim (λH=>o (.inr (.inl H))) (n7 U hz)) (d1 U hz)
 have K:cQ (aC a2) (aH jL.body 6) [S (.aA 0),S (.int q),S (.int place),S (eD s),S (.aE a.L.length),N,N,N,N] v=.ok (.next,S (.aA 0) :: S (.int q) :: S (.int place) :: S (eD s) :: S (.aE a.L.length) :: l7,H7):=by
  have ml:=G6.ml;have b6:bB v .list [.ab 0]=S (.lst ((j.map (·.1)).map kI),v):=by show(v.D[0]?).bind _=_;refine(oL G6.m).trans ?_;show(if Mine.Lake.sm (j.map lH).length=MK then _ else N)=_;rw[Na (by rw[Ry];exact Nm (n1 ml rfl)),Jj]
  have s6:srcOf v (.lst ((j.map (·.1)).map kI))=S (.dS ((j.map (·.1)).map kI),j.length):=by show(if Mine.Lake.sm ((j.map (·.1)).map kI).length=MK then _ else N)=_;rw[Na (by rw[Ry,Ry];exact Nm (n1 ml rfl)),Ry,Ry]
  have ee:aO (aC a2) (.bq .list (.cons (.attr (.var 0) 30) .nil)) [S (.aA 0),S (.int q),S (.int place),S (eD s),S (.aE a.L.length),N,N,N,N] v=.ok (.lst ((j.map (·.1)).map kI),v):=by exact xB (Cn (y8 (x:=0) (v:=.aA 0) rfl ((λe=>G6.at rfl) _)) G') b6
  exact ip ee s6 w7
 refine uP (EO (m:=a2) (es:=G) (cs:=λa2=>kN cs pre a2) (bd:=b) i (n4 n rfl) (λM w hz=>r.x M w _ hz (hX _ (.inl (.inr (.inl rfl))))) pre (n1 p rfl) (show H7.L[a.L.length]? = S (pre.map (enc b)) from F7.L _ _ (λH=>H.elim (λH=>nomatch H) λH=>d6 (Ad.L.inj H)) d8) M7 (λa3 hp=>⟨(hq a3 hp).1,a5 a3 hp⟩)) λD c3 e8 G8 e0 z=>?_;have d5:∀U,X U->has D U:=λU hz=>by
  by_cases o:Gl U;·exact G8.has (.inl o)
  ·exact z.has (λH=>o (.inr (.inl H))) (c4 U hz)
 have s8:dH D (.aA 0) 29 (.int s.used)=S (wI D 0 (.Mem,cn {d with ks:=a0,fr:=.aE fa,u:=s.used})):=G8.dH rfl (by decide) _ rfl;have c:=G8.wI (Bk:={d with ks:=a0,fr:=.aE fa,u:=s.used}) rfl;have t:Fr Gl D (wI D 0 (.Mem,cn {d with ks:=a0,fr:=.aE fa,u:=s.used})):=Fr.wI (.inl rfl);have M9:∀M∈bs,MB (wI D 0 (.Mem,cn {d with ks:=a0,fr:=.aE fa,u:=s.used})) G M (kN cs pre M.num):=λM w=>((λM w=>(M7 M w).fr z λU hz (o:U=.D 0)=>r.x M w U hz (hX U (.inl (.inr (.inl o))))) M w).fr t λU hz o=>r.x M w U hz (hX U (.inl o));have c5:∀U,X U->has (wI D 0 (.Mem,cn {d with ks:=a0,fr:=.aE fa,u:=s.used})) U:=λU hz=>by
  by_cases o:Gl U;·exact c.has (.inl o)
  ·exact t.has o (d5 U hz)
 have hf:∀M∈bs,¬eU G M (.L a0):=λM w hz=>by have:=(M2 M w).has hz;rw[<-d2] at this;exact RU _ this
 have xD:∀U,U=.D 0->Gl U:=λU B=>.inr (.inl B);refine⟨_,G,c3,a0,.aE fa,.aE a.L.length,?_,c,e0,M9,y,⟨λM w U hz hx=>hx.elim (r.x M w U hz) λH=>hf M w (H▸hz),r.d⟩,c5,c7,?_⟩
 ·have r7:aK H7 (.aA 0) 56=S (.own 45):=i.rc rfl;have k7:cQ (aC a2) (aH jL.body 7) (S (.aA 0) :: S (.int q) :: S (.int place) :: S (eD s) :: S (.aE a.L.length) :: l7) H7=.ok (.next,S (.aA 0) :: S (.int q) :: S (.int place) :: S (eD s) :: S (.aE a.L.length) :: l7,D):=by exact EP r7 e8
  have k8:cQ (aC a2) (aH jL.body 8) (S (.aA 0) :: S (.int q) :: S (.int place) :: S (eD s) :: S (.aE a.L.length) :: l7) D=.ok (.next,S (.aA 0) :: S (.int q) :: S (.int place) :: S (eD s) :: S (.aE a.L.length) :: l7,wI D 0 (.Mem,cn {d with ks:=a0,fr:=.aE fa,u:=s.used})):=by exact ER (λe=>aS rfl) s8
  rw[aN (f:=jL) [S (.aA 0),S (.int q),N,N,N,N,N,N,N] rfl rfl];show(aW _ (.cons (aH jL.body 0) (.cons (aH jL.body 1) (.cons (aH jL.body 2) (.cons (.zy Jh Jg) (.cons (aH jL.body 4) (.cons (aH jL.body 5) (.cons (aH jL.body 6) (.cons (aH jL.body 7) (.cons (aH jL.body 8) (.cons (.ret (.var 4)) .nil)))))))))) _ a).bind _=_;rw[aX k0,aX k1,aX (show cQ (aC a2) (aH jL.body 2) [S (.aA 0),S (.int q),S (.int place),S (eD s),N,N,N,N,N] a=.ok (.next,[S (.aA 0),S (.int q),S (.int place),S (eD s),S (.aE a.L.length),N,N,N,N],aL a []) from rfl),aX (Bv w1),aX (k4 _),aX (k5 _),aX K,aX k7,aX k8];rfl
 ·refine((((((Fr.aL (v:=[])).trans F2).trans (J.mono λY=>US)).trans (F6.mono λY=>US)).trans (F7.mono λU H=>?_)).trans (z.mono λU H=>US (xD U H))).trans (t.mono λY=>US);rcases H with H|H;·exact US (xD U H)
  ·exact Vd λhz=>n7 U hz H
theorem L6{I:MO}:ct a .ne (.bool I) (.bool I)=S MS:=by show S (!(I==I))=_;exact R (Pb ..) rfl
theorem vS{g:Q->AH->Res (O Q×AH)}{t:Src}{j:V Q}{o:Q->O Q}(P:∀K,t.at K a=S j[K]?):∀(y:V Q) (K:Z),j.drop K=y->(∀r∈y,g r a=.ok (o r,a))->bP g t (y.length+1) K a=.ok (y.filterMap o,a):=by
 intro y;induction y with
 |nil=>intro K B _;exact LU ((P _).trans (Nb S (Co B)))
 |cons r y f=>intro K B x;refine(LV ((P _).trans (Nb S (Cp B))) (x r (.head _)) (f (K+1) (Cq B) λs J=>x s (.tail _ J))).trans (R TO ?_);induction(o r) using Rx<;>rfl
theorem gG{cf:CF}{elt it:LE}{ts:V Z}{cond:LO}{l:Loc}{H:AH}{v:Q}{t:Src}{j:V Q}{g:Q->O Q}(p:aO cf it l H=.ok (v,i))(G:srcOf i v=S (t,j.length))(P:∀K,t.at K i=S j[K]?)
  (x:∀r∈j,bt cf elt ts cond l r i=.ok (g r,i)):aO cf (.comp elt ts it cond) l H=.ok (.lst (j.filterMap g),i):=by refine(bL p).trans ?_;dsimp only[Res.bind];refine R G ((bL (vS P j 0 rfl x)).trans rfl)
theorem mM{j:V Q}(B:a.L[n]? = S j)(l:j.length<1000):srcOf a (.aE n)=S (.lL n,j.length)/\∀K,(Src.lL n).at K a=S j[K]?:=by
 refine⟨?_,λK=>?_⟩;·exact(oL B).trans (Na (show sm j.length=MK from Nm l))
 ·show(a.L[n]?).map _=_;exact R B rfl
theorem ry{H:AH}{xs:V Q}(l:xs.length<1000):srcOf H (.lst xs)=S (.dS xs,xs.length)/\∀K,(Src.dS xs).at K H=S xs[K]?:=⟨Na (show sm xs.length=MK from Nm l),λY=>rfl⟩
theorem vT:∀{T:V Q},(∀r∈T,eqT r r=S MK)->rG T T=S MK:=by
 intro T;induction T with
 |nil=>intro _;rfl
 |cons r T f=>intro B;show(match eqT r r,rG T T with|some r,S s=>S (r&&s)|_,_=>N)=_;refine R (B r (.head _)) ?_;exact R (f λs J=>B s (.tail _ J)) rfl
theorem mN{T:V Q}(B:∀r∈T,eqT r r=S MK):ct a .eq (.lst T) (.lst T)=S MK/\ct a .ne (.lst T) (.lst T)=S MS:=by
 have:zA a (.lst T) (.lst T)=S MK:=by exact(Na rfl).trans ((vT B))
 exact⟨this,by show(zA a (.lst T) (.lst T)).map _=_;refine R this ?_;rfl⟩
theorem vU{I:V (Z×ML)}(n:(I.map (·.1)).Nodup):∀{T:V (Z×ML)},(∀P∈T,P∈I)->iD (I.map ent) (T.map ent)=S (T.map λP=>eN P.1 P.2):=by
 intro T;induction T with
 |nil=>intro _;rfl
 |cons P T f=>
  intro B;have o:cq P.1 I=S P.2:=by
   have G:∀{x:V (Z×ML)},(x.map (·.1)).Nodup->P∈x->cq P.1 x=S P.2:=by
    intro x
    induction x with
    |nil=>intro _ B;cases B
    |cons L y d=>
     intro n B;rw[R4,RV] at n;rcases RB.mp B with rfl|B;·exact(Na rfl)
     ·exact(Nc (λD:L.1=P.1=>n.1 (D▸R2 B))).trans ((d n.2 B))
   exact G n (B P (.head _))
  show(match (cX (I.map ent) (kW P.1)).bind id,iD (I.map ent) (T.map ent) with|some E,S w=>S (E :: w)|_,_=>N)=_;refine R (gE kO rfl) ?_;refine R o ?_;exact R (f λL e=>B L (.tail _ e)) rfl
theorem ld{h:Z}{H:Q}(t:a.D[h]? = S (dy b c))(D:(cX (dy b c) H).bind id=S k):aR a (.ab h) H=S k:=rq t D
theorem He{h:Z}(B:a.B[h]? = S ll)(l:ll.length<1000):bB a .len [.eP h]=S (.int ll.length,a):=(oL B).trans (Na (Nm l))
theorem zj{m:Z}{b:Bd}{c:Ct}{o:Ct}(v:3<=m)(t:a.D[b.d]? = S (dy b o))(w:MB a l b c)(T:c.cx.length<=3):aC m (.fn 53) [.ab b.d] a=.ok (dB b c,a):=by
 refine aM (eE v) λd bG n=>?_;clear v;subst bG;refine aM (eE n) λd cm H=>?_;clear n;subst cm;have A:aR a (.ab b.d) (.str 9)=S (kS b.k):=ld t rfl;have h:aR a (.ab b.d) (.str 14)=S (bv b):=ld t rfl;have K:∀r s,aC d (.cls .Thing) [r,s,.bool MS,.int 3] a=.ok (.obj .Thing [r,s,.bool MS,.int 3],a):=λr s=>Ej H;have M:∀r s,aC d (.cls .Thing) [r,s] a=.ok (.obj .Thing [r,s,.bool MS,.int 3],a):=λr s=>yQ H;have x:∀r s U,aC d (.cls .Span) [r,s,U] a=.ok (.obj .Span [r,s,U],a):=λr s U=>Hc H;have p:gT [39,8,36] [.fn 7,.fn 8,.fn 6] (kS b.k) a=.ok (.fn (match b.k with|.row=>7|.dict=>8|.text=>6),a):=by induction b.k using Wo<;>rfl
 have i:aC (d+1) (.fn (match b.k with|.row=>7|.dict=>8|.text=>6)) [bv b] a=.ok (dB b c,a):=by
  induction J:b.k using Wo with
  |row=>
   have j:a.L[b.a]? = S (c.cx.map tI):=by unfold MB at w;rw[J] at w;exact w
   have l1:=jI j (R (Ry ..) (n2 T rfl))
   rw[Ry] at l1
   have L:∀e,aG e a (bv b) 6=.ok (.aE b.a,a):=λe=>aS (by unfold bv;exact R J rfl)
   have D:dB b c=.obj .Thing [.str 7,.obj .Span [bv b,.int 0,.int c.cx.length],.bool MS,.int 3]:=by unfold dB;rw[J]
   refine(aN (f:=f7) [S (bv b),S (.bool MS),S (.int 3)] rfl rfl).trans ?_;rw[f7];refine R D ?_
   walk_at "ev"
  |text=>
   have j:a.B[b.a]? = S c.cx:=by unfold MB at w;rw[J] at w;exact w
   have l1:=He j (n2 T rfl)
   have L:∀e,aG e a (bv b) 4=.ok (.eP b.a,a):=λe=>aS (by unfold bv;exact R J rfl)
   have D:dB b c=.obj .Thing [.str 5,.obj .Span [bv b,.int 0,.int c.cx.length],.bool MS,.int 3]:=by unfold dB;rw[J]
   refine(aN (f:=f6) [S (bv b),S (.bool MS),S (.int 3)] rfl rfl).trans ?_;rw[f6];refine R D ?_
   walk_at "ev"
  |dict=>
   have D:dB b c=.obj .Thing [.str 8,bv b,.bool MS,.int 3]:=by unfold dB;rw[J]
   refine(aN (f:=f8) [S (bv b)] rfl rfl).trans ?_;rw[f8,D]
   walk_at "ev"
 refine(aN (f:=Ii) [S (.ab b.d)] rfl rfl).trans ?_;delta Ii;have k:(match b.k with|.row=>7|.dict=>8|.text=>6:Z)<60:=by induction b.k using Wo<;>decide
 generalize (match b.k with|.row=>7|.dict=>8|.text=>6:Z)=g at *;have z:keyOf (.fn g)=S (.fn g):=Na k;walk_at "ev"
theorem mO{step:Z->AV->Loc->AH->Res (Fl×Loc×AH)}{t:Src}{j:V AV}{Q:Loc->Prop}(P:∀K,t.at K a=S j[K]?)(x:∀K r T,j[K]? = S r->Q T->∃v,step K r T a=.ok (.next,v,a)/\Q v):∀(y:V AV) (K:Z) (T:Loc),j.drop K=y->Q T->∃v,cg step t (y.length+1) K T a=.ok (.next,v,a)/\Q v:=by
 intro y;induction y with
 |nil=>intro K T B L;exact ba T (Ef ((P _).trans (Nb S (Co B)))) L
 |cons r y f=>intro K T B L;have d:=Cp B;refine aM (x K r T d L) λl1 X b=>aM (f (K+1) l1 (Cq B) b) λl2 m q=>ba l2 ?_ q;exact wi ((P _).trans (Nb S d)) X (yP m)
theorem nL{x:Z}(B:e[x]? = S (S k))(G:aR a k (.str n)=S t):aO f (.sub (.var x) (.str n)) e a=.ok (t,a):=I7 (I6 B) I9 G
theorem jJ:∀{K:Z} {t:Sv},(g.map (·.num)).Nodup->g[K]? = S t->fy t.num g=S K:=by
 induction g with
 |nil=>exact λ_ B=>nX B
 |cons a y d=>
  intro K t n B
  induction K using RX with
  |zero=>exact Na (Nb (λt=>(Sv.num t:ML)) (sX B))
  |succ K=>replace n:=RV.mp n;have B:=B;have:a.num≠t.num:=λD=>n.1 (by show a.num∈_;refine R D ?_;exact R2 (f:=λt:Sv=>t.num) (RI B));refine(Nc (λD=>this (U2.mp D))).trans ?_;exact R (d n.2 B) rfl
noncomputable abbrev EU:dR:=.cons (.ifs (.cmp .ne (.aU (.sub (.var 0) (.str 64)) 74 (.cons (.sub (.var 5) (.int 0)) (.cons (.call (.gf 53) (.cons (.var 1) .nil)) .nil))) (.and (.not (.sub (.var 1) (.str 59))) (.cmp .gt (.sub (.var 1) (.str 26)) (.var 4)))) (.cons (.ret (.qj MS)) .nil) .nil) .nil
theorem vV{kb:Z}{a0:Z}{a5:AV}{c':Ct}{ds:V Z}(C:GM a d g m j)(P:LW a kb a0 a5 ds (g.map jH))(v:4<=o)(t:a.D[b.d]? = S (dy b c'))(w:MB a l b c)(Y:c.cx.length<=3)(n:(g.map (·.num)).Nodup)(e G x s:O AV)(i:Loc) :
  ∃U z,cQ (aC o) (.iQ 4 5 (.sub (.var 0) (.str 25)) EU) (S (.ab 1) :: S (.ab b.d) :: e :: G :: x :: s :: i) a=.ok (.next,S (.ab 1) :: S (.ab b.d) :: e :: G :: U :: z :: i,a):=by refine hF λA=>?_;refine bM (mM P.s (by have:=P.sl;exact n1 this rfl)) λk s2=>?_;have a1:aR a (.ab 1) (.str 64)=S (.aA 0):=P.sub rfl;have h:aR a (.ab b.d) (.str 59)=S (.bool b.g):=ld t rfl;have L:aR a (.ab b.d) (.str 26)=S (.int b.lv):=ld t rfl;have X:=zj (m:=o) (n4 v rfl) t w Y;have r1:aK a (.aA 0) 74=S (.own 43):=C.rc rfl;obtain⟨l',D,⟨U,z,rfl⟩⟩:=mO (step:=λH E T a=>aW (aC o) EU ((T.set 4 (S (.int H))).set 5 (S E)) a) (Q:=λT=>∃U z,T=S (.ab 1) :: S (.ab b.d) :: e :: G :: U :: z :: i) s2 (λK r T y p=>by refine mQ p λU z bG=>R bG ?_;rw[RJ,Sa] at y;refine aM y λf J cm=>R cm.symm ⟨_,?_,S (.int K),S (jH f),rfl⟩;have e2:=EG (m:=o) (c':=c) C v w (jJ n J);have M:aR a (jH f) (.int 0)=S (.int f.num):=rfl;have d1:ct a .gt (.int b.lv) (.int K)=S (MW (K<b.lv)):=Nb S (Pt.mpr RT);generalize b.g=I at *;have B:ct a .ne (.bool (!MS&&MW (K<b.lv))) (.bool (MW (K<b.lv)))=S MS:=L6;induction I using RD<;>walk_at "ev") _ 0 _ rfl (wa x s rfl);exact A (wa U z (qh (v:=.aE a0) (H1:=a) (nL rfl (P.sub rfl)) k D))
theorem zk{n:Z}(w:MB a l b c)(a0:a.D[b.d]? = S (dy b c))(v:1<=n)(T:zd c)(nd:(c.en.map (·.1)).Nodup)(t G x4 x X p h i C:O Q) :
  cQ (aC n) (.ifs (.cmp .eq (.sub (.var 1) (.str 9)) (.str 39)) (.cons (.asg 3 (.comp (.attr (.var 8) 11) [8] (.attr (.var 2) 6) .no)) .nil) (.cons (.ifs (.cmp .eq (.sub (.var 1) (.str 9)) (.str 36)) (.cons (.asg 3 (.bq .list (.cons (.attr (.var 2) 4) .nil))) .nil) (.cons (.asg 3 (.comp (.tup (.cons (.attr (.var 9) 11) (.cons (.attr (.var 10) 11) .nil))) [9,10] (.aU (.var 2) 75 .nil) .no)) .nil)) .nil))
   [t,S (.ab b.d),S (bv b),G,x4,x,X,p,h,i,C] a=.ok (.next,[t,S (.ab b.d),S (bv b),S (cS b.k c),x4,x,X,p,h,i,C],a):=by
 have A:aR a (.ab b.d) (.str 9)=S (kS b.k):=ld a0 rfl;refine bM T λz m=>?_;induction J:b.k using Wo with
 |row=>
  have j:a.L[b.a]? = S (c.cx.map tI):=by unfold MB at w;rw[J] at w;exact w
  refine bM (mM j (by refine R (Ry ..) ?_;exact n2 z rfl)) λk o=>?_
  have L:∀e,aG e a (bv b) 6=.ok (.aE b.a,a):=λe=>aS (by unfold bv;exact R J rfl)
  have I:=gG (cf:=aC n) (elt:=.attr (.var 8) 11) (ts:=[8]) (cond:=.no) (l:=[t,S (.ab b.d),S (bv b),G,x4,x,X,p,h,i,C]) (g:=λE:Q=>match E with|AV.obj .Thing [_,s,_,_]=>S s|_=>N) (y8 (x:=2) rfl (L _)) k o λr hx=>by refine aM (Si.mp hx) λK d du=>R du.symm ?_;rfl
  have D:(c.cx.map tI).filterMap (λE:Q=>match E with|AV.obj .Thing [_,s,_,_]=>S s|_=>N)=c.cx.map .int:=by exact Ts.trans (R Tt.symm rfl)
  rw[D] at I
  rw[J] at A
  generalize (LE.comp (.attr (.var 8) 11) [8] (.attr (.var 2) 6) .no)=ce at *
  walk_at "ev"
 |text=>
  have j:a.B[b.a]? = S c.cx:=by unfold MB at w;rw[J] at w;exact w
  have L:∀e,aG e a (bv b) 4=.ok (.eP b.a,a):=λe=>aS (by unfold bv;rw[J];rfl)
  have M:bB a .list [.eP b.a]=S (.lst (c.cx.map .int),a):=by show(a.B[b.a]?).bind _=_;rw[j];exact Na (show sm c.cx.length=MK from Nm (n2 z rfl))
  replace A:=J▸A
  walk_at "ev"
 |dict=>
  refine aM (eE v) λH dV Y=>R dV ?_;have y:=dM J w;have L:∀e,aG e a (bv b) 0=.ok (.ab (l b.num),a):=λe=>eA J w rfl;have vv:kE a (.ab (l b.num))=.ok (.lst (c.en.map λP=>eN P.1 P.2),a):=by show(match a.D[l b.num]? with|some l=>if sm l.length then(match iD l l with|some vs=>Res.ok (Q.lst vs,a)|none=>.bad) else .bad|none=>.bad)=_;rw[y];dsimp only;rw[Na (show sm _=MK from Nm (by rw[Ry];exact n2 m rfl)),vU nd λP B=>B]
  have a5:aC (H+1) (.fn 2) [bv b] a=.ok (.lst (c.en.map λP=>eN P.1 P.2),a):=by rw[aN (f:=f2) [S (bv b),N] rfl rfl];delta f2;walk_at "ev"
  have r1:aK a (bv b) 75=S (.own 2):=by
   have j:a.I[b.a]? = S (.Dict,fu b c (l b.num)):=by unfold MB at w;replace w:=J▸w;exact w.1
   unfold bv;rw[J];show(match a.I[b.a]? with|some (c,_)=>_|none=>_)=_;rw[j];rfl
  have a2:aO (aC (H+1)) (.aU (.var 2) 75 .nil) [t,S (.ab b.d),S (bv b),G,x4,x,X,p,h,i,C] a=.ok (.lst (c.en.map λP=>eN P.1 P.2),a):=by clear w a0 y z m nd J vv L A;walk_at "ev"
  refine bM (ry (H:=a) (xs:=c.en.map λP=>eN P.1 P.2) (by rw[Ry];exact n2 m rfl)) λk o=>?_;have I:=gG (cf:=aC (H+1)) (elt:=.tup (.cons (.attr (.var 9) 11) (.cons (.attr (.var 10) 11) .nil))) (ts:=[9,10]) (cond:=.no) (g:=λE:Q=>match E with|AV.tup [Q.obj .Thing [_,s,_,_],Q.obj .Thing [_,U,_,_]]=>S (Q.tup [s,U])|_=>N) a2 k o λr hx=>by refine aM (Si.mp hx) λK d fC=>?_;clear hx d;subst fC;rfl
  have D:(c.en.map λP=>eN P.1 P.2).filterMap (λE:Q=>match E with|AV.tup [Q.obj .Thing [_,s,_,_],Q.obj .Thing [_,U,_,_]]=>S (Q.tup [s,U])|_=>N)=c.en.map λP=>.tup [wd P.1,.int P.2]:=by rw[Ts,<-Tt];rfl
  rw[D] at I;rw[J] at A;unfold kS at A;show _=Res.ok (Fl.next,[t,S (.ab b.d),S (bv b),S (.lst (c.en.map λP=>.tup [wd P.1,.int P.2])),x4,x,X,p,h,i,C],a);generalize (LE.comp (.tup (.cons (.attr (.var 9) 11) (.cons (.attr (.var 10) 11) .nil))) [9,10] (.aU (.var 2) 75 .nil) .no)=ce at *;clear w a0 y k o L z m nd D J vv a5 r1 a2;walk_at "ev"
theorem Bw{H:AH}{k:Kq}{c:Ct}:ct H .ne (cS k c) (cS k c)=S MS:=by
 have a:ct H .ne (.lst (c.cx.map .int)) (.lst (c.cx.map .int))=S MS:=(mN λr x=>by refine aM (Si.mp x) λK Y i9=>R i9.symm ?_;show S (MW (K=K))=_;refine R (Nm rfl) rfl).2;induction k using Wo with
 |row=>exact a
 |text=>exact a
 |dict=>exact(mN λr x=>by refine aM (Si.mp x) λP Y jT=>?_;clear x a;subst jT;show S ((([97+P.1]:V Z)==[97+P.1])&&(MW (P.2=P.2)&&MK))=_;refine R (Pb ..) ?_;exact R (Nm rfl) rfl).2
noncomputable abbrev EV:dR:=.cons (.asg 2 (.sub (.var 1) (.str 14))) (.cons (.ifs (.cmp .eq (.sub (.var 1) (.str 9)) (.str 39)) (.cons (.asg 3 (.comp (.attr (.var 8) 11) [8] (.attr (.var 2) 6) .no)) .nil) (.cons (.ifs (.cmp .eq (.sub (.var 1) (.str 9)) (.str 36)) (.cons (.asg 3 (.bq .list (.cons (.attr (.var 2) 4) .nil))) .nil) (.cons (.asg 3 (.comp (.tup (.cons (.attr (.var 9) 11) (.cons (.attr (.var 10) 11) .nil))) [9,10] (.aU (.var 2) 75 .nil) .no)) .nil)) .nil)) (.cons (.ifs (.or (.cmp .ne (.var 3) (.sub (.var 1) (.str 60))) (.and (.cmp .eq (.sub (.var 1) (.str 9)) (.str 8)) (.cmp .ne (.attr (.var 2) 16) (.sub (.var 1) (.str 16))))) (.cons (.ret (.qj MS)) .nil) .nil) (.cons (.iQ 4 5 (.sub (.var 0) (.str 25)) EU) .nil)))
theorem Bx{kb:Z}{a6:Z}{a0:Q}{ds:V Z}(C:GM a d g m j)(P:LW a kb a6 a0 ds (g.map jH))(v:4<=o)(t:a.D[b.d]? = S (dy b c))(w:MB a l b c)(T:zd c)(n:(g.map (·.num)).Nodup)(E:(c.en.map (·.1)).Nodup)(I G p x X q h i f:O Q) :
  ∃K D U z,aW (aC o) EV [S (.ab 1),S (.ab b.d),I,G,p,x,X,q,h,i,f] a=.ok (.next,[S (.ab 1),S (.ab b.d),K,D,U,z,X,q,h,i,f],a):=by
 refine mQ (vV C P v t w T.1 n (S (bv b)) (S (cS b.k c)) p x [X,q,h,i,f]) λU z Y=>?_;have r:=zk w t (n:=o) (n4 v rfl) T E (S (.ab 1)) G p x X q h i f;have A:aR a (.ab b.d) (.str 9)=S (kS b.k):=ld t rfl;have a2:aR a (.ab b.d) (.str 14)=S (bv b):=ld t rfl;have L:aR a (.ab b.d) (.str 60)=S (cS b.k c):=ld t rfl;have M:aR a (.ab b.d) (.str 16)=S (.int c.acc):=ld t rfl;have i1:=Bw (H:=a) (k:=b.k) (c:=c);refine⟨S (bv b),S (cS b.k c),U,z,?_⟩;refine(aX (s:=.asg 2 (.sub (.var 1) (.str 14))) (l':=[S (.ab 1),S (.ab b.d),S (bv b),G,p,x,X,q,h,i,f]) (H':=a) (by clear C P t w T n E Y r;walk_at "ev")).trans ?_;refine(aX r).trans ?_;have B:cQ (aC o) (.ifs (.or (.cmp .ne (.var 3) (.sub (.var 1) (.str 60))) (.and (.cmp .eq (.sub (.var 1) (.str 9)) (.str 8)) (.cmp .ne (.attr (.var 2) 16) (.sub (.var 1) (.str 16))))) (.cons (.ret (.qj MS)) .nil) .nil) [S (.ab 1),S (.ab b.d),S (bv b),S (cS b.k c),p,x,X,q,h,i,f] a=.ok (.next,[S (.ab 1),S (.ab b.d),S (bv b),S (cS b.k c),p,x,X,q,h,i,f],a):=by
  induction J:b.k using Wo with
  |dict=>
   have y:∀e,aG e a (bv b) 16=.ok (.int c.acc,a):=λe=>eA J w rfl
   have H:MW (c.acc=c.acc)=MK:=Nm rfl
   rw[J] at A L i1
   walk_at "ev"
  |row=>rw[J] at A L i1;clear C P t w T n E Y r J;walk_at "ev"
  |text=>rw[J] at A L i1;clear C P t w T n E Y r J;walk_at "ev"
 exact(aX B).trans ((aX Y).trans rfl)
theorem EW{b:Z}{a5:Z}{a8:AV}{bs:V Bd}{cs:Z->Ct}(v:5<=s)(C:GM a d g m j)(P:LW a b a5 a8 (bs.map (·.d)) (g.map jH))(DD:∀M∈bs,a.D[M.d]? = S (dy M (cs M.num)))(A:∀M∈bs,MB a l M (cs M.num))(h3:∀M∈bs,zd (cs M.num))(nk:∀M∈bs,((cs M.num).en.map (·.1)).Nodup)(nd:(g.map (·.num)).Nodup):aC s (.fn 57) [.ab 1] a=.ok (.bool MK,a):=by
 refine hF λa6=>aM (eE v) λa0 lP n=>?_;clear v;subst lP;refine bM (mM P.b (by refine R (Ry ..) ?_;have:=P.bl;exact n1 this rfl)) λk o=>?_;obtain⟨l',a4,⟨H,J,D,c,y5,X,x7,h,i,a2,rfl⟩⟩:=mO (step:=λε E T a=>aW (aC a0) EV (T.set 1 (S E)) a) (Q:=λT=>∃H J D c y5 X x7 h i a2,T=[S (.ab 1),H,J,D,c,y5,X,x7,h,i,a2]) o (λK r T hi ql=>by refine hF λa7=>?_;obtain⟨H,J,D,c,y5,X,x7,h,i,a2,rfl⟩:=ql;rw[SW,RJ,Sa] at hi;refine aM hi λM w iV=>?_;clear hi;subst iV;have w:=RI w;refine CS (Bx C P n (DD M w) (A M w) (h3 M w) nd (nk M w) J D c y5 X x7 h i a2) λz2 z3 U z a4=>a7 ?_;exact⟨_,a4,_,_,_,_,_,_,_,_,_,_,rfl⟩) _ 0 _ rfl ⟨N,N,N,N,N,N,N,N,N,N,rfl⟩;have a1:aR a (.ab 1) (.str 64)=S (.aA 0):=P.sub rfl;have L:aR a (.ab 1) (.str 25)=S (.aE a5):=P.sub rfl;have e0:=ip (cf:=aC a0) (x:=1) (e:=.sub (.var 0) (.str 58)) (l:=[S (.ab 1),N,N,N,N,N,N,N,N,N,N]) (v:=.aE b) (H1:=a) (nL (x:=0) rfl (P.sub rfl)) k a4;refine a6 ((aN (f:=Jx) [S (.ab 1),N,N,N,N,N,N,N,N,N,N] rfl rfl).trans ?_);show(aW _ (.cons (.di 1 (.sub (.var 0) (.str 58)) EV) (.cons (.asg 6 (.bq .len (.cons (.sub (.var 0) (.str 25)) .nil))) (.cons (.ret (.and (.cmp .eq (.sub (.aU (.sub (.var 0) (.str 64)) 73 .nil) (.int 0)) (.var 6)) (.cmp .eq (.comp (.aU (.sub (.var 0) (.str 64)) 54 (.cons (.sub (.var 7) (.int 0)) .nil)) [7] (.sub (.var 0) (.str 25)) .no) (.bq .fK (.cons (.var 6) .nil))))) .nil))) _ a).bind _=_;refine(bL (aX e0)).trans ?_;have sl:=P.sl;rw[Ry] at sl;have l1:=jI P.s (by rw[Ry];exact n1 sl rfl);rw[Ry] at l1;refine bM (mM P.s (by rw[Ry];exact n1 sl rfl)) λB t2=>?_;have r1:aK a (.aA 0) 73=S (.own 46):=C.rc rfl;have r2:aK a (.aA 0) 54=S (.own 39):=C.rc rfl;have e1:=EH (m:=a0) C (n4 n rfl);have q0:aR a (.tup [.int g.length,.int (d.u+d.ug),.int 16777216]) (.int 0)=S (.int g.length):=rfl;have I:=gG (cf:=aC a0) (elt:=.aU (.sub (.var 0) (.str 64)) 54 (.cons (.sub (.var 7) (.int 0)) .nil)) (ts:=[7]) (cond:=.no) (it:=.sub (.var 0) (.str 25)) (l:=[S (.ab 1),H,J,D,c,y5,S (.int g.length),x7,h,i,a2]) (H:=a) (v:=.aE a5) (g:=λE:AV=>match E with|AV.tup [AV.int q,_]=>S (te (fy q g))|_=>N) (nL (x:=0) rfl L) B t2 λr x=>by refine aM (Si.mp x) λt hs lR=>R lR.symm ?_;have y:aR a (jH t) (.int 0)=S (.int t.num):=rfl;have e2:=tf (m:=a0) (q:=t.num) C (n4 n rfl);show bt _ _ _ _ _ _ _=Res.ok (S (te (fy t.num g)),a);walk_at "ev"
 have Y:(g.map jH).filterMap (λE:AV=>match E with|AV.tup [AV.int q,_]=>S (te (fy q g))|_=>N)=(Th g.length).map λ(K:Z)=>AV.int K:=by rw[Ts];show g.filterMap (λt=>S (te (fy t.num g)))=_;rw[show(λt:Sv=>S (te (fy t.num g)))=S ∘ (λt=>te (fy t.num g)) from rfl,Tt];refine V.ext_getElem (by rw[Ry,Ry,VW]) λK p G=>?_;rw[Ry] at p;rw[V8,V8,V.getElem_range,jJ nd (RA p)];rfl
 rw[Y] at I;have lr:bB a .fK [.int g.length]=S (.lst ((Th g.length).map λ(K:Z)=>AV.int K),a):=Na ⟨by exact RP _,by exact RT.mpr (n1 sl rfl)⟩;have a9:ct a .eq (.lst ((Th g.length).map λ(K:Z)=>AV.int K)) (.lst ((Th g.length).map λ(K:Z)=>AV.int K))=S MK:=(mN λr x=>by refine aM (Si.mp x) λK ε lS=>R lS.symm ?_;show S (MW ((K:ML)=K))=_;rw[Nm rfl]).1;have d1:MW ((g.length:ML)=g.length)=MK:=Nm rfl;generalize LE.comp (.aU (.sub (.var 0) (.str 64)) 54 (.cons (.sub (.var 7) (.int 0)) .nil)) [7] (.sub (.var 0) (.str 25)) .no=e at *;clear C P DD A h3 nk nd k o a4 e0 B t2 Y;generalize (Th g.length).map (λ(K:Z)=>AV.int K)=rl at *;walk_at "ev"
structure Sg where
 μ:MG
 svs:V Sv
 jo:Jo
 md:V (Z×p9)
 kb:Z
 gR:Z
 gone:O Z
 bs:V Bd
 es:Z->Z
 cs:Z->Ct
 bd:Z->Bd
noncomputable def gj:O Z->Q|none=>.none|some q=>.int q
noncomputable def good(H:Kq)(C:Ct):Prop:=match H with
 |.row=>C.cx.length=3/\C.en=[]
 |.text=>C.cx.length=2/\C.en=[]
 |.dict=>C.cx=[]/\(C.en.map (·.1)).Nodup/\(∀i∈C.en.map (·.1),i<3)/\(C.most=2\/C.most=8)
structure Jk(bs:V Bd)(bd:Z->Bd)(cs:Z->Ct)(jo:Jo)(p:Z)(s:Sv):Prop where
 pf:∃rest,bs=s.kb++rest/\(∀b∈s.kb,b.g=MS->b.lv<=p)/\∀b∈rest,b.g=MS->p<b.lv
 sp:∃pre suf,jo=pre++suf/\s.many=suf.length/\(∀b∈s.kb,b.g=MS->b.k≠.text->kN cs pre b.num=s.kc b.num)/\∀q∈suf,bd q.1∈s.kb/\(bd q.1).lv<p
 gk:∀b∈s.kb,good b.k (s.kc b.num)
structure Pu(svs:V Sv)(jo:Jo)(bs:V Bd)(cs:Z->Ct)(bd:Z->Bd):Prop where
 nn:(bs.map (·.num)).Nodup
 zK:∀b∈bs,bd b.num=b
 gd:∀b∈bs,good b.k (cs b.num)
 lv:∀b∈bs,b.g=MS->b.lv<=svs.length
 jk:∀q∈jo,bd q.1∈bs/\(bd q.1).num=q.1/\(bd q.1).g=MS/\(bd q.1).lv<svs.length
 By:qq (λn=>(bd n).k) cs jo
 sv:∀p s,svs[p]? = S s->Jk bs bd cs jo p s
 mm:∀(p q:Z) (s t:Sv),p<=q->svs[p]? = S s->svs[q]? = S t->s.many<=t.many
theorem L7(q:Z):∀T:V Z,T.Nodup->(∀i∈T,i<q)->T.length<=q:=by
 induction q with
 |zero=>
  intro T _ B
  induction T using RC with
  |nil=>exact Sb _
  |cons r y=>exact Ng (B r (.head _)) (UC _)
 |succ q d=>
  intro T n B;have L:=d (T.erase q) (n.erase q) λi M=>
   have h:=(V.Nodup.mem_erase_iff n).mp M
   Z.lt_of_le_of_ne (TZ (B i h.2)) h.1
  refine RG ?_ (TB L);refine R V.length_erase ?_;split;·exact JD
  ·exact Sn _
theorem Jl{l:V Z}(n:l.Nodup)(B:∀i∈l,i<3):l.length<=3:=L7 3 l n B
theorem hW{H:Kq}(B:good H c):zd c/\(c.en.map (·.1)).Nodup:=by
 induction H using Wo with
 |row=>exact⟨⟨by refine R B.1 ?_;exact Sb _,by rw[B.2];exact Vo _⟩,by rw[B.2];exact TK⟩
 |text=>exact⟨⟨by refine R B.1 ?_;decide,by rw[B.2];exact Vo _⟩,by rw[B.2];exact TK⟩
 |dict=>exact⟨⟨by refine R B.1 ?_;exact Vo _,by have:=Jl B.2.1 B.2.2.1;rw[Ry] at this;exact this⟩,B.2.1⟩
theorem jK{a:V Bd}(b:(a.map (·.num)).Nodup):∀M∈a,∀G∈a,M.num=G.num->M=G:=by
 induction a with
 |nil=>intro M B;cases B
 |cons r y d=>
  rw[R4,RV] at b;intro M w G l D;rcases RB.mp w with rfl|p
  ·rcases RB.mp l with rfl|l;·rfl
   ·exact Ng (R2 (f:=λM:Bd=>M.num) l) (R D.symm b.1)
  ·rcases RB.mp l with rfl|l;·exact Ng (R2 (f:=λM:Bd=>M.num) p) (R D b.1)
   ·exact d b.2 M p G l D
theorem zl{z:Z->Kq}:∀{j:Jo} {a:Z->Ct},qq z a j->∀L∈j,∀x,L.2=.most x->x=2:=by
 intro j;induction j with
 |nil=>intro _ _ L B;cases B
 |cons i y f=>
  obtain⟨q,c⟩:=i;intro a H L B;rcases RB.mp B with rfl|B;·intro x D;have:=H.1;subst D;exact this.2
  ·exact f H.2 L B
theorem Pu.cw{j:Jo}{f:V Bd}{a:Z->Ct}{n:Z->Bd}{o:Ct}{c:Un}(B:Pu g j f a n)(w:b∈f)(x:b.g=MS)(l:b.lv<g.length)(k:gQ c o=a b.num)(z:yJ b.k c o)(d:good b.k o):Pu g ((b.num,c) :: j) f (upd a b.num o) n:=by
 have cut:∀i,kN (upd a b.num o) ((b.num,c) :: i)=kN a i:=λi=>by show kN (upd (upd a b.num o) b.num (gQ c (upd a b.num o b.num))) i=_;refine R bE ?_;refine R k ?_;rw[rm]
 refine⟨B.nn,B.zK,λv K=>?_,B.lv,λL e=>?_,?_,λr t P=>?_,B.mm⟩
 ·by_cases D:v.num=b.num;·obtain rfl:=jK B.nn _ K _ w D;exact R bE d
  ·exact R (cG D) (B.gd _ K)
 ·rcases RB.mp e with rfl|e;·exact R (B.zK _ w) (qy w rfl x l)
  ·exact B.jk _ e
 ·show yJ (n b.num).k c (upd a b.num o b.num)/\qq _ (upd (upd a b.num o) b.num (gQ c (upd a b.num o b.num))) j;refine R bE ?_;refine R k ?_;refine R rm ?_;refine R (B.zK _ w) ?_;exact⟨z,B.By⟩
 ·refine hF λh=>?_;obtain⟨q,⟨i,p,D,m,s,Y⟩,A⟩:=B.sv r t P;refine h ?_;exact⟨q,(qv ((b.num,c) :: i) p (R D rfl) m (λv K T X=>by exact R (cut ..) (s v K T X)) Y),A⟩
theorem Pu.plain{j:Jo}{E:V Bd}{a:Z->Ct}{x:Z->Bd}{M:Ct}(B:Pu g j E a x)(w:b∈E)(o:b.g=MK\/b.k=.text\/g.length<=b.lv)(d:good b.k M):Pu g j E (upd a b.num M) x:=by
 have l:∀L∈j,L.1≠b.num:=λL e D=>by
  refine qo (B.jk L e) λk1 i k z=>?_;have:=B.zK _ w;rw[D,this] at k z;rcases o with o|o|o;·replace k:=o.symm.trans k;cases k
  ·have G:∀{j:Jo} {a:Z->Ct},qq (λq=>(x q).k) a j->∀L∈j,(x L.1).k≠.text:=by
    intro j
    induction j with
    |nil=>intro _ _ L B;cases B
    |cons r y ih=>
     obtain⟨q,c⟩:=r;intro a H L e D;rcases RB.mp e with rfl|e;·have:=H.1;simp only[D] at this;induction c using Un.casesOn<;>first|exact nomatch this.1|exact nomatch this
     ·exact ih H.2 L e D
   exact G B.By L e (R D (R this o))
  ·exact Ng z (Ti.mpr o)
 refine⟨B.nn,B.zK,λv K=>?_,B.lv,B.jk,uz l B.By,λJ t P=>?_,B.mm⟩
 ·by_cases D:v.num=b.num;·obtain rfl:=jK B.nn _ K _ w D;exact R bE d
  ·exact R (cG D) (B.gd _ K)
 ·refine hF λn=>?_;obtain⟨⟨I,f,h,C⟩,⟨a0,p,D,m,s,Y⟩,A⟩:=B.sv J t P;refine n ⟨(jM I f h C),(qv a0 p D m (λv K T X=>?_) Y),A⟩;refine R (uy (λL e=>l L (D▸RK _ e))) ?_;have:v.num≠b.num:=λU=>by
   have:=jK B.nn _ (f▸RK _ K) _ w U;clear D U l B w d I f C;subst this;rcases o with o|o|o;·replace T:=o.symm.trans T;cases T
   ·exact X o
   ·exact RU _ (RQ (RF.mp P).1 (RG o (h _ K T)))
  exact(cG this).trans (s v K T X)
theorem Pu.new{j:Jo}{f:V Bd}{a:Z->Ct}{c:Z->Bd}{I:Ct}(B:Pu g j f a c)(n:b.num∉f.map (·.num))(E:b.g=MS->b.lv=g.length)(d:good b.k I):Pu g j (f++[b]) (upd a b.num I) (upd c b.num b):=by
 have m:∀v∈f,v.num≠b.num:=λv K D=>n (D▸R2 K);have l:=λL e D=>by exact fM (B.jk L e) λk1 i ε=>m _ k1 (i.trans D)
 have k:∀{j:Jo} {a:Z->Ct},(∀L∈j,L.1≠b.num)->qq (λq=>(c q).k) a j->qq (λq=>(upd c b.num b q).k) a j:=by
  intro j
  induction j with
  |nil=>intros;trivial
  |cons r y ih=>intro a e H;exact⟨by show yJ (upd c b.num b r.1).k _ _;refine R (cG (e _ (.head _))) ?_;exact H.1,ih (λL B=>e L (.tail _ B)) H.2⟩
 refine⟨?_,λv K=>?_,λv K=>?_,λv K o=>?_,λL e=>?_,k l (uz l B.By),λG t P=>?_,B.mm⟩;·refine R R7 ?_;rw[Sl];refine fB B.nn (M5 rfl) (λr x a1 J D=>?_);rw[UT,Rw] at J;exact n (J▸D▸x)
 ·rcases RL.mp K with K|K;·exact(cG (m _ K)).trans (B.zK _ K)
  ·rw[Rw] at K;exact R K bE
 ·rcases RL.mp K with K|K;·exact R (cG (m _ K)) (B.gd _ K)
  ·rw[Rw] at K;exact R K (R bE d)
 ·rcases RL.mp K with K|K;·exact B.lv _ K o
  ·rw[Rw] at K;subst K;exact R1 (E o)
 ·exact R (cG (l L e)) (bM (B.jk L e) λk1 i=>⟨RK _ k1,i⟩)
 ·refine hF λw=>?_;clear k n d;obtain⟨⟨a0,z,h,C⟩,⟨U,p,D,M,s,Y⟩,A⟩:=B.sv G t P;refine w ?_;refine⟨(jM (a0++[b]) (by refine R z ?_;exact(Sm ..)) h (λv K o=>?_)),(qv U p D M (λv K T X=>?_) (λL e=>?_)),A⟩
  ·rcases RL.mp K with K|K;·exact C _ K o
   ·rw[Rw] at K;subst K;exact R (E o) (((RF.mp P).1))
  ·refine R (uy (λL e=>l L (D▸RK _ e))) ?_;refine(cG (m _ (z▸RK _ K))).trans ?_;exact s v K T X
  ·exact R (cG (l L (D▸RO _ e))) (Y L e)
theorem Pu.save{j:Jo}{f:V Bd}{a:Z->Ct}{q:Z->Bd}(B:Pu g j f a q){t:Sv}(v:t.many=j.length)(J:t.kb=f)(c:t.kc=a):Pu (g++[t]) j f a q:=by
 refine⟨B.nn,B.zK,B.gd,λM w o=>by refine R RE ?_;exact SM (B.lv M w o),λL e=>?_,B.By,λP n h=>?_,λP L n X l h b=>?_⟩;·refine qo (B.jk L e) λk1 i k z=>?_;exact qy k1 i k (R RE (U3 z))
 ·by_cases s:P<g.length;·rw[Tc s] at h;exact B.sv P n h
  ·have:P=g.length:=by
    have:=(RF.mp h).1;rw[RE] at this;exact Vf (TZ this) (Z.le_of_not_lt s)
   subst this
   rw[Tn (Sb _),VP] at h
   refine sJ h ?_
   refine⟨(jM [] (by refine R J ?_;refine R (Sx ..) rfl) (λM w o=>B.lv M (J▸w) o) (λM w=>nomatch w)),(qv [] j rfl v (λM w Y Y=>by refine R c ?_;rfl) (λL e=>?_)),λM w=>by refine R c ?_;exact B.gd M (J▸w)⟩
   exact qo (B.jk L e) λk1 i k z=>⟨J▸k1,z⟩
 ·have D:∀{L:Z} {n:Sv},(g++[t])[L]? = S n->n.many<=j.length:=λ{L n} h=>by
   by_cases s:L<g.length
   ·rw[Tc s] at h;refine hF λd=>?_;obtain⟨_,⟨r,p,D,m,_⟩,_⟩:=B.sv L n h;refine d ?_;exact R m (R D (R RE (SQ _ _)))
   ·replace h:=(Tn (Ti.mp s))▸h
    induction e:L - g.length using RX with
    |zero=>replace h:=e▸h;exact sJ h (R1 v)
    |succ H=>rw[e] at h;exact nX h
  by_cases e:L<g.length
  ·rw[Tc e] at b;rw[Tc (RM l e)] at h;exact B.mm P L n X l h b
  ·rw[Tn (Ti.mp e)] at b
   induction J:L - g.length using RX with
   |zero=>rw[J] at b;cases b;exact R v (D h)
   |succ H=>rw[J] at b;simp at b
theorem Pu.restore{jo:Jo}{f:V Bd}{cs:Z->Ct}{bd:Z->Bd}(B:Pu g jo f cs bd){place:Z}{t:Sv}(hs:g[place]? = S t){a p:Jo}(E:jo=a++p)(d:t.many=p.length)(gd:∀M∈f,M.g=MK\/M.lv<=place->good M.k (kN cs a M.num)) :
  Pu (g.take place) p (f.filter λM=>M.g||MW (M.lv<=place)) (kN cs a) bd:=by
 refine hF λk=>?_;have i:∀M,M∈f.filter (λM=>M.g||MW (M.lv<=place))->M∈f/\(M.g=MK\/M.lv<=place):=λM w=>by refine bM (TY.mp w) λk1 k2=>⟨k1,?_⟩;rw[Vk,OS] at k2;exact k2
 have T:(g.take place).length=place:=by exact S0.trans (Vg (Tf ((RF.mp hs).1)))
 refine hF λH=>?_;obtain⟨⟨a9,pf,c1,b9⟩,⟨a6,a4,D,e2,e3,Y⟩,A⟩:=B.sv place t hs;obtain⟨rfl,rfl⟩:a=a6/\p=a4:=by have:=E.symm.trans D;exact(V.append_inj' this (d.symm.trans e2))
 have tk:∀{P:Z} {n:Sv},(g.take place)[P]? = S n->g[P]? = S n/\P<place:=λ{P n} h=>by have:=(RF.mp h).1;rw[T] at this;rw[Ul this] at h;exact⟨h,this⟩
 refine H (k ⟨B.nn.sublist (UM.map _),λM w=>B.zK M (i M w).1,λM w=>gd M (i M w).1 (i M w).2,λM w o=>?_,λL e=>?_,(pZ.mp (E▸B.By)).2,λP n h=>?_,λP L n X l h a2=>B.mm P L n X l (tk h).1 (tk a2).1⟩)
 ·refine R T ?_;rcases(i M w).2 with U|U;·replace U:=o.symm.trans U;cases U
  ·exact U
 ·refine qo (B.jk L (E▸RO _ e)) λk1 k2 k3 z=>?_;have k5:=(Y L e).2;exact qy (TY.mpr ⟨k1,by refine R (Vk ..) ?_;refine R OS ?_;exact .inr (Tf k5)⟩) k2 k3 (R T k5)
 ·refine bM (tk h) λh s=>hF λa8=>?_;obtain⟨⟨a5,y,q,C⟩,⟨a1,c,K,x,r3,r4⟩,a7⟩:=B.sv P n h;have a0:=B.mm P place n t (Tf s) h hs;rw[d,x] at a0;have a3:∃m,p=m++c/\a1=a++m:=by
   have r:=E.symm.trans K;refine hF λj=>?_;have hl:a.length<=a1.length:=by have:=Nb Uu r;rw[RE,RE] at this;exact Z.le_of_add_le_add_right (RG (Tz a0 _) (R1 this))
   rw[U9] at r;rcases r with⟨I,J,b⟩|⟨I,J,b⟩;·exact j (ba I b J)
   ·have:I=[]:=by
     exact UI (o4 hl ((Nb Uu J).trans RE))
    subst this
    refine j ?_
    exact ba [] (by rw[Uh] at b;exact b.symm) (by rw[Sx] at J⊢;exact J.symm)
  refine aM a3 λm m1 v=>a8 ⟨(jM (a5.filter λM=>M.g||MW (M.lv<=place)) ?_ q (λM w=>C M (TY.mp w).1)),(qv m c m1 x (λM w h1 G=>?_) r4),a7⟩
  ·refine R y ((VQ ..).trans ?_)
   congr 1
   refine UK.mpr λM w=>?_
   induction o:M.g using RD with
   |true=>rfl
   |false=>refine(VE ..).trans ?_;refine R OS ?_;have:=q M w o;exact Tf (RM this s)
  ·exact R Bh.symm (R v.symm (r3 M w h1 G))
noncomputable def Xs(h:Sg):Ad->Prop:=λU=>Gl U\/U=.L h.μ.ks\/U=.L h.kb\/U=.L h.gR\/U=.D 1\/∃M∈h.bs,U=.D M.d
structure In(N:Z)(H:AH)(σ:Sg):Prop where
 g:σ.μ.g=MS
 G:GM H σ.μ σ.svs ((σ.jo.map (enc σ.bd)).reverse) σ.md
 W:LW H σ.kb σ.gR (gj σ.gone) (σ.bs.map (·.d)) (σ.svs.map jH)
 MM:∀b∈σ.bs,MB H σ.es b (σ.cs b.num)
 DD:∀b∈σ.bs,H.D[b.d]? = some (dy b (σ.cs b.num))
 S:Sep (Xs σ) σ.es σ.bs
 k1:σ.μ.ks≠σ.kb
 k2:σ.μ.ks≠σ.gR
 d0:∀b∈σ.bs,b.d≠0
 d1:∀b∈σ.bs,b.d≠1
 dj:∀b∈σ.bs,∀b'∈σ.bs,b.d=b'.d->b=b'
 P:Pu σ.svs σ.jo σ.bs σ.cs σ.bd
 md:σ.md.map ru=σ.bs.map λb=>(b.num,b.g,b.lv)
 nl:∀b∈σ.bs,b.num<=σ.μ.lb
 sn:(σ.svs.map (·.num)).Nodup
 sl:∀s∈σ.svs,s.num<=σ.μ.ls
 go:∀n,σ.gone=some n->n∉σ.svs.map (·.num)/\n<=σ.μ.ls
 z1:σ.svs.length<=N
 z2:σ.jo.length<=2*N
 z3:σ.bs.length<=N
 z4:σ.μ.u<=200*N
 z5:σ.μ.ug<=200*N
 z6:∀s∈σ.svs,s.used<=200*N
theorem In.has{o:Z}{h:Sg}(k:In o a h){z:Ad}(B:Xs h z):has a z:=by
 rcases B with B|B|rfl|rfl|rfl|⟨M,w,rfl⟩;·exact k.G.has (.inl B)
 ·exact k.G.has (.inr B)
 ·exact bQ k.W.b
 ·exact bQ k.W.s
 ·exact bQ k.W.w
 ·exact bQ (k.DD M w)
theorem qi{f:V Bd}(B:j.map ru=f.map λM=>(M.num,M.g,M.lv)):j.map (·.1)=f.map (·.num):=by have:=Nb (V.map NT.fst) B;rw[SW,SW] at this;exact this
theorem In.so{o:Z}{m:Z}{h:Sg}(k:In o a h)(v:5<=m):aC m (.fn 57) [.ab 1] a=.ok (.bool MK,a):=EW v k.G k.W k.DD k.MM (λM w=>(hW (k.P.gd M w)).1) (λM w=>(hW (k.P.gd M w)).2) k.sn
theorem Bz{a:Z->Bd}{j:Jo}(B:∀L∈j,L.1≠b.num):j.map (enc (upd a b.num b))=j.map (enc a):=UL λL e=>by unfold enc;refine R (cG (B L e)) rfl
theorem BA{a0:Z}{h:Sg}{way:ML}{rest:ML}(k:In a0 a h)(H:a0<=14):∃H' a1,ku [.ab 1,.int way,.int rest] a=.ok (.none,H')/\In (a0+1) H' a1:=by
 have J:=mG.mpr (by refine R (qi k.md) ?_;intro B;refine aM (Si.mp B) λM hb D=>?_;have:=k.nl M hb;exact Ng (D.symm▸this) (RU _));refine hF λE=>?_;have f:=k.z3;have z4:=k.z4;have z:=k.z5;have ml:h.md.length=h.bs.length:=by have:=Nb Uu k.md;rw[Ry,Ry] at this;exact this
 obtain⟨I,M,C,D,c,X,w⟩:=Ep (way:=way) (rest:=rest) k.G k.W k.k1 (by refine(Ry ..).trans rfl) (by refine R (Ry ..) ?_;exact n2 (RG f H) rfl) (n2 (RG (R1 ml) (RG f H)) rfl) J (o3 H z4 z (by decide));have q:M.num∉h.bs.map (·.num):=λB=>by exact aM (Si.mp B) λv hb D=>Z.not_succ_le_self _ (RG (R1 (w.n.symm.trans D.symm)) (k.nl v hb))
 have m:∀v∈h.bs,v.num≠M.num:=λv K D=>q (D▸R2 K);have l:=λL e D=>by exact fM (k.P.jk L e) λk1 i Y=>m _ k1 (i.trans D)
 have d:good M.k C:=by
  induction J:M.k using Wo with
  |row=>exact⟨w.il J,w.en⟩
  |text=>exact⟨w.it J,w.en⟩
  |dict=>exact qy ((w.dk J).1) (R w.en TK) (R w.en λa2 B=>nomatch B) (.inl (w.dk J).2)
 have n:=λB=>w.fd (k.has B);have y:∀U,eU (upd h.es M.num D) M U↔eU (λY=>D) M U:=λU=>by unfold eU;rw[bE]
 have A:∀v∈h.bs,∀U,eU (upd h.es M.num D) v U↔eU h.es v U:=λv K U=>lJ (m v K);have j:∀U,Xs {h with μ:={h.μ with g:=MS,lb:=h.μ.lb+1,u:=if M.g then h.μ.u else h.μ.u+c,ug:=if M.g then h.μ.ug+c else h.μ.ug},bs:=h.bs++[M]} U->Xs h U\/U=.D M.d:=λU B=>by
  rcases B with B|B|B|B|B|⟨v,K,B⟩;·exact .inl (.inl B)
  ·exact .inl (.inr (.inl B))
  ·exact .inl (.inr (.inr (.inl B)))
  ·exact .inl (.inr (.inr (.inr (.inl B))))
  ·exact .inl (.inr (.inr (.inr (.inr (.inl B)))))
  ·rcases RL.mp K with K|K;·exact .inl (.inr (.inr (.inr (.inr (.inr (ba v K B))))))
   ·rw[Rw] at K;exact R K.symm (.inr B)
 refine E ?_;refine⟨I,⟨{h.μ with g:=MS,lb:=h.μ.lb+1,u:=if M.g then h.μ.u else h.μ.u+c,ug:=if M.g then h.μ.ug+c else h.μ.ug},h.svs,h.jo,h.md++[(h.μ.lb+1,(c,M.g,M.lv))],h.kb,h.gR,h.gone,h.bs++[M],upd h.es M.num D,upd h.cs M.num C,upd h.bd M.num M⟩,X,⟨rfl,by refine R (Bz l) ?_;exact w.G,by refine R R7 ?_;exact w.W,λv K=>?_,λv K=>?_,⟨λv K U s x=>?_,λv K g p T U s r=>?_⟩,k.k1,k.k2,λv K=>?_,λv K=>?_,λv K g p D=>?_,k.P.new q (λhg=>by exact w.lv.trans (R hg rfl)) d,?_,λv K=>?_,k.sn,k.sl,k.go,by have:=k.z1;exact SM this,by have:=k.z2;exact Vq this,by refine R RE ?_;exact TB f,?_,?_,λt P=>o2 (k.z6 t P)⟩⟩
 ·rcases RL.mp K with K|K;·dsimp only;exact R (cG (m _ K)) (uL ((k.MM _ K).fr w.F λU s o=>k.S.x _ K U s ((show∀U,Bm h.kb U->Xs h U from λU B=>B.elim .inl λB=>.inr (.inr (.inl B))) U o)) (cG (m _ K)))
  ·rw[Rw] at K;refine R K ?_;dsimp only;exact R bE (uL w.M bE)
 ·rcases RL.mp K with K|K
  ·dsimp only;refine R (cG (m _ K)) (w.F.D _ _ (λo=>?_) (k.DD _ K));rcases o with o|o;·exact zJ (k.d0 _ K) o
   ·cases o
  ·rw[Rw] at K;refine R K ?_;dsimp only;exact R bE w.D
 ·rcases RL.mp K with K|K
  ·have s:=(A _ K U).mp s;rcases j U x with x|x;·exact k.S.x _ K U s x
   ·exact w.fd (x▸(k.MM _ K).has s)
  ·rw[Rw] at K;subst K;have s:=(y U).mp s;rcases j U x with x|x;·exact w.fp U s (k.has x)
   ·subst x;unfold eU at s;induction J:v.k using Wo<;>replace s:=J▸s;·cases s
    ·rcases s with s|s;·cases s
     ·exact w.ne J (Ad.D.inj s).symm
    ·cases s
 ·rcases RL.mp K with b|b
  ·have i:=(A _ b U).mp s;clear E J f z4 z ml q m l d j H X;rcases RL.mp p with G|G;·exact k.S.d _ b _ G T U i ((A _ G U).mp r)
   ·rw[Rw] at G;subst G;exact w.fp U ((y U).mp r) ((k.MM _ b).has i)
  ·rw[Rw] at b;subst b;clear E J f z4 z ml q m l d j H X;rcases RL.mp p with G|G;·exact w.fp U ((y U).mp s) ((k.MM _ G).has ((A _ G U).mp r))
   ·rw[Rw] at G;subst G;exact T rfl
 ·rcases RL.mp K with K|K;·exact k.d0 _ K
  ·rw[Rw] at K;refine R K ?_;exact λD=>n (R D (.inl (.inr (.inl rfl))))
 ·rcases RL.mp K with K|K;·exact k.d1 _ K
  ·rw[Rw] at K;refine R K ?_;exact λD=>n (R D (.inr (.inr (.inr (.inr (.inl rfl))))))
 ·rcases RL.mp K with b|b
  ·rcases RL.mp p with G|G;·exact k.dj _ b _ G D
   ·rw[Rw] at G;subst G;exact Ng (bQ (k.DD _ b)) (R D w.fd)
  ·rw[Rw] at b;subst b;rcases RL.mp p with G|G;·exact Ng (bQ (k.DD _ G)) (R D.symm w.fd)
   ·rw[Rw] at G;exact G.symm
 ·refine R7.trans ?_;rw[R7,k.md,<-w.n];rfl
 ·rcases RL.mp K with K|K;·exact SM (k.nl _ K)
  ·rw[Rw] at K;refine R K ?_;exact R1 w.n
 ·dsimp only;split<;>first|exact o2 z4|exact o1 z4 (SV w.co (by decide))
 ·dsimp only;split<;>first|exact o2 z|exact o1 z (SV w.co (by decide))
theorem zm{a4:Z}{m:Z}{h:Sg}(k:In a4 a h)(H:a4<=14)(v:4<=m):∃H' a6,aC m (.fn 56) [.ab 1] a=.ok (.none,H')/\In (a4+1) H' a6:=by
 refine aM (eE v) λa0 bG n=>R bG ?_;have g:=k.z1;have z3:=k.z3;refine mP (EI (m:=a0) k.G (n4 n rfl) (n2 (RG g H) rfl) h.bs h.cs) λz X G p=>?_;have e:=k.W.fr p (λo=>o.elim (zJ (by decide)) nofun) (λo=>o.elim (Cr k.W.n1) λo=>k.k1 (Ad.L.inj o).symm) (λo=>o.elim (Cr k.W.n2) λo=>k.k2 (Ad.L.inj o).symm);have D1:∀M∈h.bs,z.D[M.d]? = S (dy M (h.cs M.num)):=λM w=>p.D _ _ (λo=>o.elim (zJ (k.d0 _ w)) nofun) (k.DD _ w);have b:((h.jo.map (enc h.bd)).reverse).length=h.jo.length:=by exact Sq.trans ((Ry ..))
 rw[b] at G;have A:aR a (.ab 1) (.str 25)=S (.aE h.gR):=k.W.sub rfl;have a2:aR a (.ab 1) (.str 64)=S (.aA 0):=k.W.sub rfl;have K:aK a (.aA 0) 72=S (.own 38):=k.G.rc rfl;refine bM (mM e.b (by refine R (Ry ..) ?_;refine R (Ry ..) ?_;exact n2 (RG z3 H) rfl)) λt1 t2=>?_;have I:=gG (cf:=aC a0) (elt:=.tup (.cons (.sub (.var 1) (.str 60)) (.cons (.sub (.var 1) (.str 16)) .nil))) (ts:=[1]) (cond:=.no) (it:=.sub (.var 0) (.str 58)) (l:=[S (.ab 1),N]) (H:=z) (v:=.aE h.kb)
  (g:=λE:Q=>match E with|AV.ab c=>(match z.D[c]? with|some y=>(match (cX y (.str 60)).bind id,(cX y (.str 16)).bind id with|some r,S s=>S (Q.tup [r,s])|_,_=>N)|none=>N)|_=>N) (nL (x:=0) rfl (e.sub rfl)) t1 t2 λr x=>by
  refine aM (Si.mp x) λc hd cm=>R cm.symm (aM (Si.mp hd) λM w du=>?_)
  clear t1 t2 hd b A a2 K v
  refine R du.symm ?_
  have a3:=D1 M w
  have q1:aR z (.ab M.d) (.str 60)=S (cS M.k (h.cs M.num)):=ld a3 rfl
  have q2:aR z (.ab M.d) (.str 16)=S (.int (h.cs M.num).acc):=ld a3 rfl
  dsimp only
  refine R a3 ?_
  walk_at "ev"
 have Y:((h.bs.map (·.d)).map Q.ab).filterMap (λE:Q=>match E with|AV.ab c=>(match z.D[c]? with|some y=>(match (cX y (.str 60)).bind id,(cX y (.str 16)).bind id with|some r,S s=>S (Q.tup [r,s])|_,_=>N)|none=>N)|_=>N)=h.bs.map λM=>Q.tup [cS M.k (h.cs M.num),.int (h.cs M.num).acc]:=by
  refine R SW (Ts.trans (R Tt.symm ?_));have a5:∀T:V Bd,(∀M∈T,M∈h.bs)->T.filterMap ((λE:Q=>match E with|AV.ab c=>(match z.D[c]? with|some y=>(match (cX y (.str 60)).bind id,(cX y (.str 16)).bind id with|some r,S s=>S (Q.tup [r,s])|_,_=>N)|none=>N)|_=>N) ∘ (Q.ab ∘ λM:Bd=>M.d))=T.filterMap (S ∘ λM=>Q.tup [cS M.k (h.cs M.num),.int (h.cs M.num).acc]):=by
   intro T l
   induction T with
   |nil=>rfl
   |cons M a7 d=>
    have D:((λE:Q=>match E with|AV.ab c=>(match z.D[c]? with|some y=>(match (cX y (.str 60)).bind id,(cX y (.str 16)).bind id with|some r,S s=>S (Q.tup [r,s])|_,_=>N)|none=>N)|_=>N) ∘ (Q.ab ∘ λM:Bd=>M.d)) M=S (Q.tup [cS M.k (h.cs M.num),.int (h.cs M.num).acc]):=by show(match z.D[M.d]? with|some y=>(match (cX y (.str 60)).bind id,(cX y (.str 16)).bind id with|some r,S s=>S (Q.tup [r,s])|_,_=>N)|none=>N)=_;exact R (D1 M (l M (.head _))) rfl
    refine(V.filterMap_cons_some D).trans ?_;exact R (d λC j=>l C (.tail _ j)) rfl
  exact a5 _ λM B=>B
 rw[Y] at I;have p1:=fJ (x:=jH ⟨h.μ.ls+1,h.jo.length,h.μ.u,h.bs,h.cs⟩) e.s (by have:=e.sl;exact n1 this rfl);have F2:Fr (λU=>U=.L h.gR) z (wL z h.gR (h.svs.map jH++[jH ⟨h.μ.ls+1,h.jo.length,h.μ.u,h.bs,h.cs⟩])):=Fr.wL rfl;have W2:LW (wL z h.gR (h.svs.map jH++[jH ⟨h.μ.ls+1,h.jo.length,h.μ.u,h.bs,h.cs⟩])) h.kb h.gR (gj h.gone) (h.bs.map (·.d)) ((h.svs++([⟨h.μ.ls+1,h.jo.length,h.μ.u,h.bs,h.cs⟩]:V Sv)).map jH):=⟨e.w,dZ e.n3 e.b,by refine R R7 ?_;exact bY e.s,e.n1,e.n2,e.n3,e.bl,by refine R (Ry ..) ?_;refine R RE ?_;exact RM (TB g) (Iq H rfl)⟩;refine dI _ {h with μ:={h.μ with ls:=h.μ.ls+1},svs:=h.svs++[⟨h.μ.ls+1,h.jo.length,h.μ.u,h.bs,h.cs⟩]} ?_ ⟨k.g,(G.fr F2 nofun nofun (λo=>k.W.n2 (Ad.L.inj o).symm) (λo=>k.k2 (Ad.L.inj o))),W2,λM w=>((show∀M∈h.bs,MB z h.es M (h.cs M.num) from λM w=>(k.MM _ w).fr p λU hz o=>k.S.x _ w U hz (o.elim .inl λo=>.inr (.inl o))) _ w).fr F2 λU hz (o:U=.L h.gR)=>k.S.x _ w U hz (.inr (.inr (.inr (.inl o)))),λM w=>F2.D _ _ nofun (D1 M w),k.S,k.k1,k.k2,k.d0,k.d1,k.dj,k.P.save rfl rfl rfl,k.md,k.nl,?_,λt P=>?_,λa0 n=>?_,?_,by exact Vq (k.z2),by exact SM z3,?_,?_,λt P=>?_⟩;·have r2:aK a (.aE h.gR) 44=S .bJ:=rfl;have lv:Q.tup [.int (h.μ.ls+1:Z),.lst (h.bs.map λM=>Q.tup [cS M.k (h.cs M.num),.int (h.cs M.num).acc])]=jH ⟨h.μ.ls+1,h.jo.length,h.μ.u,h.bs,h.cs⟩:=rfl;refine(aN (f:=Ij) [S (.ab 1),N] rfl rfl).trans ?_;delta Ij;generalize LE.comp (.tup (.cons (.sub (.var 1) (.str 60)) (.cons (.sub (.var 1) (.str 16)) .nil))) [1] (.sub (.var 0) (.str 58)) .no=ce at *;generalize jH ⟨h.μ.ls+1,h.jo.length,h.μ.u,h.bs,h.cs⟩=L at *;generalize (Q.lst (h.bs.map λM=>Q.tup [cS M.k (h.cs M.num),.int (h.cs M.num).acc]))=kl at *;rw[<-lv] at p1⊢;walk_at "ev"
 ·show((h.svs++[_]).map _).Nodup;refine R R7 ?_;rw[Sl];refine fB k.sn (M5 rfl) (λr x s J D=>?_);rw[UT,Rw] at J;refine aM (Si.mp x) λt P dV=>?_;subst dV;have:=k.sl t P;exact RU _ (D▸RM this (TH (SA _) (J).symm))
 ·rcases RL.mp P with P|P;·exact SM (k.sl t P)
  ·rw[Rw] at P;exact R P (Sb _)
 ·refine bM (k.go a0 n) λk1 i=>⟨λB=>?_,SM i⟩;rw[R7,RL] at B;rcases B with B|B;·exact k1 B
  ·rw[UT,Rw] at B;exact Ng ((B).symm▸i) (RU _)
 ·show(h.svs++[_]).length<=_;exact R RE (TB g)
 ·exact o2 k.z4
 ·exact o2 k.z5
 ·rcases RL.mp P with P|P;·exact o2 (k.z6 t P)
  ·rw[Rw] at P;refine R P ?_;exact o2 k.z4
noncomputable def eS(M:Bd)(n h:Q):V (Q×Q):=[(.str 14,bv M),(.str 9,kS M.k),(.str 59,.bool M.g),(.str 26,.int M.lv),(.str 60,n),(.str 16,h)]
theorem ky:dy b c=eS b (cS b.k c) (.int c.acc):=rfl
theorem Cw{h:Z}{n c v:Q}(B:a.D[h]? = S (eS b n c)):dm a (.ab h) (.str 60) v=S (wD a h (eS b v c)):=(oL B).trans rfl
theorem Cy{h:Z}{n c v:Q}(B:a.D[h]? = S (eS b n c)):dm a (.ab h) (.str 16) v=S (wD a h (eS b n v)):=(oL B).trans rfl
noncomputable def cK(place:Z)(M:Bd):MO:=M.g||MW (M.lv<=place)
noncomputable abbrev Jm:dR:=.cons (.ifs (.or (.sub (.var 7) (.str 59)) (.cmp .le (.sub (.var 7) (.str 26)) (.var 2))) (.cons (.ifs (.and (.not (.sub (.var 7) (.str 59))) (.cmp .ne (.sub (.var 7) (.str 9)) (.str 36))) (.cons (.kQ (.cons (.var 7) (.cons (.var 7) .nil)) (.cons (.str 60) (.cons (.str 16) .nil)) (.cons (.sub (.sub (.var 4) (.var 6)) (.int 0)) (.cons (.sub (.sub (.var 4) (.var 6)) (.int 1)) .nil))) .nil) .nil) (.cons (.exp (.aU (.var 5) 44 (.cons (.var 7) .nil))) .nil)) .nil) .nil
theorem BB{cf:CF}{f:V Bd}{kb:V Bd}{cs:Z->Ct}{cs':Z->Ct}{kc:Z->Ct}{kbA:Z}{kl:Z}{place:Z}{x0:O Q}{x1:O Q}{x3:O Q}(a:∀M∈f,∀b'∈f,M.d=b'.d->M=b')(n:f.Nodup)(c9:kl≠kbA)(g:∃j,f=kb++j)(J:∀M∈f,M.g=MS->M.lv<=place->M∈kb)(a0:f.length<900)
  (P:∀M∈f,M.g=MS->M.k≠.text->M.lv<=place->cs' M.num=kc M.num) (a7:∀M∈f,M.g=MK\/M.k=.text->cs' M.num=cs M.num):∀(y C:V Bd) (b:AH) (y6 y7:O Q),f=C++y->
  b.L[kbA]? = S ((f.map (·.d)).map Q.ab)->b.L[kl]? = S (((C.filter (cK place)).map (·.d)).map Q.ab)->(∀M∈y,b.D[M.d]? = S (dy M (cs M.num)))->
  ∃r Y X,cg (λH E b9 b=>aW cf Jm ((b9.set 6 (S (.int H))).set 7 (S E)) b) (.lL kbA) (y.length+1) C.length [x0,x1,S (.int place),x3,S (.lst (kb.map λM=>.tup [cS M.k (kc M.num),.int (kc M.num).acc])),S (.aE kl),y6,y7] b =
   .ok (.next,[x0,x1,S (.int place),x3,S (.lst (kb.map λM=>.tup [cS M.k (kc M.num),.int (kc M.num).acc])),S (.aE kl),Y,X],r)/\
   r.L[kl]? = S (((f.filter (cK place)).map (·.d)).map Q.ab)/\(∀M∈y,cK place M=MK->r.D[M.d]? = S (dy M (cs' M.num)))/\Fr (λU=>U=.L kl\/∃M∈y,U=.D M.d) b r:=by
 intro y;induction y with
 |nil=>
  intro C b y6 y7 D p l i;refine zF b y6 y7 ?_ (by rw[D];exact R (Sx ..) l) (λM a5=>nomatch a5) Fr.refl;have:Src.at (.lL kbA) C.length b=S N:=by show(b.L[kbA]?).map _=_;rw[p];show S (((f.map (·.d)).map Q.ab)[C.length]?)=_;rw[Sj (by rw[Ry,Ry,D,Sx];exact Sb _)]
  exact Ef this
 |cons M y d4=>
  intro C b y6 y7 D p l i;have w:M∈f:=by rw[D];exact RO _ (.head _)
  have t:=i M (.head _);have e1:Src.at (.lL kbA) C.length b=S (S (.ab M.d)):=by show(b.L[kbA]?).map _=_;rw[p];show S (((f.map (·.d)).map Q.ab)[C.length]?)=_;rw[RJ,RJ,D,Tn (Sb _),VP];rfl
  have m:f=(C++[M])++y:=by rw[D,Sm];rfl
  have B:=λa5=>by rw[D,Sl] at n;exact(RV.mp n.2.1).1 a5
  have a1:aR b (.ab M.d) (.str 59)=S (.bool M.g):=ld t rfl;have a2:aR b (.ab M.d) (.str 26)=S (.int M.lv):=ld t rfl;have d1:MW ((M.lv:ML)<=(place:ML))=MW (M.lv<=place):=by simp
  have A:∀L,cK place M=L->(C++[M]).filter (cK place)=C.filter (cK place)++(if L then[M] else[]):=λL hq=>by rw[VQ,TN,hq];induction L using RD<;>rfl
  have a4:∀{r:AH} {E:V (Q×Q)},r.D=b.D.set M.d E->∀v∈y,r.D[v.d]? = S (dy v (cs v.num)):=λ{r E} U v K=>by rw[U];refine dZ (λL=>B ?_) (i v (.tail _ K));have:=a _ (by rw[D];exact RO _ (.tail _ K)) _ w L;exact this▸K
  have T:∀{H1:AH},aW cf Jm [x0,x1,S (.int place),x3,S (.lst (kb.map λM=>.tup [cS M.k (kc M.num),.int (kc M.num).acc])),S (.aE kl),S (.int C.length),S (.ab M.d)] b=.ok (.next,[x0,x1,S (.int place),x3,S (.lst (kb.map λM=>.tup [cS M.k (kc M.num),.int (kc M.num).acc])),S (.aE kl),S (.int C.length),S (.ab M.d)],H1)->
    H1.L[kbA]? = S ((f.map (·.d)).map Q.ab)->H1.L[kl]? = S ((((C++[M]).filter (cK place)).map (·.d)).map Q.ab)->(∀M∈y,H1.D[M.d]? = S (dy M (cs M.num)))->(cK place M=MK->H1.D[M.d]? = S (dy M (cs' M.num)))->Fr (λU=>U=.L kl\/U=.D M.d) b H1->
    ∃r Y X,cg (λH E b9 b=>aW cf Jm ((b9.set 6 (S (.int H))).set 7 (S E)) b) (.lL kbA) ((M :: y).length+1) C.length [x0,x1,S (.int place),x3,S (.lst (kb.map λM=>.tup [cS M.k (kc M.num),.int (kc M.num).acc])),S (.aE kl),y6,y7] b =
   .ok (.next,[x0,x1,S (.int place),x3,S (.lst (kb.map λM=>.tup [cS M.k (kc M.num),.int (kc M.num).acc])),S (.aE kl),Y,X],r)/\
   r.L[kl]? = S (((f.filter (cK place)).map (·.d)).map Q.ab)/\(∀v∈M :: y,cK place v=MK->r.D[v.d]? = S (dy v (cs' v.num)))/\Fr (λU=>U=.L kl\/∃v∈M :: y,U=.D v.d) b r:=λ{H1} w1 w2 w3 w4 w5 w6=>by
   refine CR (d4 (C++[M]) H1 (S (.int C.length)) (S (.ab M.d)) m w2 w3 w4) λr Y X v1 v2 v3 v4=>zF r Y X ?_ v2 (λv K c6=>?_) ?_
   ·rw[RE] at v1;exact wi e1 w1 (yP v1)
   ·rcases RB.mp K with rfl|K
    ·refine v4.D _ _ (λo=>?_) (w5 c6);rcases o with o|⟨c8,a8,o⟩;·cases o
     ·have:=a _ w _ (by rw[D];exact RO _ (.tail _ a8)) (Ad.D.inj o);exact B (this▸a8)
    ·exact v3 v K c6
   ·exact(w6.mono λU o=>o.elim Vd λo=>US (ba M (.head _) o)).trans (v4.mono λU o=>o.elim Vd λ⟨c8,a8,o⟩=>US ⟨c8,.tail _ a8,o⟩)
  have d:(((C.filter (cK place)).map (·.d)).map Q.ab).length<1000:=by
   rw[Ry,Ry];have:C.length<=f.length:=by rw[D,RE];exact R5 _ _
   exact n1 (RM (RG (Uz (cK place) C) this) a0) rfl
  refine wb (cK place M) (λc=>?_) (λc=>?_);·refine bM (UD.mp c) λG g1=>?_;refine T (H1:=b) ?_ p (by rw[A _ c,Nc (by decide),Sx];exact l) (λv K=>i v (.tail _ K)) (λL=>by replace L:=(show cK place M=MS from c).symm.trans L;cases L) Fr.refl;replace a1:=G▸a1;rw[g1] at d1;clear T a4 A i p l t e1 m B n a w D c G g1 J g P a7 d a0;walk_at "ev"
  ·have a6:∀{H1:AH},H1.L[kl]? = S (((C.filter (cK place)).map (·.d)).map Q.ab)->(wL H1 kl (((C.filter (cK place)).map (·.d)).map Q.ab++[.ab M.d])).L[kl]? = S ((((C++[M]).filter (cK place)).map (·.d)).map Q.ab):=λ{H1} a5=>by
    rw[A _ c,Na rfl,R7,R7];exact bY a5
   cases hS : !M.g&&MW (M.k≠.text) with
   |true=>
    refine bM (RS.mp hS) λk s2=>?_;rw[S9] at k;have s2:=M5 s2;have e:M.lv<=place:=by unfold cK at c;rw[k,VE,OS] at c;exact c
    have d0:=J M w k e;have q:=P M w k s2 e;refine dD g λj s=>?_;have c3:kb[C.length]? = S M:=by
     have d3:C.length<kb.length:=by
      refine V7 λd2=>?_;have eq:C++M :: y=kb++j:=D.symm.trans s;rw[s] at n;have:M∈j:=by
       rw[U9] at eq;rcases eq with⟨c7,q1,q2⟩|⟨c7,q1,q2⟩
       ·have:c7=[]:=by
         exact UI (o4 d2 ((Nb Uu q1).trans RE))
        subst this
        rw[Uh] at q2
        rw[<-q2];exact .head _
       ·rw[q2];exact RO _ (.head _)
      exact(Sl.mp n).2.2 M d0 M this rfl
     have:f[C.length]? = S M:=by rw[D,Tn (Sb _),VP];rfl
     rw[s,Tc d3] at this;exact this
    have c1:=(RF.mp c3).1;have I:kb.length<=f.length:=by rw[s,RE];exact R5 _ _
    have q1:aR b (.lst (kb.map λM=>.tup [cS M.k (kc M.num),.int (kc M.num).acc])) (.int C.length)=S (.tup [cS M.k (kc M.num),.int (kc M.num).acc]):=by show(Mine.Lake.place C.length (kb.map λM=>Q.tup [cS M.k (kc M.num),.int (kc M.num).acc]).length).bind _=_;rw[show Mine.Lake.place C.length (kb.map λM=>Q.tup [cS M.k (kc M.num),.int (kc M.num).acc]).length=S C.length by unfold Mine.Lake.place;rw[Na (RP _),Na (by rw[Ry];exact⟨RT.mpr c1,S4.mpr (qm (RM c1 (RM I a0)) rfl)⟩)];rfl];show(kb.map _)[C.length]? = _;rw[RJ,c3];rfl
    have q2:aR b (.tup [cS M.k (kc M.num),.int (kc M.num).acc]) (.int 0)=S (cS M.k (kc M.num)):=rfl;have q3:aR b (.tup [cS M.k (kc M.num),.int (kc M.num).acc]) (.int 1)=S (.int (kc M.num).acc):=rfl;have v1:=Cw (v:=cS M.k (kc M.num)) (ky▸t);have D1:(wD b M.d (eS M (cS M.k (kc M.num)) (.int (cs M.num).acc))).D[M.d]? = S (eS M (cS M.k (kc M.num)) (.int (cs M.num).acc)):=bY t;have v2:=Cy (v:=.int (kc M.num).acc) D1;have l2:(wD (wD b M.d (eS M (cS M.k (kc M.num)) (.int (cs M.num).acc))) M.d (eS M (cS M.k (kc M.num)) (.int (kc M.num).acc))).L[kl]? = S (((C.filter (cK place)).map (·.d)).map Q.ab):=l;have v3:=fJ (x:=.ab M.d) l2 d;have c2:(wD (wD b M.d (eS M (cS M.k (kc M.num)) (.int (cs M.num).acc))) M.d (eS M (cS M.k (kc M.num)) (.int (kc M.num).acc))).D=b.D.set M.d (eS M (cS M.k (kc M.num)) (.int (kc M.num).acc)):=Te ..;refine T (H1:=wL (wD (wD b M.d (eS M (cS M.k (kc M.num)) (.int (cs M.num).acc))) M.d (eS M (cS M.k (kc M.num)) (.int (kc M.num).acc))) kl (((C.filter (cK place)).map (·.d)).map Q.ab++[.ab M.d])) ?_ (dZ (S7 c9) p) (a6 l2) (a4 c2) (λε=>by rw[q,ky];exact(Nb (·[M.d]?) c2).trans (bY t)) (((Fr.wD (.inr rfl)).trans (Fr.wD (.inr rfl))).trans (Fr.wL (.inl rfl)));have d5:∃H,kS M.k=.str H/\(H==36)=MS:=by
     induction J:M.k using Wo with
     |row=>exact ba 39 rfl rfl
     |dict=>exact⟨8,rfl,rfl⟩
     |text=>exact Ng J s2
    refine aM d5 λz c4 d6=>?_;have a3:aR b (.ab M.d) (.str 9)=S (kS M.k):=ld t rfl;rw[c4] at a3;rw[k] at a1;rw[Nm e] at d1;have rr:aK (wD (wD b M.d (eS M (cS M.k (kc M.num)) (.int (cs M.num).acc))) M.d (eS M (cS M.k (kc M.num)) (.int (kc M.num).acc))) (.aE kl) 44=S .bJ:=rfl;clear T a4 A i p l t D1 c2 e1 m B n a w D c k J P a7 d a0 a6 hS s2 e d0 q s c3 c1 I c4 l2;generalize (kb.map λM=>Q.tup [cS M.k (kc M.num),.int (kc M.num).acc])=c5 at *;walk_at "ev"
   |false=>
    have a9:M.g=MK\/M.k=.text:=by
     induction hg:M.g using RD with
     |true=>exact .inl rfl
     |false=>rw[hg,Wc,MO.true_and] at hS;exact .inr (Classical.not_not.mp (Q5 hS))
    have q:=a7 M w a9
    have v3:=fJ (x:=.ab M.d) l d
    refine T (H1:=wL b kl (((C.filter (cK place)).map (·.d)).map Q.ab++[.ab M.d])) ?_ (dZ (S7 c9) p) (a6 l) (λv K=>i v (.tail _ K)) (λε=>by rw[q];exact t) (Fr.wL (.inl rfl))
    have rr:aK b (.aE kl) 44=S .bJ:=rfl
    have a3:aR b (.ab M.d) (.str 9)=S (kS M.k):=ld t rfl
    cases hg:M.g with
    |true=>rw[hg] at a1;clear T a4 A i p l t e1 m B n a w D c J P a7 d a0 a6 hS q g a3 a9 hg;generalize (kb.map λM=>Q.tup [cS M.k (kc M.num),.int (kc M.num).acc])=c5 at *;walk_at "ev"
    |false=>rw[hg] at a1;have h:M.k=.text:=a9.resolve_left (by rw[hg];decide);rw[h] at a3;unfold kS at a3;unfold cK at c;rw[hg,VE] at c;rw[c] at d1;clear T a4 A i p l t e1 m B n a w D c J P a7 d a0 a6 hS q g h a9 hg;generalize (kb.map λM=>Q.tup [cS M.k (kc M.num),.int (kc M.num).acc])=c5 at *;walk_at "ev"
theorem nM{I M:ML}(B:0<M):bZ .mod (.int I) (.int M)=S (.int (I.fmod M)):=Na (Nm B)
theorem gn{a:ML}{n:Z}(B:0<n):∃P:Z,a.fmod n=P/\P<n:=by exact ba ((a.fmod n).toNat) ((UJ (Vr a (b:=n) (by exact RT.mpr B))).symm) ((ML.toNat_lt (Vr a (by exact RT.mpr B))).mpr (ML.fmod_lt_of_pos a (b:=n) (by exact RT.mpr B)))
theorem zo{f:Z->Bd}{j:Jo}{a:Z->Ct}(w:f b.num=b)(o:b.g=MK\/b.k=.text)(z:qq (λq=>(f q).k) a j)(g:∀L∈j,(f L.1).g=MS):kN a j b.num=a b.num:=by
 refine Ea λL e D=>?_;have I:=g L e;rcases o with o|o;·rw[D,w,o] at I;cases I
 ·have G:∀{j:Jo} {a:Z->Ct},qq (λq=>(f q).k) a j->∀L∈j,(f L.1).k≠.text:=by
   intro j
   induction j with
   |nil=>intro _ _ L B;cases B
   |cons r y d=>
    obtain⟨q,c⟩:=r;intro a H L e D;rcases RB.mp e with rfl|e;·have:=H.1;simp only[D] at this;induction c using Un.casesOn<;>first|exact nomatch this.1|exact nomatch this
    ·exact d H.2 L e D
  exact G z L e (by refine R D ?_;refine R w ?_;exact o)
theorem EX{cf:CF}{U C v g:AH}{p:Z}{rest J:ML}{x4 x6 x7 x:O Q}{a k d:Z}{c:Q}(A:aR U (.ab 1) (.str 25)=S (.aE k))(e:dP U (.aE k) N (S c)=S (.aE d,C)){D:AH}(o:dm C (.ab 1) (.str 58) (.aE a)=S v)(b:dm v (.ab 1) (.str 70) (.int J)=S g)(X:dm g (.ab 1) (.str 25) (.aE d)=S D) :
  cQ cf (aH mY.body 5) [S (.ab 1),S (.int rest),S c,S (.int J),x4,S (.aE a),x6,x7] U=.ok (.next,[S (.ab 1),S (.int rest),S c,S (.int J),x4,S (.aE a),x6,x7],D):=by dsimp only[mY,aH];walk_at "ev"
theorem Hf{cf:CF}{rest:ML}{P g:Z}{J z:Q}(A:aR a (.ab 1) (.str 25)=S (.aE g))(l1:bB a .len [.aE g]=S (.int o,a))(t:bZ .mod (.int rest) (.int o)=S (.int P))(y:aR a (.aE g) (.int P)=S (.tup [J,z]))(h:aR a (.ab 1) (.str 64)=S (.aA 0))(K:aK a (.aA 0) 71=S (.own 44))(X:cf (.fn 44) [.aA 0,J] a=.ok (k,p)) :
  aW cf (.cons (aH mY.body 0) (.cons (aH mY.body 1) (.cons (aH mY.body 2) (.cons (aH mY.body 3) .nil)))) [S (.ab 1),S (.int rest),N,N,N,N,N,N] a=.ok (.next,[S (.ab 1),S (.int rest),S (.int P),S J,S z,S (.aE p.L.length),N,N],aL p []):=by dsimp only[mY,aH];walk_at "ev"
theorem rz{c6:Z}{m:Z}{h:Sg}{rest:ML}(k:In c6 a h)(H:c6<=14)(hm:5<=m)(d6:h.svs≠[]):∃H' d5,aC m (.fn 55) [.ab 1,.int rest] a=.ok (.none,H')/\In (c6+1) H' d5:=by
 refine hF λd4=>?_;refine aM (eE hm) λa4 bG hn=>?_;clear hm;subst bG;have g:=k.z1;have b:=k.z2;have z3:=k.z3;have lp:=VG.mpr d6;refine aM (gn (a:=rest) lp) λa0 hp pl=>?_;obtain⟨t,hs⟩:∃t,h.svs[a0]? = S t:=⟨_,RA pl⟩;have sm:=RI hs;obtain⟨⟨C,d2,e9,e0⟩,⟨a9,c4,E,em,e3,e4⟩,A⟩:=k.P.sv a0 t hs;have hJ:a9.length+c4.length=h.jo.length:=by refine R E ?_;rw[RE]
 have ck:=λM w hg=>zo (k.P.zK M w) hg (pZ.mp (E▸k.P.By)).1 λq e=>(k.P.jk q (E▸RK _ e)).2.2.1;have K:∀M∈h.bs,M.g=MS->M.lv<=a0->M∈t.kb:=λM w hg hl=>by
  rw[d2] at w;rcases RL.mp w with w|w;·exact w
  ·have:=e0 M w hg;exact Ng hl (Uo.mpr this)
 obtain⟨I,d3,L,a7,e2,v,e1,G2,d9,M2,e5,r,c5,e6,F2⟩:=ET (m:=a4) (pre:=a9) (suf:=c4) (s:=t) (q:=t.num) (X:=Xs h) (place:=a0) (by exact n4 hn rfl) (by refine R E.symm ?_;exact k.G) (jJ k.sn hs) hs em (λU B=>B.elim .inl λB=>.inr (.inl B)) (jK k.P.nn) k.MM (λM w=>(hW (k.P.gd M w)).1) k.S (λU B=>k.has B) (λq e=>by refine fM (k.P.jk q (E▸RK _ e)) λk1 k2 _=>?_;exact⟨k1,k2⟩) (λq e=>zl k.P.By q (E▸RK _ e)) (pZ.mp (E▸k.P.By)).1 (by refine R (qi k.md) ?_;exact k.P.nn) (by exact n2 (RG (RG (R5 ..) (R1 hJ)) (RG b (Ub 2 H))) rfl);have nG:∀U,Xs h U->¬Gl U->¬(¬Xs h U\/Gl U):=λU B o q=>q.elim (λc7=>c7 B) o;have c1:Xs h (.L h.kb):=.inr (.inr (.inl rfl));have c2:Xs h (.L h.gR):=.inr (.inr (.inr (.inl rfl)));have a8:Xs h (.D 1):=.inr (.inr (.inr (.inr (.inl rfl))));have c3:∀M∈h.bs,Xs h (.D M.d):=λM w=>.inr (.inr (.inr (.inr (.inr (ba M w rfl)))));refine d4 ?_;have y:LW (aL I []) h.kb h.gR (gj h.gone) (h.bs.map (·.d)) (h.svs.map jH):=(k.W.fr F2 (nG _ a8 (zJ (by decide))) (nG _ c1 (Cr k.W.n1)) (nG _ c2 (Cr k.W.n2))).fr (P:=λY=>Nw) Fr.aL id id id;have a3:∀U,has I U->U≠.L I.L.length:=λU B D=>by rw[D] at B;exact RU _ B
 have e7:I.L.length≠h.gR:=λD=>a3 _ (c5 _ c2) (by refine R D rfl);have d8:h.bs.Nodup:=by have:=k.P.nn;exact V.Pairwise.of_map _ (λa2 M B D=>B (by refine R D rfl)) this
 refine CR (BB (cf:=aC a4) (kl:=I.L.length) (x0:=S (.ab 1)) (x1:=S (.int rest)) (x3:=S (.int t.num)) (place:=a0) (kb:=t.kb) (cs:=h.cs) (cs':=λa4=>kN h.cs a9 a4) (kc:=t.kc) (kbA:=h.kb) k.dj d8 (λD=>a3 _ (c5 _ c1) (by refine R D rfl)) ⟨C,d2⟩ K (by exact n2 (RG z3 H) rfl) (λM w p h2 T=>e3 M (K M w p T) p h2) ck h.bs [] (aL I []) N N rfl y.b dK (λM w=>(λM w=>F2.D _ _ (nG _ (c3 M w) (zJ (k.d0 M w))) (k.DD M w)) M w)) λH4 y6 y7 w1 w2 w3 w4=>?_;have nf:∀U,Xs h U->(∀M∈h.bs,U≠.D M.d)->¬(U=.L I.L.length\/∃M∈h.bs,U=.D M.d):=λU p h2 q=>q.elim (λq=>a3 U (c5 U p) q) λq=>aM q λM w q=>h2 M w q;have b9:∀U,Gl U\/U=.L a7->¬(U=.L I.L.length\/∃M∈h.bs,U=.D M.d):=λU B q=>by
  rcases q with q|⟨M,w,q⟩;·exact a3 U (G2.has B) q
  ·subst q;rcases B with B|B;·exact zJ (k.d0 M w) B
   ·cases B
 have G4:=((Bl G2).1 []).fr w4 (b9 _ (.inl (.inl rfl))) (b9 _ (.inl (.inr (.inl rfl)))) (b9 _ (.inl (.inr (.inr rfl)))) (b9 _ (.inr rfl));have W4:=y.fr w4 (nf _ a8 λM w q=>k.d1 M w (Ad.D.inj q).symm) (nf _ c1 λM w q=>nomatch q) (nf _ c2 λM w q=>nomatch q);have M4:=λM w=>((M2 M w).fr (P:=λY=>Nw) Fr.aL λY Y=>id).fr w4 λU s q=>by
  rcases q with q|⟨G,a5,q⟩;·exact a3 U ((M2 M w).has s) q
  ·exact r.x M w U s (.inl (q▸c3 G a5))
 have d1:(aL H4 ((h.svs.map jH).take a0)).D[1]? = S (wV h.kb h.gR (gj h.gone)):=W4.w;have t1:∀{a:AH} {a2 M:Z} {o v:Q},a.D[1]? = S (wV a2 M o)->dm a (.ab 1) (.str 58) (.aE 0)=S (wD a 1 (wV 0 M o)):=λB=>by show(AH.D _)[1]?.bind _=_;refine(oL B).trans ?_;rfl
 have t2:∀{a:AH} {a2 M c:Z} {o:Q},a.D[1]? = S (wV a2 M o)->dm a (.ab 1) (.str 58) (.aE c)=S (wD a 1 (wV c M o)):=λ{a a2 M c o} B=>by show(a.D[1]?).bind _=_;rw[B];rfl
 have t3:∀{a:AH} {a2 M:Z} {o v:Q},a.D[1]? = S (wV a2 M o)->dm a (.ab 1) (.str 70) v=S (wD a 1 (wV a2 M v)):=λ{a a2 M o v} B=>by show(a.D[1]?).bind _=_;rw[B];rfl
 have t4:∀{a:AH} {a2 M c:Z} {o:Q},a.D[1]? = S (wV a2 M o)->dm a (.ab 1) (.str 25) (.aE c)=S (wD a 1 (wV a2 c o)):=λ{a a2 M c o} B=>by show(a.D[1]?).bind _=_;rw[B];rfl
 have u2:=t2 (c:=I.L.length) d1;have d0:(wD (aL H4 ((h.svs.map jH).take a0)) 1 (wV I.L.length h.gR (gj h.gone))).D[1]? = S (wV I.L.length h.gR (gj h.gone)):=bY d1;have c9:(wD (wD (aL H4 ((h.svs.map jH).take a0)) 1 (wV I.L.length h.gR (gj h.gone))) 1 (wV I.L.length h.gR (.int t.num))).D[1]? = S (wV I.L.length h.gR (.int t.num)):=bY d0;have z:Fr (λU=>U=.D 1) H4 (wD (wD (wD (aL H4 ((h.svs.map jH).take a0)) 1 (wV I.L.length h.gR (gj h.gone))) 1 (wV I.L.length h.gR (.int t.num))) 1 (wV I.L.length H4.L.length (.int t.num))):=(((Fr.aL (P:=λU=>U=.D 1)).trans (Fr.wD (P:=λU=>U=.D 1) rfl)).trans (Fr.wD (P:=λU=>U=.D 1) rfl)).trans (Fr.wD (P:=λU=>U=.D 1) rfl);have tk:(h.svs.map jH).take a0=(h.svs.take a0).map jH:=by rw[UX]
 have W8:LW (wD (wD (wD (aL H4 ((h.svs.map jH).take a0)) 1 (wV I.L.length h.gR (gj h.gone))) 1 (wV I.L.length h.gR (.int t.num))) 1 (wV I.L.length H4.L.length (.int t.num))) I.L.length H4.L.length (gj (S t.num)) ((h.bs.filter (cK a0)).map (·.d)) ((h.svs.take a0).map jH):=⟨bY c9,ec w2,by rw[<-tk];exact(dK),λD=>by have:=bQ G2.j;exact Ng (D.symm▸this) (RU _),λD=>by have:=bQ G4.j;exact Ng (D.symm▸this) (RU _),Td (bQ w2),by rw[Ry];have:=Uz (cK a0) h.bs;exact n2 (RG this (RG z3 H)) rfl,by rw[Ry,S0];exact n2 (RG (T8 ..) (RG g H)) rfl⟩;have i:∀M,M∈h.bs.filter (cK a0)->M∈h.bs/\cK a0 M=MK:=λM w=>TY.mp w;have d7:∀{M U},M∈h.bs->eU d3 M U->U≠.L I.L.length/\U≠.L H4.L.length:=λ{M U} w s=>⟨a3 U ((M2 M w).has s),λD=>by have:=(M4 M w).has s;rw[D] at this;exact RU _ this⟩;refine dI _ ⟨{h.μ with ks:=a7,fr:=e2,u:=t.used},h.svs.take a0,c4,L,I.L.length,H4.L.length,S t.num,h.bs.filter (cK a0),d3,kN h.cs a9,h.bd⟩ ?_ ⟨k.g,(G4.fr z nofun (λq=>nomatch q) nofun nofun),W8,λM w=>(M4 M (i M w).1).fr z λU s (o:U=.D 1)=>r.x M (i M w).1 U s (.inl (o▸a8)),λM w=>z.D _ _ (λo=>k.d1 M (i M w).1 (Ad.D.inj o)) (w3 M (i M w).1 (i M w).2),⟨λM w U s hx=>?_,λM w G a5=>r.d M (i M w).1 G (i G a5).1⟩,λD=>?_,λD=>?_,λM w=>k.d0 M (i M w).1,λM w=>k.d1 M (i M w).1,λM w G a5=>k.dj M (i M w).1 G (i G a5).1,k.P.restore hs E em λM w hg=>?_,?_,λM w=>k.nl M (i M w).1,?_,λn ht=>k.sl n (UG ht),λc7 J=>?_,?_,?_,?_,?_,?_,λn ht=>?_⟩
 ·have a1:aR a (.ab 1) (.str 25)=S (.aE h.gR):=k.W.sub rfl;have l1:=jI k.W.s (by rw[Ry];exact n2 (RG g H) rfl);rw[Ry] at l1;have m1:bZ .mod (.int rest) (.int h.svs.length)=S (.int a0):=by rw[nM (by exact RT.mpr lp),hp]
  have q1:aR a (.aE h.gR) (.int a0)=S (jH t):=by show(a.L[h.gR]?).bind _=_;rw[k.W.s];show(Mine.Lake.place a0 (h.svs.map jH).length).bind _=_;rw[show Mine.Lake.place a0 (h.svs.map jH).length=S a0 by unfold Mine.Lake.place;rw[Na (by exact RP _),Na (by rw[Ry];exact⟨RT.mpr pl,RT.mpr (n1 (RQ pl (RG g H)) rfl)⟩)];rfl];show(h.svs.map jH)[a0]? = _;rw[RJ,hs];rfl
  refine bM (mM y.b (by rw[Ry,Ry];exact n2 (RG z3 H) rfl)) λt1 t2=>?_;rw[Ry,Ry] at t1;have k4:=qh (cf:=aC a4) (i:=6) (x:=7) (e:=.sub (.var 0) (.str 58)) (l:=[S (.ab 1),S (.int rest),S (.int a0),S (.int t.num),S (.lst (t.kb.map λM=>.tup [cS M.k (t.kc M.num),.int (t.kc M.num).acc])),S (.aE I.L.length),N,N]) (H:=aL I []) (nL (x:=0) rfl (y.sub rfl)) t1 w1;rw[aN (f:=mY) [S (.ab 1),S (.int rest),N,N,N,N,N,N] rfl rfl];change (aW _ (rt [aH mY.body 0,aH mY.body 1,aH mY.body 2,aH mY.body 3] (.cons (aH mY.body 4) (.cons (aH mY.body 5) .nil))) _ a).bind _=_;rw[td (xs:=[aH mY.body 0,aH mY.body 1,aH mY.body 2,aH mY.body 3]) (Hf (cf:=aC a4) (rest:=rest) a1 l1 m1 q1 (k.W.sub rfl) (k.G.rc rfl) e1),aX (s:=aH mY.body 4) k4,aX (s:=aH mY.body 5) (EX (cf:=aC a4) (p:=a0) (rest:=rest) (x4:=S (.lst (t.kb.map λM=>.tup [cS M.k (t.kc M.num),.int (t.kc M.num).acc]))) (x6:=y6) (x7:=y7) (x:=N) (W4.sub rfl) (Cv (place:=a0) W4.s (by rw[Ry];exact n2 (RG g H) rfl) (by exact n1 (RQ pl (RG g H)) rfl)) u2 (t3 (v:=.int t.num) d0) (t4 (c:=H4.L.length) c9))];rfl
 ·have w:=(i M w).1;refine bM (d7 w s) λf1 f2=>?_;rcases hx with B|B|B|B|B|⟨G,a5,B⟩;·exact r.x M w U s (.inl (.inl B))
  ·exact r.x M w U s (.inr B)
  ·exact f1 B
  ·exact f2 B
  ·exact r.x M w U s (.inl (B▸a8))
  ·exact r.x M w U s (.inl (B▸c3 G (i G a5).1))
 ·exact a3 (.L a7) (G2.has (.inr rfl)) (Nb Ad.L D)
 ·have:=G4.has (z:=.L a7) (.inr rfl);rw[show a7=H4.L.length from D] at this;exact RU _ this
 ·refine wb M.g (λa6=>?_) (λa6=>?_)
  ·by_cases ht:M.k=.text;·rw[ck M w (.inr ht)];exact k.P.gd M w
   ·have hl:=hg.resolve_left (by rw[a6];decide);have c8:=K M w a6 hl;rw[e3 M c8 a6 ht];exact A M c8
  ·rw[ck M w (.inl a6)];exact k.P.gd M w
 ·rw[d9];have k1:(h.md.filter (oG a0)).map ru=(h.md.map ru).filter λn=>n.2.1||MW (n.2.2<=a0):=by rw[V.filter_map];rfl
  have k2:((h.bs.filter (cK a0)).map λM=>(M.num,M.g,M.lv))=(h.bs.map λM=>(M.num,M.g,M.lv)).filter λn=>n.2.1||MW (n.2.2<=a0):=by rw[V.filter_map];rfl
  rw[k1,k2,k.md]
 ·exact k.sn.sublist ((V.take_sublist a0 h.svs).map _)
 ·obtain rfl:t.num=c7:=Sk J;refine⟨λB=>?_,k.sl t sm⟩;refine aM (Si.mp B) λn ht D=>?_;refine dD (V.getElem?_of_mem ht) λe8 d=>?_;have j:=(RF.mp d).1;replace j:=S0▸j;rw[Ul (by exact RQ j (Tb ..))] at d;have:=jJ k.sn d;rw[D,jJ k.sn hs] at this;exact Ng (Sk this) (S6 (RQ j (Tb ..)))
 ·show(h.svs.take a0).length<=_;rw[S0];exact RG (T8 ..) (SM g)
 ·exact RG (RG (SQ ..) (R1 hJ)) (RG b (Ub 2 (Sn c6)))
 ·have:=Uz (cK a0) h.bs;exact RG this (RG z3 (R5 _ _))
 ·exact o2 (k.z6 t sm)
 ·exact o2 k.z5
 ·exact o2 (k.z6 n (UG ht))
noncomputable def Jn(y:Z->Z)(M:Bd):Ad->Prop:=λU=>yY y M U\/U=.D M.d
theorem BC{E:q}{T:V (Z×q)}{i:Z}(B:i∈(ey h E T).map (·.1)):i=h\/i∈T.map (·.1):=by
 rw[<-jG,p0] at B;by_cases D:i=h;·exact .inl D
 ·rw[Nc D,jG] at B;exact .inr B
theorem In.sp{c:Z}{h:Sg}(k:In c a h)(w:b∈h.bs):Sp h.μ h.es b:=⟨λU s o=>k.S.x b w U s (.inl o),λU s D=>k.S.x b w U s (.inr (.inl D))⟩
theorem oH{o:Z}{r:AH}{h:Sg}{c':Ct}{d:Jo}{e:V (Z×p9)}{u':ML}{ug':ML}(k:In o a h)(w:b∈h.bs)(C:GM r {h.μ with u:=u',ug:=ug'} h.svs ((d.map (enc h.bd)).reverse) e)(f:MB r h.es b c')(t:r.D[b.d]? = S (dy b c'))(x:Fr (Jn h.es b) a r)(c:Pu h.svs d h.bs (upd h.cs b.num c') h.bd)(E:e.map ru=h.md.map ru)
  (j:u'<=h.μ.u+96) (y:ug'<=h.μ.ug+96) (M:d.length<=h.jo.length+2):∃g,In (o+1) r g:=by
 have m:∀v∈h.bs,v≠b->v.num≠b.num:=λv K q D=>q (jK k.P.nn _ K _ w D);have n:∀U,Xs h U->¬Gl U->U≠.D b.d->¬Jn h.es b U:=λU p G T L=>L.elim (λL=>L.elim G λL=>k.S.x b w U L p) T;have i:∀H,H∈[0,1]->Ad.D H≠.D b.d:=λH J D=>by
  have D:=Ad.D.inj D;rcases RB.mp J with rfl|J;·exact k.d0 b w D.symm
  ·rw[Rw] at J;subst J;exact k.d1 b w D.symm
 refine⟨{h with μ:={h.μ with u:=u',ug:=ug'},jo:=d,md:=e,cs:=upd h.cs b.num c'},k.g,C,k.W.fr x (n _ (.inr (.inr (.inr (.inr (.inl rfl))))) (zJ (by decide)) (i 1 (by decide))) (n _ (.inr (.inr (.inl rfl))) (Cr k.W.n1) nofun) (n _ (.inr (.inr (.inr (.inl rfl)))) (Cr k.W.n2) nofun),λv K=>?_,λv K=>?_,k.S,k.k1,k.k2,k.d0,k.d1,k.dj,c,E.trans k.md,k.nl,k.sn,k.sl,k.go,SM k.z1,by exact RG M (Tv (k.z2) _),SM k.z3,SV j (o1 (k.z4) (by decide)),SV y (o1 (k.z5) (by decide)),λl P=>o2 (k.z6 l P)⟩
 ·by_cases D:v=b;·refine R D ?_;dsimp only;exact R bE f
  ·dsimp only;refine R (cG (m _ K D)) ((k.MM _ K).fr x λU s L=>?_);rcases L with(L|L)|L;·exact k.S.x _ K U s (.inl L)
   ·exact k.S.d _ K _ w (m _ K D) U s L
   ·exact k.S.x _ K U s (.inr (.inr (.inr (.inr (.inr (ba b w L))))))
 ·by_cases D:v=b;·refine R D ?_;dsimp only;exact R bE t
  ·dsimp only;exact R (cG (m _ K D)) (x.D _ _ (n _ (.inr (.inr (.inr (.inr (.inr (ba v K rfl)))))) (zJ (k.d0 _ K)) λL=>D (k.dj _ K _ w (Ad.D.inj L))) (k.DD _ K))
noncomputable def Fo(s:V Sv)(M:Bd)(c:Un)(j:Jo):Jo:=if cw s M then(M.num,c) :: j else j
theorem kz{a:Z->Bd}{j:Jo}{c:Un}(B:a b.num=b):jn (cw g b) ((j.map (enc a)).reverse) (aV b c)=((Fo g b c j).map (enc a)).reverse:=by
 unfold jn Fo;split;·refine R R4 (R Us ?_);show _=_++[aV (a b.num) c];rw[B]
 ·rfl
theorem iq{b:Bd}{svs:V Sv}{jo:Jo}{u:Un}:(Fo svs b u jo).length<=jo.length+1:=by
 unfold Fo;split;·exact Sb _
 ·exact Sn _
theorem iu{c':Ct}{j:Jo}{f:V Bd}{a:Z->Ct}{c:Z->Bd}{u:Un}(B:Pu g j f a c)(w:b∈f)(k:gQ u c'=a b.num)(z:yJ b.k u c')(J:b.k≠.text)(d:good b.k c'):Pu g (Fo g b u j) f (upd a b.num c') c:=by
 unfold Fo;induction C:cw g b using RD with
 |true=>obtain⟨p,G⟩:=RS.mp C;rw[S9] at p;exact B.cw w p (M5 G) k z d
 |false=>
  refine B.plain w ?_ d
  unfold cw at C
  induction o:b.g using RD with
  |true=>exact .inl rfl
  |false=>rw[o] at C;exact .inr (.inr (by have:=Q5 C;exact Ti.mp this))
theorem vW{P:Z}{E:ML}(B:good .row c):good .row {c with cx:=c.cx.set P E}:=⟨by show(c.cx.set P E).length=3;refine Ta.trans ?_;exact B.1,B.2⟩
theorem rA{E:ML}(C:h<3)(B:good .dict c){a:ML}(v:a=2\/a=8):good .dict {c with en:=ey h E c.en,most:=a}:=(qy B.1 (yM B.2.1) (λi M=>(BC M).elim (λD=>D▸C) (B.2.2.1 i)) v)
theorem vX(B:good .dict c):good .dict {c with en:=iZ h c.en}:=⟨B.1,yN B.2.1,λi M=>B.2.2.1 i (by have M:i∈(iZ h c.en).map (·.1):=M;rw[gC B.2.1] at M;exact(UM.map _).subset M),B.2.2.2⟩
theorem BD{z:ML}(B:good .dict c):yJ .dict (.drop h z (c.en.map (·.1))) {c with en:=iZ h c.en}:=⟨rfl,B.2.1,λi M D=>by refine R (uA D) ?_;rw[jG];exact M,Jl B.2.1 B.2.2.1⟩
theorem vY{P:Z}{E z:ML}(B:c.cx[P]? = S z):gQ (.item P z) {c with cx:=c.cx.set P E}=c:=by show({c with cx:=(c.cx.set P E).set P z}:Ct)=c;refine dD (RF.mp B) λs D=>?_;refine R (Te ..) ?_;refine R D.symm ?_;refine R (VA ..) rfl
theorem rB{c:Ct}{E:ML}:gQ (.ent h (cq h c.en)) {c with en:=ey h E c.en}=c:=by
 induction D:cq h c.en using Rx with
 |none=>show({c with en:=iZ h (ey h E c.en)}:Ct)=c;rw[yL D]
 |some z=>show({c with en:=ey h z (ey h E c.en)}:Ct)=c;refine R (yK D) rfl
theorem vZ{z:ML}(n:(c.en.map (·.1)).Nodup)(B:cq h c.en=S z):gQ (.drop h z (c.en.map (·.1))) {c with en:=iZ h c.en}=c:=by show({c with en:=(c.en.map (·.1)).map λH=>(H,if H=h then z else(cq H (iZ h c.en)).getD 0)}:Ct)=c;refine R (vN n B) rfl
noncomputable def Jp:LE:=.comp (.sub (.var 10) (.int 0)) [10] (.sub (.var 3) (.str 60)) .no
theorem EY:LE.comp (.sub (.var 10) (.int 0)) [10] (.sub (.var 3) (.str 60)) .no=Jp:=rfl
noncomputable def Jq:LE:=.comp (.tup (.cons (.var 8) (.cons (.ite (.cmp .eq (.var 8) (.var 6)) (.bin .fdiv (.var 2) (.int 3)) (.var 9)) .nil))) [8,9] (.sub (.var 3) (.str 60)) .no
theorem zp:LE.comp (.tup (.cons (.var 8) (.cons (.ite (.cmp .eq (.var 8) (.var 6)) (.bin .fdiv (.var 2) (.int 3)) (.var 9)) .nil))) [8,9] (.sub (.var 3) (.str 60)) .no=Jq:=rfl
noncomputable def Jr:LE:=.comp (.var 11) [11] (.sub (.var 3) (.str 60)) (.so (.cmp .ne (.sub (.var 11) (.int 0)) (.var 6)))
theorem zq:LE.comp (.var 11) [11] (.sub (.var 3) (.str 60)) (.so (.cmp .ne (.sub (.var 11) (.int 0)) (.var 6)))=Jr:=rfl
theorem BE{r:Q}{n:Q}{g:Q}{j:Q}{d:Q}{pv:Q}{pv1:Q}{q:Q}{vv:Q}{tv:Q}{iv:Q}{m:Q}{l1:Q}{l12:Q}{l3:Q}(A:aR a j (.str 9)=S (.str 39))(t:bZ .mod g (.int 3)=S pv)(h:aR a j (.str 14)=S q)(y:aK a d 65=S (.own 30))(H:bZ .fdiv g (.int 3)=S vv)(T:f (.fn 3) [vv] a=.ok (tv,a))(e:f (.fn 30) [d,q,pv,tv] a=.ok (w,i))
  (L:aR i j (.str 60)=S iv) (k:dP i iv N (S pv)=S (l1,i)) (c:bZ .add l1 (.lst [vv])=S l12) (l:bZ .add pv (.int 1)=S pv1) (o:dP i iv (S pv1) N=S (l3,i)) (b:bZ .add l12 l3=S m) (G:dm i j (.str 60) m=S p) :
  cQ f (aH mX.body 2) [S r,S n,S g,S j,S d,N,N,N,N,N,N,N] a=.ok (.next,[S r,S n,S g,S j,S d,S pv,N,N,N,N,N,N],p):=by dsimp only[mX,aH];walk_at "ev"
theorem zr{k:Q}{e:Q}{d:Q}{j:Q}{b:Q}{pv:Q}{g:Q}{K:Q}{i0:Q}{i1:Q}{rv2:Q}{ov:Q}{t:MO}(A:aR a j (.str 9)=S (.str 36))(h:aR a j (.str 14)=S g)(y:aK a b 66=S (.own 32))(l:bZ .mod d (.int 2)=S pv)(H:bZ .fdiv d (.int 2)=S rv2)(v:bZ .mod rv2 (.int 256)=S ov)(C:f (.fn 32) [b,g,pv,ov] a=.ok (w,i))
  (D:ct i .eq pv (.int 0)=S t) (L:aR i j (.str 60)=S K) (J:aR i K (.int 0)=S i0) (c:aR i K (.int 1)=S i1) (G:dm i j (.str 60) (if t then .lst [ov,i1] else .lst [i0,ov])=S p) :
  cQ f (aH mX.body 2) [S k,S e,S d,S j,S b,N,N,N,N,N,N,N] a=.ok (.next,[S k,S e,S d,S j,S b,N,N,N,N,N,N,N],p):=by dsimp only[mX,aH];induction t using RD<;>simp only[PF,Oi,SR] at G<;>walk_at "ev"
theorem BF{o:Q}{n:Q}{e:Q}{j:Q}{d:Q}{pv:Q}{pv1:Q}{s:Q}{vv:Q}{tv:Q}{tn:Q}{iv:Q}{r:Q}{wdv:Q}{g:Q}{t:MO}(A:aR a j (.str 9)=S (.str 8))(z:ct a .lt n (.int 7)=S MK)(v:bZ .mod e (.int 3)=S pv)(l:bZ .add pv (.int 1)=S pv1)(k:dP a (.bx [97,98,99]) (S pv) (S pv1)=S (wdv,a))(q:aO f Jp [S o,S n,S e,S j,S d,N,N,N,N,N,N,N] a=.ok (g,a))
  (h:aR a j (.str 14)=S s) (y:aK a d 67=S (.own 35)) (b:f (.fn 4) [wdv] a=.ok (tn,a)) (H:bZ .fdiv e (.int 3)=S vv) (T:f (.fn 3) [vv] a=.ok (tv,a)) (m:f (.fn 35) [d,s,tn,tv] a=.ok (w,i))
  (D:ct i .in wdv g=S t) (c:t=MK->aO f Jq [S o,S n,S e,S j,S d,N,S wdv,S g,N,N,N,N] i=.ok (r,i)) (L:aR i j (.str 60)=S iv) (x:t=MS->bZ .add iv (.lst [.tup [wdv,vv]])=S r) (G:dm i j (.str 60) r=S p) :
  cQ f (aH mX.body 2) [S o,S n,S e,S j,S d,N,N,N,N,N,N,N] a=.ok (.next,[S o,S n,S e,S j,S d,N,S wdv,S g,N,N,N,N],p):=by
 dsimp only[mX,aH];refine R zp ?_;induction t using RD with
 |true=>have c:=c rfl;clear x;walk_at "ev"
 |false=>have x:=x rfl;clear c;walk_at "ev"
theorem BG{l:Q}{d:Q}{e:Q}{j:Q}{b:Q}{pv:Q}{g:Q}{n:Q}{c:Q}(A:aR a j (.str 9)=S (.str 8))(o:ct a .lt d (.int 7)=S MS)(t:bZ .mod e (.int 4)=S pv)(D:ct a .eq pv (.int 3)=S MK)(L:aR a j (.str 16)=S n)(m:bB a .min [n,.int 2]=S (c,a))(G:dm a j (.str 16) c=S i)(y:aK i b 68=S (.own 37))(h:aR i j (.str 14)=S g)(M:aR i j (.str 16)=S c)(k:f (.fn 37) [b,g,c] i=.ok (w,p)) :
  cQ f (aH mX.body 2) [S l,S d,S e,S j,S b,N,N,N,N,N,N,N] a=.ok (.next,[S l,S d,S e,S j,S b,N,N,N,N,N,N,N],p):=by dsimp only[mX,aH];walk_at "ev"
theorem rC{o:Q}{g:Q}{e:Q}{j:Q}{d:Q}{pv:Q}{pv1:Q}{r:Q}{tn:Q}{q:Q}{wdv:Q}{av:Q}(A:aR a j (.str 9)=S (.str 8))(s:ct a .lt g (.int 7)=S MS)(t:bZ .mod e (.int 4)=S pv)(D:ct a .eq pv (.int 3)=S MS)(m:bZ .mod e (.int 3)=S av)(l:bZ .add av (.int 1)=S pv1)(k:dP a (.bx [97,98,99]) (S av) (S pv1)=S (wdv,a))(h:aR a j (.str 14)=S r)(y:aK a d 69=S (.own 36))(b:f (.fn 4) [wdv] a=.ok (tn,a))(n:f (.fn 36) [d,r,tn] a=.ok (w,i))
  (c:aO f Jr [S o,S g,S e,S j,S d,N,S wdv,N,N,N,N,N] i=.ok (q,i)) (G:dm i j (.str 60) q=S p) :
  cQ f (aH mX.body 2) [S o,S g,S e,S j,S d,N,N,N,N,N,N,N] a=.ok (.next,[S o,S g,S e,S j,S d,N,S wdv,N,N,N,N,N],p):=by dsimp only[mX,aH];refine R zq ?_;walk_at "ev"
theorem BH{cf:CF}{w:Q}{wy:Q}{rv:Q}{one:Q}{mem:Q}{pv:Q}{rv2:Q}{kbv nv:Q}(A:aR a w (.str 58)=S kbv)(l1:bB a .len [kbv]=S (nv,a))(t:bZ .mod rv (.int 0)=bZ .mod rv (.int 0))(v:bZ .mod rv nv=S pv)(L:aR a kbv pv=S one)(H:bZ .fdiv rv nv=S rv2)(h:aR a w (.str 64)=S mem) :
  aW cf (rt [aH mX.body 0,aH mX.body 1] .nil) [S w,S wy,S rv,N,N,N,N,N,N,N,N,N] a=.ok (.next,[S w,S wy,S rv2,S one,S mem,N,N,N,N,N,N,N],a):=by dsimp only[mX,aH,rt];walk_at "ev"
theorem Cz{T:V Q}{p:Z}(l:T.length<1000)(s:p<1000):dP a (.lst T) N (S (.int p))=S (.lst (T.take p),a):=by
 have:∀{lo d:O Q} {I M:O ML},oK lo=S I->oK d=S M->dP a (.lst T) lo d=if sm T.length then S (.lst (cut T I M),a) else N:=λ{lo d I M} b G=>by unfold dP;refine R b ?_;rw[G]
 refine(this (lo:=N) rfl (rx s)).trans ?_;refine(Na (show sm T.length=MK from Nm l)).trans ?_;refine R zi rfl
theorem Hg{T:V Q}{P:Z}(l:T.length<1000)(s:P<1000):dP a (.lst T) (S (.int P)) N=S (.lst (T.drop P),a):=by
 have:∀{o hi:O Q} {I M:O ML},oK o=S I->oK hi=S M->dP a (.lst T) o hi=if sm T.length then S (.lst (cut T I M),a) else N:=λ{o hi I M} p G=>by unfold dP;refine R p ?_;rw[G]
 refine(this (hi:=N) (rx s) rfl).trans ?_;refine(Na (show sm T.length=MK from Nm l)).trans ?_;show S (Q.lst (V.drop (TQ P) (T.take T.length)),a)=_;refine R V.take_length ?_;refine R (T1 ..) rfl
theorem zt{P:Z}(s:P<3):dP a (.bx [97,98,99]) (S (.int P)) (S (.int (P+1:Z)))=S (wd P,a):=by
 have:∀{o d:O Q} {I M:O ML} {T:V Z},T.length<1000->oK o=S I->oK d=S M->dP a (.bx T) o d=S (.bx (cut T I M),a):=λ{o d I M T} B p G=>by unfold dP;refine R p (R G ?_);exact Na (show sm T.length=MK from Nm B)
 refine(this (by decide) (rx (n1 s rfl)) (rx (n2 s rfl))).trans ?_;have:=o5 s;clear s;rcases this with rfl|rfl|rfl<;>rfl
theorem m8{I M:V Q}(B:I.length+M.length<1000):bZ .add (.lst I) (.lst M)=S (.lst (I++M)):=Na (Nm B)
theorem rD{I M:ML}(B:0<M)(G:M<2 ^ 30):bZ .fdiv (.int I) (.int M)=S (.int (I.fdiv M)):=Na (R (Nm B) ((Nm G).trans rfl))
theorem EZ{P:Z×q}:∀{T:V (Z×q)},(T.map (·.1)).Nodup->P∈T->cq P.1 T=S P.2:=by
 intro T;induction T with
 |nil=>intro _ B;cases B
 |cons L y f=>
  intro n B;rw[R4,RV] at n;rcases RB.mp B with rfl|B;·exact(Na rfl)
  ·refine(Nc (λD:L.1=P.1=>n.1 (D▸R2 B))).trans ?_;exact(f n.2 B)
theorem BJ{E:q}:∀{T:V (Z×q)},(T.map (·.1)).Nodup->(cq h T).isSome=MK->ey h E T=T.map λP=>(P.1,if P.1=h then E else P.2):=by
 intro T;induction T with
 |nil=>intro _ B;cases B
 |cons P y f=>
  intro n B;rw[R4,RV] at n;rw[jF] at B;refine rk.trans ?_;by_cases D:P.1=h
  ·refine(Na D).trans ?_;refine R R4 ?_;refine R (Na D) ?_
   congr 1
   conv=>lhs;rw[<-V1 y]
   refine UL λL e=>?_
   have:L.1≠h:=λU=>n.1 (by refine R D ?_;refine R U.symm ?_;exact R2 e)
   refine R (Nc this) ?_;rfl
  ·rw[Nc D] at B;refine R (Nc D) ?_;refine R R4 ?_;refine R (Nc D) ?_;refine R (f n.2 B) rfl
theorem BK{i:Type}{A:Z->i}{I M:i}:upd (upd A o I) o M=upd A o M:=by funext K;unfold upd;split<;>rfl
set_option tactic.hygienic true in
theorem E0{i:Type}{A:Z->i}:upd A o (A o)=A:=by
 funext K;unfold upd;split;·rename_i B;rw[B]
 ·rfl
theorem Kk{H:AH}{a w:Z}:ct H .eq (wd a) (wd w)=S (MW (a=w))/\ct H .ne (wd a) (wd w)=S (!MW (a=w)):=by
 have:zA H (wd a) (wd w)=S (MW (a=w)):=by show S (([97+a]:V Z)==[97+w])=_;rw[sV]
 exact⟨this,by show(zA H (wd a) (wd w)).map _=_;refine R this ?_;rfl⟩
theorem L8:∀{T:V (Z×ML)},gq (wd h) (T.map λP=>wd P.1)=S (cq h T).isSome:=by
 intro T;induction T with
 |nil=>exact rfl
 |cons P y f=>
  show(gq (wd h) (y.map λP=>wd P.1)).map ((([97+P.1]:V Z)==[97+h])||·)=_
  refine R f ?_;refine R sV ?_
  show _=S (if P.1=h then S P.2 else cq h y).isSome
  by_cases D:P.1=h
  ·refine R (Na D) ?_;refine R (Nm D) ?_;rfl
  ·refine R (Nc D) ?_;refine R (NG D) ?_;rfl
theorem Js(J:b.k=.dict)(t:a.D[b.d]? = S (dy b c))(l:c.en.length<500)(T:e[3]? = S (S (.ab b.d)))(A:e.length=12):aO f Jp e a=.ok (.lst (c.en.map λP=>wd P.1),a):=by
 have d:cS b.k c=.lst (c.en.map λP=>.tup [wd P.1,.int P.2]):=by refine R J ?_;rfl
 have h:aR a (.ab b.d) (.str 60)=S (.lst (c.en.map λP=>.tup [wd P.1,.int P.2])):=by refine R d.symm ?_;exact ld t rfl
 refine bM (ry (H:=a) (xs:=c.en.map λP=>Q.tup [wd P.1,.int P.2]) (by refine R (Ry ..) ?_;exact n1 l rfl)) λk o=>?_;have:=gG (cf:=f) (elt:=.sub (.var 10) (.int 0)) (ts:=[10]) (cond:=.no) (g:=λE:Q=>match E with|AV.tup [r,_]=>S r|_=>N) (nL T h) k o λr x=>by
  refine aM (Si.mp x) λP Y bG=>?_;clear k o x d h J t l T;subst bG;have:(e.set 10 (S (Q.tup [wd P.1,.int P.2])))[10]? = S (S (.tup [wd P.1,.int P.2])):=by exact(Tg (by exact n7 A rfl))
  walk_at "ev"
 rw[Ts] at this;refine R EY.symm ?_;refine this.trans ?_;rw[<-Tt];rfl
theorem Jt{w:Z}{y:ML}{E:ML}(J:b.k=.dict)(t:a.D[b.d]? = S (dy b c))(l:c.en.length<500)(T:e[3]? = S (S (.ab b.d)))(A:e.length=12)(m:e[6]? = S (S (wd w)))(G:e[2]? = S (S (.int y)))(j:bZ .fdiv (.int y) (.int 3)=S (.int E)):aO f Jq e a=.ok (.lst (c.en.map λP=>.tup [wd P.1,.int (if P.1=w then E else P.2)]),a):=by
 have d:cS b.k c=.lst (c.en.map λP=>.tup [wd P.1,.int P.2]):=by refine R J ?_;rfl
 have h:aR a (.ab b.d) (.str 60)=S (.lst (c.en.map λP=>.tup [wd P.1,.int P.2])):=by rw[<-d];exact ld t rfl
 refine bM (ry (H:=a) (xs:=c.en.map λP=>Q.tup [wd P.1,.int P.2]) (by rw[Ry];exact n1 l rfl)) λk o=>?_
 have:=gG (cf:=f) (elt:=.tup (.cons (.var 8) (.cons (.ite (.cmp .eq (.var 8) (.var 6)) (.bin .fdiv (.var 2) (.int 3)) (.var 9)) .nil))) (ts:=[8,9]) (cond:=.no) (g:=λr:Q=>match r with|AV.tup [Q.bx H,s]=>S (Q.tup [.bx H,if H=[97+w] then .int E else s])|_=>N) (nL T h) k o λr x=>by
  refine aM (Si.mp x) λP Y cm=>?_;clear k o x d h J t l T;subst cm;have b8:((e.set 8 (S (wd P.1))).set 9 (S (.int P.2)))[8]? = S (S (wd P.1)):=by rw[R6 (by decide),Tg (by exact n7 A rfl)]
  have i:((e.set 8 (S (wd P.1))).set 9 (S (.int P.2)))[9]? = S (S (.int P.2)):=by rw[Tg (by rw[Ta];exact n7 A rfl)]
  have b6:((e.set 8 (S (wd P.1))).set 9 (S (.int P.2)))[6]? = S (S (wd w)):=by rw[R6 (by decide),R6 (by decide)];exact m
  have b2:((e.set 8 (S (wd P.1))).set 9 (S (.int P.2)))[2]? = S (S (.int y)):=by rw[R6 (by decide),R6 (by decide)];exact G
  have D:=(Kk (H:=a) (a:=P.1) (w:=w)).1;show bt _ _ _ _ _ _ _=Res.ok (S (Q.tup [wd P.1,if([97+P.1]:V Z)=[97+w] then .int E else .int P.2]),a);by_cases U:P.1=w;·rw[Nm U] at D;rw[Na (by rw[U])];walk_at "ev"
  ·rw[NG U] at D;rw[Nc (by simpa using U)];walk_at "ev"
 rw[Ts] at this
 rw[<-zp,this,<-Tt]
 congr 4
 funext P
 show S (Q.tup [wd P.1,if([97+P.1]:V Z)=[97+w] then .int E else .int P.2])=S (Q.tup [wd P.1,.int (if P.1=w then E else P.2)])
 by_cases U:P.1=w
 ·rw[Na (by rw[U]),Na U]
 ·rw[Nc (by simpa using U),Nc U]
noncomputable def gF(a:Z)(r:Q):O Q:=match r with|AV.tup [Q.bx H,s]=>if H=[97+a] then N else S (Q.tup [.bx H,s])|_=>N
theorem CB{s:Q}:gF h (.tup [wd n,s])=if n=h then N else S (.tup [wd n,s]):=by
 by_cases U:n=h;·refine(Na (by refine R U rfl)).trans ?_;rw[Na U]
 ·refine(Nc (by simpa using U)).trans ?_;refine R (Nc U) rfl
theorem Hh{w:Z}(J:b.k=.dict)(t:a.D[b.d]? = S (dy b c))(l:c.en.length<500)(T:e[3]? = S (S (.ab b.d)))(A:e.length=12)(m:e[6]? = S (S (wd w)))(n:(c.en.map (·.1)).Nodup):aO f Jr e a=.ok (.lst ((iZ w c.en).map λP=>.tup [wd P.1,.int P.2]),a):=by
 have i:cS b.k c=.lst (c.en.map λP=>.tup [wd P.1,.int P.2]):=by refine R J ?_;rfl
 have h:aR a (.ab b.d) (.str 60)=S (.lst (c.en.map λP=>.tup [wd P.1,.int P.2])):=by rw[<-i];exact ld t rfl
 refine bM (ry (H:=a) (xs:=c.en.map λP=>Q.tup [wd P.1,.int P.2]) (by rw[Ry];exact n1 l rfl)) λk o=>?_
 have:=gG (cf:=f) (elt:=.var 11) (ts:=[11]) (cond:=.so (.cmp .ne (.sub (.var 11) (.int 0)) (.var 6))) (g:=gF w) (nL T h) k o λr x=>by
  refine aM (Si.mp x) λP Y du=>?_
  subst du
  have B:(e.set 11 (S (Q.tup [wd P.1,.int P.2])))[11]? = S (S (.tup [wd P.1,.int P.2])):=by rw[Tg (by exact n7 A rfl)]
  have b6:(e.set 11 (S (Q.tup [wd P.1,.int P.2])))[6]? = S (S (wd w)):=by rw[R6 (by decide)];exact m
  have q:aR a (.tup [wd P.1,.int P.2]) (.int 0)=S (wd P.1):=rfl
  have D:=(Kk (H:=a) (a:=P.1) (w:=w)).2
  rw[CB]
  by_cases U:P.1=w
  ·rw[Nm U] at D
   rw[Na U]
   walk_at "ev"
  ·rw[NG U] at D
   rw[Nc U]
   walk_at "ev"
 rw[Ts] at this
 rw[<-zq,this,gC n]
 congr 3
 induction c.en with
 |nil=>rfl
 |cons P y d=>
  rw[TO,TN]
  rw[show(gF w ∘ λP:Z×ML=>Q.tup [wd P.1,.int P.2]) P=_ from CB]
  by_cases U:P.1=w
  ·rw[Na U,Nc (by simp[U])]
   exact d
  ·rw[Nc U,Na (by simp[U]),R4]
   exact Nb _ d
theorem CD:∀U,yY l b U->Jn l b U:=λU B=>.inl B
theorem nD{o:Z}{h:Sg}(k:In o a h)(w:b∈h.bs):¬yY h.es b (.D b.d):=λL=>L.elim (zJ (k.d0 b w)) λL=>k.S.x b w _ L (.inr (.inr (.inr (.inr (.inr (ba b w rfl))))))
theorem E1{o:Z}{h:Sg}{way:ML}{rest:ML}{cf:CF}(k:In o a h)(H:o<=14)(E:h.bs≠[]):∃M∈h.bs,∃y:ML,∀{v:Loc} {r:AH},cQ cf (aH mX.body 2) [S (.ab 1),S (.int way),S (.int y),S (.ab M.d),S (.aA 0),N,N,N,N,N,N,N] a=.ok (.next,v,r)->aW cf mX.body [S (.ab 1),S (.int way),S (.int rest),N,N,N,N,N,N,N,N,N] a=.ok (.next,v,r):=by
 have f:=k.z3;have l:=VG.mpr E;refine aM (gn (a:=rest) l) λP s pl=>?_;refine⟨h.bs[P],V.getElem_mem pl,rest.fdiv h.bs.length,λ{v r} D=>?_⟩;have l1:=jI k.W.b (by refine R (Ry ..) ?_;refine R (Ry ..) ?_;exact n2 (RG f H) rfl);rw[Ry,Ry] at l1;have b:aR a (.aE h.kb) (.int P)=S (.ab h.bs[P].d):=by refine(oL k.W.b).trans ?_;refine(oL (show place P ((h.bs.map (·.d)).map Q.ab).length=S P by refine(Na (by exact RP _)).trans ?_;refine(Na (by refine R (Ry ..) ?_;refine R (Ry ..) ?_;exact⟨RT.mpr pl,RT.mpr (n1 (RQ pl (RG f H)) rfl)⟩)).trans ?_;rfl)).trans ?_;refine RJ.trans ?_;refine R RJ ?_;refine R (RA pl) ?_;rfl
 change aW cf (rt [aH mX.body 0,aH mX.body 1] (.cons (aH mX.body 2) .nil)) _ a=_;refine(td (BH (cf:=cf) (w:=.ab 1) (wy:=.int way) (rv:=.int rest) (pv:=.int P) (one:=.ab h.bs[P].d) (mem:=.aA 0) (rv2:=.int (rest.fdiv h.bs.length)) (kbv:=.aE h.kb) (nv:=.int h.bs.length) (k.W.sub rfl) l1 rfl (by refine(nM (by exact RT.mpr l)).trans ?_;refine R s rfl) b (rD (by exact RT.mpr l) (by exact RT.mpr (n2 (RG f H) rfl))) (k.W.sub rfl))).trans ?_;refine(aX D).trans ?_;rfl
theorem BL{T:V ML}{P:Z}{E:ML}(B:P<T.length):(T.take P).map Q.int++[Q.int E]++(T.drop (P+1)).map Q.int=(T.set P E).map Q.int:=by refine R V.set_eq_take_append_cons_drop ?_;refine R (Na B) ?_;refine R R7 ?_;refine(Sm ..).trans ?_;rfl
theorem ti{c7:Z}{m:Z}{h:Sg}{way:ML}{rest:ML}(k:In c7 a h)(H:c7<=14)(h0:h.bs≠[])(hm:7<=m):∃H' g,aC m (.fn 54) [.ab 1,.int way,.int rest] a=.ok (.none,H')/\In (c7+1) H' g:=by
 refine hF λc3=>?_;refine aM (eE hm) λa6 dV n=>?_;subst dV;have b:=k.z2;have z3:=k.z3;have z4:=k.z4;have z5:=k.z5;obtain⟨M,w,y,go⟩:=E1 (cf:=aC a6) (way:=way) (rest:=rest) k H h0;have c5:∀{l':Loc} {H':AH},cQ (aC a6) (aH mX.body 2) [S (.ab 1),S (.int way),S (.int y),S (.ab M.d),S (.aA 0),N,N,N,N,N,N,N] a=.ok (.next,l',H')->aC (a6+1) (.fn 54) [.ab 1,.int way,.int rest] a=.ok (.none,H'):=λ{l' H'} D=>by refine(aN (f:=mX) [S (.ab 1),S (.int way),S (.int rest),N,N,N,N,N,N,N,N,N] rfl rfl).trans ?_;refine(bL (go D)).trans ?_;rfl
 have jl:((h.jo.map (enc h.bd)).reverse).length<97:=by refine R Sq ?_;refine R (Ry ..) ?_;exact n2 (RG b (Ub 2 H)) rfl
 have T:=k.sp w;have a5:=k.MM M w;have a8:=k.DD M w;have d:=k.P.gd M w;have Y:=k.P.zK M w;refine bM (hW d) λfC E=>?_;refine bM fC λK a9=>?_;have c2:∀{z:AH},Fr (yY h.es M) a z->z.D[M.d]? = S (dy M (h.cs M.num)):=λx=>x.D _ _ (nD k w) a8;have a2:aR a (.ab M.d) (.str 14)=S (bv M):=ld a8 rfl;have A:aR a (.ab M.d) (.str 9)=S (kS M.k):=ld a8 rfl;refine c3 ?_;refine hF λc6=>?_;have X:∀{z:AH} {c':Ct} {jo':Jo} {md':V (Z×p9)} {u' ug':ML},GM z {h.μ with u:=u',ug:=ug'} h.svs ((jo'.map (enc h.bd)).reverse) md'->MB z h.es M c'->Fr (yY h.es M) a z->c'.acc=(h.cs M.num).acc->Pu h.svs jo' h.bs (upd h.cs M.num c') h.bd->md'.map ru=h.md.map ru->u'<=h.μ.u+96->ug'<=h.μ.ug+96->jo'.length<=h.jo.length+2->
   dm z (.ab M.d) (.str 60) (cS M.k c')=S (wD z M.d (eS M (cS M.k c') (.int (h.cs M.num).acc)))/\∃g,In (c7+1) (wD z M.d (eS M (cS M.k c') (.int (h.cs M.num).acc))) g:=λ{z c' jo' md' u' ug'} d8 a5 x ha e9 e1 e2 e3 e4=>by
  have Dn:=c2 x
  replace Dn:=ky▸Dn
  refine⟨Cw Dn,?_⟩
  have F2:Fr (λU=>U=.D M.d) z (wD z M.d (eS M (cS M.k c') (.int (h.cs M.num).acc))):=Fr.wD rfl
  refine oH (c':=c') k w (d8.fr F2 nofun (λq=>k.d0 M w (Ad.D.inj q).symm) nofun nofun) (a5.fr F2 λU hz q=>?_) ?_ ((x.mono CD).trans (F2.mono λU q=>.inr q)) e9 e1 e2 e3 e4
  ·exact k.S.x M w U hz (.inr (.inr (.inr (.inr (.inr (ba M w q))))))
  ·refine R ky ?_;refine R ha.symm ?_;exact bY Dn
 have mu:{h.μ with u:=h.μ.u,ug:=h.μ.ug}=h.μ:=rfl;induction J:M.k using Wo with
 |row=>rw[J] at d A;refine aM (gn (a:=y) (n:=3) (by decide)) λP s pl=>?_;have il:=d.1;refine Hs (Ew (m:=a6) (p:=P) (i:=y.fdiv 3) k.G (by exact n1 jl rfl) T (by exact n) J a5 (by exact RQ pl (R1 il.symm)) (by exact n6 il rfl) λm b9 a=>sZ b9) λz a3 ho d6 G B p=>?_;rw[kz Y] at G;have st:=iu (c':={h.cs M.num with cx:=(h.cs M.num).cx.set P (y.fdiv 3)}) (u:=.item P a3) k.P w (vY ho) (by rw[J];exact⟨rfl,by show P<(V.set _ _ _).length;rw[Ta];exact RQ pl (R1 il.symm)⟩) (by rw[J];decide) (by rw[J];exact vW d);clear c3 b z3 z4 z5 mu H h0 hm go K;obtain⟨a7,g,a4⟩:=X (u':=h.μ.u) (ug':=h.μ.ug) G B p rfl st rfl (by exact i6 rfl) (by exact i6 rfl) (by have:=iq (b:=M) (svs:=h.svs) (jo:=h.jo) (u:=.item P a3);exact Hp this rfl);refine c6 ?_;refine dI _ g (c5 (BE (pv:=.int P) (pv1:=.int (P+1:Z)) (vv:=.int (y.fdiv 3)) (tv:=tI (y.fdiv 3)) (l1:=.lst (((h.cs M.num).cx.map Q.int).take P)) (l12:=.lst (((h.cs M.num).cx.map Q.int).take P++[.int (y.fdiv 3)])) (l3:=.lst (((h.cs M.num).cx.map Q.int).drop (P+1))) (iv:=.lst ((h.cs M.num).cx.map Q.int)) A (by rw[nM (by decide)];exact Nb (λr=>S (Q.int r)) s) a2 (k.G.rc rfl) (rD (by decide) (by decide)) (yR (by exact n4 n rfl)) d6 (by rw[show Q.lst ((h.cs M.num).cx.map Q.int)=cS M.k (h.cs M.num) by rw[J];rfl];exact ld (c2 p) rfl) (Cz (by rw[Ry];exact n6 il rfl) (by exact n1 pl rfl)) (m8 (by rw[S0,Ry,UA];exact Ky (RM (Tb ..) pl) rfl)) rfl (Hg (by rw[Ry];exact n6 il rfl) (by exact n2 pl rfl)) ?_ a7)) a4;rw[m8 (by rw[RE,S0,TC,Ry,UA];exact o6 il),J,<-UX,<-V.map_drop,BL (by exact RQ pl (R1 il.symm))];rfl
 |text=>
  rw[J] at d A;refine aM (gn (a:=y) (n:=2) (by decide)) λP s pl=>?_;refine aM (gn (a:=y.fdiv 2) (n:=256) (by decide)) λa3 ho ol=>?_;have il:=d.1;refine bM (Er J a5 (l:=(h.cs M.num).cx.set P a3)) λB p=>?_;have G:=T.gm p k.G;clear c3 b z3 z4 z5 mu H h0 hm go K;obtain⟨a7,g,a4⟩:=X (c':={h.cs M.num with cx:=(h.cs M.num).cx.set P a3}) (u':=h.μ.u) (ug':=h.μ.ug) G B (p.mono λU q=>.inr q) rfl (k.P.plain w (.inr (.inl J)) (by rw[J];exact⟨by show(V.set _ _ _).length=2;rw[Ta];exact il,d.2⟩)) rfl (by exact i6 rfl) (by exact i6 rfl) (by exact R5 _ _);obtain⟨I,i1,ii⟩:=Ap il;have iv:aR (wB a M.a ((h.cs M.num).cx.set P a3)) (.ab M.d) (.str 60)=S (.lst [.int I,.int i1]):=by rw[show Q.lst [.int I,.int i1]=cS M.k (h.cs M.num) by rw[J];show _=Q.lst ((h.cs M.num).cx.map Q.int);rw[ii];rfl];exact ld (c2 (p.mono λU q=>.inr q)) rfl
  refine c6 ?_;refine dI _ g (c5 (zr (t:=MW (P=0)) (pv:=.int P) (rv2:=.int (y.fdiv 2)) (ov:=.int a3) (i0:=.int I) (i1:=.int i1) A a2 (k.G.rc rfl) (by rw[nM (by decide)];exact Nb (λr=>S (Q.int r)) s) (rD (by decide) (by decide)) (by rw[nM (by decide)];exact Nb (λr=>S (Q.int r)) ho) (Et (m:=a6) (i:=a3) (by exact n4 n rfl) J a5 (p:=P) (by exact RQ pl (R1 il.symm)) (by exact n6 il rfl) (by exact RP _) (by exact RT.mpr ol)) ?_ iv rfl rfl ?_)) a4
  ·show S (MW ((P:ML)=0))=_;by_cases b9:P=0;·rw[Nm b9,Nm (by exact Nb Z.cast b9)]
   ·rw[NG b9,NG (by exact mt U2.mp b9)]
  ·rw[<-a7]
   congr 1
   rw[J]
   show _=Q.lst (((h.cs M.num).cx.set P a3).map Q.int)
   rw[ii]
   have:=KG pl
   clear s pl ho ol il ii
   rcases this with rfl|rfl<;>rfl
 |dict=>
  rw[J] at d A;refine aM (gn (a:=y) (n:=3) (by decide)) λa0 C j=>?_;have m3:bZ .mod (.int y) (.int 3)=S (.int a0):=by rw[nM (by decide)];exact Nb (λr=>S (Q.int r)) C
  have p1:bZ .add (.int a0) (.int 1)=S (.int (a0+1:Z)):=rfl;have c4:aC a6 (.fn 4) [wd a0] a=.ok (tN a0,a):=Hd (by exact n4 n rfl);have d0:h.md.length=h.bs.length:=by have:=Nb Uu k.md;rw[Ry,Ry] at this;exact this
  refine wb (MW (way<7)) (λh7=>?_) (λh7=>?_)
  ·have w7:ct a .lt (.int way) (.int 7)=S MS:=by rw[<-h7];rfl
   have m4:bZ .mod (.int y) (.int 4)=S (.int (y.fmod 4)):=nM (by decide);refine wb (MW (y.fmod 4=3)) (λh4=>?_) (λh4=>?_)
   ·have d3:ct a .eq (.int (y.fmod 4)) (.int 3)=S MS:=by rw[<-h4];rfl
    refine kF (cq a0 (h.cs M.num).en) (λo=>?_) (λa3 o=>?_)
    ·have d2:=Ex (m:=a6) (by exact n4 n rfl) J a5 o;refine hF λe0=>?_;obtain⟨a7,g,a4⟩:=X (c':=h.cs M.num) (jo':=h.jo) (md':=h.md) (u':=h.μ.u) (ug':=h.μ.ug) k.G a5 Fr.refl rfl (by rw[E0];exact k.P) rfl (by exact i6 rfl) (by exact i6 rfl) (by exact R5 _ _);refine e0 ?_;refine c6 ?_;refine dI _ g (c5 (rC (pv:=.int (y.fmod 4)) (av:=.int a0) (pv1:=.int (a0+1:Z)) (wdv:=wd a0) (tn:=tN a0) A w7 m4 d3 m3 p1 (zt j) a2 (k.G.rc rfl) c4 d2 ?_ a7)) a4;rw[Hh (w:=a0) J a8 (by exact n2 a9 rfl) rfl rfl rfl E,J];have:iZ a0 (h.cs M.num).en=(h.cs M.num).en:=by rw[gC E];refine UK.mpr λq hq=>?_;have:=mG.mp o;rw[OS];exact λU=>this (U▸R2 hq)
     rw[this];rfl
    ·refine wH (Ey (m:=a6) k.G (by exact n1 jl rfl) T (by exact n4 n rfl) J a5 o (by exact n2 a9 rfl)) λz d2 G B p=>?_;rw[kz Y] at G;have st:=iu (c':={h.cs M.num with en:=iZ a0 (h.cs M.num).en}) (u:=.drop a0 a3 ((h.cs M.num).en.map (·.1))) k.P w (vZ E o) (by rw[J];exact BD d) (by rw[J];decide) (by rw[J];exact vX d);obtain⟨a7,g,a4⟩:=X (u':=h.μ.u) (ug':=h.μ.ug) G B p rfl st rfl (by exact i6 rfl) (by exact i6 rfl) (by have:=iq (b:=M) (svs:=h.svs) (jo:=h.jo) (u:=.drop a0 a3 ((h.cs M.num).en.map (·.1)));exact Hp this rfl);refine c6 ?_;refine dI _ g (c5 (rC (pv:=.int (y.fmod 4)) (av:=.int a0) (pv1:=.int (a0+1:Z)) (wdv:=wd a0) (tn:=tN a0) A w7 m4 d3 m3 p1 (zt j) a2 (k.G.rc rfl) c4 d2 ?_ a7)) a4;rw[Hh (w:=a0) J (c2 p) (by exact n2 a9 rfl) rfl rfl rfl E,J];rfl
   ·obtain⟨e,L,e6⟩:∃e:ML,bB a .min [.int (h.cs M.num).acc,.int 2]=S (.int e,a)/\e<=(h.cs M.num).acc:=by
     refine ba _ rfl ?_;split<;>first|exact Vp _|exact VK (by assumption)
    have F0:Fr (λU=>U=.D M.d) a (wD a M.d (eS M (cS M.k (h.cs M.num)) (.int e))):=Fr.wD rfl
    have G0:=k.G.fr F0 nofun (λq=>k.d0 M w (Ad.D.inj q).symm) nofun nofun
    have D0:(wD a M.d (eS M (cS M.k (h.cs M.num)) (.int e))).D[M.d]? = S (eS M (cS M.k (h.cs M.num)) (.int e)):=bY a8
    have c8:(wD a M.d (eS M (cS M.k (h.cs M.num)) (.int e))).D[M.d]? = S (dy M {h.cs M.num with acc:=e}):=by rw[D0,ky];induction M.k using Wo<;>rfl
    refine wH (Eu (m:=a6) (i:=e) G0 (by exact n1 jl rfl) T (by exact n4 n rfl) J (a5.fr F0 λU hz q=>k.S.x M w U hz (.inr (.inr (.inr (.inr (.inr (ba M w q))))))) e6) λH2 e5 G2 M2 F2=>?_
    rw[kz Y] at G2
    refine dD (oH (u':=h.μ.u) (ug':=h.μ.ug) k w G2 M2 (F2.D _ _ (nD k w) c8) ((F0.mono λU q=>.inr q).trans (F2.mono CD)) (iu (c':={h.cs M.num with acc:=e}) (u:=.acc (h.cs M.num).acc) k.P w rfl (by rw[J];rfl) (by rw[J];decide) (by rw[J];exact d)) rfl (by exact i6 rfl) (by exact i6 rfl) (by have:=iq (b:=M) (svs:=h.svs) (jo:=h.jo) (u:=.acc (h.cs M.num).acc);exact Hp this rfl)) λg a4=>?_
    refine c6 ?_
    exact dI H2 g (c5 (BG (pv:=.int (y.fmod 4)) A w7 m4 (by rw[<-h4];rfl) (ld a8 rfl) L (Cy (v:=.int e) (ky▸a8)) (G0.rc rfl) (ld c8 rfl) (ld c8 rfl) e5)) a4
  ·have d1:(h.md.map (·.1)).Nodup:=by rw[qi k.md];exact k.P.nn
   obtain⟨c,hc⟩:∃c,cq M.num h.md=S (c,M.g,M.lv):=by
    have:(M.num,M.g,M.lv)∈h.md.map ru:=by rw[k.md];exact Si.mpr (ba M w rfl)
    refine hF λe7=>?_;refine aM (Si.mp this) λq hq D=>?_;obtain⟨g3,c1,g1,l1⟩:=q;refine bM (NT.mk.inj D) λi9 e2=>?_;subst i9;refine bM (NT.mk.inj e2) λjT lP=>?_;clear c3 C e2 b z3 z4 z5 mu d0 H h0 hm go K;subst jT;subst lP;refine e7 ?_;exact⟨c1,EZ d1 hq⟩
   have gm:wj a0 (h.cs M.num)=MK->(h.cs M.num).most=2:=λo=>by
    refine bM (RS.mp o) λg1 g2=>?_;rw[S9] at g1;have g2:=M5 g2;have n:a0∉(h.cs M.num).en.map (·.1):=by rw[<-jG,g1];decide
    have:=Jl (l:=a0 :: (h.cs M.num).en.map (·.1)) (RV.mpr ⟨n,E⟩) (λd9 hj=>by
     clear c3 C g1 g2 b z3 z4 z5 mu d0 d1 H h0 hm go K;rcases RB.mp hj with rfl|hj;·exact j
     ·exact d.2.2.1 d9 hj)
    rw[SY] at this;rcases d.2.2.2 with U|U;·exact U
    ·exact Ng (SV (U▸g2) (S4.mpr a9)) (by decide)
   refine wH (EB (m:=a6) (w:=a0) (i:=y.fdiv 3) k.G jl T (by exact n) J a5 (by exact n2 a9 rfl) gm hc (by exact o3 H z4 z5 (by decide))) λz e8 G B p=>?_;have d7:dm z (.ab M.d) (.str 60) (cS M.k {h.cs M.num with en:=ey a0 (y.fdiv 3) (h.cs M.num).en,most:=if wj a0 (h.cs M.num) then 8 else(h.cs M.num).most})=S (wD z M.d (eS M (cS M.k {h.cs M.num with en:=ey a0 (y.fdiv 3) (h.cs M.num).en,most:=if wj a0 (h.cs M.num) then 8 else(h.cs M.num).most}) (.int (h.cs M.num).acc)))/\∃g,In (c7+1) (wD z M.d (eS M (cS M.k {h.cs M.num with en:=ey a0 (y.fdiv 3) (h.cs M.num).en,most:=if wj a0 (h.cs M.num) then 8 else(h.cs M.num).most}) (.int (h.cs M.num).acc))) g:=by
    have d4:∀c9:Ct,c9.en=ey a0 (y.fdiv 3) (h.cs M.num).en->yJ M.k (.ent a0 (cq a0 (h.cs M.num).en)) c9:=λc9 D=>by rw[J];refine⟨rfl,?_⟩;rw[D,p0,Na rfl];rfl
    clear c3 C b z3 z4 z5 jl T a5 mu d0 d1 H h0 hm go K
    induction o:wj a0 (h.cs M.num) using RD with
    |false=>rw[o] at G B;simp only[SR,Oi,Jf] at G B;rw[kz Y] at G;exact X (u':=h.μ.u) (ug':=h.μ.ug) G B p rfl (iu (c':={h.cs M.num with en:=ey a0 (y.fdiv 3) (h.cs M.num).en}) (u:=.ent a0 (cq a0 (h.cs M.num).en)) k.P w rB (d4 _ rfl) (by rw[J];decide) (by rw[J];exact rA j d d.2.2.2)) rfl (by exact i6 rfl) (by exact i6 rfl) (by have:=iq (b:=M) (svs:=h.svs) (jo:=h.jo) (u:=.ent a0 (cq a0 (h.cs M.num).en));exact Hp this rfl)
    |true=>rw[o] at G B;simp only[PF,Jf] at G B;rw[kz Y,kz Y] at G;have dw:=iu (c':={h.cs M.num with most:=8}) (u:=.most 2) k.P w (by show({h.cs M.num with most:=2}:Ct)=h.cs M.num;rw[<-(gm o)]) (by rw[J];exact⟨rfl,rfl⟩) (by rw[J];decide) (by rw[J];exact qy d.1 d.2.1 d.2.2.1 (.inr rfl));have cN:=iu (c':={h.cs M.num with en:=ey a0 (y.fdiv 3) (h.cs M.num).en,most:=8}) (u:=.ent a0 (cq a0 (h.cs M.num).en)) dw w (by rw[bE];exact rB (c:={h.cs M.num with most:=8})) (d4 _ rfl) (by rw[J];decide) (by rw[J];exact rA j d (.inr rfl));rw[BK] at cN;refine X (u':=if M.g then h.μ.u else h.μ.u+96) (ug':=if M.g then h.μ.ug+96 else h.μ.ug) G B p rfl cN (zf hc) (by split<;>first|exact Vp _|exact i6 rfl) (by split<;>first|exact Vp _|exact i6 rfl) ?_;exact RG iq (TB iq)
   obtain⟨a7,g,a4⟩:=d7;have d5:bZ .fdiv (.int y) (.int 3)=S (.int (y.fdiv 3)):=rD (by decide) (by decide);have hi:cS M.k (h.cs M.num)=.lst ((h.cs M.num).en.map λP=>.tup [wd P.1,.int P.2]):=by rw[J];rfl
   refine c6 ?_;refine dI _ g (c5 (BF (t:=(cq a0 (h.cs M.num).en).isSome) (pv:=.int a0) (pv1:=.int (a0+1:Z)) (wdv:=wd a0) (tn:=tN a0) (vv:=.int (y.fdiv 3)) (tv:=tI (y.fdiv 3)) (iv:=.lst ((h.cs M.num).en.map λP=>.tup [wd P.1,.int P.2])) A (by rw[<-h7];rfl) m3 p1 (zt j) (Js J a8 (by exact n2 a9 rfl) rfl rfl) a2 (k.G.rc rfl) c4 d5 (yR (by exact n4 n rfl)) e8 L8 (λht=>?_) (by rw[<-hi];exact ld (c2 p) rfl) (λht=>?_) a7)) a4;·rw[Jt (w:=a0) J (c2 p) (by exact n2 a9 rfl) rfl rfl rfl rfl d5,J];show _=Res.ok (Q.lst ((ey a0 (y.fdiv 3) (h.cs M.num).en).map λP=>.tup [wd P.1,.int P.2]),z);rw[BJ E ht,SW];rfl
   ·rw[m8 (by rw[Ry,UA];exact Iq a9 rfl),J];show _=S (Q.lst ((ey a0 (y.fdiv 3) (h.cs M.num).en).map λP=>.tup [wd P.1,.int P.2]));have n:cq a0 (h.cs M.num).en=N:=by
     induction b9:cq a0 (h.cs M.num).en using Rx with
     |none=>rfl
     |some a3=>rw[b9] at ht;cases ht
    rw[ij n,R7];rfl
theorem oJ{step:Z->AV->Loc->AH->Res (Fl×Loc×AH)}{s:Src}{j:V AV}{Q:Loc->AH->Prop}(P:∀T b,Q T b->∀K,s.at K b=S j[K]?)(x:∀K a T b,j[K]? = S a->Q T b->∃v r,step K a T b=.ok (.next,v,r)/\Q v r):∀(y:V AV) (K:Z) (T:Loc) (b:AH),j.drop K=y->Q T b->∃v r,cg step s (y.length+1) K T b=.ok (.next,v,r)/\Q v r:=by
 intro y;induction y with
 |nil=>exact λK T b B L=>(dI T b (Ef ((P T b L _).trans (Nb S (Co B)))) L)
 |cons a y e=>intro K T b B L;have d:=Cp B;exact cj (x K a T b d L) λl1 z X c=>cj (e (K+1) l1 z (Cq B) c) λl2 I m q=>dI l2 I (wi ((P T b L _).trans (Nb S d)) X (yP m)) q
theorem In.Hi{o:Z}{r:AH}{h:Sg}{P:Ad->Prop}(k:In o a h)(x:Fr P a r)(H:∀U,P U->¬Mine.Lake.has a U):In o r h:=by have n:=λU B b=>H U b (k.has B);exact⟨k.g,k.G.fr x (n _ (.inl (.inl rfl))) (n _ (.inl (.inr (.inl rfl)))) (n _ (.inl (.inr (.inr rfl)))) (n _ (.inr (.inl rfl))),k.W.fr x (n _ (.inr (.inr (.inr (.inr (.inl rfl)))))) (n _ (.inr (.inr (.inl rfl)))) (n _ (.inr (.inr (.inr (.inl rfl))))),λM w=>(k.MM M w).fr x λU s b=>H U b ((k.MM M w).has s),λM w=>x.D _ _ (n _ (.inr (.inr (.inr (.inr (.inr (ba M w rfl))))))) (k.DD M w),k.S,k.k1,k.k2,k.d0,k.d1,k.dj,k.P,k.md,k.nl,k.sn,k.sl,k.go,k.z1,k.z2,k.z3,k.z4,k.z5,k.z6⟩
theorem In.emp{o:Z}{h:Sg}(k:In o a h):In o (aL a []) h:=k.Hi (P:=λY=>Nw) Fr.aL λY B=>B.elim
theorem In.one{o:Z}{h:Sg}(k:In o a h):In o (wL (aL a []) a.L.length [w]) h:=k.Hi (P:=λU=>U=.L a.L.length) (Fr.aL.trans (Fr.wL rfl)) λU D B=>by subst D;exact RU _ B
theorem E2{m:Z}{z:Bd}{i:V Q}{o c3:Ct}(C:GM a d g i j)(v:6<=m)(w:MB a l b c)(k:MB a l z o)(p:b.g=MK)(G:z.g=MS):aC m (.fn 30) [.aA 0,bv b,.int 0,dB z c3] a=.exc (.bx [105,110,118,97,108,105,100,97,99,99,101,115,115]) a:=by
 refine aM (eE v) λt bG n=>?_;clear v;subst bG;refine aM (eE n) λH cm J=>?_;clear n;subst cm;have h:=qb (m:=H) (H:=a) (y:=dB z c3) J (gN w).1 (l:=true) λm B=>by exact(yU B k).trans (R G rfl)
 rw[p] at h;have K:aK a (.aA 0) 46=S (.own 29):=C.rc rfl;have r:aK a (.aA 0) 41=S (.own 31):=C.rc rfl;have s:srcOf a (.lst [dB z c3])=S (.dS [dB z c3],1):=rfl;refine(aN (f:=Fu) [S (.aA 0),S (bv b),S (.int 0),S (dB z c3)] rfl rfl).trans ?_;delta Fu;have e:aC (H+1) (.fn 31) [.aA 0,bv b,.int 0,.lst [dB z c3]] a=.exc (.bx [105,110,118,97,108,105,100,97,99,99,101,115,115]) a:=by refine(aN (f:=Fv) [S (.aA 0),S (bv b),S (.int 0),S (.lst [dB z c3]),N,N] rfl rfl).trans ?_;delta Fv;walk_at "ev"
 walk_at "ev"
theorem E3{m:Z}{n:V Q}(C:GM a d g n j)(v:3<=m){q:ML}(B:fy q g=N):aC m (.fn 44) [.aA 0,.int q] a=.exc (.bx [105,110,118,97,108,105,100,114,101,115,116,111,114,101]) a:=by refine aM (eE v) λc du b=>?_;subst du;have D:=th (q:=q) (m:=c) C b;replace D:=B▸D;have K:aK a (.aA 0) 55=S (.own 42):=C.rc rfl;refine(aN (f:=jL) [S (.aA 0),S (.int q),N,N,N,N,N,N,N] rfl rfl).trans ?_;delta jL;walk_at "ev"
theorem v5{L:Z}(B:L∉g.map (·.num)):fy L g=N:=by
 induction g with
 |nil=>rfl
 |cons t y d=>rw[R4,RB,Ol] at B;refine(Nc (λU=>B.1 (U2.mp U).symm)).trans ?_;exact R (d B.2) rfl
theorem zu{r:V Z}(B:a.L[n]? = S [.bx r]):ct a .ne (.aE n) (.lst [.bx r])=S MS:=by
 have:zA a (.aE n) (.lst [.bx r])=S MK:=by show(match a.L[n]?,S [Q.bx r] with|some r,S s=>zM r s|none,N=>eqT (.aE n) (.lst [.bx r])|_,_=>N)=_;refine R B ?_;show S ((r==r)&&MK)=_;exact R (Pb ..) rfl
 show(zA a _ _).map _=_;exact R this rfl
noncomputable abbrev HL:dR:=.cons (.ifs (.and (.sub (.var 4) (.str 59)) (.and (.not (.sub (.var 5) (.str 59))) (.cmp .eq (.sub (.var 4) (.str 9)) (.str 39)))) (.cons (.asg 2 (.emp)) (.cons (.kR (.aU (.var 1) 65 (.cons (.sub (.var 4) (.str 14)) (.cons (.int 0) (.cons (.call (.gf 53) (.cons (.var 5) .nil)) .nil)))) 3 (.aU (.var 2) 44 (.cons (.attr (.var 3) 76) .nil))) (.cons (.ifs (.cmp .ne (.var 2) (.lst (.cons (.bx [105,110,118,97,108,105,100,97,99,99,101,115,115]) .nil))) (.cons (.ret (.qj MS)) .nil) .nil) .nil))) .nil) .nil
theorem E4{o:Z}{h:Sg}{z:Bd}(k:In o a h)(w:b∈h.bs)(t:z∈h.bs)(v:6<=s)(j D:O Q):∃X f r,aW (aC s) HL [S (.ab 1),S (.aA 0),j,D,S (.ab b.d),S (.ab z.d)] a=.ok (.next,[S (.ab 1),S (.aA 0),X,f,S (.ab b.d),S (.ab z.d)],r)/\In o r h:=by
 refine hF λn=>?_;have A:aR a (.ab b.d) (.str 59)=S (.bool b.g):=ld (k.DD b w) rfl;have I:aR a (.ab z.d) (.str 59)=S (.bool z.g):=ld (k.DD z t) rfl;have L:aR a (.ab b.d) (.str 9)=S (kS b.k):=ld (k.DD b w) rfl;obtain⟨y,k1,i⟩:∃H,kS b.k=.str H/\((H==39)=MK↔b.k=.row):=by
  induction J:b.k using Wo;·exact ba 39 rfl ⟨λY=>rfl,λY=>rfl⟩
  ·exact ba 8 rfl ⟨nofun,nofun⟩
  ·exact ba 36 rfl ⟨nofun,nofun⟩
 replace L:=k1▸L;refine wb (b.g&&(!z.g&&(y==39))) (λB=>?_) (λB=>?_);·refine n (zQ j D a ?_ k);clear k k1 i;generalize b.g=U at *;generalize z.g=P at *;refine wb (y==39) (λg=>?_) (λg=>?_)<;>rw[g] at B<;>induction U using RD<;>induction P using RD<;>first|exact Ng B (by decide)|(clear B;walk_at "ev")
 ·refine bM (RS.mp B) λp G=>bM (RS.mp G) λG T=>?_;rw[S9] at G;have q:=k.emp;have m:=zj (m:=s) (b:=z) (c:=h.cs z.num) (n4 v rfl) (q.DD z t) (q.MM z t) (hW (k.P.gd z t)).1.1;have E:=E2 (m:=s) (c3:=h.cs z.num) q.G v (q.MM b w) (q.MM z t) p G;have K:aK (aL a []) (.aA 0) 65=S (.own 30):=q.G.rc rfl;have M:aR (aL a []) (.ab b.d) (.str 14)=S (bv b):=ld (q.DD b w) rfl;have e0:({a with L:=a.L++[[]]}:AH)=aL a []:=rfl;have l1:(aL a []).L[a.L.length]? = S []:=dK;have l:=fJ (x:=.bx [105,110,118,97,108,105,100,97,99,99,101,115,115]) l1 (by decide);have l2:(wL (aL a []) a.L.length ([]++[.bx [105,110,118,97,108,105,100,97,99,99,101,115,115]])).L[a.L.length]? = S [.bx [105,110,118,97,108,105,100,97,99,99,101,115,115]]:=bY l1;have n1:=zu l2;have C:In o (wL (aL a []) a.L.length ([]++[.bx [105,110,118,97,108,105,100,97,99,99,101,115,115]])) h:=k.one;refine n (zQ (S (.aE a.L.length)) N _ ?_ C);have r2:aK (aL a []) (.aE a.L.length) 44=S .bJ:=rfl;have d:∀e,aG e (aL a []) (.exc (.bx [105,110,118,97,108,105,100,97,99,99,101,115,115])) 76=.ok (.bx [105,110,118,97,108,105,100,97,99,99,101,115,115],aL a []):=λe=>aS rfl;replace A:=p▸A;rw[G] at I;clear k q C k1 i B p G l1 l2;walk_at "ev"
theorem tj{a0:Z}{m:Z}{h:Sg}(k:In a0 a h)(hm:7<=m)(H:a0<=14):∃H',aC m (.fn 58) [.ab 1] a=.ok (.bool MK,H'):=by
 refine hF λa6=>aM (eE hm) λy dV hn=>?_;subst dV;have z3:=k.z3;have A:aR a (.ab 1) (.str 64)=S (.aA 0):=k.W.sub rfl;have X:=k.emp;have k0:cQ (aC y) (aH zO.body 0) [S (.ab 1),N,N,N,N,N] a=.ok (.next,[S (.ab 1),S (.aA 0),S (.aE a.L.length),N,N,N],aL a []):=by dsimp only[zO,aH];walk_at "ev"
 have l1:(aL a []).L[a.L.length]? = S []:=dK;obtain⟨b,l,I,k1,C⟩:∃b z3 I,cQ (aC y) (aH zO.body 1) [S (.ab 1),S (.aA 0),S (.aE a.L.length),N,N,N] (aL a [])=.ok (.next,[S (.ab 1),S (.aA 0),b,z3,N,N],I)/\In a0 I h:=by
  refine hF λi=>?_;have a2:aR (aL a []) (.ab 1) (.str 70)=S (gj h.gone):=X.W.sub rfl;refine kF h.gone (λo=>?_) (λa4 o=>?_);·rw[o] at a2;have i1:isNone .none=S MK:=rfl;refine i (zQ (S (.aE a.L.length)) N (aL a []) ?_ X);dsimp only[zO,aH];clear k X k0 l1 o A;walk_at "ev"
  ·rw[o] at a2;unfold gj at a2;have p:=v5 (k.go a4 o).1;have c1:=E3 (m:=y) X.G (n4 hn rfl) p;have p1:=fJ (x:=.bx [105,110,118,97,108,105,100,114,101,115,116,111,114,101]) l1 (by decide);have l2:(wL (aL a []) a.L.length ([]++[.bx [105,110,118,97,108,105,100,114,101,115,116,111,114,101]])).L[a.L.length]? = S [.bx [105,110,118,97,108,105,100,114,101,115,116,111,114,101]]:=bY l1;have n1:=zu l2;have C:In a0 (wL (aL a []) a.L.length ([]++[.bx [105,110,118,97,108,105,100,114,101,115,116,111,114,101]])) h:=k.one;have L:aR (wL (aL a []) a.L.length ([]++[.bx [105,110,118,97,108,105,100,114,101,115,116,111,114,101]])) (.ab 1) (.str 70)=S (.int a4):=by have:=C.W.sub (x:=.str 70) (v:=gj h.gone) rfl;rw[o] at this;exact this
   have g:=ED (m:=y) (q:=a4) C.G (n4 hn rfl);rw[p] at g;refine i (zQ (S (.aE a.L.length)) N _ ?_ C);have i1:isNone (.int a4)=S MS:=rfl;have r1:aK (aL a []) (.aA 0) 71=S (.own 44):=X.G.rc rfl;have r2:aK (aL a []) (.aE a.L.length) 44=S .bJ:=rfl;have r3:aK (wL (aL a []) a.L.length ([]++[.bx [105,110,118,97,108,105,100,114,101,115,116,111,114,101]])) (.aA 0) 77=S (.own 40):=C.G.rc rfl;have b9:∀cf,aG cf (aL a []) (.exc (.bx [105,110,118,97,108,105,100,114,101,115,116,111,114,101])) 76=.ok (.bx [105,110,118,97,108,105,100,114,101,115,116,111,114,101],aL a []):=λcf=>aS rfl;unfold VD at g;dsimp only[zO,aH];clear k X C k0 l1 l2 o A p;walk_at "ev"
 refine a6 ?_;refine hF λa9=>?_;have v:∀{a:AH},In a0 a h->srcOf a (.aE h.kb)=S (.lL h.kb,((h.bs.map (·.d)).map AV.ab).length)/\∀K,(Src.lL h.kb).at K a=S ((h.bs.map (·.d)).map AV.ab)[K]?:=λn=>mM n.W.b (by rw[Ry,Ry];exact n2 (RG z3 H) rfl);have a5:∀{K:Z} {r:AV},((h.bs.map (·.d)).map AV.ab)[K]? = S r->∃M∈h.bs,r=.ab M.d:=λ{K r} B=>by rw[SW,RJ,Sa] at B;refine aM B λM w fC=>?_;subst fC;exact ba M (RI w) rfl
 obtain⟨l3,H3,t,⟨j,D,c,P,rfl⟩,I3⟩:=oJ (step:=λY E T a=>aW (aC y) (.cons (.di 5 (.sub (.var 0) (.str 58)) HL) .nil) (T.set 4 (S E)) a) (s:=.lL h.kb) (Q:=λT a=>(∃j D c P,T=[S (.ab 1),S (.aA 0),j,D,c,P])/\In a0 a h) (λT a q=>(v q.2).2) (λK r T a d q=>by refine hF λa8=>bM q λi9 n=>CS i9 λj D c P Hj=>?_;clear i9;subst Hj;refine aM (a5 d) λM w jT=>?_;subst jT;obtain⟨l4,U,w4,⟨u2,u3,u5,rfl⟩,x⟩:=oJ (step:=λY E T a=>aW (aC y) HL (T.set 5 (S E)) a) (s:=.lL h.kb) (Q:=λT a=>(∃j D P,T=[S (.ab 1),S (.aA 0),j,D,S (.ab M.d),P])/\In a0 a h) (λT a q=>(v q.2).2) (λK r T a d q=>by refine hF λa7=>bM q λlP n=>?_;clear a6 q A l1 hm H;obtain⟨j,D,P,rfl⟩:=lP;refine aM (a5 d) λc2 G rP=>?_;clear q K d;subst rP;refine we (E4 n w G hn j D) λu2 u3 H5 e5 J=>a7 ?_;exact qu _ H5 e5 (Hr u2 u3 _ rfl) J) _ 0 [S (.ab 1),S (.aA 0),j,D,S (.ab M.d),P] a rfl ⟨(Hr j D P rfl),n⟩;refine a8 (qu _ U ?_ ⟨u2,u3,S (.ab M.d),u5,rfl⟩ x);dsimp only[V.set_cons_succ,V.set_cons_zero];rw[aX (ip (nL (x:=0) rfl (n.W.sub rfl)) (v n).1 w4)];rfl) _ 0 [S (.ab 1),S (.aA 0),b,l,N,N] I rfl ⟨⟨b,l,N,N,rfl⟩,C⟩;have k2:=ip (cf:=aC y) (x:=4) (e:=.sub (.var 0) (.str 58)) (l:=[S (.ab 1),S (.aA 0),b,l,N,N]) (nL (x:=0) rfl (C.W.sub rfl)) (v C).1 t;have so:=I3.so (m:=y) (n4 hn rfl);refine a9 ⟨H3,?_⟩;rw[aN (f:=zO) [S (.ab 1),N,N,N,N,N] rfl rfl];show(aW _ (.cons (aH zO.body 0) (.cons (aH zO.body 1) (.cons (.di 4 (.sub (.var 0) (.str 58)) (.cons (.di 5 (.sub (.var 0) (.str 58)) HL) .nil)) (.cons (.ret (.call (.gf 57) (.cons (.var 0) .nil))) .nil)))) _ a).bind _=_;rw[aX k0,aX k1,aX k2];clear k X C I3 k0 k1 k2 t v a5;walk_at "ev"
noncomputable def Kl:MG:=⟨MS,0,.aE 2,0,0,0,0⟩
noncomputable def H0:AH:=⟨[[],[],[],[],[]],[[],wV 3 4 .none],[],[(.Mem,cn Kl)]⟩
noncomputable def Km:Sg:=⟨Kl,[],[],[],3,4,N,[],λY=>0,λY=>⟨[],[],0,0⟩,λY=>⟨.row,0,MS,0,0,0⟩⟩
theorem L9:In 0 H0 Km:=
 ⟨rfl,⟨rfl,rfl,rfl,rfl,by decide,by decide,by decide,by decide⟩,⟨rfl,rfl,rfl,by decide,by decide,by decide,by decide,by decide⟩,(Sh _),(Sh _),⟨(Sh _),(Sh _)⟩,by decide,by decide,(Sh _),(Sh _),(Sh _),
  ⟨TK,(Sh _),(Sh _),(Sh _),(Sh _),trivial,λP t B=>nX B,λP L t n Y B=>nX B⟩,rfl,(Sh _),TK,(Sh _),(λY B=>nX B),by decide,by decide,by decide,by decide,by decide,(Sh _)⟩
theorem E5{g:Q}:cQ eY (aH mZ.body 0) [S g,N,N,N,N] {}=.ok (.next,[S g,S (.ab 1),N,N,N],H0):=rfl
theorem zv{T:V Q}(B:a.L[n]? = S T):ct (aL a []) .eq (.aE n) (.aE a.L.length)=S (MW (T=[])):=by
 show(match (aL a []).L[n]?,(aL a []).L[a.L.length]? with|some r,S s=>zM r s|none,N=>eqT (.aE n) (.aE a.L.length)|_,_=>N)=_;refine R (show(aL a []).L[n]? = S T from ec B) ?_;refine R (show(aL a []).L[a.L.length]? = S [] from dK) ?_;clear B;induction T using RC with
 |nil=>rfl
 |cons r y=>refine(Nc (M5 rfl)).trans ?_;refine R (NG (M5 rfl)) rfl
noncomputable abbrev eM(C:ML):ML:=((C.natAbs:ML)).fmod 1000000
noncomputable abbrev nN(C:ML):ML:=(eM C).fmod 10
noncomputable abbrev nO(C:ML):ML:=(eM C).fdiv 10
theorem Hk{C:ML}{g:O Q}{G:O Q}{b:O Q}{h:Key->NF}{P:iC}(B:cJ eY h P [g,S (.ab 1),S (.int (eM C)),S (.int (nN C)),S (.int (nO C))] a=x):cJ eY h (.cons (.a (aH (bodyOf nK) 0)) (.cons (.a (aH (bodyOf nK) 1)) P)) [g,S (.ab 1),S (.int C),G,b] a=x:=by
 have b1:bB a .int [.int C]=S (.int C,a):=rfl;have b2:bB a .abs [.int C]=S (.int C.natAbs,a):=rfl;have b3:bZ .pow (.int 10) (.int 6)=S (.int 1000000):=rfl;have b4:bZ .mod (.int C.natAbs) (.int 1000000)=S (.int (eM C)):=nM (by decide);have b5:bZ .mod (.int (eM C)) (.int 10)=S (.int (nN C)):=nM (by decide);have b6:bZ .fdiv (.int (eM C)) (.int 10)=S (.int (nO C)):=rD (by decide) (by decide);have k0:cQ eY (aH (bodyOf nK) 0) [g,S (.ab 1),S (.int C),G,b] a=.ok (.next,[g,S (.ab 1),S (.int (eM C)),G,b],a):=by dsimp only[nK,mZ,aH,bodyOf];clear b5 b6 B;generalize eM C=c at *;walk_at "ev"
 have k1:cQ eY (aH (bodyOf nK) 1) [g,S (.ab 1),S (.int (eM C)),G,b] a=.ok (.next,[g,S (.ab 1),S (.int (eM C)),S (.int (nN C)),S (.int (nO C))],a):=by dsimp only[nK,mZ,aH,bodyOf];clear k0 b1 b2 b3 b4 B;generalize nN C=f at *;generalize nO C=j at *;generalize eM C=c at *;walk_at "ev"
 exact rF (Fn k0) (rF (Fn k1) B)
theorem BM{a1:Z}{h:Sg}{c:ML}{sc:O Q}{x3:O Q}{x4:O Q}(k:In a1 a h)(H:a1<=13):∃v r a2,cJ eY (only (.fn 52) ku) yA [sc,S (.ab 1),S (.int c),x3,x4] a=.ok (.next,sc :: S (.ab 1) :: v,r)/\v.length=3/\In (a1+1) r a2:=by
 have J:aR a (.ab 1) (.str 58)=S (.aE h.kb):=k.W.sub rfl;have T:∃z t,fq eY (only (.fn 52) ku) (.ifs (dA mE) (.cons (.exp (.call (.fn 52) (lg (zH (aH (dY mE) 0))))) .nil) (.cons (.a (aH (cR mE) 0)) .nil)) [sc,S (.ab 1),S (.int (eM c)),S (.int (nN c)),S (.int (nO c))] a=.ok (.next,[sc,S (.ab 1),S (.int (eM c)),S (.int (nN c)),S (.int (nO c))],z)/\In (a1+1) z t:=by
  generalize eM c=C;generalize nN c=f;generalize nO c=j;have mk:∀{z:AH},In a1 z h->aO eY (dA mE) [sc,S (.ab 1),S (.int C),S (.int f),S (.int j)] a=.ok (.bool MK,z)->∃I o,fq eY (only (.fn 52) ku) (.ifs (dA mE) (.cons (.exp (.call (.fn 52) (lg (zH (aH (dY mE) 0))))) .nil) (.cons (.a (aH (cR mE) 0)) .nil)) [sc,S (.ab 1),S (.int C),S (.int f),S (.int j)] a=.ok (.next,[sc,S (.ab 1),S (.int C),S (.int f),S (.int j)],I)/\In (a1+1) I o:=λ{z} n D=>by refine cj (BA (way:=f.fmod 4) (rest:=j) n (by exact n3 H rfl)) λI o e2 M=>?_;refine dI I o ?_ M;refine Ha D (L1 rfl ?_);have K:bZ .mod (.int f) (.int 4)=S (.int (f.fmod 4)):=nM (by decide);dsimp only[mE,nK,mZ,aH,bodyOf,dY,zH,lg];have e2:=(OU (OU (show only (.fn 52) ku (.fn 52)=ku from Na rfl) _) _).trans e2;clear k n M D J;walk_at "ev"
  have x:∀{z I:AH},aO eY (dA mE) [sc,S (.ab 1),S (.int C),S (.int f),S (.int j)] a=.ok (.bool MS,z)->cQ eY (aH (cR mE) 0) [sc,S (.ab 1),S (.int C),S (.int f),S (.int j)] z=.ok (.next,[sc,S (.ab 1),S (.int C),S (.int f),S (.int j)],I)->fq eY (only (.fn 52) ku) (.ifs (dA mE) (.cons (.exp (.call (.fn 52) (lg (zH (aH (dY mE) 0))))) .nil) (.cons (.a (aH (cR mE) 0)) .nil)) [sc,S (.ab 1),S (.int C),S (.int f),S (.int j)] a=.ok (.next,[sc,S (.ab 1),S (.int C),S (.int f),S (.int j)],I):=λ{z I} X e2=>by exact Ha X (L2 rfl (rF (Fn e2) rfl))
  have q:=k.emp;have i:({a with L:=a.L++[[]]}:AH)=aL a []:=rfl;have e:=zv k.W.b;have Y:f<4\/(¬f<4/\aO eY (dA mE) [sc,S (.ab 1),S (.int C),S (.int f),S (.int j)] a=.ok (.bool (MW ((h.bs.map (·.d)).map Q.ab=[])),aL a [])):=by
   by_cases B:f<4;·exact .inl B
   ·have g:=NG B;refine .inr ⟨B,?_⟩;dsimp only[mE,nK,mZ,aH,bodyOf,dA];clear k q mk x B;walk_at "ev"
  rcases Y with B|⟨B,a0⟩;·have g:=Nm B;refine mk k ?_;dsimp only[mE,nK,mZ,aH,bodyOf,dA];clear k q mk x B;walk_at "ev"
  ·by_cases w:h.bs=[];·rw[w] at a0;exact mk q a0
   ·rw[NG (by simpa using w)] at a0;have b:aR (aL a []) (.ab 1) (.str 25)=S (.aE h.gR):=q.W.sub rfl;by_cases d:f<8;·refine cj (ti (m:=10) (way:=f) (rest:=j) q (by exact n3 H rfl) w (by decide)) λI o e2 M=>?_;refine⟨I,o,x a0 ?_,M⟩;have s:=Nm d;have e2:eY (.fn 54) [.ab 1,.int f,.int j] (aL a [])=.ok (.none,I):=e2;dsimp only[mE,nK,mZ,aH,bodyOf,cR];clear k q mk x B a0 M d w;walk_at "ev"
    ·have s:=NG d;have U:(⟨(aL a []).L++[[]],(aL a []).D,(aL a []).B,(aL a []).I⟩:AH)=aL (aL a []) []:=rfl;have I2:=q.emp;have cs:=zv q.W.s;have L:∀{E:AH},In a1 E h->(MW (f=8)=MK/\E=aL a []\/MW (f=8)=MS/\h.svs=[]/\E=aL (aL a []) [])->∃I o,cQ eY (aH (cR mE) 0) [sc,S (.ab 1),S (.int C),S (.int f),S (.int j)] (aL a [])=.ok (.next,[sc,S (.ab 1),S (.int C),S (.int f),S (.int j)],I)/\In (a1+1) I o:=λ{E} n l=>by
      refine cj (zm (m:=10) n (by exact n3 H rfl) (by decide)) λI o e2 M=>?_;have e2:eY (.fn 56) [.ab 1] E=.ok (.none,I):=e2;refine⟨I,o,?_,M⟩;dsimp only[mE,nK,mZ,aH,bodyOf,cR];rcases l with⟨p,rfl⟩|⟨p,G,rfl⟩;·clear k q I2 mk x B a0 M d w n cs;walk_at "ev"
      ·rw[G] at cs;change ct (aL (aL a []) []) .eq (.aE h.gR) (.aE (aL a []).L.length)=S MK at cs;clear k q I2 mk x B a0 M d w n G;walk_at "ev"
     by_cases h9:f=8;·refine cj (L q (.inl ⟨Nm h9,rfl⟩)) λI o e2 M=>?_;exact⟨I,o,x a0 e2,M⟩
     ·by_cases P:h.svs=[];·refine cj (L I2 (.inr ⟨NG h9,P,rfl⟩)) λI o e2 M=>?_;exact⟨I,o,x a0 e2,M⟩
      ·refine cj (rz (m:=10) (rest:=j) I2 (by exact n3 H rfl) (by decide) P) λI o e2 M=>?_;have e2:eY (.fn 55) [.ab 1,.int j] (aL (aL a []) [])=.ok (.none,I):=e2;refine⟨I,o,x a0 ?_,M⟩;have y:=NG h9;rw[NG (by simpa using P)] at cs;dsimp only[mE,nK,mZ,aH,bodyOf,cR];clear k q I2 mk x B a0 M d w P h9 L;walk_at "ev"
 refine cj T λz t X n=>?_;have A:=n.so (m:=10) (by decide);have A:eY (.fn 57) [.ab 1] z=.ok (.bool MK,z):=A;refine kU [S (.int (eM c)),S (.int (nN c)),S (.int (nO c))] z t ?_ rfl n;have k3:cQ eY (aH (bodyOf nK) 3) [sc,S (.ab 1),S (.int (eM c)),S (.int (nN c)),S (.int (nO c))] z=.ok (.next,[sc,S (.ab 1),S (.int (eM c)),S (.int (nN c)),S (.int (nO c))],z):=by dsimp only[nK,mZ,aH,bodyOf];clear k n X J;walk_at "ev"
 exact Hk (rF X (rF (Fn k3) rfl))
theorem E6{sc:Q}{xs r:V Q}:∀(K o:Z) (e G a:O Q) (b:AH) (h:Sg),xs.drop K=r->(∀y∈r,∃C,y=.int C)->In o b h->o+r.length<=14->
  ∃P B A H' g L,cg (λY E T b=>cJ eY (only (.fn 52) ku) yA (T.set 2 (S E)) b) (.dS xs) (r.length+1) K [S sc,S (.ab 1),e,G,a] b=.ok (.next,[S sc,S (.ab 1),P,B,A],H')/\In L H' g/\L<=14:=by
 induction r with
 |nil=>exact λK o e G a b h i x k H=>⟨e,G,a,b,h,o,Ef (Nb S (Co i)),k,H⟩
 |cons y r d=>intro K o e G a b h i x k H;refine dD (x y (.head _)) λC bG=>?_;replace H:o+(r.length+1)<=14:=H;refine dF (BM (sc:=S sc) (c:=C) (x3:=G) (x4:=a) k (Z.le_of_succ_le_succ (RG (TB (R5 o r.length)) H))) λv z t X l n=>?_;obtain⟨j,D,c,h3⟩:=De l;obtain⟨z2,f,U,I,a0,p,m,M,w⟩:=d (K+1) (o+1) j D c z t (Cq i) (λs J=>x s (.tail _ J)) n (by exact RG (R1 (TU o 1 _)) H);exact⟨z2,f,U,I,a0,p,wi (Nb S (Cp i)) (bG▸h3▸X) (yP m),M,w⟩
theorem v7(k:V ML)(P:k.length<=63):∃b,GX k=.ok (.bool MK,b):=by
 refine hF λL=>?_;obtain⟨e,G,a,z,t,c,X,d,h⟩:=E6 (sc:=.lst (k.map .int)) (xs:=(k.map Q.int).take 14) (r:=(k.map Q.int).take 14) 0 0 N N N H0 Km rfl (λj x=>by refine aM (Si.mp (UG x)) λC Y cm=>?_;clear x;subst cm;exact⟨C,rfl⟩) L9 (by rw[S0];exact RG (R1 (T4 _)) (Tb ..));refine dD (tj (m:=10) d (by decide) h) λI f=>?_;have f:eY (.fn 58) [.ab 1] z=.ok (.bool MK,I):=f;refine L ?_;refine⟨I,?_⟩;have s:dP H0 (.lst (k.map .int)) N (S (.int 14))=S (.lst ((k.map Q.int).take 14),H0):=Cz (p:=14) (by rw[Ry];exact n2 P rfl) (by decide);have n:aO eY (sR nK) [S (.lst (k.map .int)),S (.ab 1),N,N,N] H0=.ok (.lst ((k.map Q.int).take 14),H0):=by dsimp only[nK,mZ,aH,sR];generalize (k.map Q.int).take 14=B at *;generalize Q.lst (k.map .int)=g at *;walk_at "ev"
 have o:srcOf H0 (.lst ((k.map Q.int).take 14))=S (.dS ((k.map Q.int).take 14),((k.map Q.int).take 14).length):=(ry (by rw[S0];exact n2 (Tb ..) rfl)).1;have i:cQ eY (aH mZ.body 2) [S (.lst (k.map .int)),S (.ab 1),e,G,a] z=.ok (.ret (.bool MK),[S (.lst (k.map .int)),S (.ab 1),e,G,a],I):=by dsimp only[mZ,aH];clear X d s n o;walk_at "ev"
 have M:cJ eY (only (.fn 52) ku) GU [S (.lst (k.map .int)),N,N,N,N] {}=.ok (.ret (.bool MK),[S (.lst (k.map .int)),S (.ab 1),e,G,a],I):=rF (Fn E5) (Kj (rF (L3 n o X) (Kj (rF (Fn i) L0))));show zI mZ (cJ eY (only (.fn 52) ku) GU) [.lst (k.map .int)] {}=_;exact sW [S (.lst (k.map .int)),N,N,N,N] rfl M rfl
end
section
open PySem PySem.W PyProof.Rows
section
open PySem.Calls
theorem BN:LR.prog=PR:=rfl
theorem Hl:LeftO LR.prog iM hV (λY=>MK) (λt=>YH t.heap) (λY=>Np) 4900:=by rw[BN];exact GY
theorem zw:chainsOk iM=MK:=by decide +kernel
theorem BO:opensWell LR.prog=MK:=by decide +kernel
theorem BP:frees LR.toRowW=MK:=by decide +kernel
theorem E7:OpenLaw.wellSaid PySem.Challenge.rw_nt0500_01=MK:=by decide +kernel
theorem E8:LR.prog.bare:=⟨rfl,rfl,rfl,rfl,rfl,by decide +kernel⟩
theorem Hm:∃h k,defOf iM LR.name=S (h,k)/\LR.prog.theDef LR.name=S (h.params,h.body,h.scope)/\kwWritten? h.params.kwonlyargs h.params.kw_defaults=S k:=⟨_,_,by rfl,by rfl,by rfl⟩
theorem zx(B m:MU)(s:YH B)(H:∀M z,B.get? M=S z->m.get? M=S z):YH m:=aM s λa k1 i=>ba a (λI z D=>H I z (k1 I z D)) i
theorem v9(a8:LR.wellSaid=MK)(hw:LR.toRowW.promised):LR.Holds:=by
 refine wc (frees_parts BP) λr k ha c2 hm=>?_;have L:=λa=>Hl.behind (XP:=λY Y=>Np) (λY Y=>trivial) zw a;refine Iz a8 hw ⟨E8,BO,rfl⟩ hw.witness (λa=>⟨(L a).1,λv b=>?_⟩);refine hF λA=>?_;obtain⟨c1,J,g,t,hT,hz,a1,hg,G0,s⟩:=(L a).2 v b;clear L b;have f:RecFacts LR.records t.heap:=recFacts_nil rfl;refine A ?_;refine⟨c1,J,g,t,hT,λa2 hn=>?_,f.1,f.2.1,λa3 i z ord m=>?_⟩
 ·refine m5 Hm λh c5 p h2 T=>?_;obtain rfl:a2=LR.name:=by split at hn<;>simp_all
  exact pinned_of_view hg G0 p h2 T
 refine hF λl=>?_;have a1:=M0.eq_empty_of_size_eq_zero (N9.mp a1);have C:=f.ground G0;clear A G0 J g hT hg;refine dD (Um.mp (layAllW_isSome (P:=a.params) (ord:=ord) C.has a3 LR.args t (pre_splitW i).1)) λbG e=>?_;obtain⟨w,X⟩:=bG;have d:=layAllW_keeps _ _ _ e;have H:=layAllW_rest _ _ _ e;refine mP (reads_layAllW m _ _ _ e z X.heap (λY Y D=>D)) λas a5 a7 a6=>?_;have I:Laid LR.records a t X a3 w as:=⟨⟨ord,m,e⟩,a5,a7,a6,d,H.1.trans a1,H.2.2.1⟩;have G:=C.keeps (λY Y Y Y Y=>trivial) d;clear a5 a7 a6 f C m z;refine aM (yE v7 G (zx _ _ (of_eq_true s) d) i I) λa4 J B=>?_;obtain⟨a2,a0,n,t',hs,hr,a9,⟨⟨E,rfl⟩,o⟩⟩:=D6 (prog:=LR.prog) (w:=a) (R:=λa0 n=>(∃E,a0=.ok (.ret E))/\GoodWG LR.toRowW.claim (classAt t.heap) (ExcName.means t.heap) a3 X a0 n) (show X.asleep from MV.asleep_of_life H.2.2.2 hz)
  (t:=do match<-nsGet mainNs LR.name with
   |some a4=>do ret (<-PySem.call a4 w)
   |none=>unsupported "claim.caller:no-such-global")
  (aJ (wpAny_nsGet G.T.g (by refine R J ?_;refine bO (jz (fj B λa0 n s=>?_));refine bM s λcm o=>?_;obtain⟨E,rfl⟩:=cm;exact qZ ⟨_,rfl,⟨⟨_,rfl⟩,o⟩,leftWithCleanup_false_of_bare o.2.2.2⟩)))
 clear B J G s;refine wc (MV.forget_eq a9) λeh Y Y eo Y=>?_;refine fM (o.laid (c:=LR.toRowW.claim) r rfl (ident_freeW k ha c2) I) λc3 y Y=>?_;rw[<-eo] at y;refine l ?_;refine⟨w,X,e,a2,_,t',hs,?_,λY K c6 x=>by rw[a1] at x;exact nX x,(λU=>nomatch U),by refine R ((runN_life _ _ _ hr).trans H.2.2.2) rfl,MV.rest_eq y⟩;refine hF λb9=>?_;rcases(c3.congr eh) with⟨E,D,d1,d2,d3,d4,d5⟩|⟨D,ob,c7,j,_⟩;·cases D;refine b9 ?_;exact .inl ⟨_,rfl,d1,d2,d3,λM c4 s Y=>d4 M c4 s,d5⟩
 ·cases j
end
end
end Mine.Lake
open PySem PySem.W PyProof.Rows
set_option maxHeartbeats 8000000 in
theorem PySem.Challenge.cw_nt0500_01_holds : PySem.Challenge.rw_nt0500_01.Holds := by
 refine holds_law Mine.Lake.E7 fun Ju=>?_
 refine Mine.Lake.v9 Ju ?_
 w_witness2
end
