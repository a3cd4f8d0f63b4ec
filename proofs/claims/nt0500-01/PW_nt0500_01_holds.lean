import PyProof.Rows.All
import OpenK.AllK
import Open.Split
import Wide.BytesRules
import Lean
import PySem.Challenge.RW_nt0500_01
set_option maxRecDepth 100000
set_option Elab.async false
set_option linter.all false
set_option tactic.hygienic false
set_option maxHeartbeats 4000000
set_option genSizeOf false
set_option genInjectivity false
set_option compiler.extract_closed false
set_option bootstrap.genMatcherCode false
noncomputable section
set_option backward.match.sparseCases false
set_option genCtorIdx false
namespace Mine.Lake
open Option renaming some->S,none->N,casesOn->U0,map_eq_some_iff->VA,bind_eq_some_iff->V3,bind_some->WH,map_some->Xg,isNone_iff_eq_none->Xi,isSome_iff_exists->Xo,map->XG,bind->Yo,isSome->YG
open _root_ renaming List->V,Nat->Z,Option->O,Int->P5,Bool->P6,Array->Qi,of_decide_eq_true->Qj,if_pos->Qk,congrArg->Ql,if_neg->Qm,absurd->Qp,decide_eq_true->Qu,True->Qw,UInt8->Qy,False->QC,decide_eq_false->QJ,Prod->QU,beq_iff_eq->Ra,if_false->Rl,not_or->Rn,String->RA,or_false->RH,Decidable->RJ,beq_eq_false_iff_ne->RK,decide_eq_true_eq->RV,congrFun->RX,beq_false_of_ne->RY,ForInStep->R7,DecidableEq->R',beq_self_eq_true->Si,decide_eq_decide->SG,if_true->SV,dif_neg->S9,of_decide_eq_false->Ux,ne_true_of_eq_false->UA,decide_eq_true_iff->UC,bne_self_eq_false->UU
open Bool renaming true->P4,false->P8,casesOn->U6,and_eq_true_iff->Vi,false_ne_true->Vm,or_eq_true_iff->VS,false_eq_true->V5,not_eq_true'->Wf,and_eq_true->Ws,or_eq_false_iff->XF,and_false->XR,eq_false_iff->X8,or_eq_true->Yn,and_eq_false_iff->Yy,false_or->YI,not_false->Zf
open PySem renaming wpAny_bind->P7,Expr->P9,Value->P',Addr->Qa,Heap->Qb,Str->Qc,model->Qe,wpAny->Qf,wpAny_pure->Qg,Shared->Qh,Stmt->Qn,Env->Qo,wpAny_mono->Qq,World->Qr,Obj->Qs,Sem->Qt,Pos->Qv,compEnvC->Qx,Program->Qz,Around->QB,DictEntry->QD,wpAny_holding->QE,cLine->QG,NameKind->QI,codeAny->QL,Builtin->QM,wpAny_of_eq->QN,mainGlobals->QO,Flow->QP,starEach->QT,backTo->QV,wpAny_standAt->QW,Data->QX,Tok->QY,Model->Q0,FuncData->Q1,sizeLine->Q2,wpAny_call_entry->Q3,call->Q4,swapsWith->Q5,callEnvC->Q6,PyData->Q7,Result->Q9,sizeLine_eq->Q',Params->Rb,Scope->Rc,wpAny_specialOf->Rd,typeLookup_type->Rg,Code->Rh,typeLookup->Ri,table->Rj,execs->Rk,wpAny_execs_nil->Rm,isSubtype->Ro,BoolOp->Rq,wpAny_callSpecial?_slot->Rr,isSubtype_type->Rt,wpAny_newObj_type->Ru,entryFor->Rv,argsOk->Rw,wpAny_load->Rx,assignEach->Ry,wpAny_truthy_bool->RB,sysModules->RC,pyNext->RE,leaving->RG,clipAt->RM,wpAny_call->RO,wpAny_attempt->RP,wpAny_field->RQ,assign->RS,cellsFrom->RT,Const->RU,treeTable->RW,wpAny_isInstance->RZ,wpAny_dictEntries->R1,wpAny_rule->R2,spliced->R4,codeAny_mono->R5,wpAny_loadPart->R6,bm_if_false->R8,importedModules->R9,OsState->Sa,wpAny_Name->Sb,wpAny_loadName_local->Sd,isInstance->Se,getItem->Sj,getAttr->Sl,firstArgMember->Sn,interactive->So,swappedStores->Sq,letOwnedTupleGo->Sr,FuncBody->Su,denote->Sw,Operator->Sy,reduceHash->Sz,typeIs_str->SA,eqBool->SD,wpAny_mkInt->SF,slot_dict_getitem->SH,compareOp->SI,setItem->SJ,holding->SK,callWith->SR,entryFor_of_tree->SW,pyIter->SX,wpAny_setField->SY,wpAny_execs_cons->S0,setAttr->S4,cameBackBy->S6,wpAny_assign_Name->S7,typeOf->S8,callerA->Ta,wpAny_ite_split->Td,call_gives->Te,dictGet->Tf,wpAny_sequenceKey->Tg,wpAny_point->Th,raiseNew->Ti,slicePick->Tn,behindInMarks->To,builtinLookup_eq_fast->Tr,getMethod_builtin->Tu,storeName->Tv,wpAny_lookBehind->Tw,wpAny_assign_Tuple->Tz,wpAny_passesOwn->TA,PassesOwn->TB,wpAny_pyIter_list->TC,newFunctionEnv->TF,wpAny_typeNameOfWhole_keyiter->TG,callAny->TH,seqItems?->TJ,builtinsNs->TU,wpAny_askSetting->TV,tupleKeyHash->TX,tupleKind->TY,slot_dict_contains->TZ,wpAny_notOrdered_dict->T1,callSpecial?->T2,wpAny_letGo->T3,slot_list_getitem->T4,recursionLimit->T5,wpAny_mkText->T6,getMethod->T9,newFields->Ua,wpAny_pyIter_slot->Ub,wpAny_handled->Uc,wpAny_throw->Ud,isSubtype_stop->Ue,wpAny_Expr_any->Ug,typeIs_int->Uh,wpAny_update->Ui,assignInOrder->Uj,plainObj_wpAny_Assign_Attribute->Uk,bootBuiltins->Ul,wpAny_comprehension_free->Um,wpAny_dictEpoch->Uo,codeAny_of_tree->Up,plainId_quiet->Uq,ClassData->Ur,specialOf->Us,checkBuiltinCall->Ut,bindSpecial->Uu,entry_typeCall->Uv,wpAny_loadName_cell->Uy,wpAny_loadName_free->Uz,wpAny_pyHash_str->UB,wpAny_dictFind_of->UD,wpAny_updateDictKeys->UE,slot_dict_setitem->UG,getitemInPython_of_ne->UH,wpAny_operating->UI,wpAny_letTemporaryGo->UJ,wpAny_List_spliced->UK,codeAny_call_builtin->UL,arm_eval_Attribute->UM,slot_listiter_next->UN,underTheClaimsCaller->UO,slot_list_setitem->UP,wpAny_updatePart->UQ,pastItsLine_dict->UR,wpAny_pyIter_listiter->US,wpAny_isOneOf_keyiter->UT,codeAny_call_function->UW,leftWithCleanup->UX
open Decidable renaming decide->Qd
open PySem.W renaming Looks->QA,Frag->QF,instObj->QH,emptyDict->QK,any_some->QR,nsIn->QZ,findIn->Q8,typeIn->Rf,boot_heap->Rp,SharedT->Rz,clsIn->RD,WData->RI,typeIs_bytes->Sh,keepIn->Sk,looks_findIn->Sm,topRun->Sx,takerIn->SM,lookIn->SN,keeps_K->SU,WShape->Tb,topStub->Tc,specialIn->Tp,check_slot->Ts,looks_mroIn->Tt,looks_clsIn->Tx,makesIn->TK,through->TL,boot_drawn->TM,boot_toks->TN,staticsOk->TO,namesBound->TP,gensDone->TQ,laidKept->TR,openGood->TS,callWith_of->T8,hideAll_none->Uw,wellAll_cons_inv->UY,ownOf->Ze
open LawfulBEq renaming eq_of_beq->RL
open PyProof.Rows renaming subscriptTail->R3,Subscript_->Tj,append_at->T',callWith_type->X2,getItem_tuple->Zg,neg_int->Zk,lt_int->Zl,le_int->Zm,gt_int->Zn,ge_int->Zo
open PySem.Calls renaming Name_function_global->SQ,loadGlobal_global->Tq
open List renaming mem_singleton->UZ,length_map->U1,getElem?_eq_getElem->U3,mem_cons->U4,casesOn->U5,length_append->U7,getElem?_eq_some_iff->U8,mem_of_getElem?->Va,getElem?_map->Vb,mem_append_left->Vc,mem_append->Vd,mem_append_right->Vf,nodup_cons->Vl,count_eq_zero_of_not_mem->Vp,mem_map_of_mem->Vr,map_cons->Vt,getElem?_set_ne->Vv,map_append->Vw,count_append->Vy,count_pos_iff->Vz,all_eq_true->VD,forall_mem_nil->VE,mem_map->VF,getElem?_eq_none->VG,nodup_append->VI,append_assoc->VJ,length_reverse->VM,exists_cons_of_length_eq_add_one->VO,append_nil->VQ,not_mem_nil->VT,lookup_cons->VX,mem_iff_getElem?->VZ,map_map->V8,length_cons->V',length_take->Wa,length_set->Wg,getElem?_append_left->Wi,set_set->Wk,getElem?_set_self->Wm,range->Wn,getElem?_append_right->Wr,isEmpty_iff->Wt,contains_iff_mem->Wv,filterMap_map->Ww,filterMap_eq_map->Wx,length_drop->WG,nodup_nil->WL,filter_cons->WO,filterMap_cons->WQ,forIn_cons->WW,mem_filterMap->WX,mem_filter->WY,count_cons_self->Xb,lookup->Xd,foldl_cons->Xh,nil_append->Xj,findIdx?_cons->Xl,getElem?_take_of_lt->Xn,getElem?_set_self'->Xq,length_eq_zero_iff->Xr,getElem?_set->Xt,reverse_cons->Xu,drop_eq_nil_of_le->Xv,length->Xw,set_comm->Xy,length_filter_le->XB,length_singleton->XC,getElem?_append->XD,mem_of_mem_take->XH,eq_nil_of_length_eq_zero->XJ,filter_eq_self->XM,map_congr_left->XN,filter_sublist->XO,replicate->XQ,forIn_nil->XS,mem_zipIdx_iff_getElem?->XT,getElem?_concat_length->XU,map_singleton->XX,getD_eq_getElem?_getD->XY,map_take->X0,getElem?_inj->X7,any_eq_false->X9,drop_eq_getElem_cons->X',mem_take_iff_getElem->Ya,append_eq_append_iff->Yb,find?_cons->Yk,count_cons->Yl,getElem?_reverse->Yz,count_cons_of_ne->YB,mem_range->YC,set_getElem_self->YD,any_cons->YF,length_pos_iff->YK,map_set->YR,map_nil->YS,filter_append->YU,length_range->YZ,getElem_drop->Y0,map_id->Y4,getElem_zip->Y8,cons_append->Y9,getElem_map->Za
open PySem.Heap renaming get?_push_of_some->U2,get?_push_size->Vs,get?_update_self->Vx,SameBut->VP,lt_size->VV,get?_none_of_le->V6,get?_update_other->We,size_push->YA,FlyingW->YN
open Nat renaming le_trans->U9,lt_of_le_of_lt->Ve,lt_of_lt_of_le->Vh,lt_irrefl->Vk,casesOn->Vn,le_of_eq->Vq,le_add_right->Vu,le_refl->VB,le_of_ble_eq_true->VC,le_succ->VK,lt_succ_self->VU,le_succ_of_le->V2,le_add_left->V4,ble->V9,ne_of_gt->Wc,min_le_left->Wh,ne_of_lt->Wj,le_of_lt->Wl,not_lt->Wo,add_le_add_right->Wz,add_le_add_left->WC,succ_le_succ->WE,lt_of_lt_of_eq->WJ,add_right_comm->WV,le_of_lt_succ->WZ,zero_add->W7,min_le_right->Xa,mul_le_mul_left->Xe,add_sub_cancel'->Xf,not_le->Xp,succ_lt_succ->Xz,eq_of_beq_eq_true->XA,not_lt_zero->XE,lt_succ_of_lt->X6,succ_pos->Yd,succ_ne_self->Ye,lt_add_of_pos_right->Yh,le_antisymm->Yi,min_eq_left->Yj,zero_le->Yr,le_add_right_of_le->Yt,sub_le_iff_le_add->Yw,le_of_sub_eq_zero->Yx,add_assoc->YE,add_lt_add_left->YJ,lt_trans->YP,sub_self->YT,sub_sub_right->YV,le_of_succ_le->YY,lt_succ_of_le->Y1,one_pos->Y2,min_eq_right->Y5,lt_of_not_le->Y',sub_lt->Zb,blt_eq->Zd
open Array renaming length_toList->U',getElem?_toList->V0,getElem?_eq_getElem->Wy,mk->Xc,eraseIdxIfInBounds->Xk,toList_setIfInBounds->X1,getElem?_eq_some_iff->X4,getElem?_eq_none->Yp,any_toList->Y6
open Int renaming natCast_nonneg->Vg,ofNat_lt->Vj,le_trans->V7,ofNat_le->Wb,eq_ofNat_of_zero_le->WR,toNat->WS,lt_of_lt_of_le->WT,not_lt->WU,toNat_natCast->W0,mul_le_mul_of_nonneg_left->XI,toNat_of_nonneg->XK,ofNat_inj->X5,ne_of_gt->Yc,le_refl->Ys,fmod_nonneg_of_pos->Yu,add_le_add->Yv,ofNat->YL,lt_of_le_of_lt->YM,le_of_lt->YO
open True renaming intro->Vo
open Option.some renaming inj->VH,injEq->YW
open PySem.Heap.SameBut renaming update->VL
open PySem.PyData renaming keyHash->VN
open PySem.Expr renaming ctorIdx->VW,casesOn->W5
open PySem.Flow renaming casesOn->VY
open UInt8 renaming toNat->V1,ofNat->Y3
open Ne renaming symm->Wd
open PySem.NameKind renaming free->Wq,cell->X3,casesOn->Yf
open PySem.Obj renaming data_mapFields->Wu,isFreed_of_fields->WK,putName->Yq,cls_mapFields->YX,mapBytearray->Y7,mapSeq->Zc,mapFields->Zi
open PySem.Str renaming ofString->WA
open PySem.Builtin.Bytes renaming decodersThatHold->WB,payload->Zh
open PySem.Expr.Attribute renaming elim->WD
open PySem.Sem renaming wp_mono->WI,wp_bind'->YQ
open PySem.Expr.BoolOp renaming elim->WM
open PySem.Stmt renaming ctorIdx->WN
open Nat.succ renaming inj->W6
open PySem.Value.ref renaming elim->W9,inj->XZ
open PySem.Code renaming quiet_builtin->Xm
open List.cons renaming inj->Xx
open Or renaming inr->XW,inl->Yg,elim->Zj
open And renaming intro->Ym
universe u v
section
set_option genCtorIdx true in
inductive gV|Thing|Text|Row|Dict|Span|FX|mX|Mem|bZ
 deriving R'
set_option genCtorIdx true in
inductive BI|len|min|max|abs|int|bytes|rF|list|xC|hM|jK
set_option genCtorIdx true in
inductive E7|add|sub|mul|fdiv|mod|pow
set_option genCtorIdx true in
inductive FY|eq|ne|lt|le|gt|ge|is|oa|in|uH
mutual
inductive LE where
 |oO|uB (b:P6)|int (i:P5)|str (k:Z)|bH (l:V Z)
 |var (x:Z)|gf (f:Z)|gc (c:gV)|gi (nm:Z) (i:P5)
 |attr (e:LE) (a:Z)
 |call (f:LE) (as:fD)|bC (b:BI) (as:fD)|aU (e:LE) (m:Z) (as:fD)
 |sub (e i:LE)|uC (e:LE) (lo hi:LO)|pick (ks:V Z) (vs:fD) (i:LE)
 |tup (es:fD)|lst (es:fD)|emp|xE (ks:V Z) (vs:fD)
 |bin (o:E7) (l r:LE)|cmp (o:FY) (l r:LE)|and (l r:LE)|or (l r:LE)|not (e:LE)|neg (e:LE)
 |ite (c a b:LE)
 |comp (elt:LE) (ts:V Z) (it:LE) (cond:LO)|vals (e:LE) (x:Z)
inductive fD where
 |nil|cons (e:LE) (r:fD)
inductive LO where
 |no|so (e:LE)
end
mutual
inductive LS where
 |asg (x:Z) (e:LE)|fU (e:LE) (a:Z) (v:LE)|fE (e i v:LE)
 |uI (xs:V Z) (e:LE)|iL (xs:V Z) (es:fD)|oP (os is vs:fD)
 |exp (e:LE)|ifs (c:LE) (a b:jL)
 |dZ (x:Z) (e:LE) (b:jL)|lG (i x:Z) (e:LE) (b:jL)|CO (c:LE) (b:jL)
 |ret (e:LE)|gy (e:LE)|oQ (e:LE) (x:Z) (h:LE)|any
inductive jL where
 |nil|cons (s:LS) (r:jL)
end
set_option genCtorIdx true in
inductive AV where
 |none|bool (b:P6)|int (i:P5)|str (k:Z)|bH (l:V Z)
 |fn (k:Z)|cls (c:gV)
 |aE (k:Z)|ab (k:Z)|fV (k:Z)|aA (k:Z)
 |tup (vs:V AV)|lst (vs:V AV)|obj (c:gV) (vs:V AV)|exc (told:AV)
open Mine.Lake.AV renaming casesOn->Zp
open Mine.Lake renaming AV->Q
theorem AV.bool.inj{L E:P6}(B:Q.bool L=.bool E):L=E:=by cases B;rfl
variable{C:Type}{H:Type u}{c f i v:Sort _}{r t p z b j l d e m y:Z}{o q k x G:P5}{n:Z}{s:Prop}{g:Q}{w:Z}
theorem AV.int.inj(B:Q.int o=.int q):o=q:=by cases B;rfl
theorem AV.str.inj(B:Q.str d=.str e):d=e:=by cases B;rfl
theorem AV.bH.inj{L E:V Z}(B:Q.bH L=.bH E):L=E:=by cases B;rfl
theorem AV.tup.inj{L E:V Q}(B:Q.tup L=.tup E):L=E:=by cases B;rfl
structure AH where
 L:V (V Q):=[]
 D:V (V (Q×Q)):=[]
 B:V (V P5):=[]
 I:V (gV×V Q):=[]
set_option genCtorIdx true in
inductive Res(α:Type)where
 |ok (a:α)|exc (told:Q) (H:AH)|bad
open Mine.Lake.Res renaming casesOn->Zq
noncomputable def Res.bind{j a:Type}:Res j->(j->Res a)->Res a
 |.ok L,r=>r L
 |.exc K y,_=>.exc K y
 |.bad,_=>.bad
noncomputable def Res.xF{j:Type}:Res j->Res j
 |.ok L=>.ok L
 |_=>.bad
noncomputable def Res.of{j:Type}:O j->Res j
 |some L=>.ok L
 |none=>.bad
structure dV where
 aY:Z
 dt:V Q
 slots:V (O Z)
 body:jL
structure CP where
 aY:Z
 dt:V Q
 slots:V (O Z)
 cA:V Z
 vals:fD
abbrev Loc:=V (O Q)
set_option genCtorIdx true in
inductive Key|fn(k:Z)|cls(c:gV)
 deriving R'
theorem Key.fn.inj(B:Key.fn d=.fn e):d=e:=by cases B;rfl
abbrev CF:=Key->V Q->AH->Res (Q×AH)
set_option genCtorIdx true in
inductive Fl|next|ret(v:Q)
noncomputable def E8:Q->Q->O P6
 |.none,.none=>S P4
 |.bool L,.bool E=>S (L==E)
 |.int L,.int E=>S (Qd (L=E))
 |.str L,.str E=>S (L==E)
 |.bH L,.bH E=>S (L==E)
 |_,_=>N
noncomputable def uJ:V Q->V Q->O P6
 |[],[]=>S P4
 |L :: c,E :: f=>match E8 L E,uJ c f with
  |some I,S n=>S (I&&n)
  |_,_=>N
 |_,_=>N
noncomputable def eqT:Q->Q->O P6
 |.tup L,.tup E=>uJ L E
 |L,E=>E8 L E
noncomputable def v5:V Q->V Q->O P6
 |[],[]=>S P4
 |L :: c,E :: f=>match eqT L E,v5 c f with
  |some I,S n=>S (I&&n)
  |_,_=>N
 |_,_=>N
noncomputable def C0(L E:V Q):O P6:=if L.length=E.length then v5 L E else S P8
noncomputable def itemsOf(y:AH):Q->O (V Q)
 |.lst w=>S w
 |.aE X=>y.L[X]?
 |_=>N
noncomputable def CQ(y:AH)(L E:Q):O P6:=match itemsOf y L,itemsOf y E with
 |some I,S n=>C0 I n
 |none,N=>eqT L E
 |_,_=>N
noncomputable def truthy:Q->O P6
 |.bool E=>S E
 |_=>N
noncomputable def isNone:Q->O P6
 |.none=>S P4
 |.exc _=>N
 |_=>S P8
noncomputable def iM:Q->V Q->O P6
 |.bH _,[]=>S P8
 |.bH l,.bH H :: b=>(iM (.bH l) b).map (H==l||·)
 |_,_=>N
noncomputable def big:P5:=2 ^ 62
noncomputable def sm(q:Z):P6:=Qd (q<1000)
noncomputable def og:Q->P6
 |.str _|.bH _=>P4
 |_=>P8
noncomputable def keyOk:Q->P6
 |.str _|.int _=>P4
 |.tup w=>w.all og
 |_=>P8
noncomputable def fN(X:Q):V (Q×Q)->O (O Z)
 |[]=>S N
 |D :: j=>match eqT D.1 X with
  |some P4=>S (S 0)
  |some P8=>(fN X j).map (·.map (· + 1))
  |none=>N
noncomputable def fO(X:Q)(j:V (Q×Q)):O (O Z):=if keyOk X then fN X j else N
noncomputable def dR(j:V (Q×Q))(X:Q):O (O Q):=(fO X j).map λP=>P.bind λs=>(j[s]?).map (·.2)
noncomputable def rG(j:V (Q×Q))(X C:Q):O (V (Q×Q)):=match fO X j with
 |some (S s)=>S (j.modify s λD=>(D.1,C))
 |some N=>if sm j.length then S (j++[(X,C)]) else N
 |none=>N
noncomputable def yN(j:V (Q×Q))(X:Q):O (V (Q×Q)):=match fO X j with
 |some (S s)=>S (j.eraseIdx s)
 |_=>N
noncomputable def Ag:FY->P5->P5->O P6
 |.lt,L,E=>S (Qd (L<E))
 |.le,L,E=>S (Qd (L<=E))
 |.gt,L,E=>S (Qd (E<L))
 |.ge,L,E=>S (Qd (E<=L))
 |_,_,_=>N
noncomputable def IQ(y:AH)(L E:Q):O P6:=match E with
 |.lst w=>iM L w
 |.ab X=>(y.D[X]?).bind λj=>(fO L j).map (·.isSome)
 |_=>N
noncomputable def cW(y:AH)(z:FY)(L E:Q):O P6:=match z with
 |.eq=>CQ y L E
 |.ne=>(CQ y L E).map (!·)
 |.is=>match E with|.none=>isNone L|_=>N
 |.oa=>match E with|.none=>(isNone L).map (!·)|_=>N
 |.in=>IQ y L E
 |.uH=>(IQ y L E).map (!·)
 |z=>match L,E with|.int I,.int n=>Ag z I n|_,_=>N
noncomputable def cK(z:E7)(L E:Q):O Q:=match L,E with
 |.int I,.int n=>match z with
  |.add=>S (.int (I+n))
  |.sub=>S (.int (I - n))
  |.mul=>if Qd (0<=I)&&Qd (I<2 ^ 30)&&Qd (0<=n)&&Qd (n<2 ^ 30) then S (.int (I*n)) else N
  |.fdiv=>if Qd (0<n)&&Qd (n<2 ^ 30) then S (.int (I.fdiv n)) else N
  |.mod=>if Qd (0<n) then S (.int (I.fmod n)) else N
  |.pow=>if I=10/\n=6 then S (.int 1000000) else N
 |.lst I,.lst n=>match z with|.add=>if sm (I.length+n.length) then S (.lst (I++n)) else N|_=>N
 |_,_=>N
noncomputable def place(s:P5)(q:Z):O Z:=if 0<=s then(if s<q/\s<1000 then S s.toNat else N) else if s = -1/\0<q then S (q - 1) else N
noncomputable def aR(y:AH)(L s:Q):O Q:=match L,s with
 |.aE X,.int s=>(y.L[X]?).bind λw=>(place s w.length).bind λv=>w[v]?
 |.lst w,.int s=>(place s w.length).bind λv=>w[v]?
 |.tup w,.int s=>(place s w.length).bind λv=>w[v]?
 |.ab X,s=>(y.D[X]?).bind λj=>(dR j s).bind id
 |_,_=>N
noncomputable def tc:O Q->O (O P5)
 |none=>S N
 |some (.int s)=>if 0<=s/\s<big then S (S s) else N
 |_=>N
noncomputable def cut{j:Type}(w:V j)(h g:O P5):V j:=(w.take (g.elim w.length WS)).drop (h.elim 0 WS)
noncomputable def eU(y:AH)(L:Q)(h g:O Q):O (Q×AH):=match tc h,tc g with
 |some h,S g=>match L with
  |.lst w=>if sm w.length then S (.lst (cut w h g),y) else N
  |.bH l=>if sm l.length then S (.bH (cut l h g),y) else N
  |.aE X=>(y.L[X]?).bind λw=>if sm w.length then S (.aE y.L.length,{y with L:=y.L++[cut w h g]}) else N
  |_=>N
 |_,_=>N
noncomputable def ei(y:AH)(L s C:Q):O AH:=match L with
 |.aE X=>match s with
  |.int s=>(y.L[X]?).bind λw=>if 0<=s/\s<w.length/\sm w.length=P4 then S {y with L:=y.L.set X (w.set s.toNat C)} else N
  |_=>N
 |.ab X=>(y.D[X]?).bind λj=>(rG j s C).map λg=>{y with D:=y.D.set X g}
 |.fV X=>match s,C with
  |.int s,.int z=>(y.B[X]?).bind λf=>if 0<=s/\s<f.length/\0<=z/\z<256/\sm f.length=P4 then S {y with B:=y.B.set X (f.set s.toNat z)} else N
  |_,_=>N
 |_=>N
noncomputable def I8:gV->V Z
 |.bZ=>[]
 |.Thing=>[9,11,78,16]
 |.Text=>[23,4,15,26]
 |.Row=>[23,6,15,26]
 |.Dict=>[23,47,15,26,16,0]
 |.Span=>[14,18,19]
 |.FX=>[80,81,82,25,83,36,39,0,24,84,85,86,87,34]
 |.mX=>[23,19,29,88]
 |.Mem=>[33,15,25,43,30,57,29,28,27,53]
noncomputable def KJ(L:Z):V Z->O Z
 |[]=>N
 |E :: x=>if L==E then S 0 else(KJ L x).map (· + 1)
noncomputable def La(L:Z):V (Z×Z)->O Z
 |[]=>N
 |P :: x=>if L==P.1 then S P.2 else La L x
noncomputable def jA(A:gV)(L:Z):O Z:=KJ L (I8 A)
noncomputable def eG(y:AH)(C:Q)(L:Z):O Q:=match C with
 |.obj A w=>(jA A L).bind λs=>w[s]?
 |.aA X=>(y.I[X]?).bind λP=>(jA P.1 L).bind λs=>P.2[s]?
 |.exc K=>if L=76 then S K else N
 |_=>N
noncomputable def eO(y:AH)(C:Q)(L:Z)(I:Q):O AH:=match C with
 |.aA X=>(y.I[X]?).bind λP=>(jA P.1 L).bind λs=>if s<P.2.length/\sm P.2.length=P4 then S {y with I:=y.I.set X (P.1,P.2.set s I)} else N
 |_=>N
noncomputable def hV:gV->P6
 |.Dict|.Mem=>P8
 |_=>P4
noncomputable def pP(r:Q->O (Q×AH)):V Q->O (Q×AH)
 |[I]=>r I
 |_=>N
noncomputable def FZ(r:Q->Q->O (Q×AH)):V Q->O (Q×AH)
 |[I,n]=>r I n
 |_=>N
noncomputable def oR(r:P5->O (Q×AH)):Q->O (Q×AH)
 |.int L=>r L
 |_=>N
noncomputable def Lb(r:V Z->O (Q×AH)):Q->O (Q×AH)
 |.bH l=>r l
 |_=>N
noncomputable def F5(r:V Q->O (Q×AH)):Q->O (Q×AH)
 |.lst l=>r l
 |_=>N
noncomputable def F9(y:AH):Q->O (Q×AH)
 |.aE X=>(y.L[X]?).bind λw=>if sm w.length then S (.int w.length,y) else N
 |.lst w=>if sm w.length then S (.int w.length,y) else N
 |.bH l=>if sm l.length then S (.int l.length,y) else N
 |.ab X=>(y.D[X]?).bind λj=>if sm j.length then S (.int j.length,y) else N
 |.fV X=>(y.B[X]?).bind λf=>if sm f.length then S (.int f.length,y) else N
 |_=>N
noncomputable def E9(y:AH):Q->O (Q×AH)
 |.ab X=>(y.D[X]?).bind λj=>if sm j.length then S (.lst (j.map (·.1)),y) else N
 |.fV X=>(y.B[X]?).bind λf=>if sm f.length then S (.lst (f.map .int),y) else N
 |_=>N
noncomputable def bK(y:AH)(E:BI)(c:V Q):O (Q×AH):=match E with
 |.len=>pP (F9 y) c
 |.min=>FZ (λI n=>oR (λL=>oR (λE=>S (.int (if E<L then E else L),y)) n) I) c
 |.max=>FZ (λI n=>oR (λL=>oR (λE=>S (.int (if L<E then E else L),y)) n) I) c
 |.abs=>pP (oR λL=>S (.int L.natAbs,y)) c
 |.int=>pP (oR λL=>S (.int L,y)) c
 |.bytes=>pP (oR λq=>if q=2 then S (.bH [0,0],y) else N) c
 |.rF=>pP (Lb λl=>if sm l.length then S (.fV y.B.length,{y with B:=y.B++[l.map YL]}) else N) c
 |.list=>pP (E9 y) c
 |.xC=>pP (F5 λw=>if sm w.length then S (.aE y.L.length,{y with L:=y.L++[w]}) else N) c
 |.hM=>pP (oR λq=>if 0<=q/\q<1000 then S (.lst ((Wn q.toNat).map λ(s:Z)=>Q.int s),y) else N) c
 |.jK=>pP (F5 λU=>S (.bool P8,y)) c
noncomputable def jB(y:AH)(C:Q)(H:Z)(c:V Q):O (Q×AH):=match C with
 |.aE X=>if H=44 then(match c with
   |[I]=>(y.L[X]?).bind λw=>if sm w.length then S (.none,{y with L:=y.L.set X (w++[I])}) else N
   |_=>N)
  else if H=51 then(match c with
   |[]=>(y.L[X]?).bind λw=>if sm w.length then(w.getLast?).map λI=>(I,{y with L:=y.L.set X w.dropLast}) else N
   |_=>N)
  else N
 |.ab X=>if H=48 then(match c with
   |[I]=>(y.D[X]?).bind λj=>(dR j I).map λx=>(x.getD .none,y)
   |_=>N)
  else if H=51 then(match c with
   |[I]=>(y.D[X]?).bind λj=>if sm j.length then((dR j I).bind id).bind λx=>(yN j I).map λg=>(x,{y with D:=y.D.set X g}) else N
   |_=>N)
  else N
 |_=>N
noncomputable def mL:gV->V (Z×Z)
 |.Dict=>[(48,1),(75,2)]
 |.Mem=>[(26,20),(31,21),(37,22),(32,23),(63,24),(35,25),(61,26),(62,27),(42,28),(46,29),(65,30),(41,31),(66,32),(117,33),(50,34),(67,35),(69,36),(68,37),(72,38),(54,39),(77,40),(118,41),(55,42),(74,43),(71,44),(56,45),(73,46),(119,47),(120,48),(121,49)]
 |_=>[]
noncomputable def td(A:gV)(H:Z):O Z:=La H (mL A)
inductive Src|eW(vs:V Q)|pQ(k:Z)
noncomputable def Src.at(d:Src)(s:Z)(y:AH):O (O Q):=match d with
 |.eW w=>S w[s]?
 |.pQ X=>(y.L[X]?).map (·[s]?)
noncomputable def srcOf(y:AH):Q->O (Src×Z)
 |.lst w=>if sm w.length then S (.eW w,w.length) else N
 |.aE X=>(y.L[X]?).bind λw=>if sm w.length then S (.pQ X,w.length) else N
 |_=>N
noncomputable def kX(j:V (Q×Q)):V (Q×Q)->O (V Q)
 |[]=>S []
 |P :: x=>match (dR j P.1).bind id,kX j x with
  |some C,S w=>S (C :: w)
  |_,_=>N
noncomputable def ow(y:AH):Q->Res (Q×AH)
 |.ab X=>match y.D[X]? with
  |some j=>if sm j.length then(match kX j j with|some w=>.ok (.lst w,y)|none=>.bad) else .bad
  |none=>.bad
 |_=>.bad
noncomputable def bW(f:Q->AH->Res (O Q×AH))(d:Src):Z->Z->AH->Res (V Q×AH)
 |0,_,_=>.bad
 |q+1,s,y=>match d.at s y with
  |none=>.bad
  |some N=>.ok ([],y)
  |some (S C)=>(f C y).bind λx=>(bW f d q (s+1) x.2).bind λM=>.ok ((match x.1 with|some I=>I :: M.1|none=>M.1),M.2)
noncomputable def cM(f:Z->Q->Loc->AH->Res (Fl×Loc×AH))(d:Src):Z->Z->Loc->AH->Res (Fl×Loc×AH)
 |0,_,_,_=>.bad
 |q+1,s,l,y=>match d.at s y with
  |none=>.bad
  |some N=>.ok (.next,l,y)
  |some (S C)=>(f s C l y).bind λx=>match x.1 with
   |.next=>cM f d q (s+1) x.2.1 x.2.2
   |.ret I=>.ok (.ret I,x.2.1,x.2.2)
noncomputable def jC(A:Loc->AH->Res (P6×AH))(f:Loc->AH->Res (Fl×Loc×AH)):Z->Loc->AH->Res (Fl×Loc×AH)
 |0,_,_=>.bad
 |q+1,l,y=>(A l y).bind λE=>if E.1 then(f l E.2).bind λx=>match x.1 with
   |.next=>jC A f q x.2.1 x.2.2
   |.ret I=>.ok (.ret I,x.2.1,x.2.2)
  else .ok (.next,l,E.2)
noncomputable def gY(l:Loc):V Z->Q->O Loc
 |[I],C=>S (l.set I (S C))
 |[I,n],.tup [L,E]=>S ((l.set I (S L)).set n (S E))
 |_,_=>N
noncomputable def dW(l:Loc):V Z->V Q->O Loc
 |[],[]=>S l
 |I :: b,C :: w=>dW (l.set I (S C)) b w
 |_,_=>N
noncomputable def I9(y:AH):V Q->V Q->V Q->O AH
 |[],[],[]=>S y
 |z :: e,s :: i,C :: w=>(ei y z s C).bind λv=>I9 v e i w
 |_,_,_=>N
noncomputable def aG(f:CF)(y:AH)(L:Q)(r:Z):Res (Q×AH):=match eG y L r with
 |some C=>.ok (C,y)
 |none=>match L with
  |.aA X=>match y.I[X]? with
   |some (.Mem,_)=>if r=26 then(f (.fn 20) [.aA X] y).xF else .bad
   |_=>.bad
  |_=>.bad
noncomputable def keyOf:Q->O Key
 |.fn X=>if X<60 then S (.fn X) else N
 |.cls A=>S (.cls A)
 |_=>N
set_option genCtorIdx true in
inductive Recv|own(f:Z)|bR
theorem Recv.own.inj(B:Recv.own d=.own e):d=e:=by cases B;rfl
noncomputable def aK(y:AH)(C:Q)(H:Z):O Recv:=match C with
 |.aA X=>match y.I[X]? with
  |some (A,_)=>if H=26 then N else(td A H).map .own
  |none=>N
 |.aE _=>if H=44\/H=51 then S .bR else N
 |.ab _=>if H=48\/H=51 then S .bR else N
 |_=>N
noncomputable def jM(e:V Z)(w:V Q)(s:Q)(y:AH):Res (Q×AH):=match s with
 |.str X=>match (e.zip w).find? (λP=>P.1==X) with
  |some P=>.ok (P.2,y)
  |none=>.bad
 |_=>.bad
section
variable(cf:CF)
mutual
noncomputable def aO:LE->Loc->AH->Res (Q×AH)
 |.oO,_,H=>.ok (.none,H)
 |.uB b,_,H=>.ok (.bool b,H)
 |.int i,_,H=>.ok (.int i,H)
 |.str k,_,H=>.ok (.str k,H)
 |.bH b,_,H=>.ok (.bH b,H)
 |.var x,l,H=>match l[x]? with|some (S v)=>.ok (v,H)|_=>.bad
 |.gf f,_,H=>.ok (.fn f,H)
 |.gc c,_,H=>.ok (.cls c,H)
 |.gi _ i,_,H=>.ok (.int i,H)
 |.attr e a,l,H=>(aO e l H).bind λr=>aG cf r.2 r.1 a
 |.call f as,l,H=>(aO f l H).bind λr=>match keyOf r.1 with
  |some k=>(bB as l r.2).bind λq=>cf k q.1 q.2
  |none=>.bad
 |.bC b as,l,H=>(bB as l H).bind λq=>.of (bK q.2 b q.1)
 |.aU e m as,l,H=>(aO e l H).bind λr=>match aK r.2 r.1 m with
  |some (.own f)=>(bB as l r.2).bind λq=>cf (.fn f) (r.1 :: q.1) q.2
  |some .bR=>(bB as l r.2).bind λq=>.of (jB q.2 r.1 m q.1)
  |none=>.bad
 |.sub e i,l,H=>(aO e l H).bind λr=>(aO i l r.2).bind λq=>match aR q.2 r.1 q.1 with
  |some v=>.ok (v,q.2)
  |none=>.bad
 |.uC e lo hi,l,H=>(aO e l H).bind λr=>(CR lo l r.2).bind λa=>(CR hi l a.2).bind λb=>.of (eU b.2 r.1 a.1 b.1)
 |.pick ks vs i,l,H=>(bB vs l H).bind λq=>(aO i l q.2).bind λr=>jM ks q.1 r.1 r.2
 |.tup es,l,H=>(bB es l H).bind λq=>.ok (.tup q.1,q.2)
 |.lst es,l,H=>(bB es l H).bind λq=>.ok (.lst q.1,q.2)
 |.emp,_,H=>.ok (.aE H.L.length,{H with L:=H.L++[[]]})
 |.xE ks vs,l,H=>(bB vs l H).bind λq=>if ks.length=q.1.length then .ok (.ab q.2.D.length,{q.2 with D:=q.2.D++[(ks.map Q.str).zip q.1]}) else .bad
 |.bin o a b,l,H=>(aO a l H).bind λr=>(aO b l r.2).bind λq=>match cK o r.1 q.1 with
  |some v=>.ok (v,q.2)
  |none=>.bad
 |.cmp o a b,l,H=>(aO a l H).bind λr=>(aO b l r.2).bind λq=>match cW q.2 o r.1 q.1 with
  |some v=>.ok (.bool v,q.2)
  |none=>.bad
 |.and a b,l,H=>(aO a l H).bind λr=>match truthy r.1 with
  |some P4=>aO b l r.2
  |some P8=>.ok (r.1,r.2)
  |none=>.bad
 |.or a b,l,H=>(aO a l H).bind λr=>match truthy r.1 with
  |some P4=>.ok (r.1,r.2)
  |some P8=>aO b l r.2
  |none=>.bad
 |.not e,l,H=>(aO e l H).bind λr=>match truthy r.1 with
  |some b=>.ok (.bool (!b),r.2)
  |none=>.bad
 |.neg e,l,H=>(aO e l H).bind λr=>match r.1 with
  |.int i=>.ok (.int (-i),r.2)
  |_=>.bad
 |.ite c a b,l,H=>(aO c l H).bind λr=>match truthy r.1 with
  |some P4=>aO a l r.2
  |some P8=>aO b l r.2
  |none=>.bad
 |.comp elt ts it cond,l,H=>(aO it l H).bind λr=>match srcOf r.2 r.1 with
  |none=>.bad
  |some s=>(bW (λv H=>match gY l ts v with
    |none=>.bad
    |some l'=>((CS cond l' H).bind λc=>if c.1 then(aO elt l' c.2).bind λx=>.ok (S x.1,x.2) else .ok (N,c.2)).xF) s.1 (s.2+1) 0 r.2).bind λq=>.ok (.lst q.1,q.2)
 |.vals e _,l,H=>(aO e l H).bind λr=>ow r.2 r.1
noncomputable def bB:fD->Loc->AH->Res (V Q×AH)
 |.nil,_,H=>.ok ([],H)
 |.cons e r,l,H=>(aO e l H).bind λx=>(bB r l x.2).bind λq=>.ok (x.1 :: q.1,q.2)
noncomputable def CR:LO->Loc->AH->Res (O Q×AH)
 |.no,_,H=>.ok (N,H)
 |.so e,l,H=>(aO e l H).bind λr=>.ok (S r.1,r.2)
noncomputable def CS:LO->Loc->AH->Res (P6×AH)
 |.no,_,H=>.ok (P4,H)
 |.so e,l,H=>(aO e l H).bind λr=>match truthy r.1 with
  |some b=>.ok (b,r.2)
  |none=>.bad
end
mutual
noncomputable def dK:LS->Loc->AH->Res (Fl×Loc×AH)
 |.asg x e,l,H=>(aO cf e l H).bind λr=>.ok (.next,l.set x (S r.1),r.2)
 |.fU e a v,l,H=>(aO cf v l H).bind λr=>(aO cf e l r.2).bind λq=>match eO q.2 q.1 a r.1 with
  |some H'=>.ok (.next,l,H')
  |none=>.bad
 |.fE e i v,l,H=>(aO cf v l H).bind λr=>(aO cf e l r.2).bind λq=>(aO cf i l q.2).bind λp=>match ei p.2 q.1 p.1 r.1 with
  |some H'=>.ok (.next,l,H')
  |none=>.bad
 |.uI xs e,l,H=>(aO cf e l H).bind λr=>match r.1 with
  |.tup vs=>match dW l xs vs with
   |some l'=>.ok (.next,l',r.2)
   |none=>.bad
  |_=>.bad
 |.iL xs es,l,H=>(bB cf es l H).bind λr=>match dW l xs r.1 with
   |some l'=>.ok (.next,l',r.2)
   |none=>.bad
 |.oP os is vs,l,H=>(bB cf vs l H).bind λr=>yO os is r.1 l r.2
 |.exp e,l,H=>(aO cf e l H).bind λr=>.ok (.next,l,r.2)
 |.ifs c a b,l,H=>(aO cf c l H).bind λr=>match truthy r.1 with
  |some P4=>aW a l r.2
  |some P8=>aW b l r.2
  |none=>.bad
 |.dZ x e b,l,H=>(aO cf e l H).bind λr=>match srcOf r.2 r.1 with
  |none=>.bad
  |some s=>cM (λε v l H=>aW b (l.set x (S v)) H) s.1 (s.2+1) 0 l r.2
 |.lG i x e b,l,H=>(aO cf e l H).bind λr=>match srcOf r.2 r.1 with
  |none=>.bad
  |some s=>cM (λk v l H=>aW b ((l.set i (S (.int k))).set x (S v)) H) s.1 (s.2+1) 0 l r.2
 |.CO c b,l,H=>jC (λl H=>(aO cf c l H).bind λr=>match truthy r.1 with
   |some t=>.ok (t,r.2)
   |none=>.bad) (λl H=>aW b l H) 100 l H
 |.ret e,l,H=>(aO cf e l H).bind λr=>.ok (.ret r.1,l,r.2)
 |.gy e,l,H=>(aO cf e l H).bind λr=>.exc r.1 r.2
 |.oQ e x h,l,H=>match aO cf e l H with
  |.ok r=>.ok (.next,l,r.2)
  |.exc t H'=>(aO (λε ε ε=>Res.bad) h (l.set x (S (.exc t))) H').xF.bind λr=>.ok (.next,(l.set x (S (.exc t))).set x N,r.2)
  |.bad=>.bad
 |.any,_,_=>.bad
noncomputable def aW:jL->Loc->AH->Res (Fl×Loc×AH)
 |.nil,l,H=>.ok (.next,l,H)
 |.cons s r,l,H=>(dK s l H).bind λq=>match q.1 with
  |.next=>aW r q.2.1 q.2.2
  |.ret v=>.ok (.ret v,q.2.1,q.2.2)
noncomputable def yO:fD->fD->V Q->Loc->AH->Res (Fl×Loc×AH)
 |.nil,.nil,[],l,H=>.ok (.next,l,H)
 |.cons o os,.cons i is,v :: vs,l,H=>(aO cf o l H).bind λa=>(aO cf i l a.2).bind λb=>match ei b.2 a.1 b.1 v with
  |some H'=>yO os is vs l H'
  |none=>.bad
 |_,_,_,_,_=>.bad
end
end
noncomputable def f0:dV:={aY:=1,dt:=[],slots:=[S 89],body:=(.cons .any .nil)}
noncomputable def f1:dV:={aY:=2,dt:=[],slots:=[S 90,S 91],body:=(.cons .any .nil)}
noncomputable def f2:dV:={aY:=1,dt:=[],slots:=[S 90,N],body:=(.cons (.ret (.vals (.attr (.var 0) 0) 1)) .nil)}
noncomputable def f3:dV:={aY:=1,dt:=[],slots:=[S 23],body:=(.cons (.ret (.call (.gc .Thing) (.cons (.str 1) (.cons (.var 0) .nil)))) .nil)}
noncomputable def f4:dV:={aY:=2,dt:=[.bool P8],slots:=[S 4,S 78],body:=(.cons (.ret (.call (.gc .Thing) (.cons (.str 2) (.cons (.var 0) (.cons (.var 1) .nil))))) .nil)}
noncomputable def f5:dV:={aY:=0,dt:=[],slots:=[],body:=(.cons (.ret (.call (.gc .Thing) (.cons (.str 3) (.cons (.oO) .nil)))) .nil)}
noncomputable def f6:dV:={aY:=3,dt:=[.bool P8,.int 3],slots:=[S 36,S 78,S 16],body:=(.cons (.ret (.call (.gc .Thing) (.cons (.str 5) (.cons (.call (.gc .Span) (.cons (.var 0) (.cons (.int 0) (.cons (.bC .len (.cons (.attr (.var 0) 4) .nil)) .nil)))) (.cons (.var 1) (.cons (.var 2) .nil)))))) .nil)}
noncomputable def f7:dV:={aY:=3,dt:=[.bool P8,.int 3],slots:=[S 39,S 78,S 16],body:=(.cons (.ret (.call (.gc .Thing) (.cons (.str 7) (.cons (.call (.gc .Span) (.cons (.var 0) (.cons (.int 0) (.cons (.bC .len (.cons (.attr (.var 0) 6) .nil)) .nil)))) (.cons (.var 1) (.cons (.var 2) .nil)))))) .nil)}
noncomputable def f8:dV:={aY:=1,dt:=[],slots:=[S 14],body:=(.cons (.ret (.call (.gc .Thing) (.cons (.str 8) (.cons (.var 0) .nil)))) .nil)}
noncomputable def f9:dV:={aY:=1,dt:=[],slots:=[S 92],body:=(.cons (.ret (.or (.cmp .eq (.attr (.var 0) 9) (.str 1)) (.cmp .eq (.attr (.var 0) 9) (.str 10)))) .nil)}
noncomputable def NL:dV:={aY:=1,dt:=[],slots:=[S 92],body:=(.cons (.ifs (.cmp .eq (.attr (.var 0) 9) (.str 1)) (.cons (.ret (.bin .mul (.attr (.var 0) 11) (.gi 12 1000000))) .nil) .nil) (.cons (.ifs (.cmp .eq (.attr (.var 0) 9) (.str 10)) (.cons (.ret (.attr (.var 0) 11)) .nil) .nil) (.cons (.gy (.bH [116,121,112,101,99,104,101,99,107])) .nil)))}
noncomputable def Lc:dV:={aY:=1,dt:=[],slots:=[S 92],body:=(.cons (.ret (.or (.cmp .eq (.attr (.var 0) 9) (.str 7)) (.cmp .eq (.attr (.var 0) 9) (.str 13)))) .nil)}
noncomputable def I':dV:={aY:=1,dt:=[],slots:=[S 92],body:=(.cons (.ifs (.cmp .eq (.attr (.var 0) 9) (.str 8)) (.cons (.ret (.attr (.var 0) 11)) .nil) .nil) (.cons (.ret (.ite (.or (.cmp .eq (.attr (.var 0) 9) (.str 5)) (.call (.gf 11) (.cons (.var 0) .nil))) (.attr (.attr (.var 0) 11) 14) (.oO))) .nil))}
noncomputable def Ja:dV:={aY:=1,dt:=[],slots:=[S 92,S 14],body:=(.cons (.asg 1 (.call (.gf 12) (.cons (.var 0) .nil))) (.cons (.ret (.and (.cmp .oa (.var 1) (.oO)) (.not (.attr (.var 1) 15)))) .nil))}
noncomputable def NM:dV:={aY:=1,dt:=[],slots:=[S 92],body:=(.cons (.ret (.ite (.cmp .eq (.attr (.var 0) 9) (.str 8)) (.attr (.attr (.var 0) 11) 16) (.attr (.var 0) 16))) .nil)}
noncomputable def NN:dV:={aY:=1,dt:=[],slots:=[S 92],body:=(.cons (.ret (.cmp .ge (.call (.gf 14) (.cons (.var 0) .nil)) (.gi 17 2))) .nil)}
noncomputable def NO:dV:={aY:=1,dt:=[],slots:=[S 93],body:=(.cons (.ret (.bC .bytes (.cons (.uC (.attr (.attr (.var 0) 14) 4) (.so (.attr (.var 0) 18)) (.so (.bin .add (.attr (.var 0) 18) (.attr (.var 0) 19)))) .nil))) .nil)}
noncomputable def Ld:dV:={aY:=1,dt:=[],slots:=[S 92],body:=(.cons (.ifs (.cmp .eq (.attr (.var 0) 9) (.str 2)) (.cons (.ret (.attr (.var 0) 11)) .nil) .nil) (.cons (.ifs (.cmp .ne (.attr (.var 0) 9) (.str 5)) (.cons (.gy (.bH [116,121,112,101,99,104,101,99,107])) .nil) .nil) (.cons (.ifs (.not (.call (.gf 15) (.cons (.var 0) .nil))) (.cons (.gy (.bH [105,110,118,97,108,105,100,97,99,99,101,115,115])) .nil) .nil) (.cons (.ret (.call (.gf 16) (.cons (.attr (.var 0) 11) .nil))) .nil))))}
noncomputable def Le:dV:={aY:=1,dt:=[],slots:=[S 92],body:=(.cons (.ifs (.cmp .eq (.attr (.var 0) 9) (.str 3)) (.cons (.gy (.bH [116,121,112,101,99,104,101,99,107])) .nil) .nil) (.cons (.ifs (.or (.cmp .eq (.attr (.var 0) 9) (.str 2)) (.cmp .eq (.attr (.var 0) 9) (.str 5))) (.cons (.ret (.tup (.cons (.str 24) (.cons (.call (.gf 17) (.cons (.var 0) .nil)) .nil)))) .nil) .nil) (.cons (.ifs (.call (.gf 9) (.cons (.var 0) .nil)) (.cons (.ret (.tup (.cons (.str 23) (.cons (.call (.gf 10) (.cons (.var 0) .nil)) .nil)))) .nil) .nil) (.cons (.ifs (.call (.gf 11) (.cons (.var 0) .nil)) (.cons (.ret (.tup (.cons (.str 7) (.cons (.attr (.attr (.attr (.var 0) 11) 14) 23) (.cons (.attr (.attr (.var 0) 11) 18) (.cons (.attr (.attr (.var 0) 11) 19) .nil)))))) .nil) .nil) (.cons (.ifs (.or (.cmp .eq (.attr (.var 0) 9) (.str 8)) (.or (.cmp .eq (.attr (.var 0) 9) (.str 22)) (.cmp .eq (.attr (.var 0) 9) (.str 21)))) (.cons (.ret (.tup (.cons (.attr (.var 0) 9) (.cons (.attr (.attr (.var 0) 11) 23) .nil)))) .nil) .nil) (.cons (.ifs (.cmp .eq (.attr (.var 0) 9) (.str 20)) (.cons (.ret (.tup (.cons (.str 20) (.cons (.ite (.attr (.var 0) 11) (.int 1) (.int 0)) .nil)))) .nil) .nil) (.cons (.ret (.tup (.cons (.attr (.var 0) 9) (.cons (.attr (.var 0) 11) .nil)))) .nil)))))))}
noncomputable def Lf:dV:={aY:=1,dt:=[],slots:=[S 92],body:=(.cons (.ret (.ite (.cmp .eq (.attr (.var 0) 9) (.str 5)) (.call (.gf 4) (.cons (.call (.gf 17) (.cons (.var 0) .nil)) .nil)) (.var 0))) .nil)}
noncomputable def Lg:dV:={aY:=1,dt:=[],slots:=[S 90],body:=(.cons (.ret (.bC .len (.cons (.attr (.var 0) 25) .nil))) .nil)}
noncomputable def Lh:dV:={aY:=1,dt:=[],slots:=[S 90],body:=(.cons (.ret (.ite (.attr (.var 0) 15) (.int 0) (.attr (.var 0) 26))) .nil)}
noncomputable def Li:dV:={aY:=2,dt:=[],slots:=[S 90,S 94],body:=(.cons (.exp (.aU (.var 0) 32 (.cons (.var 1) .nil))) (.cons (.fU (.var 0) 27 (.bin .add (.attr (.var 0) 27) (.int 1))) (.cons (.fE (.attr (.var 0) 30) (.attr (.var 0) 27) (.tup (.cons (.var 1) (.cons (.attr (.var 0) 15) (.cons (.aU (.var 0) 31 .nil) .nil))))) (.cons (.ifs (.attr (.var 0) 15) (.cons (.fU (.var 0) 28 (.bin .add (.attr (.var 0) 28) (.var 1))) .nil) (.cons (.fU (.var 0) 29 (.bin .add (.attr (.var 0) 29) (.var 1))) .nil)) (.cons (.ret (.attr (.var 0) 27)) .nil)))))}
noncomputable def Lj:dV:={aY:=2,dt:=[],slots:=[S 90,S 94],body:=(.cons (.ifs (.cmp .gt (.bin .add (.bin .add (.attr (.var 0) 29) (.attr (.var 0) 28)) (.var 1)) (.attr (.attr (.var 0) 33) 34)) (.cons (.gy (.bH [86,77,101,114,114,111,114])) .nil) .nil) .nil)}
noncomputable def C1:dV:={aY:=2,dt:=[],slots:=[S 90,S 19],body:=(.cons (.exp (.call (.gf 50) (.cons (.var 1) (.cons (.attr (.attr (.var 0) 33) 36) .nil)))) (.cons (.ret (.aU (.var 0) 35 (.cons (.bC .bytes (.cons (.var 1) .nil)) .nil))) .nil))}
noncomputable def E':dV:={aY:=2,dt:=[],slots:=[S 90,S 4],body:=(.cons (.exp (.call (.gf 50) (.cons (.bC .len (.cons (.var 1) .nil)) (.cons (.attr (.attr (.var 0) 33) 36) .nil)))) (.cons (.ret (.call (.gc .Text) (.cons (.aU (.var 0) 37 (.cons (.bC .len (.cons (.var 1) .nil)) .nil)) (.cons (.var 1) (.cons (.attr (.var 0) 15) (.cons (.aU (.var 0) 31 .nil) .nil)))))) .nil))}
noncomputable def Lk:dV:={aY:=2,dt:=[],slots:=[S 90,S 6,S 92],body:=(.cons (.ifs (.bC .jK (.cons (.var 1) .nil)) (.cons .any .nil) .nil) (.cons (.exp (.call (.gf 50) (.cons (.bC .len (.cons (.var 1) .nil)) (.cons (.attr (.attr (.var 0) 33) 39) .nil)))) (.cons (.ifs (.attr (.var 0) 15) (.cons (.dZ 2 (.var 1) (.cons (.ifs (.call (.gf 13) (.cons (.var 2) .nil)) (.cons (.gy (.bH [105,110,118,97,108,105,100,97,99,99,101,115,115])) .nil) .nil) .nil)) .nil) .nil) (.cons (.ret (.call (.gc .Row) (.cons (.aU (.var 0) 37 (.cons (.bin .mul (.gi 38 8) (.bC .len (.cons (.var 1) .nil))) .nil)) (.cons (.var 1) (.cons (.attr (.var 0) 15) (.cons (.aU (.var 0) 31 .nil) .nil)))))) .nil))))}
noncomputable def Ll:dV:={aY:=2,dt:=[],slots:=[S 90,S 47],body:=(.cons (.exp (.call (.gf 50) (.cons (.var 1) (.cons (.attr (.attr (.var 0) 33) 0) .nil)))) (.cons (.ret (.call (.gc .Dict) (.cons (.aU (.var 0) 37 (.cons (.bin .mul (.gi 40 16) (.var 1)) .nil)) (.cons (.var 1) (.cons (.attr (.var 0) 15) (.cons (.aU (.var 0) 31 .nil) .nil)))))) .nil))}
noncomputable def Lm:dV:={aY:=2,dt:=[],slots:=[S 90,S 14],body:=(.cons (.ret (.and (.not (.attr (.var 1) 15)) (.cmp .lt (.attr (.var 1) 26) (.attr (.var 0) 26)))) .nil)}
noncomputable def Ln:dV:={aY:=3,dt:=[],slots:=[S 90,S 14,S 92],body:=(.cons (.ifs (.and (.attr (.var 1) 15) (.call (.gf 13) (.cons (.var 2) .nil))) (.cons (.gy (.bH [105,110,118,97,108,105,100,97,99,99,101,115,115])) .nil) .nil) .nil)}
noncomputable def Jb:dV:={aY:=4,dt:=[],slots:=[S 90,S 39,S 95,S 92],body:=(.cons (.exp (.aU (.var 0) 41 (.cons (.var 1) (.cons (.var 2) (.cons (.lst (.cons (.var 3) .nil)) .nil))))) .nil)}
noncomputable def Jc:dV:={aY:=4,dt:=[],slots:=[S 90,S 39,S 95,S 6,S 92,S 96],body:=(.cons (.dZ 4 (.var 3) (.cons (.exp (.aU (.var 0) 46 (.cons (.var 1) (.cons (.var 4) .nil)))) .nil)) (.cons (.lG 5 4 (.var 3) (.cons (.ifs (.aU (.var 0) 42 (.cons (.var 1) .nil)) (.cons (.exp (.aU (.attr (.var 0) 43) 44 (.cons (.tup (.cons (.str 45) (.cons (.var 1) (.cons (.bin .add (.var 2) (.var 5)) (.cons (.sub (.attr (.var 1) 6) (.bin .add (.var 2) (.var 5))) .nil))))) .nil))) .nil) .nil) (.cons (.fE (.attr (.var 1) 6) (.bin .add (.var 2) (.var 5)) (.var 4)) .nil))) .nil))}
noncomputable def Lo:dV:={aY:=4,dt:=[],slots:=[S 90,S 36,S 95,S 97],body:=(.cons (.fE (.attr (.var 1) 4) (.var 2) (.var 3)) .nil)}
noncomputable def NP:dV:={aY:=4,dt:=[],slots:=[S 90,S 36,S 95,S 4],body:=(.cons .any .nil)}
noncomputable def IS:dV:={aY:=2,dt:=[],slots:=[S 90,S 14,S 19,S 98,S 94],body:=(.cons (.asg 2 (.bC .min (.cons (.bC .max (.cons (.bin .mul (.int 2) (.attr (.var 1) 47)) (.cons (.int 8) .nil))) (.cons (.attr (.attr (.var 0) 33) 0) .nil)))) (.cons (.ifs (.cmp .le (.var 2) (.attr (.var 1) 47)) (.cons (.gy (.bH [100,105,99,116,102,117,108,108])) .nil) .nil) (.cons (.asg 3 (.bin .mul (.gi 40 16) (.bin .sub (.var 2) (.attr (.var 1) 47)))) (.cons (.exp (.aU (.var 0) 32 (.cons (.var 3) .nil))) (.cons (.asg 4 (.ite (.cmp .in (.attr (.var 1) 23) (.attr (.var 0) 30)) (.sub (.sub (.attr (.var 0) 30) (.attr (.var 1) 23)) (.int 0)) (.int 0))) (.cons (.fE (.attr (.var 0) 30) (.attr (.var 1) 23) (.tup (.cons (.bin .add (.var 4) (.var 3)) (.cons (.attr (.var 1) 15) (.cons (.attr (.var 1) 26) .nil))))) (.cons (.ifs (.attr (.var 1) 15) (.cons (.fU (.var 0) 28 (.bin .add (.attr (.var 0) 28) (.var 3))) .nil) (.cons (.fU (.var 0) 29 (.bin .add (.attr (.var 0) 29) (.var 3))) .nil)) (.cons (.ifs (.aU (.var 0) 42 (.cons (.var 1) .nil)) (.cons (.exp (.aU (.attr (.var 0) 43) 44 (.cons (.tup (.cons (.str 47) (.cons (.var 1) (.cons (.attr (.var 1) 47) .nil)))) .nil))) .nil) .nil) (.cons (.fU (.var 1) 47 (.var 2)) .nil)))))))))}
noncomputable def rH:dV:={aY:=4,dt:=[],slots:=[S 90,S 14,S 91,S 92,S 24,S 99],body:=(.cons (.asg 4 (.call (.gf 18) (.cons (.var 2) .nil))) (.cons (.exp (.aU (.var 0) 46 (.cons (.var 1) (.cons (.var 3) .nil)))) (.cons (.exp (.aU (.var 0) 46 (.cons (.var 1) (.cons (.call (.gf 19) (.cons (.var 2) .nil)) .nil)))) (.cons (.ifs (.and (.cmp .uH (.var 4) (.attr (.var 1) 0)) (.cmp .ge (.bC .len (.cons (.attr (.var 1) 0) .nil)) (.attr (.var 1) 47))) (.cons (.exp (.aU (.var 0) 50 (.cons (.var 1) .nil))) .nil) .nil) (.cons (.ifs (.aU (.var 0) 42 (.cons (.var 1) .nil)) (.cons (.exp (.aU (.attr (.var 0) 43) 44 (.cons (.tup (.cons (.str 49) (.cons (.var 1) (.cons (.var 4) (.cons (.aU (.attr (.var 1) 0) 48 (.cons (.var 4) .nil)) .nil))))) .nil))) .nil) .nil) (.cons (.asg 5 (.ite (.cmp .in (.var 4) (.attr (.var 1) 0)) (.sub (.sub (.attr (.var 1) 0) (.var 4)) (.int 0)) (.call (.gf 19) (.cons (.var 2) .nil)))) (.cons (.fE (.attr (.var 1) 0) (.var 4) (.tup (.cons (.var 5) (.cons (.var 3) .nil)))) .nil)))))))}
noncomputable def Jd:dV:={aY:=3,dt:=[],slots:=[S 90,S 14,S 91,S 24],body:=(.cons (.asg 3 (.call (.gf 18) (.cons (.var 2) .nil))) (.cons (.ifs (.cmp .in (.var 3) (.attr (.var 1) 0)) (.cons (.ifs (.aU (.var 0) 42 (.cons (.var 1) .nil)) (.cons (.exp (.aU (.attr (.var 0) 43) 44 (.cons (.tup (.cons (.str 52) (.cons (.var 1) (.cons (.var 3) (.cons (.sub (.attr (.var 1) 0) (.var 3)) (.cons (.bC .list (.cons (.attr (.var 1) 0) .nil)) .nil)))))) .nil))) .nil) .nil) (.cons (.exp (.aU (.attr (.var 1) 0) 51 (.cons (.var 3) .nil))) .nil)) .nil) .nil))}
noncomputable def Lp:dV:={aY:=3,dt:=[],slots:=[S 90,S 14,S 16],body:=(.cons (.ifs (.cmp .gt (.var 2) (.attr (.var 1) 16)) (.cons (.gy (.bH [105,110,118,97,108,105,100,97,99,99,101,115,115])) .nil) .nil) (.cons (.ifs (.aU (.var 0) 42 (.cons (.var 1) .nil)) (.cons (.exp (.aU (.attr (.var 0) 43) 44 (.cons (.tup (.cons (.str 16) (.cons (.var 1) (.cons (.attr (.var 1) 16) .nil)))) .nil))) .nil) .nil) (.cons (.fU (.var 1) 16 (.var 2)) .nil)))}
noncomputable def Lq:dV:={aY:=2,dt:=[.none],slots:=[S 90,S 88],body:=(.cons (.ifs (.cmp .ge (.attr (.var 0) 26) (.attr (.attr (.var 0) 33) 25)) (.cons (.gy (.bH [108,105,109,105,116,99,104,101,99,107])) .nil) .nil) (.cons (.fU (.var 0) 53 (.bin .add (.attr (.var 0) 53) (.int 1))) (.cons (.exp (.aU (.attr (.var 0) 25) 44 (.cons (.call (.gc .mX) (.cons (.attr (.var 0) 53) (.cons (.bC .len (.cons (.attr (.var 0) 43) .nil)) (.cons (.attr (.var 0) 29) (.cons (.var 1) .nil))))) .nil))) (.cons (.ret (.attr (.var 0) 53)) .nil))))}
noncomputable def MI:dV:={aY:=2,dt:=[],slots:=[S 90,S 23,S 100,S 101],body:=(.cons (.lG 2 3 (.attr (.var 0) 25) (.cons (.ifs (.cmp .eq (.attr (.var 3) 23) (.var 1)) (.cons (.ret (.var 2)) .nil) .nil) .nil)) (.cons (.ret (.oO)) .nil))}
noncomputable def Lr:dV:={aY:=2,dt:=[],slots:=[S 90,S 23],body:=(.cons (.ret (.cmp .oa (.aU (.var 0) 54 (.cons (.var 1) .nil)) (.oO))) .nil)}
noncomputable def NQ:dV:={aY:=2,dt:=[],slots:=[S 90,S 23],body:=(.cons .any .nil)}
noncomputable def Ls:dV:={aY:=2,dt:=[],slots:=[S 90,S 23,S 100],body:=(.cons (.asg 2 (.aU (.var 0) 54 (.cons (.var 1) .nil))) (.cons (.ifs (.cmp .is (.var 2) (.oO)) (.cons (.gy (.bH [105,110,118,97,108,105,100,114,101,115,116,111,114,101])) .nil) .nil) (.cons (.ret (.var 2)) .nil)))}
noncomputable def Lu:dV:={aY:=3,dt:=[],slots:=[S 90,S 23,S 92,S 14,S 100,S 94,S 15,S 26],body:=(.cons (.iL [3,4] (.cons (.call (.gf 12) (.cons (.var 2) .nil)) (.cons (.aU (.var 0) 55 (.cons (.var 1) .nil)) .nil))) (.cons (.ifs (.cmp .eq (.attr (.var 2) 9) (.str 21)) (.cons .any .nil) .nil) (.cons (.ret (.and (.cmp .oa (.var 3) (.oO)) (.and (.not (.attr (.var 3) 15)) (.cmp .gt (.attr (.var 3) 26) (.var 4))))) .nil)))}
noncomputable def mT:dV:={aY:=2,dt:=[],slots:=[S 90,S 23,S 100,S 101,S 102,S 14,S 94,S 15,S 26],body:=(.cons (.asg 2 (.aU (.var 0) 55 (.cons (.var 1) .nil))) (.cons (.asg 3 (.sub (.attr (.var 0) 25) (.var 2))) (.cons (.asg 4 (.emp)) (.cons (.CO (.cmp .gt (.bC .len (.cons (.attr (.var 0) 43) .nil)) (.attr (.var 3) 19)) (.cons (.exp (.aU (.var 4) 44 (.cons (.aU (.attr (.var 0) 43) 51 .nil) .nil))) (.cons (.exp (.call (.gf 51) (.cons (.sub (.var 4) (.neg (.int 1))) .nil))) .nil))) (.cons (.fU (.var 0) 25 (.uC (.attr (.var 0) 25) .no (.so (.var 2)))) (.cons (.fU (.var 0) 57 (.emp)) (.cons (.dZ 5 (.bC .list (.cons (.attr (.var 0) 30) .nil)) (.cons (.uI [6,7,8] (.sub (.attr (.var 0) 30) (.var 5))) (.cons (.ifs (.and (.not (.var 7)) (.cmp .gt (.var 8) (.var 2))) (.cons (.exp (.aU (.attr (.var 0) 30) 51 (.cons (.var 5) .nil))) (.cons (.exp (.aU (.attr (.var 0) 57) 44 (.cons (.var 5) .nil))) .nil)) .nil) .nil))) (.cons (.exp (.aU (.var 0) 56 (.cons (.var 4) .nil))) (.cons (.fU (.var 0) 29 (.attr (.var 3) 29)) (.cons (.ret (.var 4)) .nil))))))))))}
noncomputable def MJ:dV:={aY:=2,dt:=[],slots:=[S 90,S 102,S 103,S 94,S 15,S 26],body:=(.cons (.dZ 2 (.var 1) (.cons (.ifs (.and (.cmp .eq (.sub (.var 2) (.int 0)) (.str 47)) (.cmp .in (.attr (.sub (.var 2) (.int 1)) 23) (.attr (.var 0) 30))) (.cons (.uI [3,4,5] (.sub (.attr (.var 0) 30) (.attr (.sub (.var 2) (.int 1)) 23))) (.cons (.fE (.attr (.var 0) 30) (.attr (.sub (.var 2) (.int 1)) 23) (.tup (.cons (.bin .mul (.gi 40 16) (.sub (.var 2) (.int 2))) (.cons (.var 4) (.cons (.var 5) .nil))))) .nil)) .nil) .nil)) .nil)}
noncomputable def Lv:dV:={aY:=1,dt:=[],slots:=[S 90],body:=(.cons (.ret (.tup (.cons (.attr (.var 0) 26) (.cons (.bin .add (.attr (.var 0) 29) (.attr (.var 0) 28)) (.cons (.attr (.attr (.var 0) 33) 34) .nil))))) .nil)}
noncomputable def NR:dV:={aY:=2,dt:=[],slots:=[S 90,S 104],body:=(.cons .any .nil)}
noncomputable def NT:dV:={aY:=3,dt:=[.bool P8],slots:=[S 90,S 104,S 105],body:=(.cons .any .nil)}
noncomputable def NU:dV:={aY:=1,dt:=[],slots:=[S 90],body:=(.cons .any .nil)}
noncomputable def Lw:dV:={aY:=2,dt:=[],slots:=[S 19,S 47],body:=(.cons (.ifs (.cmp .lt (.var 0) (.int 0)) (.cons (.gy (.bH [114,97,110,103,101,99,104,101,99,107])) .nil) .nil) (.cons (.ifs (.cmp .gt (.var 0) (.var 1)) (.cons (.gy (.bH [108,105,109,105,116,99,104,101,99,107])) .nil) .nil) .nil))}
noncomputable def Ah:dV:={aY:=1,dt:=[],slots:=[S 103,S 24,S 14,S 0,S 91],body:=(.cons (.iL [1,2] (.cons (.sub (.var 0) (.int 0)) (.cons (.sub (.var 0) (.int 1)) .nil))) (.cons (.ifs (.cmp .eq (.var 1) (.str 45)) (.cons (.fE (.attr (.var 2) 6) (.sub (.var 0) (.int 2)) (.sub (.var 0) (.int 3))) .nil) (.cons (.ifs (.cmp .eq (.var 1) (.str 47)) (.cons (.fU (.var 2) 47 (.sub (.var 0) (.int 2))) .nil) (.cons (.ifs (.cmp .eq (.var 1) (.str 16)) (.cons (.fU (.var 2) 16 (.sub (.var 0) (.int 2))) .nil) (.cons (.ifs (.cmp .eq (.var 1) (.str 52)) (.cons (.asg 3 (.xE [] .nil)) (.cons (.dZ 4 (.sub (.var 0) (.int 4)) (.cons (.fE (.var 3) (.var 4) (.ite (.cmp .eq (.var 4) (.sub (.var 0) (.int 2))) (.sub (.var 0) (.int 3)) (.sub (.attr (.var 2) 0) (.var 4)))) .nil)) (.cons (.fU (.var 2) 0 (.var 3)) .nil))) (.cons (.ifs (.cmp .is (.sub (.var 0) (.int 3)) (.oO)) (.cons (.exp (.aU (.attr (.var 2) 0) 51 (.cons (.sub (.var 0) (.int 2)) .nil))) .nil) (.cons (.fE (.attr (.var 2) 0) (.sub (.var 0) (.int 2)) (.sub (.var 0) (.int 3))) .nil)) .nil)) .nil)) .nil)) .nil)) .nil))}
noncomputable def jG:dV:={aY:=3,dt:=[],slots:=[S 106,S 107,S 108,S 64,S 9,S 60,S 14,S 26,N],body:=(.cons (.asg 3 (.sub (.var 0) (.str 64))) (.cons (.fU (.var 3) 15 (.cmp .eq (.bin .mod (.var 2) (.int 4)) (.int 3))) (.cons (.ifs (.cmp .lt (.var 1) (.int 2)) (.cons (.iL [4,5] (.cons (.str 39) (.cons (.lst (.cons (.bin .mod (.var 2) (.int 7)) (.cons (.int 5) (.cons (.int 5) .nil)))) .nil))) (.cons (.asg 6 (.aU (.var 3) 61 (.cons (.comp (.call (.gf 3) (.cons (.var 8) .nil)) [8] (.var 5) .no) .nil))) .nil)) (.cons (.ifs (.cmp .eq (.var 1) (.int 2)) (.cons (.iL [4,5,6] (.cons (.str 8) (.cons (.lst .nil) (.cons (.aU (.var 3) 62 (.cons (.int 2) .nil)) .nil)))) .nil) (.cons (.iL [4,5,6] (.cons (.str 36) (.cons (.lst (.cons (.int 0) (.cons (.int 0) .nil))) (.cons (.aU (.var 3) 63 (.cons (.int 2) .nil)) .nil)))) .nil)) .nil)) (.cons (.asg 7 (.ite (.cmp .eq (.bin .mod (.var 2) (.int 4)) (.int 3)) (.int 0) (.bC .len (.cons (.sub (.var 0) (.str 25)) .nil)))) (.cons (.exp (.aU (.sub (.var 0) (.str 58)) 44 (.cons (.xE [14,9,59,26,60,16] (.cons (.var 6) (.cons (.var 4) (.cons (.cmp .eq (.bin .mod (.var 2) (.int 4)) (.int 3)) (.cons (.var 7) (.cons (.var 5) (.cons (.int 3) .nil))))))) .nil))) (.cons (.fU (.var 3) 15 (.uB P8)) .nil))))))}
noncomputable def Lx:dV:={aY:=1,dt:=[],slots:=[S 109],body:=(.cons (.ret (.call (.pick [39,8,36] (.cons (.gf 7) (.cons (.gf 8) (.cons (.gf 6) .nil))) (.sub (.var 0) (.str 9))) (.cons (.sub (.var 0) (.str 14)) .nil))) .nil)}
noncomputable def rI:dV:={aY:=3,dt:=[],slots:=[S 106,S 107,S 108,S 109,S 64,S 95,S 24,S 110,N,N,N,N],body:=(.cons (.asg 3 (.sub (.sub (.var 0) (.str 58)) (.bin .mod (.var 2) (.bC .len (.cons (.sub (.var 0) (.str 58)) .nil))))) (.cons (.iL [2,4] (.cons (.bin .fdiv (.var 2) (.bC .len (.cons (.sub (.var 0) (.str 58)) .nil))) (.cons (.sub (.var 0) (.str 64)) .nil))) (.cons (.ifs (.cmp .eq (.sub (.var 3) (.str 9)) (.str 39)) (.cons (.asg 5 (.bin .mod (.var 2) (.int 3))) (.cons (.exp (.aU (.var 4) 65 (.cons (.sub (.var 3) (.str 14)) (.cons (.var 5) (.cons (.call (.gf 3) (.cons (.bin .fdiv (.var 2) (.int 3)) .nil)) .nil))))) (.cons (.fE (.var 3) (.str 60) (.bin .add (.bin .add (.uC (.sub (.var 3) (.str 60)) .no (.so (.var 5))) (.lst (.cons (.bin .fdiv (.var 2) (.int 3)) .nil))) (.uC (.sub (.var 3) (.str 60)) (.so (.bin .add (.var 5) (.int 1))) .no))) .nil))) (.cons (.ifs (.cmp .eq (.sub (.var 3) (.str 9)) (.str 36)) (.cons (.exp (.aU (.var 4) 66 (.cons (.sub (.var 3) (.str 14)) (.cons (.bin .mod (.var 2) (.int 2)) (.cons (.bin .mod (.bin .fdiv (.var 2) (.int 2)) (.int 256)) .nil))))) (.cons (.fE (.var 3) (.str 60) (.ite (.cmp .eq (.bin .mod (.var 2) (.int 2)) (.int 0)) (.lst (.cons (.bin .mod (.bin .fdiv (.var 2) (.int 2)) (.int 256)) (.cons (.sub (.sub (.var 3) (.str 60)) (.int 1)) .nil))) (.lst (.cons (.sub (.sub (.var 3) (.str 60)) (.int 0)) (.cons (.bin .mod (.bin .fdiv (.var 2) (.int 2)) (.int 256)) .nil))))) .nil)) (.cons (.ifs (.cmp .lt (.var 1) (.int 7)) (.cons (.iL [6,7] (.cons (.uC (.bH [97,98,99]) (.so (.bin .mod (.var 2) (.int 3))) (.so (.bin .add (.bin .mod (.var 2) (.int 3)) (.int 1)))) (.cons (.comp (.sub (.var 10) (.int 0)) [10] (.sub (.var 3) (.str 60)) .no) .nil))) (.cons (.exp (.aU (.var 4) 67 (.cons (.sub (.var 3) (.str 14)) (.cons (.call (.gf 4) (.cons (.var 6) .nil)) (.cons (.call (.gf 3) (.cons (.bin .fdiv (.var 2) (.int 3)) .nil)) .nil))))) (.cons (.ifs (.cmp .in (.var 6) (.var 7)) (.cons (.fE (.var 3) (.str 60) (.comp (.tup (.cons (.var 8) (.cons (.ite (.cmp .eq (.var 8) (.var 6)) (.bin .fdiv (.var 2) (.int 3)) (.var 9)) .nil))) [8,9] (.sub (.var 3) (.str 60)) .no)) .nil) (.cons (.fE (.var 3) (.str 60) (.bin .add (.sub (.var 3) (.str 60)) (.lst (.cons (.tup (.cons (.var 6) (.cons (.bin .fdiv (.var 2) (.int 3)) .nil))) .nil)))) .nil)) .nil))) (.cons (.ifs (.cmp .eq (.bin .mod (.var 2) (.int 4)) (.int 3)) (.cons (.fE (.var 3) (.str 16) (.bC .min (.cons (.sub (.var 3) (.str 16)) (.cons (.int 2) .nil)))) (.cons (.exp (.aU (.var 4) 68 (.cons (.sub (.var 3) (.str 14)) (.cons (.sub (.var 3) (.str 16)) .nil)))) .nil)) (.cons (.asg 6 (.uC (.bH [97,98,99]) (.so (.bin .mod (.var 2) (.int 3))) (.so (.bin .add (.bin .mod (.var 2) (.int 3)) (.int 1))))) (.cons (.exp (.aU (.var 4) 69 (.cons (.sub (.var 3) (.str 14)) (.cons (.call (.gf 4) (.cons (.var 6) .nil)) .nil)))) (.cons (.fE (.var 3) (.str 60) (.comp (.var 11) [11] (.sub (.var 3) (.str 60)) (.so (.cmp .ne (.sub (.var 11) (.int 0)) (.var 6))))) .nil)))) .nil)) .nil)) .nil)) .nil)))}
noncomputable def rJ:dV:={aY:=2,dt:=[],slots:=[S 106,S 108,S 100,S 23,S 99,S 111,S 89,S 109],body:=(.cons (.asg 2 (.bin .mod (.var 1) (.bC .len (.cons (.sub (.var 0) (.str 25)) .nil)))) (.cons (.uI [3,4] (.sub (.sub (.var 0) (.str 25)) (.var 2))) (.cons (.exp (.aU (.sub (.var 0) (.str 64)) 71 (.cons (.var 3) .nil))) (.cons (.asg 5 (.emp)) (.cons (.lG 6 7 (.sub (.var 0) (.str 58)) (.cons (.ifs (.or (.sub (.var 7) (.str 59)) (.cmp .le (.sub (.var 7) (.str 26)) (.var 2))) (.cons (.ifs (.and (.not (.sub (.var 7) (.str 59))) (.cmp .ne (.sub (.var 7) (.str 9)) (.str 36))) (.cons (.oP (.cons (.var 7) (.cons (.var 7) .nil)) (.cons (.str 60) (.cons (.str 16) .nil)) (.cons (.sub (.sub (.var 4) (.var 6)) (.int 0)) (.cons (.sub (.sub (.var 4) (.var 6)) (.int 1)) .nil))) .nil) .nil) (.cons (.exp (.aU (.var 5) 44 (.cons (.var 7) .nil))) .nil)) .nil) .nil)) (.cons (.oP (.cons (.var 0) (.cons (.var 0) (.cons (.var 0) .nil))) (.cons (.str 58) (.cons (.str 70) (.cons (.str 25) .nil))) (.cons (.var 5) (.cons (.var 3) (.cons (.uC (.sub (.var 0) (.str 25)) .no (.so (.var 2))) .nil)))) .nil))))))}
noncomputable def Ly:dV:={aY:=1,dt:=[],slots:=[S 106,N],body:=(.cons (.exp (.aU (.sub (.var 0) (.str 25)) 44 (.cons (.tup (.cons (.aU (.sub (.var 0) (.str 64)) 72 .nil) (.cons (.comp (.tup (.cons (.sub (.var 1) (.str 60)) (.cons (.sub (.var 1) (.str 16)) .nil))) [1] (.sub (.var 0) (.str 58)) .no) .nil))) .nil))) .nil)}
noncomputable def MK:dV:={aY:=1,dt:=[],slots:=[S 106,S 109,S 14,S 76,S 100,S 72,S 19,N,N,N,N],body:=(.cons (.dZ 1 (.sub (.var 0) (.str 58)) (.cons (.asg 2 (.sub (.var 1) (.str 14))) (.cons (.ifs (.cmp .eq (.sub (.var 1) (.str 9)) (.str 39)) (.cons (.asg 3 (.comp (.attr (.var 8) 11) [8] (.attr (.var 2) 6) .no)) .nil) (.cons (.ifs (.cmp .eq (.sub (.var 1) (.str 9)) (.str 36)) (.cons (.asg 3 (.bC .list (.cons (.attr (.var 2) 4) .nil))) .nil) (.cons (.asg 3 (.comp (.tup (.cons (.attr (.var 9) 11) (.cons (.attr (.var 10) 11) .nil))) [9,10] (.aU (.var 2) 75 .nil) .no)) .nil)) .nil)) (.cons (.ifs (.or (.cmp .ne (.var 3) (.sub (.var 1) (.str 60))) (.and (.cmp .eq (.sub (.var 1) (.str 9)) (.str 8)) (.cmp .ne (.attr (.var 2) 16) (.sub (.var 1) (.str 16))))) (.cons (.ret (.uB P8)) .nil) .nil) (.cons (.lG 4 5 (.sub (.var 0) (.str 25)) (.cons (.ifs (.cmp .ne (.aU (.sub (.var 0) (.str 64)) 74 (.cons (.sub (.var 5) (.int 0)) (.cons (.call (.gf 53) (.cons (.var 1) .nil)) .nil))) (.and (.not (.sub (.var 1) (.str 59))) (.cmp .gt (.sub (.var 1) (.str 26)) (.var 4)))) (.cons (.ret (.uB P8)) .nil) .nil) .nil)) .nil))))) (.cons (.asg 6 (.bC .len (.cons (.sub (.var 0) (.str 25)) .nil))) (.cons (.ret (.and (.cmp .eq (.sub (.aU (.sub (.var 0) (.str 64)) 73 .nil) (.int 0)) (.var 6)) (.cmp .eq (.comp (.aU (.sub (.var 0) (.str 64)) 54 (.cons (.sub (.var 7) (.int 0)) .nil)) [7] (.sub (.var 0) (.str 25)) .no) (.bC .hM (.cons (.var 6) .nil))))) .nil)))}
noncomputable def C2:dV:={aY:=1,dt:=[],slots:=[S 106,S 64,S 112,S 113,S 109,S 114],body:=(.cons (.iL [1,2] (.cons (.sub (.var 0) (.str 64)) (.cons (.emp) .nil))) (.cons (.ifs (.cmp .oa (.sub (.var 0) (.str 70)) (.oO)) (.cons (.oQ (.aU (.var 1) 71 (.cons (.sub (.var 0) (.str 70)) .nil)) 3 (.aU (.var 2) 44 (.cons (.attr (.var 3) 76) .nil))) (.cons (.ifs (.or (.cmp .ne (.var 2) (.lst (.cons (.bH [105,110,118,97,108,105,100,114,101,115,116,111,114,101]) .nil))) (.aU (.var 1) 77 (.cons (.sub (.var 0) (.str 70)) .nil))) (.cons (.ret (.uB P8)) .nil) .nil) .nil)) .nil) (.cons (.dZ 4 (.sub (.var 0) (.str 58)) (.cons (.dZ 5 (.sub (.var 0) (.str 58)) (.cons (.ifs (.and (.sub (.var 4) (.str 59)) (.and (.not (.sub (.var 5) (.str 59))) (.cmp .eq (.sub (.var 4) (.str 9)) (.str 39)))) (.cons (.asg 2 (.emp)) (.cons (.oQ (.aU (.var 1) 65 (.cons (.sub (.var 4) (.str 14)) (.cons (.int 0) (.cons (.call (.gf 53) (.cons (.var 5) .nil)) .nil)))) 3 (.aU (.var 2) 44 (.cons (.attr (.var 3) 76) .nil))) (.cons (.ifs (.cmp .ne (.var 2) (.lst (.cons (.bH [105,110,118,97,108,105,100,97,99,99,101,115,115]) .nil))) (.cons (.ret (.uB P8)) .nil) .nil) .nil))) .nil) .nil)) .nil)) (.cons (.ret (.call (.gf 57) (.cons (.var 0) .nil))) .nil))))}
noncomputable def rK:dV:={aY:=1,dt:=[],slots:=[S 115,S 106,S 116,S 107,S 108],body:=(.cons (.asg 1 (.xE [64,58,25,70] (.cons (.call (.gc .Mem) (.cons (.call (.gc .FX) .nil) .nil)) (.cons (.emp) (.cons (.emp) (.cons (.oO) .nil)))))) (.cons (.dZ 2 (.uC (.var 0) .no (.so (.int 14))) (.cons (.asg 2 (.bin .mod (.bC .abs (.cons (.bC .int (.cons (.var 2) .nil)) .nil)) (.bin .pow (.int 10) (.int 6)))) (.cons (.iL [3,4] (.cons (.bin .mod (.var 2) (.int 10)) (.cons (.bin .fdiv (.var 2) (.int 10)) .nil))) (.cons (.ifs (.or (.cmp .lt (.var 3) (.int 4)) (.cmp .eq (.sub (.var 1) (.str 58)) (.emp))) (.cons (.exp (.call (.gf 52) (.cons (.var 1) (.cons (.bin .mod (.var 3) (.int 4)) (.cons (.var 4) .nil))))) .nil) (.cons (.ifs (.cmp .lt (.var 3) (.int 8)) (.cons (.exp (.call (.gf 54) (.cons (.var 1) (.cons (.var 3) (.cons (.var 4) .nil))))) .nil) (.cons (.ifs (.or (.cmp .eq (.var 3) (.int 8)) (.cmp .eq (.sub (.var 1) (.str 25)) (.emp))) (.cons (.exp (.call (.gf 56) (.cons (.var 1) .nil))) .nil) (.cons (.exp (.call (.gf 55) (.cons (.var 1) (.cons (.var 4) .nil)))) .nil)) .nil)) .nil)) (.cons (.ifs (.not (.call (.gf 57) (.cons (.var 1) .nil))) (.cons (.ret (.uB P8)) .nil) .nil) .nil))))) (.cons (.ret (.call (.gf 58) (.cons (.var 1) .nil))) .nil)))}
noncomputable def F':CP:={aY:=5,dt:=[.bool P8,.int 3],slots:=[S 90,S 9,S 11,S 78,S 16],cA:=[9,11,78,16],vals:=(.cons (.var 1) (.cons (.var 2) (.cons (.var 3) (.cons (.var 4) .nil))))}
noncomputable def Je:CP:={aY:=5,dt:=[],slots:=[S 90,S 23,S 4,S 15,S 26],cA:=[23,4,15,26],vals:=(.cons (.var 1) (.cons (.bC .rF (.cons (.var 2) .nil)) (.cons (.var 3) (.cons (.var 4) .nil))))}
noncomputable def Lz:CP:={aY:=5,dt:=[],slots:=[S 90,S 23,S 6,S 15,S 26],cA:=[23,6,15,26],vals:=(.cons (.var 1) (.cons (.bC .xC (.cons (.var 2) .nil)) (.cons (.var 3) (.cons (.var 4) .nil))))}
noncomputable def Jf:CP:={aY:=5,dt:=[],slots:=[S 90,S 23,S 47,S 15,S 26],cA:=[23,47,15,26,16,0],vals:=(.cons (.var 1) (.cons (.var 2) (.cons (.var 3) (.cons (.var 4) (.cons (.gi 79 3) (.cons (.xE [] .nil) .nil))))))}
noncomputable def Jg:CP:={aY:=4,dt:=[],slots:=[S 90,S 14,S 18,S 19],cA:=[14,18,19],vals:=(.cons (.var 1) (.cons (.var 2) (.cons (.var 3) .nil)))}
noncomputable def LA:CP:={aY:=15,dt:=[.int 500,.int 20,.int 250,.int 15,.int 31,.int 65535,.int 65535,.int 65535,.int 127,.int 1500,.int 11,.int 15,.int 600,.int 16777216],slots:=[S 90,S 80,S 81,S 82,S 25,S 83,S 36,S 39,S 0,S 24,S 84,S 85,S 86,S 87,S 34],cA:=[80,81,82,25,83,36,39,0,24,84,85,86,87,34],vals:=(.cons (.var 1) (.cons (.var 2) (.cons (.var 3) (.cons (.var 4) (.cons (.var 5) (.cons (.var 6) (.cons (.var 7) (.cons (.var 8) (.cons (.var 9) (.cons (.var 10) (.cons (.var 11) (.cons (.var 12) (.cons (.var 13) (.cons (.var 14) .nil))))))))))))))}
noncomputable def Jh:CP:={aY:=5,dt:=[],slots:=[S 90,S 23,S 19,S 29,S 88],cA:=[23,19,29,88],vals:=(.cons (.var 1) (.cons (.var 2) (.cons (.var 3) (.cons (.var 4) .nil))))}
noncomputable def LB:CP:={aY:=2,dt:=[],slots:=[S 90,S 33],cA:=[33,15,25,43,30,57,29,28,27,53],vals:=(.cons (.var 1) (.cons (.uB P8) (.cons (.emp) (.cons (.emp) (.cons (.xE [] .nil) (.cons (.emp) (.cons (.int 0) (.cons (.int 0) (.cons (.int 0) (.cons (.int 0) .nil))))))))))}
noncomputable def LC:CP:={aY:=2,dt:=[.none],slots:=[S 90,S 76],cA:=[76],vals:=(.cons (.var 1) .nil)}
noncomputable def FT:V dV:=[f0,f1,f2,f3,f4,f5,f6,f7,f8,f9,NL,Lc,I',Ja,NM,NN,NO,Ld,Le,Lf,Lg,Lh,Li,Lj,C1,E',Lk,Ll,Lm,Ln,Jb,Jc,Lo,NP,IS,rH,Jd,Lp,Lq,MI,Lr,NQ,Ls,Lu,mT,MJ,Lv,NR,NT,NU,Lw,Ah,jG,Lx,rI,rJ,Ly,MK,C2,rK]
noncomputable def su(X:Z):O dV:=FT[X]?
noncomputable def cF:gV->CP
 |.Thing=>F'
 |.Text=>Je
 |.Row=>Lz
 |.Dict=>Jf
 |.Span=>Jg
 |.FX=>LA
 |.mX=>Jh
 |.Mem=>LB
 |.bZ=>LC
noncomputable def fnName:V (Z×O Z):=[(122,N),(48,S 123),(75,S 123),(1,N),(2,N),(3,N),(124,N),(125,N),(126,N),(127,N),(128,N),(129,N),(130,N),(131,N),(132,N),(133,N),(134,N),(135,N),(136,N),(137,N),(26,S 138),(31,S 138),(37,S 138),(32,S 138),(63,S 138),(35,S 138),(61,S 138),(62,S 138),(42,S 139),(46,S 139),(65,S 139),(41,S 139),(66,S 139),(117,S 139),(50,S 139),(67,S 139),(69,S 139),(68,S 139),(72,S 140),(54,S 140),(77,S 140),(118,S 140),(55,S 140),(74,S 140),(71,S 140),(56,S 140),(73,S 140),(119,S 140),(120,S 140),(121,S 140),(141,N),(142,N),(143,N),(144,N),(145,N),(146,N),(147,N),(148,N),(149,N),(150,N)]
noncomputable def Ga:V (V Z):=[[101,110,116,114,105,101,115],[105,110,116,101,103,101,114],[110,97,109,101],[110,117,108,108],[111,99,116,101,116,115],[115,116,114,105,110,103],[116,104,105,110,103,115],[97,114,114,97,121],[100,105,99,116],[107,105,110,100],[114,101,97,108],[118,97,108,117,101],[71,82,65,73,78],[112,97,99,107,101,100],[98,111,100,121],[105,115,95,103,108,111,98,97,108],[97,99,99,101,115,115],[82,69,65,68,95,79,78,76,89],[115,116,97,114,116],[109,97,110,121],[98,111,111,108,101,97,110],[103,115,116,97,116,101],[102,105,108,101],[110,117,109,98,101,114],[119,111,114,100],[115,97,118,101,115],[108,101,118,101,108],[108,97,115,116,95,98,111,100,121],[117,115,101,100,95,103,108,111,98,97,108],[117,115,101,100],[109,97,100,101],[98,111,100,121,95,108,101,118,101,108],[99,104,101,99,107,95,114,111,111,109],[108,105,109,105,116,115],[118,109],[116,101,120,116,95,111,102,95,111,99,116,101,116,115],[116,101,120,116],[116,97,107,101,95,114,111,111,109],[73,84,69,77,95,67,79,83,84],[114,111,119],[69,78,84,82,89,95,67,79,83,84],[112,117,116,95,105,116,101,109,115],[105,115,95,101,108,100,101,114],[106,111,117,114,110,97,108],[97,112,112,101,110,100],[105,116,101,109],[99,104,101,99,107,95,104,111,108,100,115],[109,111,115,116],[103,101,116],[101,110,116,114,121],[103,114,111,119],[112,111,112],[100,114,111,112],[108,97,115,116,95,115,97,118,101],[112,108,97,99,101,95,111,102,95,115,97,118,101],[115,117,114,101,95,112,108,97,99,101],[115,101,116,116,108,101,95,99,111,115,116,115],[102,114,101,101,100],[98,111,100,105,101,115],[103,108,111,98,97,108],[105,116,101,109,115],[109,97,107,101,95,114,111,119],[109,97,107,101,95,100,105,99,116],[109,97,107,101,95,116,101,120,116],[109,101,109,111,114,121],[112,117,116,95,105,116,101,109],[112,117,116,95,111,99,116,101,116],[112,117,116,95,101,110,116,114,121],[115,101,116,95,97,99,99,101,115,115],[100,114,111,112,95,101,110,116,114,121],[103,111,110,101],[114,101,115,116,111,114,101],[115,97,118,101],[115,116,97,116,117,115],[110,101,119,101,114,95,116,104,97,110],[112,97,105,114,115],[116,111,108,100],[105,115,95,115,97,118,101,100],[105,115,95,101,120,101,99],[85,78,76,73,77,73,84,69,68],[111,112,101,114,97,110,100,115],[100,105,99,116,115],[102,114,97,109,101,115],[103,115,116,97,116,101,115],[112,97,116,104],[100,97,115,104],[102,105,108,101,115],[115,121,115,116,101,109],[110,111,116,101],[107],[115,101,108,102],[107,101,121],[116,104,105,110,103],[115,112,97,110],[99,111,115,116],[97,116],[115,116,101,112],[111,99,116,101,116],[109,111,114,101],[107,101,112,116],[112,108,97,99,101],[115,97,118,101,100],[117,110,100,111,110,101],[99,104,97,110,103,101],[114,111,111,116,115],[105,115,95,97,108,108],[119],[119,97,121],[114,101,115,116],[111,110,101],[107,101,121,115],[108,101,102,116],[110,97,109,101,115,95,110,111,119],[101],[111,116,104,101,114],[115,99,114,105,112,116],[99,101,108,108],[112,117,116,95,111,99,116,101,116,115],[110,111,116,101,95,111,102],[99,111,108,108,101,99,116],[114,101,99,108,97,105,109],[106,111,117,114,110,97,108,95,116,104,105,110,103,115],[95,119,97,108,108],[68,105,99,116,66,111,100,121],[111,102,95,115,116,114,105,110,103],[111,102,95,114,111,119],[111,102,95,100,105,99,116],[105,115,95,110,117,109,98,101,114],[105,110,95,109,105,108,108,105,111,110,116,104,115],[105,115,95,105,110,95,97,114,114,97,121],[98,111,100,121,95,111,102],[105,115,95,108,111,99,97,108],[97,99,99,101,115,115,95,111,102],[99,97,110,95,114,101,97,100],[111,99,116,101,116,115,95,111,102,95,115,112,97,110],[116,104,105,110,103,95,111,99,116,101,116,115],[107,101,121,95,111,102],[107,101,121,95,116,104,105,110,103],[66,111,100,121,77,97,107,101,114],[66,111,100,121,67,104,97,110,103,101,114],[77,101,109,111,114,121],[109,101,109,111,114,121,95,99,104,101,99,107,95,109,97,110,121],[109,101,109,111,114,121,95,112,117,116,95,98,97,99,107],[95,108,97,119,95,109,97,100,101],[95,108,97,119,95,116,104,105,110,103],[95,108,97,119,95,99,104,97,110,103,101,100],[95,108,97,119,95,114,101,115,116,111,114,101,100],[95,108,97,119,95,115,97,118,101,100],[95,108,97,119,95,105,115,95,115,111],[95,108,97,119,95,114,101,102,117,115,101,100],[108,97,119]]
noncomputable def bindArgs(p:Z)(d:V Q)(n:Z)(c:V Q):O Loc:=
 if c.length<=p/\p<=c.length+d.length then
  let j:=c++d.drop (c.length+d.length - p)
  S (j.map S++XQ (n - p) N)
 else N
noncomputable def aC:Z->CF
 |0,_,_,_=>.bad
 |q+1,.fn X,c,y=>match su X with
  |none=>.bad
  |some r=>match bindArgs r.aY r.dt r.slots.length c with
   |none=>.bad
   |some l=>(aW (aC q) r.body l y).bind λx=>.ok ((match x.1 with|.ret C=>C|.next=>.none),x.2.2)
 |q+1,.cls A,c,y=>if A=.bZ\/A=.Text then .bad else match bindArgs (cF A).aY (cF A).dt (cF A).slots.length (.none :: c) with
  |none=>.bad
  |some l=>(bB (aC q) (cF A).vals (l.set 0 N) y).bind λx=>if hV A then .ok (.obj A x.1,x.2) else .ok (.aA x.2.I.length,{x.2 with I:=x.2.I++[(A,x.1)]})
noncomputable def ML(k:V P5):Res (Q×AH):=aC 12 (.fn 59) [.lst (k.map .int)] {}
variable{a:CF}{E:Src}{A:Loc}{h:AH}
theorem lH{I l y}:aO a (.var I) l y=(match l[I]? with|some (S C)=>.ok (C,y)|_=>.bad):=rfl
theorem kE{D L l y}:aO a (.attr D L) l y=((aO a D l y).bind λx=>aG a x.2 x.1 L):=rfl
theorem te{r c l y}:aO a (.call r c) l y=((aO a r l y).bind λx=>match keyOf x.1 with
  |some X=>(bB a c l x.2).bind λM=>a X M.1 M.2
  |none=>.bad):=rfl
theorem lS{E c l y}:aO a (.bC E c) l y=((bB a c l y).bind λM=>.of (bK M.2 E M.1)):=rfl
theorem pe{D H c l y}:aO a (.aU D H c) l y=((aO a D l y).bind λx=>match aK x.2 x.1 H with
  |some (.own r)=>(bB a c l x.2).bind λM=>a (.fn r) (x.1 :: M.1) M.2
  |some .bR=>(bB a c l x.2).bind λM=>.of (jB M.2 x.1 H M.1)
  |none=>.bad):=rfl
theorem Ai{D s l y}:aO a (.sub D s) l y=((aO a D l y).bind λx=>(aO a s l x.2).bind λM=>match aR M.2 x.1 M.1 with
  |some C=>.ok (C,M.2)
  |none=>.bad):=rfl
theorem Aj{D h g l y}:aO a (.uC D h g) l y=((aO a D l y).bind λx=>(CR a h l x.2).bind λL=>(CR a g l L.2).bind λE=>.of (eU E.2 x.1 L.1 E.1)):=rfl
theorem tf{e w s l y}:aO a (.pick e w s) l y=((bB a w l y).bind λM=>(aO a s l M.2).bind λx=>jM e M.1 x.1 x.2):=rfl
theorem pR{j l y}:aO a (.tup j) l y=((bB a j l y).bind λM=>.ok (.tup M.1,M.2)):=rfl
theorem v7{j l y}:aO a (.lst j) l y=((bB a j l y).bind λM=>.ok (.lst M.1,M.2)):=rfl
theorem Gb{b y}:aO a (.emp) b y=(.ok (.aE y.L.length,{y with L:=y.L++[[]]})):=rfl
theorem Ak{e w l y}:aO a (.xE e w) l y=((bB a w l y).bind λM=>if e.length=M.1.length then .ok (.ab M.2.D.length,{M.2 with D:=M.2.D++[(e.map Q.str).zip M.1]}) else .bad):=rfl
theorem Al{z L E l y}:aO a (.bin z L E) l y=((aO a L l y).bind λx=>(aO a E l x.2).bind λM=>match cK z x.1 M.1 with
  |some C=>.ok (C,M.2)
  |none=>.bad):=rfl
theorem v9{z L E l y}:aO a (.cmp z L E) l y=((aO a L l y).bind λx=>(aO a E l x.2).bind λM=>match cW M.2 z x.1 M.1 with
  |some C=>.ok (.bool C,M.2)
  |none=>.bad):=rfl
theorem wa{L E l y}:aO a (.and L E) l y=((aO a L l y).bind λx=>match truthy x.1 with
  |some P4=>aO a E l x.2
  |some P8=>.ok (x.1,x.2)
  |none=>.bad):=rfl
theorem Am{L E l y}:aO a (.or L E) l y=((aO a L l y).bind λx=>match truthy x.1 with
  |some P4=>.ok (x.1,x.2)
  |some P8=>aO a E l x.2
  |none=>.bad):=rfl
theorem wb{D l y}:aO a (.not D) l y=((aO a D l y).bind λx=>match truthy x.1 with
  |some E=>.ok (.bool (!E),x.2)
  |none=>.bad):=rfl
theorem An{D l y}:aO a (.neg D) l y=((aO a D l y).bind λx=>match x.1 with
  |.int s=>.ok (.int (-s),x.2)
  |_=>.bad):=rfl
theorem wc{A L E l y}:aO a (.ite A L E) l y=((aO a A l y).bind λx=>match truthy x.1 with
  |some P4=>aO a L l x.2
  |some P8=>aO a E l x.2
  |none=>.bad):=rfl
theorem xG{i m g b l y}:aO a (.comp i m g b) l y=((aO a g l y).bind λx=>match srcOf x.2 x.1 with
  |none=>.bad
  |some d=>(bW (λC y=>match gY l m C with
    |none=>.bad
    |some p=>((CS a b p y).bind λA=>if A.1 then(aO a i p A.2).bind λI=>.ok (S I.1,I.2) else .ok (N,A.2)).xF) d.1 (d.2+1) 0 x.2).bind λM=>.ok (.lst M.1,M.2)):=rfl
theorem pk{D b l y}:aO a (.vals D b) l y=((aO a D l y).bind λx=>ow x.2 x.1):=rfl
theorem C3{b y}:bB a (.nil) b y=(.ok ([],y)):=rfl
theorem hW{D x l y}:bB a (.cons D x) l y=((aO a D l y).bind λI=>(bB a x l I.2).bind λM=>.ok (I.1 :: M.1,M.2)):=rfl
theorem Fb{D l y}:CR a (.so D) l y=((aO a D l y).bind λx=>.ok (S x.1,x.2)):=rfl
theorem Ji{b y}:CS a (.no) b y=(.ok (P4,y)):=rfl
theorem Jj{D l y}:CS a (.so D) l y=((aO a D l y).bind λx=>match truthy x.1 with
  |some E=>.ok (E,x.2)
  |none=>.bad):=rfl
theorem th{I D l y}:dK a (.asg I D) l y=((aO a D l y).bind λx=>.ok (.next,l.set I (S x.1),x.2)):=rfl
theorem xH{D L C l y}:dK a (.fU D L C) l y=((aO a C l y).bind λx=>(aO a D l x.2).bind λM=>match eO M.2 M.1 L x.1 with
  |some v=>.ok (.next,l,v)
  |none=>.bad):=rfl
theorem xI{D s C l y}:dK a (.fE D s C) l y=((aO a C l y).bind λx=>(aO a D l x.2).bind λM=>(aO a s l M.2).bind λP=>match ei P.2 M.1 P.1 x.1 with
  |some v=>.ok (.next,l,v)
  |none=>.bad):=rfl
theorem ti{b D l y}:dK a (.uI b D) l y=((aO a D l y).bind λx=>match x.1 with
  |.tup w=>match dW l b w with
   |some p=>.ok (.next,p,x.2)
   |none=>.bad
  |_=>.bad):=rfl
theorem xJ{b j l y}:dK a (.iL b j) l y=((bB a j l y).bind λx=>match dW l b x.1 with
   |some p=>.ok (.next,p,x.2)
   |none=>.bad):=rfl
theorem xK{e i w l y}:dK a (.oP e i w) l y=((bB a w l y).bind λx=>yO a e i x.1 l x.2):=rfl
theorem we{D l y}:dK a (.exp D) l y=((aO a D l y).bind λx=>.ok (.next,l,x.2)):=rfl
theorem wg{A L E l y}:dK a (.ifs A L E) l y=((aO a A l y).bind λx=>match truthy x.1 with
  |some P4=>aW a L l x.2
  |some P8=>aW a E l x.2
  |none=>.bad):=rfl
theorem xM{I D E l y}:dK a (.dZ I D E) l y=((aO a D l y).bind λx=>match srcOf x.2 x.1 with
  |none=>.bad
  |some d=>cM (λU C l y=>aW a E (l.set I (S C)) y) d.1 (d.2+1) 0 l x.2):=rfl
theorem xN{s I D E l y}:dK a (.lG s I D E) l y=((aO a D l y).bind λx=>match srcOf x.2 x.1 with
  |none=>.bad
  |some d=>cM (λX C l y=>aW a E ((l.set s (S (.int X))).set I (S C)) y) d.1 (d.2+1) 0 l x.2):=rfl
theorem Ao{A E l y}:dK a (.CO A E) l y=(jC (λl y=>(aO a A l y).bind λx=>match truthy x.1 with
   |some K=>.ok (K,x.2)
   |none=>.bad) (λl y=>aW a E l y) 100 l y):=rfl
theorem Ap{D l y}:dK a (.ret D) l y=((aO a D l y).bind λx=>.ok (.ret x.1,l,x.2)):=rfl
theorem xO{D l y}:dK a (.gy D) l y=((aO a D l y).bind λx=>.exc x.1 x.2):=rfl
theorem tj{D I B l y}:dK a (.oQ D I B) l y=(match aO a D l y with
  |.ok x=>.ok (.next,l,x.2)
  |.exc K v=>(aO (λU U U=>Res.bad) B (l.set I (S (.exc K))) v).xF.bind λx=>.ok (.next,(l.set I (S (.exc K))).set I N,x.2)
  |.bad=>.bad):=rfl
theorem gJ{d x l y}:aW a (.cons d x) l y=((dK a d l y).bind λM=>match M.1 with
  |.next=>aW a x M.2.1 M.2.2
  |.ret C=>.ok (.ret C,M.2.1,M.2.2)):=rfl
theorem KL{f:Z->Q->Loc->AH->Res (Fl×Loc×AH)}:cM f E (r+1) z A h=(match E.at z h with
  |none=>.bad
  |some N=>.ok (.next,A,h)
  |some (S C)=>(f z C A h).bind λx=>match x.1 with
   |.next=>cM f E r (z+1) x.2.1 x.2.2
   |.ret I=>.ok (.ret I,x.2.1,x.2.2)):=rfl
theorem NW{n:Q->AH->Res (O Q×AH)}:bW n E (r+1) z h=(match E.at z h with
  |none=>.bad
  |some N=>.ok ([],h)
  |some (S C)=>(n C h).bind λx=>(bW n E r (z+1) x.2).bind λM=>.ok ((match x.1 with|some I=>I :: M.1|none=>M.1),M.2)):=rfl
theorem LD{a:Loc->AH->Res (P6×AH)}{b:Loc->AH->Res (Fl×Loc×AH)}:jC a b (r+1) A h=((a A h).bind λE=>if E.1 then(b A E.2).bind λx=>match x.1 with
   |.next=>jC a b r x.2.1 x.2.2
   |.ret I=>.ok (.ret I,x.2.1,x.2.2)
  else .ok (.next,A,E.2)):=rfl
theorem n1(B:b<d)(X:V9 d e=P4):b<e:=Vh B (VC X)
theorem n2(B:b<=d)(X:V9 (d+1) e=P4):b<e:=Ve B (VC X)
theorem n3(B:b<=d)(X:V9 d e=P4):b<=e:=U9 B (VC X)
theorem n4(B:d<=b)(X:V9 e d=P4):e<=b:=U9 (VC X) B
theorem n5(B:d<=b)(X:V9 (e+1) d=P4):e<b:=U9 (VC X) B
theorem n6(B:b=d)(X:V9 (d+1) e=P4):b<e:=n2 (Vq B) X
theorem n7(B:b=d)(X:V9 (e+1) d=P4):e<b:=n5 (Vq B.symm) X
theorem n8(B:b=d)(X:V9 d e=P4):b<=e:=n3 (Vq B) X
theorem n9(B:b=d)(X:V9 e d=P4):e<=b:=n4 (Vq B.symm) X
theorem NX(B:b<d)(X:V9 (d+m) e=P4):b+m<e:=n1 (Z.add_lt_add_right B m) X
theorem LF(B:b<=d)(X:V9 (d+m+1) e=P4):b+m<e:=n2 (Wz B m) X
theorem uD(B:b<d)(X:V9 d (e+1)=P4):b<=e:=WZ (n1 B X)
theorem LG(B:b+m<d)(X:V9 d (e+m)=P4):b<e:=Z.lt_of_add_lt_add_right (n1 B X)
theorem KN(B:b<=j+d)(X:V9 d e=P4):b<=j+e:=U9 B (WC (VC X) j)
theorem NY(X:V9 d e=P4):b+d<=b+e:=WC (VC X) b
theorem i1(B:k<o)(X:Qd (o<=q)=P4):k<q:=WT B (Qj X)
theorem i2(B:k<=o)(X:Qd (o<q)=P4):k<q:=YM B (Qj X)
theorem i3(B:k<=o)(X:Qd (o<=q)=P4):k<=q:=V7 B (Qj X)
theorem i4(B:o<=k)(X:Qd (q<=o)=P4):q<=k:=V7 (Qj X) B
theorem i6(X:Qd (0<=G)=P4):k<=k+G:=P5.le_add_of_nonneg_right (Qj X)
theorem LH:200*(n:P5)+200=200*((n+1:Z):P5):=(P5.mul_add 200 (n:P5) 1).symm
theorem o1(B:k<=200*(n:P5))(X:x<=200):k+x<=200*((n+1:Z):P5):=V7 (Yv B X) (P5.le_of_eq LH)
theorem o2(B:k<=200*(n:P5)):k<=200*((n+1:Z):P5):=V7 B (XI (c:=200) (Wb.mpr (VK n)) (by decide))
theorem o3{c:P5}(M:n<=14)(B:k<=200*(n:P5))(X:x<=200*(n:P5))(s:c<=96):k+x+c<=16777216:=
 have H:=XI (c:=200) (Wb.mpr M) (by decide)
 V7 (Yv (Yv (V7 B H) (V7 X H)) s) (by decide)
theorem o4(B:b<=j)(X:b=j+d):d=0:=Z.eq_zero_of_le_zero (Z.le_of_add_le_add_left (U9 (Vq X.symm) B))
theorem o5(B:b<3):b=0\/b=1\/b=2:=by
 rcases b with _|_|_|b;·exact .inl rfl
 ·exact .inr (.inl rfl)
 ·exact .inr (.inr rfl)
 ·exact Qp B (Wo.mpr (V4 3 b))
theorem o6(B:j=3):min b j+1+(j - (b+1))<1000:=by subst B;exact n2 (Z.add_le_add (WE (Xa ..)) (Z.sub_le ..)) rfl
theorem o7{H:P5}(B:0<=H):(if 0<H then H - 0 else 0)=(H.toNat:P5):=by
 by_cases M:0<H;·exact(Qk M).trans ((P5.sub_zero H).trans (XK B).symm)
 ·exact(Qm M).trans ((P5.le_antisymm B (WU.mp M)).trans (XK B).symm)
theorem o8(B:k+x+32<=G)(X:o<=32):k+x+o<=G:=V7 (P5.add_le_add_left X _) B
theorem Jk(B:d+(e+1)<m):d+1+e<m:=WV d 1 e▸B
theorem KO(B:d+1+e<m):d+(e+1)<m:=WV d 1 e▸B
theorem IT(B:b+d<e)(X:V9 m d=P4):b+m<e:=Ve (WC (VC X) b) B
theorem Jl{c:Z}(B:p+d*(r+1)+e<t)(X:V9 c d=P4):p+c+d*r+e<t:=Ve (Wz (U9 (Wz (WC (VC X) p) (d*r)) (Vq ((YE ..).trans (Ql (p + ·) (Z.add_comm ..))))) e) B
theorem MN{y:Z}(B:p+d*(r+1)+e<t)(X:V9 (m+y) d=P4):p+m+y+d*r+e<t:=YE p m y▸Jl B X
theorem NZ(B:p+d*(r+1)+e<t):p+d*r+e<t:=Jl (c:=0) B rfl
theorem Fc{c:Z}(B:p+d*y+e<t)(X:V9 c e=P4):p+c<t:=Ve (Z.add_le_add (Vu ..) (VC X)) B
theorem MO(B:p+d*y+e<t):p<t:=Fc (c:=0) B rfl
theorem MP(X:y<=r)(B:p+d*r+e<t):p+d*y+e<t:=Ve (Wz (WC (Xe d X) p) e) B
theorem LI(X:V9 1 m=P4):b≠b+m:=Wj (Yh (VC X))
theorem N0(X:V9 1 m=P4):b+m≠b:=Wc (Yh (VC X))
theorem N1(X:V9 (d+1) e=P4):b+d<b+e:=YJ (VC X) b
theorem MQ(X:V9 (d+1) e=P4):b+d≠b+e:=Wj (N1 X)
theorem N2(B:b<2):b=0\/b=1:=(Z.lt_succ_iff_lt_or_eq.mp B).imp Z.lt_one_iff.mp id
theorem MR:b<=b - 1+1:=Z.le_add_of_sub_le (VB _)
theorem N3(B:¬b - 1<b):b=0:=Z.eq_zero_of_not_pos λY=>B (Zb Y Y2)
theorem MS{X:P5}(B:X<b)(j:b<1000):X<2 ^ 63:=P5.lt_trans B (WT (Vj.mpr j) (by decide))
theorem b1(p:b<=j+l)(t:l<=b):b - l+(j+l - b)=j:=(YV j t)▸Xf (Yw.mpr p)
theorem b2(p:b<=j+l)(t:l<=b)(B:d<j+l - b):b - l+d<j:=WJ (YJ B _) (b1 p t)
theorem b3(G:j<=b)(p:b<=j+l):l - (j+l - b)=b - j:=by rw[Z.add_comm j l,<-YV l G];exact Z.sub_sub_self (Z.sub_le_iff_le_add'.mpr p)
theorem b4(G:j<=b)(p:b<=j+l):j+(l - (j+l - b))=b:=(Ql (j + ·) (b3 G p)).trans (Xf G)
theorem b5(B:d<b - j):j+d<b:=Z.add_lt_of_lt_sub' B
theorem b6(B:b - d=e+1):b - (d+1)=e:=Ql Z.pred B
theorem b0(i:b+j=l+1)(g:b<l):0<j:=Z.pos_of_lt_add_right (WJ (X6 g) i.symm)
theorem b7(i:b+j=l+1)(g:b<l):j - 1<j:=Zb (b0 i g) Y2
theorem b8(i:b+j=l+1)(g:b<l):b+1+(j - 1)=l+1:=(YE b 1 (j - 1)).trans ((Ql (b + ·) (Xf (b0 i g))).trans i)
theorem tl{c d:V C}(L:c.length<=n)(q:n<=c.length+d.length)(a:n<=y):((c++d.drop (c.length+d.length - n)).map S++XQ (y - n) N).length=y:=by rw[U7,U1,U7,WG,V.length_replicate,b4 L q];exact Xf a
theorem bL{a:Type}{I n:Res C}{r:C->Res a}(B:I=n):I.bind r=n.bind r:=B▸rfl
theorem oL{a:Type v}{I n:O H}{r:H->O a}(B:I=n):I.bind r=n.bind r:=B▸rfl
theorem ba{J K:c->Prop}(I:c)(H:J I)(G:K I):∃(I:c),J I/\K I:=⟨I,H,G⟩
theorem mU{J K U:c->Prop}(I:c)(H:J I)(G:K I)(p:U I):∃(I:c),J I/\K I/\U I:=⟨I,H,G,p⟩
theorem CT{J K U E:c->Prop}(I:c)(H:J I)(G:K I)(p:U I)(t:E I):∃(I:c),J I/\K I/\U I/\E I:=⟨I,H,G,p,t⟩
theorem N4{J K U E T:c->Prop}(I:c)(H:J I)(G:K I)(p:U I)(t:E I)(L:T I):∃(I:c),J I/\K I/\U I/\E I/\T I:=⟨I,H,G,p,t,L⟩
theorem z8{J:c->f->Prop}(I:c)(n:f)(H:J I n):∃(I:c) (n:f),J I n:=⟨I,n,H⟩
theorem eP{J K:c->f->Prop}(I:c)(n:f)(H:J I n)(G:K I n):∃(I:c) (n:f),J I n/\K I n:=⟨I,n,H,G⟩
theorem uK{J K U:c->f->Prop}(I:c)(n:f)(H:J I n)(G:K I n)(p:U I n):∃(I:c) (n:f),J I n/\K I n/\U I n:=⟨I,n,H,G,p⟩
theorem uL{J K U E:c->f->Prop}(I:c)(n:f)(H:J I n)(G:K I n)(p:U I n)(t:E I n):∃(I:c) (n:f),J I n/\K I n/\U I n/\E I n:=⟨I,n,H,G,p,t⟩
theorem IU{J K U E T:c->f->Prop}(I:c)(n:f)(H:J I n)(G:K I n)(p:U I n)(t:E I n)(L:T I n):∃(I:c) (n:f),J I n/\K I n/\U I n/\E I n/\T I n:=⟨I,n,H,G,p,t,L⟩
theorem N5{J K U E T r:c->f->Prop}(I:c)(n:f)(H:J I n)(G:K I n)(p:U I n)(t:E I n)(L:T I n)(l:r I n):∃(I:c) (n:f),J I n/\K I n/\U I n/\E I n/\T I n/\r I n:=⟨I,n,H,G,p,t,L,l⟩
theorem MT{J K U E T r A y:c->f->Prop}(I:c)(n:f)(H:J I n)(G:K I n)(p:U I n)(t:E I n)(L:T I n)(l:r I n)(X:A I n)(a:y I n):∃(I:c) (n:f),J I n/\K I n/\U I n/\E I n/\T I n/\r I n/\A I n/\y I n:=⟨I,n,H,G,p,t,L,l,X,a⟩
theorem KP{J:c->f->i->Prop}(I:c)(n:f)(Y:i)(H:J I n Y):∃(I:c) (n:f) (Y:i),J I n Y:=⟨I,n,Y,H⟩
theorem C4{J K:c->f->i->Prop}(I:c)(n:f)(Y:i)(H:J I n Y)(G:K I n Y):∃(I:c) (n:f) (Y:i),J I n Y/\K I n Y:=⟨I,n,Y,H,G⟩
theorem oS{J K U:c->f->i->Prop}(I:c)(n:f)(Y:i)(H:J I n Y)(G:K I n Y)(p:U I n Y):∃(I:c) (n:f) (Y:i),J I n Y/\K I n Y/\U I n Y:=⟨I,n,Y,H,G,p⟩
theorem CU{J K U E:c->f->i->Prop}(I:c)(n:f)(Y:i)(H:J I n Y)(G:K I n Y)(p:U I n Y)(t:E I n Y):∃(I:c) (n:f) (Y:i),J I n Y/\K I n Y/\U I n Y/\E I n Y:=⟨I,n,Y,H,G,p,t⟩
theorem N6{J K U E T r:c->f->i->Prop}(I:c)(n:f)(Y:i)(H:J I n Y)(G:K I n Y)(p:U I n Y)(t:E I n Y)(L:T I n Y)(l:r I n Y):∃(I:c) (n:f) (Y:i),J I n Y/\K I n Y/\U I n Y/\E I n Y/\T I n Y/\r I n Y:=⟨I,n,Y,H,G,p,t,L,l⟩
theorem N7{J K U E T r A:c->f->i->Prop}(I:c)(n:f)(Y:i)(H:J I n Y)(G:K I n Y)(p:U I n Y)(t:E I n Y)(L:T I n Y)(l:r I n Y)(X:A I n Y):∃(I:c) (n:f) (Y:i),J I n Y/\K I n Y/\U I n Y/\E I n Y/\T I n Y/\r I n Y/\A I n Y:=⟨I,n,Y,H,G,p,t,L,l,X⟩
theorem MU{J K:c->f->i->v->Prop}(I:c)(n:f)(Y:i)(a:v)(H:J I n Y a)(G:K I n Y a):∃(I:c) (n:f) (Y:i) (a:v),J I n Y a/\K I n Y a:=⟨I,n,Y,a,H,G⟩
theorem LJ{J K U:c->f->i->v->Prop}(I:c)(n:f)(Y:i)(a:v)(H:J I n Y a)(G:K I n Y a)(p:U I n Y a):∃(I:c) (n:f) (Y:i) (a:v),J I n Y a/\K I n Y a/\U I n Y a:=⟨I,n,Y,a,H,G,p⟩
theorem jN{J K U E:c->f->i->v->Prop}(I:c)(n:f)(Y:i)(a:v)(H:J I n Y a)(G:K I n Y a)(p:U I n Y a)(t:E I n Y a):∃(I:c) (n:f) (Y:i) (a:v),J I n Y a/\K I n Y a/\U I n Y a/\E I n Y a:=⟨I,n,Y,a,H,G,p,t⟩
theorem oA(z:O H)(B:z=N->s)(X:∀L,z=S L->s):s:=by
 induction z using U0 with
 |none=>exact B rfl
 |some L=>exact X L rfl
theorem z9(E:P6)(B:E=P8->s)(X:E=P4->s):s:=by
 induction E using U6 with
 |false=>exact B rfl
 |true=>exact X rfl
theorem Fd(I:Res C)(B:∀L,I=.ok L->s)(X:∀K y,I=.exc K y->s)(v:I=.bad->s):s:=by
 induction I using Zq with
 |ok L=>exact B L rfl
 |exc K y=>exact X K y rfl
 |bad=>exact v rfl
theorem hF{A:Prop}(B:¬¬A):A:=Classical.byContradiction B
@[elab_as_elim]theorem R{α:Sort _}{p:α->Prop}{a b:α}(h:a=b)(x:p b):p a:=h▸x
theorem N8(B:g.ctorIdx=2):∃s,g=.int s:=Q.int.elim (motive_1:=λg=>∃s,g=.int s) g B λs=>⟨s,rfl⟩
theorem N9(B:g.ctorIdx=3):∃s,g=.str s:=Q.str.elim (motive_1:=λg=>∃s,g=.str s) g B λs=>⟨s,rfl⟩
theorem N'(B:g.ctorIdx=8):∃s,g=.ab s:=Q.ab.elim (motive_1:=λg=>∃s,g=.ab s) g B λs=>⟨s,rfl⟩
theorem Oa(B:g.ctorIdx=10):∃s,g=.aA s:=Q.aA.elim (motive_1:=λg=>∃s,g=.aA s) g B λs=>⟨s,rfl⟩
theorem Jm(t:(match g with|.int s=>Res.ok (Q.int (-s),h)|_=>.bad)≠.bad):∃s,g=.int s:=if B:g.ctorIdx=2 then N8 B else Qp (by induction g using Zp<;>first|rfl|exact Qp rfl B) t
theorem Gd{e:V Z}{w:V Q}(t:jM e w g h≠.bad):∃X,g=.str X:=if B:g.ctorIdx=3 then N9 B else Qp (by induction g using Zp<;>first|rfl|exact Qp rfl B) t
theorem Ge(t:ow h g≠.bad):∃X c w,g=.ab X/\h.D[X]? = S c/\c.length<1000/\kX c c=S w/\ow h g=.ok (.lst w,h):=by
 by_cases B:g.ctorIdx=8
 ·obtain⟨X,B⟩:=N' B
  subst B
  unfold ow at t⊢
  dsimp only at t⊢
  cases D:h.D[X]? with
  |none=>rw[D] at t;exact Qp rfl t
  |some c=>
   rw[D] at t;dsimp only at t⊢;by_cases j:sm c.length=P4
   ·rw[Qk j] at t⊢
    cases s:kX c c with
    |none=>rw[s] at t;exact Qp rfl t
    |some w=>exact⟨X,c,w,rfl,D,Qj j,s,rfl⟩
   ·exact Qp (Qm j) t
 ·exact Qp (by induction g using Zp<;>first|rfl|exact Qp rfl B) t
theorem Jn{I:Res (V Q×AH)}(D:I.bind (λM=>.ok (Q.tup M.1,M.2))=.ok (g,h)):∃c,g=.tup c/\I=.ok (c,h):=by
 cases I with
 |ok M=>cases D;exact⟨M.1,rfl,rfl⟩
 |exc _ _=>exact nomatch D
 |bad=>exact nomatch D
theorem C5(D:eG h g w=N)(B:g.ctorIdx≠10):aG a h g w=.bad:=by unfold aG;rw[D];clear D;induction g using Zp<;>first|rfl|exact Qp rfl B
theorem C6{X:Z}{I:Res (Q×AH)}(t:(match h.I[X]? with|some (.Mem,_)=>I|_=>.bad)≠.bad):∃w,h.I[X]? = S (.Mem,w):=by
 cases L:h.I[X]? with
 |none=>rw[L] at t;exact Qp rfl t
 |some M=>
  obtain⟨A,w⟩:=M;refine⟨w,?_⟩;rw[L] at t;by_cases B:A=.Mem;·rw[B]
  ·exact Qp (by induction A using gV.casesOn<;>first|rfl|exact Qp rfl B) t
theorem xP(D:eG h g w=N)(t:aG a h g w≠.bad):∃X b,g=.aA X/\h.I[X]? = S (.Mem,b)/\w=26/\aG a h g w=(a (.fn 20) [.aA X] h).xF:=by
 by_cases B:g.ctorIdx=10
 ·obtain⟨X,B⟩:=Oa B;subst B;have M:aG a h (.aA X) w=(match h.I[X]? with|some (.Mem,_)=>if w=26 then(a (.fn 20) [.aA X] h).xF else .bad|_=>.bad):=by unfold aG;rw[D]<;>rfl
  rw[M] at t⊢;obtain⟨b,L⟩:=C6 t;rw[L] at t;by_cases B:w=26;·exact⟨X,b,rfl,L,B,by rw[L];exact Qk B⟩
  ·exact Qp (Qm B) t
 ·exact Qp (C5 D B) t
end
section
open PySem PySem.W PySem.Calls PyProof.Rows
open Mine.Lake.AV renaming casesOn->Zp
open Mine.Lake.Res renaming casesOn->Zq
open Mine.Lake renaming AV->Q
noncomputable def Ob:V Z:=[21,139,144,179,187,194,202,210,217,224,231,238,245,252,259,266,273,280,287,294,358,366,373,380,387,394,401,408,429,436,443,450,457,464,471,478,485,492,512,519,526,533,540,547,554,561,568,575,583,590,602,609,614,621,626,633,638,643,650,657]
noncomputable def FA(X:Z):Qa:=Ob.getD X 0
noncomputable def CA:gV->Qa
 |.Thing=>72|.Text=>93|.Row=>114|.Dict=>147|.Span=>168|.FX=>312|.mX=>333|.Mem=>593|.bZ=>52
noncomputable def sx(X:Z):Qc:=⟨(Ga.getD X []).toArray⟩
noncomputable def NS:Z:=Ga.length
theorem yP:Ga.Nodup:=by decide +kernel
variable{G bx pi:Type}{aw bo dy j5:Sort _}{qk qm:Type u}{Y:Rb}{k cu rp:AH}{d qd:Qh}{n:Qa}{ec:Qi Qy}{pj:QY}{t:P'->Qh->Prop}{w qi:Loc}{v:QF}{P:Qz}{cv:V Qc}{cx cw:Qc->O P'}{q bj:Z}{fq:O P'}{ay rq:Qh}{J fu j7 rn:Qv}{H:Z}{gp:Rc}{T:Q0}{de:Qc}{jb:Key}{cn:Qa}{be:Rc}{dq:V (Qc×Qa)}{ap:Qa}{fy:Q9->Qh->Prop}{cj X A:Qa}{U:gV}{bz:V Z}{C:Qi QD}{dw:Z}{f:QB}{i:CF}{l o:V Qo}{c:Qo}{fh:V Qn}{j du:V (O Qc)}{cy:AH}{a:Qr}{e p:Qb}{qf:Qi GenState}{qg:Drawn}{mv:Z}{qh:Sa}{aa kz rd mn:Qb}{g bh az jd:V Qa}{h:Qz}{rg:Qc->O QI}{r:Qc}{ax:V Qc}{ao s:P9}{ma:Qn}{aj:Z}{m5:QD}{K:Z}{re:Qv}{ni:Prop}{i7 fe au m0 oq qj:P6}{af:Prop}{mh:Qa}{gg:Q}{ku db:P'}{cm:Qh}{kq:P'}{km:Qh}{iq ie ig iw ke ou:Prop}{m:Q}{i8 jx:O Q}{m9 bp:Q}{g4 dv:P'}{cg:Src}{gq oj:LE}{dh:Qa}{mc me:Z}{lq lu:Qc}{k9 l8 pw qe rt ru rx:Qv}{qq ja ag:P'}{z:V Q}{r5 kr:Loc}{mf:V Q}{dm:V P'}{pu jh:V Q}{q9:V P'}{ah jr:V Z}{y m6:V (Q×Q)}{gh:O Z}{gw:V QD}{kg:Qa}{ak:Qs}{l9:Qa×Qa}{bc:V Q}{qr:V P'}{oi oh:O P5}{ft:Q×AH}{da:Qi P'}{j6 lm:P5}{iy:V Qa}{rb:Qb}{iz:O (Q×AH)}{oy:P5}{j3:QY}{bg:Q}{qx mq et:P'}{am:P'->Qh->Prop}{pr:O Q}{ir:O P'->Qh->Prop}{g8:P'}{ca:Unit->Qh->Prop}{gz:P5}{je:E7}{bk:LE}{rm:Rq}{l0 cz:LE}{i5:P9}{qp:Sy}{nj:V Qy}{qa:V Q}{g5:P6->Qh->Prop}{bf:Q}{ki:Q×Q}{jt:P9}{qt qs:O P9}{qc:Qv}{oz:P9}{ju m8:P'}{nq rs:RA}{jj:Z}{lc:P9}{kj:V P9}{bm:fD}{gr:V (O P9)}{gj bn:V P9}{rk:Z}{ai my r9 fi:LE}{qv bq:jL}{ji:FY}{fj:Z}{dg:Qc}{c9:Z}{j9:V Z}{jg lw:Qc}{pt:Qs}{lf:P'}{ip:Args}{py:QM}{lg:V (P6×Qt P')}{ny:P9}{nz:Qc}{lh:Qv}{jv:O Q}{ff:Qa}{jm:Res (Fl×Loc×AH)}{qu:QP}{ew qw:V Qn}{ln:Q}{gb q8:P9}{om bw:V P9}{fv:V Qc}{qy:Z}{qz:Qv}{cq:V Z}{jz jy ij:fD}{ra:P'->Qh->Prop}{fm p8:Z}{g9:LO}{j8:V P9}{pb:Qs}{pa:P'}{p9 io jp:P9}{ms:V Q}{rf:P5->O (Q×AH)}{i9:Q}{jq:BI}{iu:V P'}{mw:P'}{fc di:V P'}{ae:Q1}{fg:V Q}{j4:Qa}{pc:Z}{px:V P'}{gn:QP->Qh->Prop}{ik:Rh}{ro:Ctx}{jc:LE}{pd:V Q->AH->Res (Q×AH)}{rh:Qt P'}{rj:V P'->Qh->Prop}{ky:RA}{ly:V (O Qc)}{pz:Rq}{ng:Z}
theorem wh(g:aj<NS)(E:K<NS)(B:sx aj=sx K):aj=K:=by
 have p:Ga.getD aj []=Ga.getD K []:=by have:=Ql (λd:Qc=>d.cps.toList) B;exact this
 have s:aj<Ga.length:=g;have h:K<Ga.length:=E;rw[XY,XY,U3 s,U3 h] at p;refine(X7 s yP).mp ?_;rw[U3 s,U3 h];simpa using p
theorem nX{L:G}(B:N=S L):ni:=(O.some_ne_none _ B.symm).elim
theorem sX{L E:G}(B:S L=S E):L=E:=VH B
theorem bX{α:Type}(B:Res.bad (α:=α)≠.bad):ni:=Qp rfl B
noncomputable def aZ{j:Type}(z:O j)(Y:j->Prop):Prop:=match z with
 |none=>Qw
 |some L=>Y L
noncomputable def vw{U j:Type}(s:U->Z)(X:Z)(I:U)(r:s I=X->O j):O j:=if B:s I=X then r B else N
theorem ek{U:Type}{s:U->Z}{I:U}{r:s I=H->O G}{Y:G->Prop}(K:∀B,aZ (r B) Y):aZ (vw s H I r) Y:=by
 unfold vw;split;·exact K _
 ·exact Vo
noncomputable def l1{j:Type}:V j->O j|[L]=>S L|_=>N
theorem tm(I:V G):aZ (l1 I) λL=>I=[L]:=by rcases I with _|⟨L,_|⟨E,x⟩⟩<;>first|exact Vo|rfl
noncomputable def l2{j:Type}:V j->O (j×j)|[L,E]=>S (L,E)|_=>N
theorem C7(I:V G):aZ (l2 I) λL=>I=[L.1,L.2]:=by rcases I with _|⟨L,_|⟨E,_|⟨A,x⟩⟩⟩<;>first|exact Vo|rfl
theorem bF(B:P8=P4):ni:=(Vm B).elim
theorem ot{z:O G}{Y:G->Prop}{L:G}(K:aZ z Y)(D:z=S L):Y L:=by subst D;exact K
theorem k1{z:O G}{r:G->P6}{I:bx}{P:bx->Prop}{U:G->pi->bx}(K:aZ z λL=>∃A,I=U L A)(B:z.any r=P4)(X:∀L A,r L=P4->P (U L A)):P I:=by
 induction z using U0 with
 |none=>exact bF B
 |some L=>obtain⟨A,D⟩:=K;exact D▸X L A B
theorem k0{z:O G}{r:G->P6}{I:bx}{P:bx->Prop}{U:G->bx}(K:aZ z λL=>I=U L)(B:z.any r=P4)(X:∀L,r L=P4->P (U L)):P I:=by
 induction z using U0 with
 |none=>exact bF B
 |some L=>exact(show I=U L from K)▸X L B
theorem an(B:(i7&&fe)=P4)(X:i7=P4->fe=P4->af):af:=X (Vi.mp B).1 (Vi.mp B).2
theorem jO(B:(i7&&fe&&au)=P4)(X:i7=P4->fe=P4->au=P4->af):af:=an B λB Y=>an B λI n=>X I n Y
theorem Aq(B:(i7&&fe&&au&&m0)=P4)(X:i7=P4->fe=P4->au=P4->m0=P4->af):af:=an B λB Y=>jO B λI n i=>X I n i Y
theorem C8(B:(i7&&fe&&au&&m0&&oq)=P4)(X:i7=P4->fe=P4->au=P4->m0=P4->oq=P4->af):af:=an B λB Y=>Aq B λI n i C=>X I n i C Y
theorem C9(B:(i7&&fe&&au&&m0&&oq&&qj)=P4)(X:i7=P4->fe=P4->au=P4->m0=P4->oq=P4->qj=P4->af):af:=an B λB Y=>C8 B λI n i C K=>X I n i C K Y
theorem Jp{o:P6}(B:(i7&&fe&&au&&m0&&oq&&qj&&o)=P4)(X:i7=P4->fe=P4->au=P4->m0=P4->oq=P4->qj=P4->o=P4->af):af:=an B λB Y=>C9 B λI n i C K d=>X I n i C K d Y
theorem dE{L E:G}[RJ (L=E)](B:Qd (L=E)=P4):E=L:=(Qj B).symm
theorem nF(B:(!i7)=P4):i7=P8:=(Wf i7).mp B
theorem dB{c:Prop}[RJ c]{L E:O G}{M:G}(D:(if c then L else E)=S M)(a:c->L=S M->af)(p:¬c->E=S M->af):af:=by
 by_cases B:c;·exact a B ((Qk B).symm.trans D)
 ·exact p B ((Qm B).symm.trans D)
theorem C'[RJ iq]{I n:G}(B:(if iq then S I else N)=S n):iq/\I=n:=by
 by_cases M:iq;·exact⟨M,sX ((Qk M).symm.trans B)⟩
 ·exact nX ((Qm M).symm.trans B)
structure cS where
 L:V Qa:=[]
 D:V Qa:=[]
 B:V Qa:=[]
 I:V (Qa×Qa):=[]
noncomputable def cS.M(x:cS):V Qa:=x.L++x.D++x.B++x.I.map (·.1)++x.I.map (·.2)
structure cS.le(r r':cS):Prop where
 L:∀(k:Z) (a:Qa),r.L[k]? = S a->r'.L[k]? = S a
 D:∀(k:Z) (a:Qa),r.D[k]? = S a->r'.D[k]? = S a
 B:∀(k:Z) (a:Qa),r.B[k]? = S a->r'.B[k]? = S a
 I:∀(k:Z) (a:Qa×Qa),r.I[k]? = S a->r'.I[k]? = S a
theorem cS.le.refl(x:cS):x.le x:=⟨λU U D=>D,λU U D=>D,λU U D=>D,λU U D=>D⟩
theorem cS.le.trans{L E A:cS}(I:L.le E)(n:E.le A):L.le A:=⟨λU U D=>n.L _ _ (I.L _ _ D),λU U D=>n.D _ _ (I.D _ _ D),λU U D=>n.B _ _ (I.B _ _ D),λU U D=>n.I _ _ (I.I _ _ D)⟩
abbrev Gf(v:Qi P')(q:Z):Qs:={cls:=.type "tuple",data:=.seq v q}
abbrev bM(j:Qi QD)(q:Z):Qs:={cls:=.type "dict",data:=.dict j q}
abbrev fP(E:Qi Qy):Qs:={cls:=.type "bytearray",data:=.bytearray E 0}
abbrev SP:=Qa->Qs->Prop
noncomputable def cA(A:gV):V Z:=(cF A).cA
mutual
inductive VR(P:Rb)(S:SP)(r:cS):Q->P'->Prop
 |none:VR P S r .none .none
 |bool (b:P6):VR P S r (.bool b) (.bool b)
 |int (i:P5) (t:QY):VR P S r (.int i) (.int i t)
 |str (k:Z) (t:QY):k<NS->VR P S r (.str k) (.str (sx k) t)
 |bH (b:Qi Qy) (t:QY) (l:V Z):b.toList.map V1=l->VR P S r (.bH l) (.bytes b t)
 |fn (k:Z):VR P S r (.fn k) (.ref (FA k))
 |cls (c:gV):VR P S r (.cls c) (.ref (CA c))
 |aE (k:Z) (a:Qa):r.L[k]? = some a->VR P S r (.aE k) (.ref a)
 |ab (k:Z) (a:Qa):r.D[k]? = some a->VR P S r (.ab k) (.ref a)
 |fV (k:Z) (a:Qa):r.B[k]? = some a->VR P S r (.fV k) (.ref a)
 |aA (k:Z) (a d:Qa):r.I[k]? = some (a,d)->VR P S r (.aA k) (.ref a)
 |tup (vs:V Q) (a:Qa) (items:Qi P') (n:Z):S a (Gf items n)->bU P S r vs items.toList->VR P S r (.tup vs) (.ref a)
 |lst (vs:V Q) (a:Qa) (items:Qi P') (n:Z):S a (listOf items n)->bU P S r vs items.toList->VR P S r (.lst vs) (.ref a)
 |obj (c:gV) (vs:V Q) (a d:Qa) (es:Qi QD) (n:Z):S a (QH (CA c) d)->S d (bM es n)->FR P S r (cA c) vs es.toList->VR P S r (.obj c vs) (.ref a)
 |exc (t:Q) (a d:Qa) (o:Qs) (es:Qi QD) (n:Z):S a o->o.cls=.ref (CA .bZ)->o.dict=some d->(∃vs,o.data=.fields vs)->S d (bM es n)->FR P S r (cA .bZ) [t] es.toList->VR P S r (.exc t) (.ref a)
inductive bU(P:Rb)(S:SP)(r:cS):V Q->V P'->Prop
 |nil:bU P S r [] []
 |cons {a:Q} {v:P'} {as:V Q} {vs:V P'}:VR P S r a v->bU P S r as vs->bU P S r (a :: as) (v :: vs)
inductive FR(P:Rb)(S:SP)(r:cS):V Z->V Q->V QD->Prop
 |nil:FR P S r [] [] []
 |cons {k:Z} {a:Q} {v:P'} {t:QY} {ks:V Z} {as:V Q} {es:V QD}:VR P S r a v->FR P S r ks as es->FR P S r (k :: ks) (a :: as) (⟨VN P (sx k),.str (sx k) t,v⟩ :: es)
end
noncomputable def MV(i:Rb)(B:SP)(x:cS)(C:P'):Q->Prop
 |.none=>C=.none
 |.bool E=>C=.bool E
 |.int s=>∃K,C=.int s K
 |.str X=>∃K,C=.str (sx X) K/\X<NS
 |.bH l=>∃E K,C=.bytes E K/\E.toList.map V1=l
 |.fn X=>C=.ref (FA X)
 |.cls A=>C=.ref (CA A)
 |.aE X=>∃L,C=.ref L/\x.L[X]? = S L
 |.ab X=>∃L,C=.ref L/\x.D[X]? = S L
 |.fV X=>∃L,C=.ref L/\x.B[X]? = S L
 |.aA X=>∃L y,C=.ref L/\x.I[X]? = S (L,y)
 |.tup w=>∃L v q,C=.ref L/\B L (Gf v q)/\bU i B x w v.toList
 |.lst w=>∃L v q,C=.ref L/\B L (listOf v q)/\bU i B x w v.toList
 |.obj A w=>∃L y j q,C=.ref L/\B L (QH (CA A) y)/\B y (bM j q)/\FR i B x (cA A) w j.toList
 |.exc K=>∃L y z j q,C=.ref L/\B L z/\z.cls=.ref (CA .bZ)/\z.dict=S y/\(∃w,z.data=.fields w)/\B y (bM j q)/\FR i B x (cA .bZ) [K] j.toList
theorem bT(B:ie/\ig)(X:ie->ig->af):af:=X B.1 B.2
theorem hO(B:ie/\ig/\iw)(X:ie->ig->iw->af):af:=X B.1 B.2.1 B.2.2
theorem uE(B:ie/\ig/\iw/\ke)(X:ie->ig->iw->ke->af):af:=X B.1 B.2.1 B.2.2.1 B.2.2.2
theorem z'(B:ie/\ig/\iw/\ke/\ou)(X:ie->ig->iw->ke->ou->af):af:=X B.1 B.2.1 B.2.2.1 B.2.2.2.1 B.2.2.2.2
theorem Oc{r A:Prop}(B:ie/\ig/\iw/\ke/\ou/\r/\A)(X:ie->ig->iw->ke->ou->r->A->af):af:=X B.1 B.2.1 B.2.2.1 B.2.2.2.1 B.2.2.2.2.1 B.2.2.2.2.2.1 B.2.2.2.2.2.2
theorem eK{J:aw->Prop}(B:∃(I:aw),J I)(X:∀(I:aw),J I->af):af:=B.elim λI B=>X I B
theorem aM{J K:aw->Prop}(B:∃(I:aw),J I/\K I)(X:∀(I:aw),J I->K I->af):af:=B.elim λI B=>X I B.1 B.2
theorem rB{J K U:aw->Prop}(B:∃(I:aw),J I/\K I/\U I)(X:∀(I:aw),J I->K I->U I->af):af:=B.elim λI B=>X I B.1 B.2.1 B.2.2
theorem Ar{J K U E:aw->Prop}(B:∃(I:aw),J I/\K I/\U I/\E I)(X:∀(I:aw),J I->K I->U I->E I->af):af:=B.elim λI B=>X I B.1 B.2.1 B.2.2.1 B.2.2.2
theorem MW{J K U E T:aw->Prop}(B:∃(I:aw),J I/\K I/\U I/\E I/\T I)(X:∀(I:aw),J I->K I->U I->E I->T I->af):af:=B.elim λI B=>X I B.1 B.2.1 B.2.2.1 B.2.2.2.1 B.2.2.2.2
theorem Od{J K U E T r:aw->Prop}(B:∃(I:aw),J I/\K I/\U I/\E I/\T I/\r I)(X:∀(I:aw),J I->K I->U I->E I->T I->r I->af):af:=B.elim λI B=>X I B.1 B.2.1 B.2.2.1 B.2.2.2.1 B.2.2.2.2.1 B.2.2.2.2.2
theorem rC{J:aw->bo->Prop}(B:∃(I:aw) (n:bo),J I n)(X:∀(I:aw) (n:bo),J I n->af):af:=B.elim λI B=>B.elim λn B=>X I n B
theorem cN{J K:aw->bo->Prop}(B:∃(I:aw) (n:bo),J I n/\K I n)(X:∀(I:aw) (n:bo),J I n->K I n->af):af:=B.elim λI B=>B.elim λn B=>X I n B.1 B.2
theorem rL{J K U:aw->bo->Prop}(B:∃(I:aw) (n:bo),J I n/\K I n/\U I n)(X:∀(I:aw) (n:bo),J I n->K I n->U I n->af):af:=B.elim λI B=>B.elim λn B=>X I n B.1 B.2.1 B.2.2
theorem yQ{J K U E:aw->bo->Prop}(B:∃(I:aw) (n:bo),J I n/\K I n/\U I n/\E I n)(X:∀(I:aw) (n:bo),J I n->K I n->U I n->E I n->af):af:=B.elim λI B=>B.elim λn B=>X I n B.1 B.2.1 B.2.2.1 B.2.2.2
theorem KQ{J K U E T:aw->bo->Prop}(B:∃(I:aw) (n:bo),J I n/\K I n/\U I n/\E I n/\T I n)(X:∀(I:aw) (n:bo),J I n->K I n->U I n->E I n->T I n->af):af:=B.elim λI B=>B.elim λn B=>X I n B.1 B.2.1 B.2.2.1 B.2.2.2.1 B.2.2.2.2
theorem Oe{J K U E T r:aw->bo->Prop}(B:∃(I:aw) (n:bo),J I n/\K I n/\U I n/\E I n/\T I n/\r I n)(X:∀(I:aw) (n:bo),J I n->K I n->U I n->E I n->T I n->r I n->af):af:=B.elim λI B=>B.elim λn B=>X I n B.1 B.2.1 B.2.2.1 B.2.2.2.1 B.2.2.2.2.1 B.2.2.2.2.2
theorem MX{J K U E T r A y:aw->bo->Prop}(B:∃(I:aw) (n:bo),J I n/\K I n/\U I n/\E I n/\T I n/\r I n/\A I n/\y I n)(X:∀(I:aw) (n:bo),J I n->K I n->U I n->E I n->T I n->r I n->A I n->y I n->af):af:=B.elim λI B=>B.elim λn B=>X I n B.1 B.2.1 B.2.2.1 B.2.2.2.1 B.2.2.2.2.1 B.2.2.2.2.2.1 B.2.2.2.2.2.2.1 B.2.2.2.2.2.2.2
theorem Dc{J:aw->bo->dy->Prop}(B:∃(I:aw) (n:bo) (Y:dy),J I n Y)(X:∀(I:aw) (n:bo) (Y:dy),J I n Y->af):af:=B.elim λI B=>B.elim λn B=>B.elim λY B=>X I n Y B
theorem Aa{J K:aw->bo->dy->Prop}(B:∃(I:aw) (n:bo) (Y:dy),J I n Y/\K I n Y)(X:∀(I:aw) (n:bo) (Y:dy),J I n Y->K I n Y->af):af:=B.elim λI B=>B.elim λn B=>B.elim λY B=>X I n Y B.1 B.2
theorem eM{J K U:aw->bo->dy->Prop}(B:∃(I:aw) (n:bo) (Y:dy),J I n Y/\K I n Y/\U I n Y)(X:∀(I:aw) (n:bo) (Y:dy),J I n Y->K I n Y->U I n Y->af):af:=B.elim λI B=>B.elim λn B=>B.elim λY B=>X I n Y B.1 B.2.1 B.2.2
theorem Gg{J K U E:aw->bo->dy->Prop}(B:∃(I:aw) (n:bo) (Y:dy),J I n Y/\K I n Y/\U I n Y/\E I n Y)(X:∀(I:aw) (n:bo) (Y:dy),J I n Y->K I n Y->U I n Y->E I n Y->af):af:=B.elim λI B=>B.elim λn B=>B.elim λY B=>X I n Y B.1 B.2.1 B.2.2.1 B.2.2.2
theorem MY{J K U E T:aw->bo->dy->Prop}(B:∃(I:aw) (n:bo) (Y:dy),J I n Y/\K I n Y/\U I n Y/\E I n Y/\T I n Y)(X:∀(I:aw) (n:bo) (Y:dy),J I n Y->K I n Y->U I n Y->E I n Y->T I n Y->af):af:=B.elim λI B=>B.elim λn B=>B.elim λY B=>X I n Y B.1 B.2.1 B.2.2.1 B.2.2.2.1 B.2.2.2.2
theorem Of{J K U E T r A:aw->bo->dy->Prop}(B:∃(I:aw) (n:bo) (Y:dy),J I n Y/\K I n Y/\U I n Y/\E I n Y/\T I n Y/\r I n Y/\A I n Y)(X:∀(I:aw) (n:bo) (Y:dy),J I n Y->K I n Y->U I n Y->E I n Y->T I n Y->r I n Y->A I n Y->af):af:=B.elim λI B=>B.elim λn B=>B.elim λY B=>X I n Y B.1 B.2.1 B.2.2.1 B.2.2.2.1 B.2.2.2.2.1 B.2.2.2.2.2.1 B.2.2.2.2.2.2
theorem Gh{J:aw->bo->dy->j5->Prop}(B:∃(I:aw) (n:bo) (Y:dy) (i:j5),J I n Y i)(X:∀(I:aw) (n:bo) (Y:dy) (i:j5),J I n Y i->af):af:=B.elim λI B=>B.elim λn B=>B.elim λY B=>B.elim λi B=>X I n Y i B
theorem Og{J K U:aw->bo->dy->j5->Prop}(B:∃(I:aw) (n:bo) (Y:dy) (i:j5),J I n Y i/\K I n Y i/\U I n Y i)(X:∀(I:aw) (n:bo) (Y:dy) (i:j5),J I n Y i->K I n Y i->U I n Y i->af):af:=B.elim λI B=>B.elim λn B=>B.elim λY B=>B.elim λi B=>X I n Y i B.1 B.2.1 B.2.2
theorem uM{J K U E:aw->bo->dy->j5->Prop}(B:∃(I:aw) (n:bo) (Y:dy) (i:j5),J I n Y i/\K I n Y i/\U I n Y i/\E I n Y i)(X:∀(I:aw) (n:bo) (Y:dy) (i:j5),J I n Y i->K I n Y i->U I n Y i->E I n Y i->af):af:=B.elim λI B=>B.elim λn B=>B.elim λY B=>B.elim λi B=>X I n Y i B.1 B.2.1 B.2.2.1 B.2.2.2
theorem Oh{J K U E T:aw->bo->dy->j5->Prop}(B:∃(I:aw) (n:bo) (Y:dy) (i:j5),J I n Y i/\K I n Y i/\U I n Y i/\E I n Y i/\T I n Y i)(X:∀(I:aw) (n:bo) (Y:dy) (i:j5),J I n Y i->K I n Y i->U I n Y i->E I n Y i->T I n Y i->af):af:=B.elim λI B=>B.elim λn B=>B.elim λY B=>B.elim λi B=>X I n Y i B.1 B.2.1 B.2.2.1 B.2.2.2.1 B.2.2.2.2
variable{x gu:SP}{b mj aq qo dz:cS}
theorem VR.inv(B:VR Y x b m ag):MV Y x b ag m:=VR.casesOn (motive_1:=λm ag U=>MV Y x b ag m) B rfl (λU=>rfl) (λU K=>⟨K,rfl⟩) (λU K B=>⟨K,rfl,B⟩) (λE K U B=>⟨E,K,rfl,B⟩) (λU=>rfl) (λU=>rfl) (λU m B=>⟨m,rfl,B⟩) (λU m B=>⟨m,rfl,B⟩) (λU m B=>⟨m,rfl,B⟩) (λU m y B=>⟨m,y,rfl,B⟩) (λU m s q d B=>⟨m,s,q,rfl,d,B⟩) (λU m s q d B=>⟨m,s,q,rfl,d,B⟩) (λU U m y j q G o r=>⟨m,y,j,q,rfl,G,o,r⟩) (λU m y z j q G a I f1 o r=>⟨m,y,z,j,q,rfl,G,a,I,f1,o,r⟩)
noncomputable def Jq(i:Rb)(B:SP)(x:cS)(w:V P'):V Q->Prop
 |[]=>w=[]
 |L :: c=>∃C e,w=C :: e/\VR i B x L C/\bU i B x c e
theorem bU.inv(B:bU Y x b z dm):Jq Y x b dm z:=bU.casesOn (motive_2:=λz dm U=>Jq Y x b dm z) B rfl (λL E=>⟨_,_,rfl,L,E⟩)
theorem bU.uN(B:bU Y x b [] dm):dm=[]:=B.inv
theorem bU.one(B:bU Y x b [m] dm):∃C,dm=[C]/\VR Y x b m C:=by obtain⟨C,_,rfl,G,p⟩:=B.inv;exact ba C (Ql _ p.uN) G
theorem bU.two(B:bU Y x b [m,bp] dm):∃C i,dm=[C,i]/\VR Y x b m C/\VR Y x b bp i:=by obtain⟨C,_,rfl,G,p⟩:=B.inv;obtain⟨i,D,t⟩:=p.one;exact uK C i (Ql _ D) G t
theorem VR.pS(f:∀L z,x L z->gu L z)(n:b.le dz) :
  (∀L C,VR Y x b L C->VR Y gu dz L C)/\(∀c w,bU Y x b c w->bU Y gu dz c w)/\(∀e c j,FR Y x b e c j->FR Y gu dz e c j):=by
 refine⟨λL C B=>?_,λc w B=>?_,λe c j B=>?_⟩;all_goals
  first
  |refine VR.rec (motive_1:=λL C U=>VR Y gu dz L C) (motive_2:=λc w U=>bU Y gu dz c w) (motive_3:=λe c j U=>FR Y gu dz e c j) ?_ ?_ ?_ ?_ ?_ ?_ ?_ ?_ ?_ ?_ ?_ ?_ ?_ ?_ ?_ ?_ ?_ ?_ ?_ B
  |refine bU.rec (motive_1:=λL C U=>VR Y gu dz L C) (motive_2:=λc w U=>bU Y gu dz c w) (motive_3:=λe c j U=>FR Y gu dz e c j) ?_ ?_ ?_ ?_ ?_ ?_ ?_ ?_ ?_ ?_ ?_ ?_ ?_ ?_ ?_ ?_ ?_ ?_ ?_ B
  |refine FR.rec (motive_1:=λL C U=>VR Y gu dz L C) (motive_2:=λc w U=>bU Y gu dz c w) (motive_3:=λe c j U=>FR Y gu dz e c j) ?_ ?_ ?_ ?_ ?_ ?_ ?_ ?_ ?_ ?_ ?_ ?_ ?_ ?_ ?_ ?_ ?_ ?_ ?_ B
  ·exact .none
  ·exact λE=>.bool E
  ·exact λs K=>.int s K
  ·exact λX K B=>.str X K B
  ·exact λE K l B=>.bH E K l B
  ·exact λX=>.fn X
  ·exact λA=>.cls A
  ·exact λX L B=>.aE X L (n.L _ _ B)
  ·exact λX L B=>.ab X L (n.D _ _ B)
  ·exact λX L B=>.fV X L (n.B _ _ B)
  ·exact λX L y B=>.aA X L y (n.I _ _ B)
  ·exact λw L v q B U k=>.tup w L v q (f _ _ B) k
  ·exact λw L v q B U k=>.lst w L v q (f _ _ B) k
  ·exact λA w L y j q G p U k=>.obj A w L y j q (f _ _ G) (f _ _ p) k
  ·exact λK L y z j q G p t a d U k=>.exc K L y z j q (f _ _ G) p t a (f _ _ d) k
  ·exact .nil
  ·exact λU U G p=>.cons G p
  ·exact .nil
  ·exact λU U G p=>.cons G p
theorem VR.mono(f:∀m z,x m z->gu m z)(n:b.le dz)(B:VR Y x b m ag):VR Y gu dz m ag:=(VR.pS f n).1 m ag B
theorem bU.mono(f:∀jh z,x jh z->gu jh z)(n:b.le dz)(B:bU Y x b jh q9):bU Y gu dz jh q9:=(VR.pS f n).2.1 jh q9 B
theorem FR.mono(f:∀jh z,x jh z->gu jh z)(n:b.le dz){X:V Z}{C:V QD}(B:FR Y x b X jh C):FR Y gu dz X jh C:=(VR.pS f n).2.2 X jh C B
theorem bU.len:∀{w:V P'},bU Y x b z w->z.length=w.length:=by
 induction z with
 |nil=>intro w B;cases B;rfl
 |cons L z k=>intro w B;cases B with|cons _ p=>simp[k p]
theorem bU.get:∀{w:V P'} {i:Z} {a:Q},bU Y x b z w->z[i]? = S a->∃C,w[i]? = S C/\VR Y x b a C:=by
 induction z with
 |nil=>intro w i a B D;exact nX D
 |cons I z k=>
  intro w i a B D
  cases B with
  |cons G p=>
   induction i using Vn with
   |zero=>obtain rfl:=sX D;exact ba _ rfl G
   |succ i=>obtain⟨C,T,c⟩:=k p D;exact ba C T c
theorem bU.append{e:V P'}(B:bU Y x b z dm)(a:bU Y x b mf e):bU Y x b (z++mf) (dm++e):=by
 induction z generalizing dm with
 |nil=>cases B;exact a
 |cons L z k=>cases B with|cons G p=>exact .cons G (k p)
theorem bU.take:∀{w:V P'} (q:Z),bU Y x b z w->bU Y x b (z.take q) (w.take q):=by
 induction z with
 |nil=>intro w q B;cases B;simp;exact .nil
 |cons L z k=>
  intro w q B
  cases B with
  |cons G p=>
   induction q using Vn with
   |zero=>simp;exact .nil
   |succ q=>exact bU.cons G (k q p)
theorem bU.drop:∀{w:V P'} (q:Z),bU Y x b z w->bU Y x b (z.drop q) (w.drop q):=by
 induction z with
 |nil=>intro w q B;cases B;simp;exact .nil
 |cons L z k=>
  intro w q B
  cases B with
  |cons G p=>
   induction q using Vn with
   |zero=>exact bU.cons G p
   |succ q=>exact k q p
theorem bU.set:∀{w:V P'} (s:Z) {L:Q} {C:P'},bU Y x b z w->VR Y x b L C->bU Y x b (z.set s L) (w.set s C):=by
 induction z with
 |nil=>intro w s L C B _;cases B;simp;exact .nil
 |cons I z k=>
  intro w s L C B P
  cases B with
  |cons G p=>
   induction s using Vn with
   |zero=>exact bU.cons P p
   |succ s=>exact bU.cons G (k s p P)
theorem FR.len:∀{c:V Q} {j:V QD},FR Y x b ah c j->c.length=ah.length/\j.length=ah.length:=by
 induction ah with
 |nil=>intro c j B;cases B;exact⟨rfl,rfl⟩
 |cons X ah k=>intro c j B;cases B with|cons _ p=>simp[(k p).1,(k p).2]
theorem FR.get:∀{c:V Q} {j:V QD} {i X:Z} {a:Q},FR Y x b ah c j->ah[i]? = S X->c[i]? = S a->
  ∃C K,j[i]? = S ⟨VN Y (sx X),.str (sx X) K,C⟩/\VR Y x b a C:=by
 induction ah with
 |nil=>intro c j i X a B D;exact nX D
 |cons I ah k=>
  intro c j i X a B D T
  cases B with
  |cons G p=>
   induction i using Vn with
   |zero=>obtain rfl:=sX D;obtain rfl:=sX T;exact eP _ _ (by simp;rfl) G
   |succ i=>obtain⟨C,K,E,d⟩:=k p D T;exact eP C K E d
theorem FR.set:∀{c:V Q} {j:V QD} {s:Z} {L:Q} {C:P'},FR Y x b ah c j->VR Y x b L C->
  FR Y x b ah (c.set s L) (j.modify s λD=>{D with val:=C}):=by
 induction ah with
 |nil=>intro c j s L C B _;cases B;simp;exact .nil
 |cons I ah k=>
  intro c j s L C B P
  cases B with
  |cons G p=>
   induction s using Vn with
   |zero=>exact FR.cons P p
   |succ s=>exact FR.cons G (k p P)
theorem FR.snoc:∀{c:V Q} {j:V QD} {X:Z} {L:Q} {C:P'} {K:QY},FR Y x b ah c j->VR Y x b L C->
  FR Y x b (ah++[X]) (c++[L]) (j++[⟨VN Y (sx X),.str (sx X) K,C⟩]):=by
 induction ah with
 |nil=>intro c j X L C K B P;cases B;exact .cons P .nil
 |cons I ah k=>
  intro c j X L C K B P
  cases B with
  |cons G p=>exact .cons G (k p P)
theorem gZ(H:ie)(G:ig)(p:iw):ie/\ig/\iw:=⟨H,G,p⟩
theorem uO(H:ie)(G:ig)(p:iw)(t:ke):ie/\ig/\iw/\ke:=⟨H,G,p,t⟩
theorem LK(H:ie)(G:ig)(p:iw)(t:ke)(L:ou):ie/\ig/\iw/\ke/\ou:=⟨H,G,p,t,L⟩
theorem Oi{U:Sort _}{J K a E T r A:aw->bo->dy->j5->U->Prop}(B:∃(I:aw) (n:bo) (Y:dy) (i:j5) (C:U),J I n Y i C/\K I n Y i C/\a I n Y i C/\E I n Y i C/\T I n Y i C/\r I n Y i C/\A I n Y i C)(X:∀(I:aw) (n:bo) (Y:dy) (i:j5) (C:U),J I n Y i C->K I n Y i C->a I n Y i C->E I n Y i C->T I n Y i C->r I n Y i C->A I n Y i C->af):af:=B.elim λI B=>B.elim λn B=>B.elim λY B=>B.elim λi B=>B.elim λC B=>X I n Y i C B.1 B.2.1 B.2.2.1 B.2.2.2.1 B.2.2.2.2.1 B.2.2.2.2.2.1 B.2.2.2.2.2.2
theorem KR{L E:G}(B:Res.ok L=.ok E):L=E:=by cases B;rfl
theorem rM{L A:G}{E y:bx}(B:Res.ok (L,E)=.ok (A,y)):L=A/\E=y:=by cases B;exact⟨rfl,rfl⟩
theorem sP{L A:G}{E y:bx}(B:S (L,E)=S (A,y)):L=A/\E=y:=by cases B;exact⟨rfl,rfl⟩
@[elab_as_elim]theorem sQ{α β:Type}{a b:α}{x y:β}{P:α->β->Prop}(h:S (a,x)=S (b,y))(k:P a x):P b y:=by cases h;exact k
@[elab_as_elim]theorem Gi{α:Type}{a b:α}{P:α->Prop}(h:Res.ok a=.ok b)(k:P a):P b:=by cases h;exact k
@[elab_as_elim]theorem sJ{α:Type}{a b:α}{P:α->Prop}(h:S a=S b)(k:P a):P b:=by cases h;exact k
theorem lI{I:O qk}{r:qk->O qm}{E:qm}(D:I.bind r=S E)(X:∀L,I=S L->r L=S E->af):af:=(V3.mp D).elim λL B=>X L B.1 B.2
theorem Ab{I:O qk}{r:qk->qm}{E:qm}(D:I.map r=S E)(X:∀L,I=S L->r L=E->af):af:=(VA.mp D).elim λL B=>X L B.1 B.2
section
noncomputable def Sf(B:Qb)(x:cS)(b:V Qa):SP:=λL z=>B.get? L=S z/\L∉x.M/\L∉b
set_option genCtorIdx true in
inductive kY|str(x:Qc)|bH(b:Qi Qy)
 deriving R'
theorem kY.str.inj{L E:Qc}(B:kY.str L=.str E):L=E:=by cases B;rfl
theorem kY.bH.inj{L E:Qi Qy}(B:kY.bH L=.bH E):L=E:=by cases B;rfl
noncomputable def eX:Q->kY
 |.str X=>.str (sx X)
 |.bH l=>.bH (l.map Y3).toArray
 |_=>.bH #[]
set_option genCtorIdx true in
inductive DK|str|int|tup
noncomputable def DK.ok:DK->Q->Prop
 |.str,L=>∃X,L=.str X
 |.int,L=>∃s,L=.int s
 |.tup,L=>∃w,L=.tup w/\w.all og=P4
variable(w:Qr)
noncomputable def pn:kY->P5
 |.str I=>hashStr w I
 |.bH E=>Sz (if E.isEmpty=P4 then 0 else Sz (w.params.strHash (E.map V1)))
noncomputable def jD:Q->P5
 |.str X=>hashStr w (sx X)
 |.int s=>hashInt s
 |.tup a=>Sz (QM.Tuple.tupleHashOf (a.map λC=>pn w (eX C)))
 |_=>0
variable{w}
inductive DR(w:Qr)(S:SP)(r:cS)(dk:DK):V (Q×Q)->V QD->Prop
 |nil:DR w S r dk [] []
 |cons {k v:Q} {kv vv:P'} {as:V (Q×Q)} {es:V QD}:dk.ok k->VR w.params S r k kv->VR w.params S r v vv->DR w S r dk as es->DR w S r dk ((k,v) :: as) (⟨jD w k,kv,vv⟩ :: es)
theorem DR.mono{B a:SP}{x J:cS}{n:DK}(f:∀L z,B L z->a L z)(b:x.le J){c:V (Q×Q)}{j:V QD}(d:DR w B x n c j):DR w a J n c j:=by
 induction d with
 |nil=>exact .nil
 |cons G p t _ k=>exact .cons G (p.mono f b) (t.mono f b) k
structure tq(w:Qr)(h:Qb)(r:cS)(H:AH)(S:SP):Prop where
 jP:r.L.length=H.L.length
 lT:r.D.length=H.D.length
 mY:r.B.length=H.B.length
 lU:r.I.length=H.I.length
 L:∀(k:Z) vs a,H.L[k]? = some vs->r.L[k]? = some a->∃items n,h.get? a=some (listOf items n)/\bU w.params S r vs items.toList
 D:∀(k:Z) as a,H.D[k]? = some as->r.D[k]? = some a->∃es n dk,h.get? a=some (bM es n)/\DR w S r dk as es.toList/\(as.map (·.1)).Nodup
 B:∀(k:Z) bs a,H.B[k]? = some bs->r.B[k]? = some a->∃b,h.get? a=some (fP b)/\b.toList.map (λu=>(u.toNat:P5))=bs
 I:∀(k:Z) p q,H.I[k]? = some p->r.I[k]? = some q->h.get? q.1=some (QH (CA p.1) q.2)/\∃es n,h.get? q.2=some (bM es n)/\FR w.params S r (cA p.1) p.2 es.toList
structure Inv(w:Qr)(g₀:Qb)(own:V Qa)(r:cS)(H:AH)(h:Qb):Prop where
 keep:∀b o,g₀.get? b=S o->h.get? b=S o/\b∉r.M
 As:r.M.Nodup
 off:∀a∈own,a∉r.M/\g₀.get? a=N
 ex:∀a∈own,∃o,h.get? a=S o
 ey:tq w h r H (Sf h r own)
theorem Inv.no{k:Qr}{G:Qb}{b:V Qa}{x:cS}{y:AH}{B:Qb}(s:Inv k G b x y B){L:Qa}(D:B.get? L=N):L∉b:=λH=>(s.ex L H).elim λz T=>nX (D.symm.trans T)
theorem Inv.Jr{k:Qr}{G:Qb}{b:V Qa}{a:cS}{y:AH}{B x:Qb}(s:Inv k G b a y B)(X:∀E z,B.get? E=S z->x.get? E=S z){L:Qa}(H:L∈b):∃z,x.get? L=S z:=(s.ex L H).elim λz D=>⟨z,X L z D⟩
noncomputable def same(b:V Qa)(E:Qa)(z f:Qs):Prop:=f=z\/(2<=b.count E/\∃c,f={z with slots:=c})
theorem same.refl{b:V Qa}{E:Qa}(z:Qs):same b E z z:=.inl rfl
theorem same.trans{b:V Qa}{M:Qa}{L E A:Qs}(I:same b M L E)(n:same b M E A):same b M L A:=by
 rcases I with rfl|⟨H,c,rfl⟩;·exact n
 ·rcases n with rfl|⟨_,v,rfl⟩;·exact .inr ⟨H,c,rfl⟩
  ·exact .inr ⟨H,v,rfl⟩
theorem same.eq{b:V Qa}{E:Qa}{z f:Qs}(I:same b E z f)(B:E∉b):f=z:=I.elim id λn=>Qp n.1 (by refine R (Vp B) ?_;decide)
theorem same.once{b:V Qa}{E:Qa}{z f:Qs}(I:same b E z f)(B:b.count E<2):f=z:=I.elim id λn=>Qp n.1 (Xp.mpr B)
theorem same.cls{b:V Qa}{E:Qa}{z f:Qs}(I:same b E z f):f.cls=z.cls:=by rcases I with rfl|⟨_,_,rfl⟩<;>rfl
theorem same.data{b:V Qa}{E:Qa}{z f:Qs}(I:same b E z f):f.data=z.data:=by rcases I with rfl|⟨_,_,rfl⟩<;>rfl
structure eY(own fr:V Qa)(r:cS)(h:Qb)(r':cS)(h':Qb):Prop where
 get:∀b o,h.get? b=S o->b∉r.M->b∉fr->b∉r'.M/\∃o',h'.get? b=S o'/\same own b o o'
theorem eY.refl(b C:V Qa)(x:cS)(B:Qb):eY b C x B x B:=⟨λU z D q U=>⟨q,z,D,.refl z⟩⟩
theorem eY.el{P:Prop}{b C:V Qa}{a J:cS}{B x:Qb}(X:eY b C a B J x){E:Qa}{z:Qs}(D:B.get? E=S z)(q:E∉a.M)(r:E∉C)(M:E∉J.M->∀f,x.get? E=S f->same b E z f->P):P:=bT (X.get E z D q r) λn1 Y=>aM Y λo1 T G=>M n1 o1 T G
theorem eY.trans{b C:V Qa}{I n Y:cS}{L E A:Qb}(X:eY b C I L n E)(l:eY b C n E Y A):eY b C I L Y A:=
 ⟨λM z D q r=>by refine hF λv=>X.el D q r λn1 o1 T G=>l.el T n1 r λn2 o2 m o=>v ?_;exact⟨n2,o2,m,G.trans o⟩⟩
theorem eY.less{b a C y:V Qa}{I n:cS}{L E:Qb}(X:eY b C I L n E)(d:∀A∈C,A∈y\/L.get? A=N)(K:∀A,2<=b.count A->2<=a.count A\/L.get? A=N):eY a y I L n E:=
 ⟨λM z D q r=>by refine hF λv=>?_;refine X.el D q (λH=>(d M H).elim r λY=>(by replace Y:=D.symm.trans Y;cases Y)) λn1 o1 T G=>?_;refine v ?_;refine⟨n1,o1,T,G.imp id λn=>⟨(K M n.1).elim id λY=>(by replace Y:=D.symm.trans Y;cases Y),n.2⟩⟩⟩
section
variable{g₀ h h':Qb}{own:V Qa}{r r':cS}{H H':AH}
theorem oE{x:cS}{X:Z}{L:Qa}(B:x.L[X]? = S L):L∈x.M:=Vc _ (Vc _ (Vc _ (Vc _ (Va B))))
theorem hX{x:cS}{X:Z}{L:Qa}(B:x.D[X]? = S L):L∈x.M:=Vc _ (Vc _ (Vc _ (Vf _ (Va B))))
theorem sy{x:cS}{X:Z}{L:Qa}(B:x.B[X]? = S L):L∈x.M:=Vc _ (Vc _ (Vf _ (Va B)))
theorem tr{x:cS}{X:Z}{M:Qa×Qa}(B:x.I[X]? = S M):M.1∈x.M:=Vc _ (Vf _ (Vr (f:=λM:Qa×Qa=>M.1) (Va B)))
theorem mZ{x:cS}{X:Z}{M:Qa×Qa}(B:x.I[X]? = S M):M.2∈x.M:=Vf _ (Vr (f:=λM:Qa×Qa=>M.2) (Va B))
theorem Sf.keep{fr:V Qa}(X:eY own fr r h r' h')(J:∀L∈fr,L∈own\/h.get? L=N){L:Qa}{z:Qs}(d:Sf h r own L z):Sf h' r' own L z:=by refine hO d λG p t=>?_;clear d;refine X.el G p (λH=>(J L H).elim t λY=>by replace Y:=G.symm.trans Y;cases Y) λq f D sm=>?_;clear G p X J;obtain rfl:=sm.eq t;exact gZ D q t
end
end
theorem xQ(d:b.M.Nodup):(b.L.Nodup/\b.D.Nodup/\b.B.Nodup/\(b.I.map (·.1)).Nodup/\(b.I.map (·.2)).Nodup)/\
  (∀L∈b.L,L∉b.D/\L∉b.B/\L∉b.I.map (·.1)/\L∉b.I.map (·.2))/\(∀L∈b.D,L∉b.B/\L∉b.I.map (·.1)/\L∉b.I.map (·.2))/\
  (∀L∈b.B,L∉b.I.map (·.1)/\L∉b.I.map (·.2))/\(∀L∈b.I.map (·.1),L∉b.I.map (·.2)):=by refine hF λa=>?_;refine hO (VI.mp d) λbP n8 n9=>?_;refine hO (VI.mp bP) λLL n6 n7=>?_;refine hO (VI.mp LL) λGk n4 n5=>?_;refine hO (VI.mp Gk) λn1 n2 n3=>?_;refine a ?_;have w:∀{L},L∈b.L->L∈b.L++b.D:=Vc _;have K:∀{L},L∈b.D->L∈b.L++b.D:=Vf _;have X:∀{L},L∈b.L++b.D->L∈b.L++b.D++b.B:=Vc _;have f:∀{L},L∈b.L++b.D++b.B->L∈b.L++b.D++b.B++b.I.map (·.1):=Vc _;exact⟨(LK n1 n2 n4 n6 n8),λL c=>⟨λH=>n3 L c L H rfl,λH=>n5 L (w c) L H rfl,λH=>n7 L (X (w c)) L H rfl,λH=>n9 L (f (X (w c))) L H rfl⟩,λL c=>⟨λH=>n5 L (K c) L H rfl,λH=>n7 L (X (K c)) L H rfl,λH=>n9 L (f (X (K c))) L H rfl⟩,λL c=>⟨λH=>n7 L (Vf _ c) L H rfl,λH=>n9 L (f (Vf _ c)) L H rfl⟩,λL c H=>n9 L (Vf _ c) L H rfl⟩
structure Apart(r:cS)(a:Qa)(kL kD kB kI:O Z):Prop where
 L:∀(j:Z) b,r.L[j]? = S b->S j≠kL->b≠a
 D:∀(j:Z) b,r.D[j]? = S b->S j≠kD->b≠a
 B:∀(j:Z) b,r.B[j]? = S b->S j≠kB->b≠a
 I1:∀(j:Z) q,r.I[j]? = S q->q.1≠a
 I2:∀(j:Z) q,r.I[j]? = S q->S j≠kI->q.2≠a
theorem KS(D:b.I[K]? = S l9):l9.1∈b.I.map (·.1):=Vr (Va D)
theorem KU(D:b.I[K]? = S l9):l9.2∈b.I.map (·.2):=Vr (Va D)
theorem xR{l:V Qa}(q:l.Nodup){i j:Z}(D:l[i]? = S n)(T:l[j]? = S kg)(B:S j≠S i):kg≠n:=by rintro rfl;refine eK (U8.mp D) λg a=>?_;exact B (Ql S ((X7 g q).mp (D.trans T.symm)).symm)
theorem Apart.Oj(a:b.M.Nodup)(D:b.L[H]? = S n):Apart b n (S H) N N N:=by refine hF λi=>?_;refine z' (xQ a) λcQ w K X f=>?_;refine z' cQ λn1 n2 n3 n4 n5=>?_;refine uE (w n (Va D)) λd c j p=>?_;refine i ?_;exact⟨λv E T B=>xR n1 D T B,λv E T U q=>d (q▸Va T),λv E T U q=>c (q▸Va T),λv q T Y=>j (Y▸KS T),λv q T U Y=>p (Y▸KU T)⟩
theorem Apart.Ol(d:b.M.Nodup)(D:b.D[H]? = S n):Apart b n N (S H) N N:=by refine hF λs=>?_;refine z' (xQ d) λeA w K X f=>?_;refine z' eA λn1 n2 n3 n4 n5=>?_;have c:=Va D;refine hO (K n c) λa j p=>?_;refine s ?_;exact⟨λv E T U q=>(w E (Va T)).1 (q▸c),λv E T B=>xR n2 D T B,λv E T U q=>a (q▸Va T),λv q T Y=>j (Y▸KS T),λv q T U Y=>p (Y▸KU T)⟩
theorem Apart.Om(a:b.M.Nodup)(D:b.B[H]? = S n):Apart b n N N (S H) N:=by refine hF λC=>?_;refine z' (xQ a) λeZ w K X f=>?_;refine hF λs=>?_;refine z' eZ λn1 n2 n3 n4 n5=>?_;have c:=Va D;refine bT (X n c) λj p=>?_;refine s ?_;refine C ?_;exact⟨λv E T U q=>(w E (Va T)).2.1 (q▸c),λv E T U q=>(K E (Va T)).1 (q▸c),λv E T B=>xR n3 D T B,λv q T Y=>j (Y▸KS T),λv q T U Y=>p (Y▸KU T)⟩
theorem Apart.Oo(d:b.M.Nodup){q:Qa×Qa}(D:b.I[H]? = S q):Apart b q.2 N N N (S H):=by refine hF λa=>?_;refine z' (xQ d) λg6 w K X f=>?_;refine z' g6 λn1 n2 n3 n4 n5=>?_;have c:=KU D;refine a ?_;refine⟨λv E T U Y=>(w E (Va T)).2.2.2 (Y▸c),λv E T U Y=>(K E (Va T)).2.2 (Y▸c),λv E T U Y=>(X E (Va T)).2 (Y▸c),λv A T Y=>f _ (KS T) (Y▸c),λv A T I=>?_⟩;exact xR (l:=b.I.map (·.2)) n5 (i:=H) (j:=v) (by refine Vb.trans ?_;refine R D ?_;rfl) (by refine Vb.trans ?_;refine R T ?_;rfl) I
theorem Apart.none(q:n∉b.M):Apart b n N N N N:=⟨λU U D U M=>q (M▸oE D),λU U D U M=>q (M▸hX D),λU U D U M=>q (M▸sy D),λU U D M=>q (M▸tr D),λU U D U M=>q (M▸mZ D)⟩
theorem Sf.but{a:Qa}(P:∀kg ak,kg≠a->p.get? kg=S ak->aa.get? kg=S ak)(c:a∈b.M\/a∈g\/p.get? a=N)(d:Sf p b g kg ak):Sf aa b g kg ak:=by
 refine hO d λG e t=>?_;refine gZ (P kg ak (λM=>?_) G) e t;clear P d;subst M;rcases c with I|I|I;·exact e I
 ·exact t I
 ·replace I:=G.symm.trans I;cases I
theorem Inv.but{a0:Qr}{a:Qa}{kL kD kB kI:O Z}(s:Inv a0 e g b k p)(hs:∀E z,E≠a->p.get? E=S z->aa.get? E=S z)(ha:a∈b.M\/a∈g\/p.get? a=N)(P:Apart b a kL kD kB kI)
  (eL:cy.L.length=k.L.length) (eD:cy.D.length=k.D.length) (eB:cy.B.length=k.B.length) (t:cy.I.length=k.I.length)
  (oL:∀v,S v≠kL->cy.L[v]? = k.L[v]?) (oD:∀v,S v≠kD->cy.D[v]? = k.D[v]?) (oB:∀v,S v≠kB->cy.B[v]? = k.B[v]?) (oI:∀v,S v≠kI->cy.I[v]? = k.I[v]?)
  (cL:∀X,kL=S X->∀w,cy.L[X]? = S w->b.L[X]? = S a->∃L q,aa.get? a=S (listOf L q)/\bU a0.params (Sf p b g) b w L.toList)
  (cD:∀X,kD=S X->∀c,cy.D[X]? = S c->b.D[X]? = S a->∃j q n,aa.get? a=S (bM j q)/\DR a0 (Sf p b g) b n c j.toList/\(c.map (·.1)).Nodup)
  (cB:∀X,kB=S X->∀f,cy.B[X]? = S f->b.B[X]? = S a->∃E,aa.get? a=S (fP E)/\E.toList.map (λi=>(i.toNat:P5))=f)
  (cI:∀X,kI=S X->∀P M,cy.I[X]? = S P->b.I[X]? = S M->M.2=a->(∀h,k.I[X]? = S h->P.1=h.1)/\∃j q,aa.get? a=S (bM j q)/\FR a0.params (Sf p b g) b (cA P.1) P.2 j.toList)
  (pL:∀X,kL=S X->b.L[X]? = S a) (pD:∀X,kD=S X->b.D[X]? = S a) (pB:∀X,kB=S X->b.B[X]? = S a) (pI:∀X,kI=S X->∃M,b.I[X]? = S M/\M.2=a) (hx:a∈g->∃z,aa.get? a=S z):Inv a0 e g b cy aa:=by
 have B:∀E z,Sf p b g E z->Sf aa b g E z:=λE z d=>d.but hs ha;have A:=s.ey;refine⟨λE z D=>?_,s.As,s.off,λE H=>?_,⟨A.jP.trans eL.symm,A.lT.trans eD.symm,A.mY.trans eB.symm,A.lU.trans t.symm,λX w E T m=>?_,λX w E T m=>?_,λX w E T m=>?_,λX M y T m=>?_⟩⟩
 ·refine hF λa3=>?_;refine bT (s.keep E z D) λT q=>?_;refine a3 ?_;refine⟨hs E z (λM=>?_) T,q⟩;refine hF λa4=>?_;subst M;rcases ha with I|I|I;·exact q I
  ·have:=(s.off E I).2;replace this:=D.symm.trans this;cases this
  ·replace I:=T.symm.trans I;cases I
 ·by_cases M:E=a;·subst M;exact hx H
  ·refine eK (s.ex E H) λz D=>?_;exact⟨z,hs E z M D⟩
 ·by_cases M:S X=kL;·have Y:=pL X M.symm;refine hF λa2=>?_;obtain rfl:E=a:=VH (m.symm.trans Y);refine cN (cL X M.symm w T m) λL q o C=>?_;refine a2 ?_;exact eP L q o (C.mono B (.refl b))
  ·replace T:=(oL X M).symm.trans T;refine cN (A.L X w E T m) λL q o C=>?_;exact eP L q (hs E _ (P.L X E m M) o) (C.mono B (.refl b))
 ·by_cases M:S X=kD;·have Y:=pD X M.symm;refine hF λx=>?_;obtain rfl:E=a:=VH (m.symm.trans Y);refine eM (cD X M.symm w T m) λL q n o C i=>?_;refine x ?_;exact oS L q n o (C.mono B (.refl b)) i
  ·replace T:=(oD X M).symm.trans T;refine eM (A.D X w E T m) λL q n o C i=>?_;exact oS L q n (hs E _ (P.D X E m M) o) (C.mono B (.refl b)) i
 ·by_cases M:S X=kB;·have Y:=pB X M.symm;refine hF λG=>?_;obtain rfl:E=a:=VH (m.symm.trans Y);refine G ?_;exact cB X M.symm w T m
  ·replace T:=(oB X M).symm.trans T;refine aM (A.B X w E T m) λL o C=>?_;exact ba L (hs E _ (P.B X E m M) o) C
 ·by_cases Y:S X=kI
  ·refine aM (pI X Y.symm) λd' e3 e4=>?_;refine hF λr=>?_;obtain rfl:y=d':=VH (m.symm.trans e3);obtain⟨hc,j,q,o,C⟩:=cI X Y.symm M y T m e4;have J:X<k.I.length:=by refine R t.symm ?_;exact(U8.mp T).1
   have U:=U3 J;refine bT (A.I X _ y U m) λK ε=>?_;refine r ?_;refine R (hc _ U) ?_;rw[hc _ U] at C;exact⟨hs _ _ (P.I1 X y m) K,j,q,e4▸o,C.mono B (.refl b)⟩
  ·rw[oI X Y] at T;refine hF λa1=>?_;obtain⟨K,j,q,l,C⟩:=A.I X M y T m;refine a1 ?_;exact⟨hs _ _ (P.I1 X y m) K,j,q,hs _ _ (P.I2 X y m Y) l,C.mono B (.refl b)⟩
theorem eY.but{a:Qa}(P:∀E z,E≠a->p.get? E=S z->aa.get? E=S z)(c:a∈b.M\/a∈az\/p.get? a=N):eY g az b p b aa:=
 ⟨λE z D q r=>⟨q,z,P E z (λM=>by
  clear P;subst M;rcases c with I|I|I;·exact q I
  ·exact r I
  ·replace I:=D.symm.trans I;cases I) D,.refl z⟩⟩
theorem Inv.loose{d:Qr}{a:Qa}(s:Inv d e g b k p)(P:∀E z,E≠a->p.get? E=S z->aa.get? E=S z)(c:a∈g\/p.get? a=N)(K:a∉b.M)(H:a∈g->∃z,aa.get? a=S z):Inv d e g b k aa:=s.but (kL:=N) (kD:=N) (kB:=N) (kI:=N) P (.inr c) (.none K) rfl rfl rfl rfl (λU U=>rfl) (λU U=>rfl) (λU U=>rfl) (λU U=>rfl) (λU D=>nomatch D) (λU D=>nomatch D) (λU D=>nomatch D) (λU D=>nomatch D) (λU D=>nomatch D) (λU D=>nomatch D) (λU D=>nomatch D) (λU D=>nomatch D) H
theorem Inv.there(s:Inv a e g b k p):∀L∈b.M,∃z,p.get? L=S z:=by
 intro L c;refine hF λd=>?_;have A:=s.ey;simp only[cS.M,Vd,VF] at c;rcases c with(((I|I)|I)|⟨M,I,rfl⟩)|⟨M,I,rfl⟩
 ·refine eK (VZ.mp I) λX D=>?_;have J:X<k.L.length:=by refine R A.jP.symm ?_;exact(U8.mp D).1
  refine cN (A.L X _ L (U3 J) D) λU U o U=>?_;refine d ?_;exact⟨_,o⟩
 ·refine eK (VZ.mp I) λX D=>?_;have J:X<k.D.length:=by refine R A.lT.symm ?_;exact(U8.mp D).1
  refine Aa (A.D X _ L (U3 J) D) λU U U o U=>?_;refine d ?_;exact⟨_,o⟩
 ·refine eK (VZ.mp I) λX D=>?_;have J:X<k.B.length:=by refine R A.mY.symm ?_;exact(U8.mp D).1
  refine aM (A.B X _ L (U3 J) D) λU o U=>?_;refine d ?_;exact⟨_,o⟩
 ·refine eK (VZ.mp I) λX D=>?_;have J:X<k.I.length:=by refine R A.lU.symm ?_;exact(U8.mp D).1
  refine d ?_;exact⟨_,(A.I X _ M (U3 J) D).1⟩
 ·refine hF λh=>?_;refine eK (VZ.mp I) λX D=>?_;have J:X<k.I.length:=by refine R A.lU.symm ?_;exact(U8.mp D).1
  obtain⟨_,_,_,o,_⟩:=A.I X _ M (U3 J) D;refine h ?_;refine d ?_;exact⟨_,o⟩
theorem ct(B:Qb):B.get? B.objs.size=N:=by
 induction D:B.get? B.objs.size using U0 with
 |none=>rfl
 |some z=>exact Qp (VV D) (Vk _)
theorem Inv.fresh(s:Inv a e g b k p)(D:p.get? n=N):n∉b.M:=λH=>by refine eK (s.there n H) λz M=>?_;exact nX (D.symm.trans M)
theorem Inv.grow(s:Inv a e g b k p)(P:∀E z,p.get? E=S z->aa.get? E=S z):Inv a e g b k aa:=s.loose (a:=p.objs.size) (λE z U D=>P E z D) (.inr (ct p)) (s.fresh (ct p)) λH=>Qp H (s.no (ct p))
theorem eY.grow(P:∀E z,p.get? E=S z->aa.get? E=S z):eY g az b p b aa:=⟨λE z D q U=>⟨q,z,P E z D,.refl z⟩⟩
theorem Inv.push(s:Inv a e g b k p)(z:Qs):Inv a e g b k (p.push z):=s.grow (λU U D=>U2 z D)
theorem eY.push(z:Qs):eY g az b p b (p.push z):=.grow (λU U D=>U2 z D)
theorem Inv.g0(s:Inv a e g b k p)(D:p.get? n=N):e.get? n=N:=by
 induction M:e.get? n using U0 with
 |none=>rfl
 |some z=>have:=(s.keep n z M).1;exact nX (D.symm.trans this)
theorem Sf.dS{own':V Qa}(d:Sf p b g n ak)(X:∀E∈own',E∈g\/p.get? E=N):Sf p b own' n ak:=(gZ d.1 d.2.1 (λH=>(X n H).elim d.2.2 λY=>(by replace Y:=d.1▸Y;cases Y)))
theorem tq.mono(A:tq a p b k x)(X:∀L z,x L z->gu L z):tq a p b k gu:=⟨A.jP,A.lT,A.mY,A.lU,λr w L T m=>cN (A.L r w L T m) λs q o C=>(eP s q o (C.mono X (.refl b))),λr w L T m=>eM (A.D r w L T m) λs q y o C i=>(oS s q y o (C.mono X (.refl b)) i),A.B,λr P M T m=>bT (A.I r P M T m) λo Y=>⟨o,cN Y λs q G C=>eP s q G (C.mono X (.refl b))⟩⟩
theorem Sf.grow(P:∀E ak,p.get? E=S ak->aa.get? E=S ak)(d:Sf p b g n ak):Sf aa b g n ak:=⟨P _ _ d.1,d.2⟩
theorem tq.grow(A:tq a p b k (Sf p b g))(P:∀E z,p.get? E=S z->aa.get? E=S z):tq a aa b k (Sf aa b g):=⟨A.jP,A.lT,A.mY,A.lU,λr w L T m=>cN (A.L r w L T m) λs q o C=>(eP s q (P _ _ o) (C.mono (λU U d=>d.grow P) (.refl b))),λr w L T m=>eM (A.D r w L T m) λs q y o C i=>(oS s q y (P _ _ o) (C.mono (λU U d=>d.grow P) (.refl b)) i),λr w L T m=>aM (A.B r w L T m) λE o C=>(ba E (P _ _ o) C),λr c M T m=>bT (A.I r c M T m) λo Y=>⟨P _ _ o,cN Y λs q G C=>eP s q (P _ _ G) (C.mono (λU U d=>d.grow P) (.refl b))⟩⟩
theorem Inv.dS{own':V Qa}(s:Inv a e g b k p)(X:∀E∈own',E∈g\/p.get? E=N)(P:∀E z,p.get? E=S z->aa.get? E=S z)(H:∀E∈own',∃z,aa.get? E=S z):Inv a e own' b k aa:=
 have v:=s.grow P
 ⟨v.keep,v.As,λL c=>(X L c).elim (s.off L) λY=>⟨s.fresh Y,s.g0 Y⟩,H,(s.ey.mono λU U d=>d.dS X).grow P⟩
theorem Inv.drop(s:Inv a e g b k p)(X:∀E∈bh,E∈g):Inv a e bh b k p:=⟨s.keep,s.As,λL H=>s.off L (X L H),λL H=>s.ex L (X L H),s.ey.mono λU U d=>d.dS λE H=>.inl (X E H)⟩
theorem Inv.Gm(s:Inv a e g b k p)(D:b.L[H]? = S n)(P:VP n p aa)(o:aa.get? n=S (listOf da q))(C:bU a.params (Sf p b g) b bc da.toList) :
  Inv a e g b {k with L:=k.L.set H bc} aa:=
 s.but (kL:=S H) (kD:=N) (kB:=N) (kI:=N) (λE z M Y=>(P.2 E M).trans Y) (.inl (oE D)) (.Oj s.As D) (by simp) rfl rfl rfl (λv M=>by show(k.L.set H bc)[v]? = _;exact(Vv λY=>M (Ql S Y.symm))) (λU U=>rfl) (λU U=>rfl) (λU U=>rfl) (λr M I T U=>by obtain rfl:=sX M;replace T:(k.L.set H bc)[H]? = S I:=T;rw[Xt] at T;simp at T;obtain⟨_,rfl⟩:=T;exact eP da q o C) (λU D=>nomatch D) (λU D=>nomatch D) (λU D=>nomatch D) (λU M=>by obtain rfl:=sX M;exact D) (λU D=>nomatch D) (λU D=>nomatch D) (λU D=>nomatch D) (λU=>⟨_,o⟩)
variable{bu:DK}{pq:kY}
theorem Inv.Js(s:Inv a e g b k p)(D:b.D[H]? = S n)(P:VP n p aa)(o:aa.get? n=S (bM C q))(c:DR a (Sf p b g) b bu y C.toList)(i:(y.map (·.1)).Nodup) :
  Inv a e g b {k with D:=k.D.set H y} aa:=
 s.but (kL:=N) (kD:=S H) (kB:=N) (kI:=N) (λE z M Y=>(P.2 E M).trans Y) (.inl (hX D)) (.Ol s.As D) rfl (by simp) rfl rfl (λU U=>rfl) (λv M=>by show(k.D.set H y)[v]? = _;exact(Vv λY=>M (Ql S Y.symm))) (λU U=>rfl) (λU U=>rfl) (λU D=>nomatch D) (λr M I T U=>by obtain rfl:=sX M;replace T:(k.D.set H y)[H]? = S I:=T;rw[Xt] at T;simp at T;obtain⟨_,rfl⟩:=T;exact oS C q bu o c i) (λU D=>nomatch D) (λU D=>nomatch D) (λU D=>nomatch D) (λU M=>by obtain rfl:=sX M;exact D) (λU D=>nomatch D) (λU D=>nomatch D) (λU=>⟨_,o⟩)
theorem Inv.setB{f:V P5}(s:Inv a e g b k p)(D:b.B[H]? = S n)(P:VP n p aa)(o:aa.get? n=S (fP ec))(C:ec.toList.map (λi=>(i.toNat:P5))=f) :
  Inv a e g b {k with B:=k.B.set H f} aa:=
 s.but (kL:=N) (kD:=N) (kB:=S H) (kI:=N) (λec z M Y=>(P.2 ec M).trans Y) (.inl (sy D)) (.Om s.As D) rfl rfl (by simp) rfl (λU U=>rfl) (λU U=>rfl) (λv M=>by show(k.B.set H f)[v]? = _;exact(Vv λY=>M (Ql S Y.symm))) (λU U=>rfl) (λU D=>nomatch D) (λU D=>nomatch D) (λr M I T U=>by obtain rfl:=sX M;replace T:(k.B.set H f)[H]? = S I:=T;rw[Xt] at T;simp at T;obtain⟨_,rfl⟩:=T;exact ba ec o C) (λU D=>nomatch D) (λU D=>nomatch D) (λU D=>nomatch D) (λU M=>by obtain rfl:=sX M;exact D) (λU D=>nomatch D) (λU=>⟨_,o⟩)
theorem Inv.LM{f:V Q}(s:Inv a e g b k p)(D:b.I[H]? = S l9)(c:k.I[H]? = S (U,f))(P:VP l9.2 p aa)(o:aa.get? l9.2=S (bM C q))(j:FR a.params (Sf p b g) b (cA U) bc C.toList) :
  Inv a e g b {k with I:=k.I.set H (U,bc)} aa:=
 s.but (kL:=N) (kD:=N) (kB:=N) (kI:=S H) (λE z l9 Y=>(P.2 E l9).trans Y) (.inl (mZ D)) (.Oo s.As D) rfl rfl rfl (by simp) (λd d=>rfl) (λd d=>rfl) (λd d=>rfl) (λv Y=>by show(k.I.set H (U,bc))[v]? = _;exact(Vv λn=>Y (Ql S n.symm))) (λd D=>nomatch D) (λd D=>nomatch D) (λd D=>nomatch D) (λr Y i A T m l=>by clear A m l s P;obtain rfl:=sX Y;replace T:(k.I.set H (U,bc))[H]? = S i:=T;rw[Xt] at T;simp at T;obtain⟨_,rfl⟩:=T;exact⟨λh Y=>by replace Y:=c.symm.trans Y;obtain rfl:=sX Y;rfl,C,q,o,j⟩) (λd D=>nomatch D) (λd D=>nomatch D) (λd D=>nomatch D) (λd Y=>by obtain rfl:=sX Y;exact ba l9 D rfl) (λd=>⟨_,o⟩)
set_option tactic.hygienic true in
theorem dP{l:V G}{I n:G}(D:(l++[I])[H]? = S n):l[H]? = S n\/(H=l.length/\n=I):=by
 replace D:=XD▸D;split at D;·exact .inl D
 ·rename_i M;have J:H - l.length=0:=by
   rcases Z.lt_or_ge 0 (H - l.length) with Y|Y;·exact nX ((VG (by exact Y)).symm.trans D)
   ·exact Z.le_zero.mp Y
  rw[J] at D;exact .inr ⟨Yi (Yx J) (Wo.mp M),(sX D).symm⟩
theorem lV{l:V G}{I n:G}(D:l[H]? = S n):(l++[I])[H]? = S n:=by refine XD.trans ?_;refine R (Qk (U8.mp D).1) ?_;exact D
theorem hY{l:V G}{I:G}:(l++[I])[l.length]? = S I:=XU ..
structure More(r r':cS)(ns:V Qa):Prop where
 perm:r'.M.Perm (ns++r.M)
 le:r.le r'
theorem More.mem(H:More b dz iy):n∈dz.M↔n∈iy\/n∈b.M:=by refine H.perm.mem_iff.trans ?_;exact Vd
theorem More.sf(H:More b dz iy)(r:∀n∈iy,p.get? n=N)(P:∀E ak,p.get? E=S ak->aa.get? E=S ak)(d:Sf p b g n ak):Sf aa dz g n ak:=(gZ (P _ _ d.1) (λY=>(H.mem.mp Y).elim (λY=>by have:=d.1;exact nX ((r n Y)▸this)) d.2.1) d.2.2)
theorem More.inv(H:More b dz iy)(s:Inv a e g b k p)(r:∀L∈iy,p.get? L=N)(d:iy.Nodup)(P:∀E z,p.get? E=S z->aa.get? E=S z)
  (A:tq a aa dz cy (Sf aa dz g)):Inv a e g dz cy aa:=
 ⟨λE z D=>⟨P _ _ (s.keep E z D).1,λY=>(H.mem.mp Y).elim (λY=>by have:=(s.keep E z D).1;exact nX ((r E Y)▸this)) (s.keep E z D).2⟩,H.perm.nodup_iff.mpr (VI.mpr (gZ d s.As (λL c E w M=>by subst M;exact s.fresh (r L c) w))),λL c=>⟨λY=>(H.mem.mp Y).elim (λY=>by obtain⟨z,D⟩:=s.ex L c;exact nX ((r L Y)▸D)) (s.off L c).1,(s.off L c).2⟩,λL c=>s.Jr P c,A⟩
theorem More.keep{own:V Qa}{fr:V Qa}(H:More b dz iy)(r:∀L∈iy,p.get? L=N)(P:∀E z,p.get? E=S z->aa.get? E=S z):eY own fr b p dz aa:=⟨λE z D q U=>⟨λY=>(H.mem.mp Y).elim (λY=>by exact nX ((r E Y)▸D)) q,z,P _ _ D,.refl z⟩⟩
noncomputable def cS.rN(x:cS)(L:Qa):cS:={x with L:=x.L++[L]}
noncomputable def cS.kT(x:cS)(L:Qa):cS:={x with D:=x.D++[L]}
noncomputable def cS.Au(x:cS)(L:Qa):cS:={x with B:=x.B++[L]}
noncomputable def cS.yR(x:cS)(M:Qa×Qa):cS:={x with I:=x.I++[M]}
theorem pl{X k:V G}{L:G}:(X++(k++[L])).Perm (L :: (X++k)):=(VJ X k [L])▸V.perm_append_comm
theorem More.L(x:cS)(L:Qa):More x (x.rN L) [L]:=⟨(((pl (X:=[]).append_right _).append_right _).append_right _).append_right _,⟨λU U D=>lV D,λU U D=>D,λU U D=>D,λU U D=>D⟩⟩
theorem More.D(x:cS)(L:Qa):More x (x.kT L) [L]:=⟨((pl.append_right _).append_right _).append_right _,⟨λU U D=>D,λU U D=>lV D,λU U D=>D,λU U D=>D⟩⟩
theorem More.B(x:cS)(L:Qa):More x (x.Au L) [L]:=⟨(pl.append_right _).append_right _,⟨λU U D=>D,λU U D=>D,λU U D=>lV D,λU U D=>D⟩⟩
theorem More.I(x:cS)(M:Qa×Qa):More x (x.yR M) [M.1,M.2]:=⟨by show(x.L++x.D++x.B++(x.I++[M]).map (·.1)++(x.I++[M]).map (·.2)).Perm _;refine R Vw ?_;refine R Vw ?_;exact((pl.append_right _).trans pl).trans (.swap ..),⟨λU U D=>D,λU U D=>D,λU U D=>D,λU U D=>lV D⟩⟩
theorem Inv.Gn(s:Inv a e g b k p)(r:p.get? n=N)(P:∀E z,p.get? E=S z->aa.get? E=S z)
  (o:aa.get? n=S (listOf da q)) (C:bU a.params (Sf p b g) b bc da.toList):Inv a e g (b.rN n) {k with L:=k.L++[bc]} aa:=by
 have H:=More.L b n;have t:∀E∈[n],p.get? E=N:=λE w=>by refine R (UZ.mp w) ?_;exact r
 have B:∀E z,Sf p b g E z->Sf aa (b.rN n) g E z:=λE z d=>H.sf t P d;have A:=s.ey;refine H.inv s t (Qj rfl) P ⟨by simp[cS.rN,A.jP],A.lT,A.mY,A.lU,λX I E T m=>?_,λX bc E T m=>?_,λX bc E T m=>?_,λX M y T m=>?_⟩
 ·rcases dP T with L|⟨rfl,rfl⟩
  ·rcases dP m with D|⟨rfl,_⟩;·refine cN (A.L X I E L D) λda q o C=>?_;exact eP da q (P _ _ o) (C.mono B H.le)
   ·rw[A.jP,VG (VB _)] at L;cases L
  ·rcases dP m with D|⟨_,rfl⟩;·rw[<-A.jP,VG (VB _)] at D;cases D
   ·exact eP da q o (C.mono B H.le)
 ·refine eM (A.D X bc E T m) λda q y o C i=>?_;exact oS da q y (P _ _ o) (C.mono B H.le) i
 ·refine aM (A.B X bc E T m) λE o C=>?_;exact ba E (P _ _ o) C
 ·obtain⟨o,j,q,G,C⟩:=A.I X M y T m;exact⟨P _ _ o,j,q,P _ _ G,C.mono B H.le⟩
theorem Inv.LN{bs:V P5}{c:Qi Qy}(s:Inv a e g b k p)(r:p.get? n=N)(P:∀E z,p.get? E=S z->aa.get? E=S z)
  (o:aa.get? n=S (fP c)) (C:c.toList.map (λi=>(i.toNat:P5))=bs):Inv a e g (b.Au n) {k with B:=k.B++[bs]} aa:=by
 have H:=More.B b n;have t:∀E∈[n],p.get? E=N:=λE f=>by refine R (UZ.mp f) ?_;exact r
 have B:∀E z,Sf p b g E z->Sf aa (b.Au n) g E z:=λE z d=>H.sf t P d;have A:=s.ey;refine H.inv s t (Qj rfl) P ⟨A.jP,A.lT,by simp[cS.Au,A.mY],A.lU,λX w E T m=>?_,λX w E T m=>?_,λX I E T m=>?_,λX M y T m=>?_⟩;·refine cN (A.L X w E T m) λv q o C=>?_;exact eP v q (P _ _ o) (C.mono B H.le)
 ·refine eM (A.D X w E T m) λv q y o C i=>?_;exact oS v q y (P _ _ o) (C.mono B H.le) i
 ·rcases dP T with L|⟨rfl,rfl⟩
  ·rcases dP m with D|⟨rfl,_⟩;·refine aM (A.B X I E L D) λE o C=>?_;exact ba E (P _ _ o) C
   ·rw[A.mY,VG (VB _)] at L;cases L
  ·rcases dP m with D|⟨_,rfl⟩;·rw[<-A.mY,VG (VB _)] at D;cases D
   ·exact ba c o C
 ·obtain⟨o,j,q,G,C⟩:=A.I X M y T m;exact⟨P _ _ o,j,q,P _ _ G,C.mono B H.le⟩
theorem Res.aP{L:G}{r:G->Res bx}:(Res.ok L).bind r=r L:=rfl
noncomputable def Res.x?{j:Type}:Res j->O (Q×AH)
 |.exc K y=>S (K,y)
 |_=>N
section
variable(w:Qr)(g₀:Qb)(own:V Qa)
structure aQ(fr:V Qa)(r:cS)(s:Qh)(r':cS)(H':AH)(s':Qh):Prop where
 eq:∃h' tk',s'={s with heap:=h',toks:=tk'}
 inv:Inv w g₀ own r' H' s'.heap
 keep:eY own fr r s.heap r' s'.heap
 le:r.le r'
inductive Jt(l:V Qo)(hr:Qb)(ea:Qa)(r':cS)(t:Q)(h:Qb):Prop
 |mk (B:Qb) (a0:P') (oe:Qs) (d:Qa) (es:Qi QD) (n:_) (fw:YN B l ea (.ref (CA .bZ)) a0 h)
  (fb:∀b o,hr.get? b=S o->B.get? b=S o\/(2<=own.count b/\(∃es n,o.data=.dict es n)/\∃sl,h.get? b=S {o with slots:=sl}))
  (y1:h.get? ea=S oe) (y2:oe.dict=S d) (y3:d≠ea) (y4:B.get? d=S (bM es n)) (y5:d∉r'.M) (y6:d∉own) (y7:FR w.params (Sf hr r' own) r' (cA .bZ) [t] es.toList) (f0:hr.get? ea=N) (f1:ea∉r'.M) (f2:ea∉own) (f3:g₀.get? ea=N)
inductive lQ(fr:V Qa)(l:V Qo)(r:cS)(s:Qh)(t:Q)(H':AH):P'->Qh->Prop
 |mk (own':V Qa) (r':cS) (hr:Qb) (ea:Qa) (h':Qb) (tk':Z) (z1:∀a∈own,a∈own') (z2:∀c,2<=own'.count c->2<=own.count c\/s.heap.get? c=N) (z3:Inv w g₀ own' r' H' hr) (z4:eY own fr r s.heap r' hr) (z5:r.le r') (z6:s.heap.get? ea=N) (z7:Jt w g₀ own' l hr ea r' t h'):lQ fr l r s t H' (.ref ea) {s with heap:=h',toks:=tk'}
abbrev Rel(j a:Type):=SP->cS->j->a->Prop
noncomputable def QQ{j a:Type}(p:Rel j a)(C:V Qa)(I:Res (j×AH))(x:cS)(d:Qh):a->Qh->Prop:=λE m=>∃L v J,I=.ok (L,v)/\aQ w g₀ own C x d J v m/\p (Sf m.heap J own) J L E
noncomputable def EE(l:V Qo)(I:O (Q×AH))(x:cS)(d:Qh):P'->Qh->Prop:=λT m=>∃K v,I=S (K,v)/\lQ w g₀ own [] l x d K v T m
noncomputable def mV(y:Q0)(J:QB)(l:V Qo){j a:Type}(p:Rel j a)(K:Qt a)(I:Res (j×AH))(x:cS)(d:Qh):Prop:=I≠.bad->Qf y J K (QQ w g₀ own p [] I x d) (EE w g₀ own l I.x? x d) d
end
theorem cS.le.mem(X:b.le dz)(H:n∈b.M):n∈dz.M:=by
 simp only[cS.M,Vd,VF] at H;rcases H with(((I|I)|I)|⟨M,I,rfl⟩)|⟨M,I,rfl⟩<;>obtain⟨s,D⟩:=VZ.mp I;·exact oE (X.L _ _ D)
 ·exact hX (X.D _ _ D)
 ·exact sy (X.B _ _ D)
 ·exact tr (X.I _ _ D)
 ·exact mZ (X.I _ _ D)
theorem aQ.refl(s:Inv a e g b k d.heap):aQ a e g az b d b k d:=⟨⟨d.heap,d.toks,rfl⟩,s,.refl ..,.refl _⟩
theorem aQ.trans(I:aQ a e g az b d aq cu ay)(n:aQ a e g az aq ay qo rp rq):aQ a e g az b d qo rp rq:=by refine rC I.eq λB K bP=>?_;subst bP;refine rC n.eq λx y cQ=>?_;subst cQ;exact⟨⟨x,y,rfl⟩,n.inv,I.keep.trans n.keep,I.le.trans n.le⟩
theorem aQ.less(I:aQ a e g az b d aq cu ay)(X:∀A∈az,A∈jd\/d.heap.get? A=N):aQ a e g jd b d aq cu ay:=⟨I.eq,I.inv,I.keep.less X λU H=>.inl H,I.le⟩
theorem aQ.wide{fr:V Qa}(I:aQ a e g [] b d aq cu ay):aQ a e g fr b d aq cu ay:=I.less λU H=>nomatch H
theorem aQ.sf(I:aQ a e g az b d aq cu ay)(J:∀n∈az,n∈g\/d.heap.get? n=N)(c:Sf d.heap b g n ak):Sf ay.heap aq g n ak:=c.keep I.keep J
theorem aQ.Ju(I:aQ a e g [] b d aq cu ay)(c:Sf d.heap b g n ak):Sf ay.heap aq g n ak:=c.keep I.keep λU H=>nomatch H
theorem aQ.vr(I:aQ a e g [] b d aq cu ay)(n:VR a.params (Sf d.heap b g) b m ag):VR a.params (Sf ay.heap aq g) aq m ag:=n.mono (λU U Y=>I.Ju Y) I.le
theorem aQ.Gp(I:aQ a e g [] b d aq cu ay)(n:bU a.params (Sf d.heap b g) b jh q9):bU a.params (Sf ay.heap aq g) aq jh q9:=n.mono (λU U Y=>I.Ju Y) I.le
theorem aQ.at{P:Z}(I:aQ a e g az b d aq cu {d with heap:=aa,toks:=P}):Inv a e g aq cu aa:=I.inv
theorem aQ.mk'{own:V Qa}{fr:V Qa}{s:Qh}{tk':Z}(c:Inv a e own aq cu aa)(X:eY own fr b s.heap aq aa)(D:b.le aq):aQ a e own fr b s aq cu {s with heap:=aa,toks:=tk'}:=⟨⟨_,_,rfl⟩,c,X,D⟩
theorem aQ.grown{s:Qh}(c:Inv a e g b k s.heap){tk':Z}(X:∀E z,s.heap.get? E=S z->aa.get? E=S z):aQ a e g az b s b k {s with heap:=aa,toks:=tk'}:=.mk' (c.grow X) (.grow X) (.refl b)
theorem aQ.tok(s:Inv a e g b k d.heap){tk':Z}:aQ a e g az b d b k {d with toks:=tk'}:=.mk' s (.refl ..) (.refl b)
theorem Jt.el{P:Prop}(I:Jt a e g l kz mh b gg p)(X:∀(K:Qb) (C:P') (d:Qs) (y:Qa) (j:Qi QD) (q:_),YN K l mh (.ref (CA .bZ)) C p->
  (∀E z,kz.get? E=S z->K.get? E=S z\/(2<=g.count E/\(∃j q,z.data=.dict j q)/\∃c,p.get? E=S {z with slots:=c}))->
  p.get? mh=S d->d.dict=S y->y≠mh->K.get? y=S (bM j q)->y∉b.M->y∉g->FR a.params (Sf kz b g) b (cA .bZ) [gg] j.toList->kz.get? mh=N->mh∉b.M->mh∉g->e.get? mh=N->P):P:=by induction I using Jt.casesOn;exact X _ _ _ _ _ _ fw fb y1 y2 y3 y4 y5 y6 y7 f0 f1 f2 f3
@[elab_as_elim]theorem lQ.el{c:Qr}{G:Qb}{b:V Qa}{C:V Qa}{e:cS}{d:Qh}{l:V Qo}{P:P'->Qh->Prop}{t:Q}{H':AH}{e':P'}{s':Qh}(x:lQ c G b C l e d t H' e' s')(k:∀M J n r a f,(∀L∈b,L∈M)->(∀A,2<=M.count A->2<=b.count A\/d.heap.get? A=N)->Inv c G M J H' n->eY b C e d.heap J n->e.le J->d.heap.get? r=N->Jt c G M l n r J t a->P (.ref r) {d with heap:=a,toks:=f}):P e' s':=by induction x using lQ.casesOn;exact k _ _ _ _ _ _ z1 z2 z3 z4 z5 z6 z7
theorem lQ.map{f h:V Qa}{h1:Qb}{tk1:Z}(I:lQ a e f h l mj {d with heap:=h1,toks:=tk1} gg cy db cm)(L:∀A∈g,A∈f)(E:∀A,2<=f.count A->2<=g.count A\/d.heap.get? A=N)(q:∀A,h1.get? A=N->d.heap.get? A=N)(X:∀J n,eY f h mj h1 J n->eY g az b d.heap J n)(D:b.le mj):lQ a e g az l b d gg cy db cm:=lQ.el (P:=λdb cm=>lQ a e g az l b d gg cy db cm) I λM J n r x i j k m w v U c=>.mk M J n r x i (λA H=>j A (L A H)) (λA H=>(k A H).elim (E A) λY=>.inr (q A Y)) m (X _ _ w) (D.trans v) (q r U) c
theorem lQ.pre(z:aQ a e g az b d aq cu ay)(J:∀h∈az,h∈g)(I:lQ a e g az l aq ay gg cy db cm):lQ a e g az l b d gg cy db cm:=by
 refine rC z.eq λG t L=>?_;subst L;refine I.map (λU H=>H) (λU H=>.inl H) (λA w=>?_) (λU U X=>z.keep.trans X) z.le;induction M:d.heap.get? A using U0 with
 |none=>rfl
 |some c=>
  by_cases H:A∈b.M;·exact eK (z.inv.there A (z.le.mem H)) λf db=>nX (w.symm.trans db)
  ·by_cases q:A∈az;·exact eK (z.inv.ex A (J A q)) λf db=>nX (w.symm.trans db)
   ·exact z.keep.el M H q λU f db U=>nX (w.symm.trans db)
theorem EE.no(M:EE a e g l N b d db cm):af:=cN M λK v Y U=>nX Y
theorem mV.dX{p:Rel G bx}{K:Qt bx}{n:Res (G×AH)}{r:G×AH->Res (pi×AH)}{i:bx->Qh->Prop}(B:mV a e g T f l p K n aq ay)(z:aQ a e g [] b d aq cu ay)
  (X:∀L s H o E,n=.ok (L,s)->aQ a e g [] b d H s o->aQ a e g [] aq ay H s o->p (Sf o.heap H g) H L E->r (L,s)≠.bad->i E o) (w:n.bind r≠.bad) :
  Qf T f K i (EE a e g l (n.bind r).x? b d) ay:=by
 refine Qq (B (λq=>w (by refine(bL q).trans ?_;rfl))) (λE m q=>?_) λh m q=>?_;·refine eM q λL s H eZ o2 C=>?_;clear B;subst eZ;exact X L s H m E rfl (z.trans o2) o2 C w
 ·refine cN q λK v D Y=>hF λx=>?_
  clear q B X w
  induction n using Zq with
  |ok L=>exact nX D
  |bad=>exact nX D
  |exc y j=>obtain⟨rfl,rfl⟩:=sP D;exact x (eP _ _ rfl (Y.pre z λU c=>nomatch c))
theorem QQ.pre{p:Rel G bx}{I:Res (G×AH)}{E:bx}(z:aQ a e g az b d aq cu ay)(M:QQ a e g p az I aq ay E cm):QQ a e g p az I b d E cm:=eM M λL v J D f C=>oS L v J D (z.trans f) C
theorem EE.pre(z:aQ a e g [] b d aq cu ay)(M:EE a e g l iz aq ay db cm):EE a e g l iz b d db cm:=cN M λK v D Y=>eP K v D (Y.pre z λU H=>nomatch H)
theorem mV.lift{p:Rel G bx}{K:Qt bx}{I:Res (G×AH)}(B:mV a e g T f l p K I aq ay)(z:aQ a e g [] b d aq cu ay)(t:I≠.bad):Qf T f K (QQ a e g p [] I b d) (EE a e g l I.x? b d) ay:=Qq (B t) (λU U M=>M.pre z) λU U M=>M.pre z
theorem QQ.ok{α:Type}{p:Rel α bx}{L:α}{E:bx}{r':cS}(z:aQ a e g az b d r' cy cm)(C:p (Sf cm.heap r' g) r' L E):QQ a e g p az (.ok (L,cy)) b d E cm:=(oS L cy r' rfl z C)
structure dI(l:V Qo)(own fr:V Qa)(h:Qb):Prop where
 all:∀e∈l,e.scope.kind≠.module/\∃L o es n,e.frame=S L/\2<=own.count L/\L∉fr/\h.get? L=S o/\o.data=.dict es n
theorem dI.el{P:Prop}{D:Qo}(I:dI l g az p)(H:D∈l)(X:D.scope.kind≠.module->∀x z j q,D.frame=S x->2<=g.count x->x∉az->p.get? x=S z->z.data=.dict j q->P):P:=by obtain⟨L,x,z,j,q,E,A,y,o,M⟩:=I.all D H;exact X L x z j q E A y o M
theorem dI.keep{own:V Qa}{fr:V Qa}(I:dI l own fr d.heap)(s:Inv a e own b k d.heap)(z:aQ a e own fr b d aq cu ay):dI l own fr ay.heap:=
 ⟨λD H=>by refine hF λv=>I.el H λX x B j q r w K o y=>z.keep.el o (s.off x (Vz.mp (n4 w rfl))).1 K λU f G Y=>?_;refine v ?_;exact⟨X,x,f,j,q,r,w,K,G,Y.data.trans y⟩⟩
structure bt(own:V Qa)(env:Qo)(sl:V (O Qc)):Prop where
 kind:env.scope.kind=.function
 glob:env.globals=QO
 blt:env.builtins=TU
 loc:env.locals∈own
 mW:∀x c,env.cells.lookup x=S c->c∈own/\c≠env.locals
 Dd:∀a∈env.cells.map (·.2),a∈own
 inj:∀x y c,env.cells.lookup x=S c->env.cells.lookup y=S c->x=y
 IV:∀(i j:Z) x,sl[i]? = S (S x)->sl[j]? = S (S x)->i=j
 has:∀(j:Z) x,sl[j]? = S (S x)->env.kindOf x=S .cell\/env.kindOf x=S .free->∃c,env.cells.lookup x=S c
structure yS(w:Qr)(own:V Qa)(env:Qo)(sl:V (O Qc))(loc:Loc)(r:cS)(h:Qb):Prop where
 ns:∃m,h.Ns env.locals m/\∀(j:Z) x v,sl[j]? = S (S x)->loc[j]? = S (S v)->env.kindOf x=S .local->∃v',m x=S v'/\VR w.params (Sf h r own) r v v'
 mW:∀x c,env.cells.lookup x=S c->∃ov,h.IsCell c ov/\∀(j:Z) v,sl[j]? = S (S x)->loc[j]? = S (S v)->env.kindOf x=S .cell\/env.kindOf x=S .free->∃v',ov=S v'/\VR w.params (Sf h r own) r v v'
 len:loc.length=sl.length
theorem yS.keep{own:V Qa}(p:bt own c j)(s:Inv a e own b k d.heap)(r:yS a own c j w b d.heap)(z:aQ a e own [] b d aq cu ay):yS a own c j w aq ay.heap:=by
 refine⟨?_,λI A D=>?_,r.len⟩;·refine aM r.ns λH bP X=>hF λn=>eM bP λB g x o y Y=>z.keep.el o (s.off _ p.loc).1 (λH=>nomatch H) λU f G q=>n (ba H (oS f g x G (q.data.trans y) Y) (λv I C T m l=>?_));exact aM (X v I C T m l) λt L E=>ba t L (z.vr E)
 ·refine aM (r.mW I A D) λh cQ X=>hF λi=>aM cQ λB o y=>z.keep.el o (s.off _ (p.mW I A D).1).1 (λH=>nomatch H) λU f G q=>i (ba h (ba f G (q.data.trans y)) (λv C T m l=>?_));exact aM (X v C T m l) λt L E=>ba t L (z.vr E)
structure St(w:Qr)(g₀:Qb)(own:V Qa)(l:V Qo)(env:Qo)(sl:V (O Qc))(r:cS)(H:AH)(loc:Loc)(s:Qh):Prop where
 inv:Inv w g₀ own r H s.heap
 eW:yS w own env sl loc r s.heap
 live:dI l own [] s.heap
theorem St.on{s:Qh}(n:St a e g l c j b k w s)(p:bt g c j)(z:aQ a e g [] b s aq cu ay):St a e g l c j aq cu w ay:=⟨z.inv,n.eW.keep p n.inv z,n.live.keep n.inv z⟩
abbrev pT(k:Qr):Rel Q P':=λB x L C=>VR k.params B x L C
abbrev LP(k:Qr):Rel (V Q) (V P'):=λB x L C=>bU k.params B x L C
abbrev Oq(j:Type):Rel j j:=λU U L E=>L=E
noncomputable def SE(o:Qz)(k:Qr)(G:Qb)(l:V Qo)(P:Qo)(c:V (O Qc))(J:QB)(f:CF)(D:LE)(T:P9):Prop:=∀b x y d g,bt b P c->St k G b l P c x y g d->mV k G b (Qe o k) J l (pT k) (eval T P) (aO f D g y) x d
noncomputable def rD(f:CF)(D:LE)(g:Loc)(y:AH):Res (P6×AH):=(aO f D g y).bind λx=>match truthy x.1 with
 |some E=>.ok (E,x.2)
 |none=>.bad
noncomputable def ST(o:Qz)(k:Qr)(G:Qb)(l:V Qo)(P:Qo)(c:V (O Qc))(J:QB)(f:CF)(D:LE)(T:P9):Prop:=∀b x y d g,bt b P c->St k G b l P c x y g d->mV k G b (Qe o k) J l (Oq P6) (isTrue T P (eval T P)) (rD f D g y) x d
theorem yT(I:P5)(H:0<oy)(G:oy<2 ^ 30):QM.divisionGoesByPylong I oy=P8:=by refine Yy.mpr (.inl (QJ ?_));show¬(if(oy==0)=P4 then 0 else oy.natAbs.log2 / 30+1)>300;refine R (RY (Yc H)) ?_;refine R (Z.div_eq_of_lt ((Z.log2_lt (P5.natAbs_ne_zero.mpr (Yc H))).mpr (P5.natAbs_lt_natAbs_of_nonneg_of_lt (YO H) G))) ?_;decide
noncomputable def Av:E7->Sy
 |.add=>.Add|.sub=>.Sub|.mul=>.Mult|.fdiv=>.FloorDiv|.mod=>.Mod|.pow=>.Pow
theorem SE.oO:SE h a e l c j f i .oO (.Constant .none H J):=λb x y d g p n t=>Constant_none (.ok (.refl n.inv) .none)
theorem SE.uB:SE h a e l c j f i (.uB fe) (.Constant (.bool fe) H J):=λb x y d g p n t=>Constant_bool (.ok (.refl n.inv) (.bool fe))
theorem SE.int:SE h a e l c j f i (.int gz) (.Constant (.int gz) H J):=λb x y d g p n t=>wpAny_Constant_int (.ok (.tok n.inv) (.int gz _))
theorem SE.str(E:K<NS):SE h a e l c j f i (.str K) (.Constant (.str (sx K)) H J):=λb x y d g p n t=>PySem.Calls.Constant_str (.ok (.tok n.inv) (.str K _ E))
theorem SE.name(P:j[K]? = S (S r))(k:c.kindOf r=S .local\/c.kindOf r=S .cell\/c.kindOf r=S .free)(w:(r==("__debug__":Qc))=P8)(s:(r==("__classdict__":Qc))=P8) :
  SE h a e l c j f i (.var K) (.Name r J):=by
 intro b x L d g m n t;replace t:=lH▸t;refine R lH ?_;induction D:g[K]? using U0 with
 |none=>exact bX (D▸t)
 |some y=>
  induction y using U0 with
  |none=>exact bX (D▸t)
  |some C=>
   refine Sb ?_ w;rcases k with k|k;·exact hF λv=>aM n.eW.ns λH E o=>aM (o K r C P D k) λB G p=>v (Sd m.kind k E G (.ok (.refl n.inv) p))
   ·refine eK (m.has K r P k) λA z=>aM (n.eW.mW r A z) λy I o=>aM (o K C P D k) λB eA p=>?_;clear o t P w;subst eA;rcases k with k|k;·exact Uy m.kind k z I (.ok (.refl n.inv) p)
    ·exact Uz m.kind k z I (.ok (.refl n.inv) p) s
theorem mV.binI{I:P5}(s:Inv a e g b k d.heap)(D:cK je (.int I) (.int oy)=S bg):Qf (Qe h a) f (binaryOp (Av je) (.int I j3) (.int oy pj)) (QQ a e g (pT a) [] (.ok (bg,k)) b d) t d:=by
 have p:∀I,bg=.int I->QQ a e g (pT a) [] (.ok (bg,k)) b d (.int I d.toks) {d with toks:=d.toks+1}:=λI D=>D▸.ok (.tok s) (.int I _);induction je using E7.casesOn with
 |add=>exact PySem.AutoIntOps.add_0 (p _ (sX D).symm)
 |sub=>exact PySem.AutoIntOps.sub_0 (p _ (sX D).symm)
 |mul=>refine dB D (λq D=>?_) λU D=>nX D;exact Aq q λL c U U=>PySem.AutoIntOps.mul_0 (p _ (sX D).symm) (PySem.IntMulOk.of_left (PySem.intBits_le_64 (WT (show -(2 ^ 64)<(0:P5) by decide) (Qj L)) (WT (Qj c) (show(2 ^ 30:P5)<=2 ^ 64 by decide))))
 |fdiv=>refine dB D (λq D=>?_) λU D=>nX D;refine bT (Vi.mp q) λL c=>?_;have L:=Qj L;exact PySem.AutoIntOps.floordiv_1 (UA (RY (Yc L))) (by refine R (yT I L (Qj c)) ?_;decide) (p _ (sX D).symm)
 |mod=>refine dB D (λq D=>?_) λU D=>nX D;exact PySem.AutoIntOps.mod_1 (UA (RY (Yc (Qj q)))) (p _ (sX D).symm)
 |pow=>refine dB D (λq D=>?_) λU D=>nX D;refine bT q λeZ g6=>?_;clear q s;subst eZ;subst g6;exact PySem.AutoIntOps.pow_4 (by decide) (by decide) (by decide) (by decide) (by decide +kernel) (p _ (sX D).symm)
theorem mV.bin{l:V Qo}{x:cS}{b:Q}(s:Inv a e g x k d.heap)(c:VR a.params (Sf d.heap x g) x m dv)(w:VR a.params (Sf d.heap x g) x b ja) :
  mV a e g (Qe h a) f l (pT a) (binaryOp (Av je) dv ja) (match cK je m b with|some C=>.ok (C,k)|none=>.bad) x d:=by
 intro t;induction D:cK je m b using U0 with
 |none=>exact bX (D▸t)
 |some C=>
  clear t
  induction m using Zp with
  |int I=>
   induction b using Zp with
   |int p=>obtain⟨K,rfl⟩:=c.inv;obtain⟨r,rfl⟩:=w.inv;exact mV.binI s D
   |_=>exact nX D
  |lst I=>induction b using Zp with
   |lst p=>
    refine eM c.inv λm items n lR i A=>?_
    clear c
    subst lR
    refine eM w.inv λb items2 H m3 o j=>?_
    clear w
    subst m3
    induction je using E7.casesOn with
    |add=>
     refine dB D (λq D=>?_) λU D=>nX D;refine PySem.P.add_list (l:=m) (b:=b) (items:=items) (n:=n) (items2:=items2) (n2:=H) i.1 o.1 (sX D▸.ok (.grown s λb je D=>U2 _ D) ?_) (by have:Q2=_:=Q';exact(A.len.trans U')▸(j.len.trans U')▸Wl (n1 (Qj q) rfl));refine .lst _ _ (items++items2) 0 ⟨Vs _ rfl,s.fresh (ct _),λH=>?_⟩ ?_;·exact Qp H (s.no (ct d.heap))
     ·exact R Qi.toList_append ((A.append j).mono (λm je Y=>Y.grow λb je D=>U2 _ D) (.refl x))
    |_=>exact nX D
   |_=>exact nX D
  |_=>exact nX D
theorem SE.bin(v:SE h a e l c j f i bk ao)(I:SE h a e l c j f i cz s)
  (k:qp=Av je):SE h a e l c j f i (.bin je bk cz) (.BinOp ao qp s J):=by intro b x y d g p n t;refine R k (R Al (wpAny_BinOp ((v b x y d g p n).dX (.refl n.inv) (λbk z X G Y T o1 A r D=>?_) t)));refine R T (R Res.aP ?_);refine(I b X z G g p (n.on p o1)).dX o1 (λcz q H o U m o2 M w P=>?_) D;exact R m ((mV.bin o2.inv (M.vr r) w).lift o2 P)
open PySem.SeqAt
theorem m7(g:aj<NS)(E:K<NS):(sx aj==sx K)=(aj==K):=by
 by_cases B:aj=K;·refine R B ?_;simp
 ·have:sx aj≠sx K:=λD=>B (wh g E D);refine(RK.mpr this).trans ?_;refine R (RK.mpr B) rfl
theorem yU{L:V Qy}(B:L.map V1=nj.map V1):L=nj:=by
 induction L generalizing nj with
 |nil=>cases nj with|nil=>rfl|cons _ _=>cases B
 |cons I L k=>induction nj using U5 with
  |nil=>simp at B
  |cons n nj=>simp only[Vt,V.cons.injEq] at B;refine R (Qy.toNat_inj.mp B.1) ?_;refine R (k B.2) rfl
theorem tu{L:Qi Qy}{H:V Z}(c:L.toList.map V1=jr)(w:ec.toList.map V1=H):(Qd (L.toList=ec.toList))=(jr==H):=by
 subst c;subst w;by_cases B:L.toList=ec.toList;·simp[B]
 ·have:¬L.toList.map V1=ec.toList.map V1:=λD=>B (yU D);refine(QJ B).trans ?_;rw[RK.mpr this]
inductive IW:Q->Q->P6->Prop
 |none:IW .none .none P4
 |bool (x y:P6):IW (.bool x) (.bool y) (x==y)
 |int (x y:P5):IW (.int x) (.int y) (Qd (x=y))
 |str (x y:Z):IW (.str x) (.str y) (x==y)
 |bH (x y:V Z):IW (.bH x) (.bH y) (x==y)
theorem Aw(D:E8 m bp=S au):IW m bp au:=by
 induction m using Zp with
 |none=>induction bp using Zp with|none=>exact sX D▸.none|_=>exact nX D
 |bool I=>induction bp using Zp with|bool n=>exact sX D▸.bool I n|_=>exact nX D
 |int I=>induction bp using Zp with|int n=>exact sX D▸.int I n|_=>exact nX D
 |str I=>induction bp using Zp with|str n=>exact sX D▸.str I n|_=>exact nX D
 |bH I=>induction bp using Zp with|bH n=>exact sX D▸.bH I n|_=>exact nX D
 |_=>exact nX D
theorem tw{A:QB}{s:Qh}(c:VR Y x b m g4)(w:VR Y x b bp ag)(D:E8 m bp=S au) :
  RcAt A s g4 ag au/\RcNeAt A s g4 ag (!au)/\EqAt A s g4 ag au:=by
 have i:=c.inv;have e:=w.inv;clear c w;cases Aw D with
 |none=>obtain rfl:=i;obtain rfl:=e;exact gZ RcAt.none_none RcNeAt.none_none (EqAt.same _)
 |bool I n=>obtain rfl:=i;obtain rfl:=e;exact gZ (RcAt.bool_bool _ _) (RcNeAt.bool_bool _ _) (EqAt.bool_bool _ _)
 |int I n=>obtain⟨_,rfl⟩:=i;obtain⟨_,rfl⟩:=e;exact gZ (RcAt.int_int _ _ _ _) (RcNeAt.int_int _ _ _ _) (EqAt.int_int _ _ _ _)
 |str I n=>exact aM i λU Jv g=>R Jv (aM e λU Ax E=>R Ax (m7 g E▸(gZ (RcAt.str_str _ _ _ _) (RcNeAt.str_str _ _ _ _) (EqAt.str_str _ _ _ _))))
 |bH l d=>refine cN i λI U Ay H=>?_;clear i D;subst Ay;refine cN e λn U uP J=>?_;clear e;subst uP;have M:=(P6.beq_eq_decide_eq _ _).trans (tu H J);exact gZ (λo k T a B=>PySem.W.eq_bytes (M▸B)) (λo k T a B=>PySem.W.ne_bytes (show a (.bool !(I.toList==n.toList)) s from M▸B)) (λo k T a B=>PySem.W.eqBool_bytes (tu H J▸B))
theorem VR.at(c:VR Y x b m ag)(w:VR Y x b bp ag)(D:E8 m bp=S au):au=P4:=by
 have i:=c.inv;have e:=w.inv;clear c w;cases Aw D with
 |none=>rfl
 |bool I n=>exact Ra.mpr (P'.bool.inj (Eq.trans (Eq.symm i) e))
 |int I n=>obtain⟨_,i⟩:=i;obtain⟨_,e⟩:=e;exact Qu (P'.int.inj (i.symm.trans e)).1
 |str I n=>obtain⟨_,i,g⟩:=i;obtain⟨_,e,E⟩:=e;exact Ra.mpr (wh g E (P'.str.inj (i.symm.trans e)).1)
 |bH l a=>obtain⟨I,_,i,H⟩:=i;obtain⟨n,_,e,J⟩:=e;exact Ra.mpr (H▸J▸(P'.bytes.inj (i.symm.trans e)).1▸rfl)
theorem De{P M:O P6}(D:(match P,M with|some I,S n=>S (I&&n)|_,_=>N)=S au):∃I n,P=S I/\M=S n/\(I&&n)=au:=by
 induction P using U0 with
 |none=>exact nX D
 |some I=>induction M using U0 with
  |none=>exact nX D
  |some n=>exact uK I n rfl rfl (sX D)
theorem bU.at:∀{f:V Q} {w:V P'} {A:P6},bU Y x b z w->bU Y x b f w->uJ z f=S A->A=P4:=by
 induction z with
 |nil=>intro f w A G p D;induction f using U5 with
  |nil=>exact(sX D).symm
  |cons _ _=>exact nX D
 |cons L z k=>
  intro f w A G p D
  induction f using U5 with
  |nil=>exact nX D
  |cons E f=>refine rL G.inv λC e bP d c=>?_;clear G;subst bP;refine rL p.inv λU U q s a=>bT (Xx q) λcQ eA=>?_;clear q p;subst cQ;subst eA;refine rL (De D) λI n T K eZ=>?_;clear D;subst eZ;exact R (d.at s T) ((k c a K).trans rfl)
theorem xS{r:Q->Q->O P6}{g:V Q->V Q->O P6}(H:g [] []=S P4)(G:∀L z,g [] (L :: z)=N)(p:∀L z,g (L :: z) []=N)
  (t:∀L z E f A,g (L :: z) (E :: f)=S A->∃I n,r L E=S I/\g z f=S n/\(I&&n)=A)  :
  ∀{f:V Q} {A:P6},g z f=S A->z.length=f.length/\∃X:Z->P6,A=(Wn z.length).all X/\∀(v:Z) L E,z[v]? = S L->f[v]? = S E->r L E=S (X v):=by
 induction z with
 |nil=>intro f A D;induction f using U5 with
  |nil=>exact⟨rfl,λU=>P4,(sX (H.symm.trans D)).symm,λv L E B=>nX B⟩
  |cons _ _=>exact nX ((G _ _).symm.trans D)
 |cons L z k=>intro f A D;induction f using U5 with
  |nil=>exact nX ((p _ _).symm.trans D)
  |cons E f=>
   refine hF λa=>rL (t _ _ _ _ _ D) λI n b K g6=>?_;clear D H p;subst g6;obtain⟨G,r,rfl,t⟩:=k K;refine a ⟨Ql (· + 1) G,λv=>Vn v I r,?_,λv P q T m=>?_⟩;·exact R V' (R V.range_succ_eq_map (R V.all_cons (R V.all_map rfl)))
   ·induction v using Vn with
    |zero=>exact sX T▸sX m▸b
    |succ v=>exact t v P q T m
theorem Az(D:uJ z mf=S au):z.length=mf.length/\∃X:Z->P6,au=(Wn z.length).all X/\∀(v:Z) L E,z[v]? = S L->mf[v]? = S E->E8 L E=S (X v):=xS (g:=uJ) rfl (λU U=>rfl) (λU U=>rfl) (λU U U U U D=>De D) D
theorem AA(D:v5 z mf=S au):z.length=mf.length/\∃X:Z->P6,au=(Wn z.length).all X/\∀(v:Z) L E,z[v]? = S L->mf[v]? = S E->eqT L E=S (X v):=xS (g:=v5) rfl (λU U=>rfl) (λU U=>rfl) (λU U U U U D=>De D) D
theorem AB(D:eqT m bp=S au):(∃b h,m=.tup b/\bp=.tup h/\uJ b h=S au)\/E8 m bp=S au:=by
 induction m using Zp with
 |tup b=>induction bp using Zp with
  |tup h=>exact .inl (uK b h rfl rfl D)
  |_=>exact .inr D
 |_=>exact .inr D
theorem yV(D:itemsOf k m=S bc):m=.lst bc\/∃X,m=.aE X/\k.L[X]? = S bc:=by
 induction m using Zp with
 |lst e=>exact .inl (sX D▸rfl)
 |aE X=>exact .inr (ba X rfl D)
 |_=>exact nX D
theorem Jw(D:CQ k m bp=S au):(∃b h,itemsOf k m=S b/\itemsOf k bp=S h/\(b.length=h.length/\v5 b h=S au\/b.length≠h.length/\au=P8))\/eqT m bp=S au:=by
 revert D;show(match itemsOf k m,itemsOf k bp with|some I,S n=>C0 I n|none,N=>eqT m bp|_,_=>N)=_->_;generalize itemsOf k m=P;generalize itemsOf k bp=M;induction P using U0 with
 |none=>induction M using U0 with
  |none=>exact .inr
  |some _=>exact nX
 |some b=>induction M using U0 with
  |none=>exact nX
  |some h=>
   intro D;refine .inl (uK b h rfl rfl ?_);by_cases B:b.length=h.length;·exact .inl ⟨B,(Qk B).symm.trans D⟩
   ·exact .inr ⟨B,(sX ((Qm B).symm.trans D)).symm⟩
theorem bU.get'(B:bU Y x b z dm){j:Z}(E:j<dm.length):∃L,z[j]? = S L/\VR Y x b L dm[j]:=by
 refine hF λH=>?_;have h:j<z.length:=by exact Vh E (Vq (B.len).symm)
 refine aM (B.get (U3 h)) λC D P=>?_;replace D:=(U3 E).symm.trans D;obtain rfl:=sX D;exact H (ba _ (U3 h) P)
theorem fk(B:Sf d.heap b g n (Gf da q)):d.heap.IsTuple n da:=⟨_,B.1,rfl,_,rfl⟩
theorem bb{s:Qh}(B:s.heap.get? n=S (listOf da q)):s.heap.IsList n da:=⟨_,B,rfl,_,rfl⟩
theorem AD{h:V Q}{B y:Qi P'}(k:f.units<QG)(H:d.heap.IsTuple n B)(J:d.heap.IsTuple kg y)(i:bU a.params (Sf d.heap b g) b qa B.toList)(U:bU a.params (Sf d.heap b g) b h y.toList)(D:uJ qa h=S au) :
  RcAt f d (.ref n) (.ref kg) au/\RcNeAt f d (.ref n) (.ref kg) (!au):=by
 refine hF λo=>?_;obtain⟨G,r,p,t⟩:=Az D;have s:B.size=y.size:=by exact U'.symm.trans (R U'.symm (i.len.symm.trans (R U.len.symm G)))
 have K:qa.length=B.size:=by exact i.len.trans U'
 have j:=λv L q=>by refine hF λc=>aM (i.get' (j:=v) L) λP T l=>?_;refine aM (U.get' (j:=v) q) λM m w=>?_;refine c ?_;simpa using(tw (A:=f.in1) (s:=d) l w (t v P M T m)).2.2
 have X:=RcAt.tuples H J k j;have e:=RcNeAt.tuples H J k j;have M:((Wn (min B.size y.size)).all r&&B.size==y.size)=au:=by refine R s.symm ?_;refine R (Z.min_self ..) ?_;refine R p ?_;refine R K ?_;simp
 rw[M] at X e;exact o ⟨X,e⟩
theorem Gq{A:QB}(k:A.units<QG)(c:VR a.params (Sf d.heap b g) b m g4)(w:VR a.params (Sf d.heap b g) b bp ag)(D:eqT m bp=S au):EqAt A d g4 ag au:=by
 refine hF λf=>?_;rcases AB D with⟨e,h,rfl,rfl,D⟩|D
 ·refine eM c.inv λI B j m3 sx i=>?_;subst m3;refine eM w.inv λn y H pU o U=>?_;subst pU;by_cases q:I=n;·subst q;have:=sx.1.symm.trans o.1;injection this with this;injection this with _ _ this;injection this with this;subst this;refine f ?_;exact R (i.at U D) (EqAt.same _)
  ·exact f (EqAt.of_refs q (AD k (fk sx) (fk o) i U D).1)
 ·exact f ((tw c w D).2.2)
theorem pV(s:Inv a e g b k d.heap)(c:VR a.params (Sf d.heap b g) b m ag)(D:itemsOf k m=S bc) :
  ∃I v f,ag=.ref I/\d.heap.get? I=S (listOf v f)/\bU a.params (Sf d.heap b g) b bc v.toList:=by
 refine hF λh=>?_;rcases yV D with rfl|⟨X,rfl,D⟩;·refine eM c.inv λm v f wi i A=>?_;subst wi;exact h (oS _ v f rfl i.1 A)
 ·refine aM c.inv λm lJ J=>?_;clear c;subst lJ;exact cN (s.ey.L X bc m D J) λv f o A=>h (oS m v f rfl o A)
theorem AE(s:Inv a e g b k d.heap)(M:f.units+64<QG)(x:VR a.params (Sf d.heap b g) b m g4)(w:VR a.params (Sf d.heap b g) b bp ag)(D:CQ k m bp=S au) :
  RcAt f d g4 ag au/\RcNeAt f d g4 ag (!au):=by
 refine hF λz=>?_;have X:f.units<QG:=by exact LG M rfl
 rcases Jw D with⟨E,h,T,K,D⟩|D
 ·refine eM (pV s x T) λI B a1 pW l i=>?_;subst pW;refine eM (pV s w K) λn y a0 pX A U=>?_;subst pX;have H:E.length=B.size:=by exact i.len.trans U'
  have J:h.length=y.size:=by exact U.len.trans U'
  rcases D with⟨c,D⟩|⟨c,rfl⟩
  ·obtain⟨G,a3,rfl,t⟩:=AA D;have C:=λv L q2=>by exact hF λa2=>aM (i.get' (j:=v) L) λP e1 r=>aM (U.get' (j:=v) q2) λq e2 v2=>a2 (Gq (A:=f.in1) (Ve (show f.units+1<=f.units+64 by exact NY rfl) M) r v2 (t v P q e1 e2))
   refine z (R H ?_);have j:=H.symm.trans (c.trans J);exact⟨RcAt.lists (bb l) (bb A) j X C,RcNeAt.lists (bb l) (bb A) j X C⟩
  ·have j:=bne_iff_ne.mpr λY=>c (H.trans (Y.trans J.symm));exact z ⟨RcAt.lists_lengths (bb l) (bb A) j X,RcNeAt.lists_lengths (bb l) (bb A) j X⟩
 ·rcases AB D with⟨E,h,rfl,rfl,D⟩|D;·refine eM x.inv λI B a1 tA sx i=>?_;subst tA;refine eM w.inv λn y a0 tB o U=>?_;subst tB;exact z (AD X (fk sx) (fk o) i U D)
  ·obtain⟨G,p,_⟩:=tw x w D;exact z ⟨G,p⟩
theorem gK(I:Qc)(K:QY)(E:Qi Qy)(i:QY):Gives (Builtin.«str.__eq__» ⟨[.str I K,.bytes E i],[]⟩) (.val .notImplemented):=.of_wp λa J T d Y B=>by obtain⟨n,o,y,b,e⟩:=d;have f1:=PySem.F.sub_bytes_str;wp_walk;exact ba _ rfl B
theorem gM(I:Qc)(K:QY)(E:Qi Qy)(i:QY):Gives (Builtin.«bytes.__eq__» ⟨[.bytes E i,.str I K],[]⟩) (.val .notImplemented):=by refine .of_wp λy J T d Y e=>?_;show Qf y J (Se (.str I K) (.type "bytes") >>= λx=>_) _ T d;refine P7 (RZ (SA d I K) PySem.F.sub_str_bytes ?_);exact λU U U=>(ba _ rfl e)
theorem nc(I:Qc)(K:QY)(E:Qi Qy)(i:QY)(B:g5 P8 d):Qf (Qe h a) f (SD (.str I K) (.bytes E i)) g5 t d:=by refine QE ?_;refine Td (λH=>Qp (RL H) nofun) (λU=>?_);refine P7 (rc_eq_decline_or (k:=false) (SA d I K) (Sh d E i) (rfl) PySem.F.sub_bytes_str PySem.F.slot_str_eq PySem.W.FB.slot_bytes_eq (λU e=>Te PySem.F.slot_str_eq (SA d I K) PySem.F.entry_str_eq (PySem.F.args_str_eq_2 _ _) (gK I K E i) e) (λU e=>Te PySem.W.FB.slot_bytes_eq (Sh d E i) PySem.W.FB.entry_bytes_eq (PySem.W.FB.args_bytes_eq_2 _ _) (gM I K E i) e) (λU e=>QN (rfl:isSame (.str I K) (.bytes E i)=pure P8) e) (.inl rfl) (RB B))
theorem nr(I:Qc)(K:QY)(E:Qi Qy)(i:QY)(B:g5 P8 d):Qf (Qe h a) f (SD (.bytes E i) (.str I K)) g5 t d:=by refine QE ?_;refine Td (λH=>Qp (RL H) nofun) (λU=>?_);refine P7 (rc_eq_decline_or (k:=false) (Sh d E i) (SA d I K) (rfl) PySem.F.sub_str_bytes PySem.W.FB.slot_bytes_eq PySem.F.slot_str_eq (λU e=>Te PySem.W.FB.slot_bytes_eq (Sh d E i) PySem.W.FB.entry_bytes_eq (PySem.W.FB.args_bytes_eq_2 _ _) (gM I K E i) e) (λU e=>Te PySem.F.slot_str_eq (SA d I K) PySem.F.entry_str_eq (PySem.F.args_str_eq_2 _ _) (gK I K E i) e) (λU e=>QN (rfl:isSame (.bytes E i) (.str I K)=pure P8) e) (.inl rfl) (RB B))
noncomputable def kY.is:kY->P'->P6
 |.str I,C=>P'.isStrOf I C
 |.bH E,.bytes A _=>A==E
 |.bH _,_=>P8
theorem kY.AF(B:pq.is ag=P4):(∃I K,pq=.str I/\ag=.str I K)\/∃E K,pq=.bH E/\ag=.bytes E K:=by
 induction pq using kY.casesOn with
 |str I=>obtain⟨K,rfl⟩:=P'.isStrOf_shape B;exact .inl (eP I K rfl rfl)
 |bH E=>induction ag using P'.casesOn<;>first|exact bF B|exact .inr (eP _ _ (Ql kY.bH (RL B).symm) rfl)
theorem kY.el{P:kY->P'->Prop}(B:pq.is ag=P4)(G:∀I K,P (.str I) (.str I K))(p:∀E K,P (.bH E) (.bytes E K)):P pq ag:=by
 rcases kY.AF B with⟨I,K,rfl,rfl⟩|⟨I,K,rfl,rfl⟩;·exact G I K
 ·exact p I K
noncomputable def g7(o:Qz)(k:Qr):KeyKind o k kY where
 is:=kY.is
 hash:=pn k
 inj C L E ha w:=(kY.el (P:=λL C=>kY.is E C=P4->L=E) ha (λI K w=>by
  cases E with
  |str n=>exact Ql _ (RL w)
  |bH n=>exact nomatch w) λI K w=>by
  cases E with
  |str n=>exact nomatch w
  |bH n=>exact Ql _ (RL w)) w
 byValue X C B:=kY.el (P:=λU C=>carriedByValue C=P4) B (λU U=>rfl) λU U=>rfl
 pyHash:=λ{J a d X C Y} b=>kY.el (P:=λX C=>Y (pn k X) {d with toks:=d.toks+1}->Qf (Qe o k) J (pyHash C) Y a d) b (λI K B=>UB B) λI K B=>by
  refine pyHash_slot (T:="bytes") rfl PySem.W.FB.slot_bytes_hash PySem.W.FB.entry_bytes_hash (PySem.W.FB.args_bytes_hash_1 _) (beq_builtin_none _) (.inl rfl) ?_;show Qf _ _ (strHash ⟨I.map (·.toNat)⟩ >>= λs=>(do ret (<-mkInt s))) _ _ d;unfold strHash;refine P7 (P7 (TV (Qg (P7 (SF (Qg ⟨_,_,rfl,?_⟩))))));have D:(I.map λi:Qy=>i.toNat).isEmpty=I.isEmpty:=by simp[Qi.isEmpty]
  simp only[pn] at B;show Y (Sz (if(I.map λi:Qy=>i.toNat).isEmpty=P4 then 0 else _)) _;rw[D];exact B
 eqBool:=λ{J a d L E i C Y} c b=>kY.el (P:=λL i=>Y (Qd (L=E)) d->Qf (Qe o k) J (SD i C) Y a d) c (λI K=>kY.el (P:=λE C=>Y (Qd (kY.str I=E)) d->Qf (Qe o k) J (SD (.str I K) C) Y a d) b (λn y B=>wpAny_eqBool_str ((SG.mpr ⟨kY.str.inj,Ql _⟩:_=Qd (I=n))▸B)) λn y B=>nc I K n y B) λI K=>kY.el (P:=λE C=>Y (Qd (kY.bH I=E)) d->Qf (Qe o k) J (SD (.bytes I K) C) Y a d) b (λn y B=>nr n y I K B) λn y B=>eqBool_bytes ((SG.mpr ⟨λD=>Ql _ (kY.bH.inj D),λD=>Ql _ (Qi.toList_inj.mp D)⟩:_=Qd (I.toList=n.toList))▸B)
 «strs» X I K C B:=by
  cases X with
  |str n=>rw[<-RL B];cases C<;>rfl
  |bH n=>exact nomatch B
theorem uQ(B:E8 m bp=S au):au=P4↔m=bp:=by
 cases Aw B with
 |none=>exact⟨λU=>rfl,λU=>rfl⟩
 |bool I n=>exact Ra.trans ⟨Ql _,Q.bool.inj⟩
 |int I n=>exact UC.trans ⟨Ql _,Q.int.inj⟩
 |str I n=>exact Ra.trans ⟨Ql _,Q.str.inj⟩
 |bH I n=>exact Ra.trans ⟨Ql _,Q.bH.inj⟩
theorem yW:∀{f:V Q} {A:P6},uJ z f=S A->(A=P4↔z=f):=by
 induction z with
 |nil=>intro f A B;induction f using U5 with
  |nil=>exact sX B▸⟨λU=>rfl,λU=>rfl⟩
  |cons _ _=>exact nX B
 |cons L z k=>intro f A B;induction f using U5 with
  |nil=>exact nX B
  |cons E f=>refine rL (De B) λI n T K bP=>?_;clear B;subst bP;exact Vi.trans ((and_congr (uQ T) (k K)).trans ⟨λ⟨L,E⟩=>L▸E▸rfl,Xx⟩)
theorem uR(B:eqT m bp=S au):au=P4↔m=bp:=by
 rcases AB B with⟨b,h,rfl,rfl,B⟩|B;·exact(yW B).trans ⟨Ql _,Q.tup.inj⟩
 ·exact uQ B
theorem xT(B:fN bf (ki :: y)=S gh):(∃E,eqT ki.1 bf=S E)/\((ki.1=bf/\gh=S 0)\/(ki.1≠bf/\∃h,fN bf y=S h/\h.map (· + 1)=gh)):=by
 have B:(match eqT ki.1 bf with|some P4=>S (S 0)|some P8=>(fN bf y).map (·.map (· + 1))|none=>N)=S gh:=B;revert B;induction M:eqT ki.1 bf using U0 with
 |none=>exact nX
 |some E=>induction E using U6 with
  |true=>exact λB=>⟨⟨_,rfl⟩,.inl ⟨(uR M).mp rfl,(sX B).symm⟩⟩
  |false=>exact λB=>⟨⟨_,rfl⟩,.inr ⟨λY=>Vm ((uR M).mpr Y),VA.mp B⟩⟩
theorem eQ:∀{P:O Z},fN bf y=S P->match P with
  |none=>bf∉y.map (·.1)
  |some s=>(y.map (·.1))[s]? = S bf/\∀v,v<s->(y.map (·.1))[v]?≠S bf:=by
 induction y with
 |nil=>exact λB=>sX B▸VT
 |cons D y k=>
  intro P B
  rcases(xT B).2 with⟨T,rfl⟩|⟨m,h,n,rfl⟩
  ·exact⟨Ql S T,λv E=>Qp E (XE _)⟩
  ·have:=k n
   clear B
   induction h using U0 with
   |none=>exact λH=>(U4.mp H).elim (λY=>m Y.symm) this
   |some s=>
    refine⟨this.1,λv E=>?_⟩
    induction v using Vn with
    |zero=>exact λY=>m (sX Y)
    |succ v=>exact this.2 v (Z.lt_of_succ_lt_succ E)
theorem gN(B:fO bf y=S gh):keyOk bf=P4/\fN bf y=S gh:=by
 by_cases M:keyOk bf=P4;·exact⟨M,(Qk M).symm.trans B⟩
 ·exact nX ((Qm M).symm.trans B)
theorem AG(B:keyOk bf=P4):∃n:DK,n.ok bf:=by
 induction bf using Zp with
 |str s=>exact⟨.str,_,rfl⟩
 |int s=>exact⟨.int,_,rfl⟩
 |tup w=>exact⟨.tup,_,rfl,B⟩
 |_=>exact Qp B Vm
theorem Gs(B:eqT m bf=S au)(c:bu.ok m)(J:keyOk bf=P4):bu.ok bf:=by
 induction bu using DK.casesOn with
 |str=>obtain⟨s,rfl⟩:=c;induction bf using Zp with
  |str v=>exact⟨_,rfl⟩
  |_=>exact nX B
 |int=>obtain⟨s,rfl⟩:=c;induction bf using Zp with
  |int v=>exact⟨_,rfl⟩
  |_=>exact nX B
 |tup=>obtain⟨w,rfl,_⟩:=c;induction bf using Zp with
  |tup n=>exact ba _ rfl J
  |_=>exact nX B
theorem DR.kind(c:DR a x b bu y gw)(D:fO bf y=S gh):∃bu:DK,bu.ok bf/\DR a x b bu y gw:=by
 refine bT (gN D) λJ D=>?_;induction c using DR.casesOn with
 |nil=>obtain⟨m,M⟩:=AG J;exact ba m M .nil
 |cons G p t L=>refine eK ((xT D).1) λE M=>?_;exact ba bu (Gs M G J) (.cons G p t L)
theorem DR.len(c:DR a x b bu y gw):y.length=gw.length:=by
 induction c with
 |nil=>rfl
 |cons _ _ _ _ k=>simp[k]
theorem DR.get(c:DR a x b bu y gw):∀{i:Z} {p:Q×Q},y[i]? = S p->∃J e,gw[i]? = S ⟨jD a p.1,J,e⟩/\bu.ok p.1/\VR a.params x b p.1 J/\VR a.params x b p.2 e:=by
 induction c with
 |nil=>intro i p D;exact nX D
 |cons G d t _ k=>
  intro i p D
  induction i using Vn with
  |zero=>obtain rfl:=sX D;exact uL _ _ rfl G d t
  |succ i=>exact k (i:=i) (p:=p) (by exact D)
theorem DR.get'(c:DR a x b bu y gw)(D:gw[aj]? = S m5):∃P,y[aj]? = S P/\m5.hash=jD a P.1/\bu.ok P.1/\VR a.params x b P.1 m5.key/\VR a.params x b P.2 m5.val:=by
 have g:aj<y.length:=by refine R c.len ?_;exact(U8.mp D).1
 refine yQ (c.get (U3 g)) λJ e T L E A=>?_;rw[D] at T;cases T;exact N4 _ (U3 g) rfl L E A
theorem DR.modify(c:DR a x b bu y gw):∀{i:Z} {C:Q} {e:P'},VR a.params x b C e->DR a x b bu (y.modify i λD=>(D.1,C)) (gw.modify i λD=>{D with val:=e}):=by
 induction c with
 |nil=>intro i C e _;simpa using DR.nil
 |cons G p t L k=>
  intro i C e P
  induction i using Vn with
  |zero=>exact DR.cons G p P L
  |succ i=>exact DR.cons G p t (k P)
theorem DR.snoc(c:DR a x b bu y gw)(G:bu.ok bf)(p:VR a.params x b bf et)(t:VR a.params x b bg g8):DR a x b bu (y++[(bf,bg)]) (gw++[⟨jD a bf,et,g8⟩]):=by
 induction c with
 |nil=>exact .cons G p t .nil
 |cons L E A _ k=>exact .cons L E A k
theorem DR.erase(c:DR a x b bu y gw):∀(s:Z),DR a x b bu (y.eraseIdx s) (gw.eraseIdx s):=by
 induction c with
 |nil=>intro s;exact DR.nil
 |cons L E A t k=>
  intro s
  induction s using Vn with
  |zero=>exact t
  |succ s=>exact DR.cons L E A (k s)
theorem nA(B:ec.toList.map V1=jr):(jr.map Y3).toArray=ec:=by
 subst B;refine R V8 ?_;have:(Y3 ∘ V1)=id:=by funext I;simp
 refine R this ?_;refine R (Y4 ..) rfl
theorem Gu(B:VR a.params x b m ag)(D:og m=P4):(eX m).is ag=P4:=by
 have B:=B.inv;induction m using Zp with
 |str X=>obtain⟨K,rfl,J⟩:=B;exact Si (sx X)
 |bH l=>obtain⟨E,K,rfl,c⟩:=B;exact Ra.mpr (nA c).symm
 |_=>exact Qp D Vm
theorem nB:∀{w:V P'},bU a.params x b z w->z.all og=P4->ItemsAre (g7 h a) (z.map eX) w:=by
 induction z with
 |nil=>intro w B _;exact B.uN▸.nil
 |cons L z k=>intro w B D;refine rL B.inv λC e cQ G p=>?_;clear B;subst cQ;refine bT (Vi.mp D) λT m=>?_;exact .cons (Gu G T) (k p m)
theorem Df(c:VR a.params x b m g4)(w:VR a.params x b bp ag)(r:og m=P4)(k:og bp=P4)(B:eX m=eX bp):m=bp:=by
 have c:=c.inv;have w:=w.inv;induction m using Zp with
 |str s=>induction bp using Zp with
  |str v=>obtain⟨K,_,g⟩:=c;obtain⟨y,_,E⟩:=w;exact Ql _ (wh g E (kY.str.inj B))
  |bH H=>exact nomatch B
  |_=>exact Qp k Vm
 |bH l=>induction bp using Zp with
  |str v=>exact nomatch B
  |bH H=>refine cN c λA K U d=>?_;refine cN w λo y U i=>?_;have:=kY.bH.inj B;rw[nA d,nA i] at this;exact Ql _ (d.symm.trans (this▸i))
  |_=>exact Qp k Vm
 |_=>exact Qp r Vm
theorem uS:∀{f:V Q} {n w:V P'},bU a.params x b z n->bU a.params x b f w->z.all og=P4->f.all og=P4->z.map eX=f.map eX->z=f:=by
 induction z with
 |nil=>intro f n w _ _ _ _ B;exact(V.map_eq_nil_iff.mp B.symm).symm
 |cons L z k=>intro f n w G p T m B;induction f using U5 with
  |nil=>exact nomatch B
  |cons E f=>refine hF λH=>?_;refine rL G.inv λU U eA d c=>?_;refine R eA ?_;refine rL p.inv λU U eZ s Y=>?_;refine R eZ ?_;refine bT (Vi.mp T) λT D=>?_;refine bT (Vi.mp m) λl o=>?_;refine bT (Xx B) λG p=>?_;refine H ?_;refine R (Df d s T l G) ?_;refine R (k c Y D o p) rfl
noncomputable def Dg:Q->V kY
 |.tup w=>w.map eX
 |_=>[]
theorem pY{prog:Qz}(w:V Q):TX (g7 prog a) (w.map eX)=jD a (.tup w):=by exact Ql (λl=>Sz (QM.Tuple.tupleHashOf l)) V8
theorem DR.LQ{prog:Qz}{h:Qb}(f:∀L z,x L z->h.get? L=S z)(g:DR a x b .tup y gw) :
  ∃c:V (V kY×Qa×P'),gw=c.map (entryOfKey (TY (g7 prog a)))/\(∀I∈c,IsTupleKey (g7 prog a) h I.1 I.2.1)/\c.map (·.1)=y.map λP=>Dg P.1:=by
 induction g with
 |nil=>exact mU [] rfl (λU j=>nomatch j) rfl
 |@cons X C J e y gw G p t _ k=>
  refine hF λY=>?_;refine rB k λc T m l=>?_;refine aM G λw g6 r=>?_;subst g6;refine eM p.inv λL v d lR i A=>?_;subst lR;refine Y ?_;refine mU ((w.map eX,L,e) :: c) ?_ ?_ (Ql (w.map eX :: ·) l);·refine R Vt ?_;refine R T.symm ?_;show _=QD.mk (TX (g7 prog a) (w.map eX)) _ _ :: gw;rw[pY]
  ·intro I H;rcases U4.mp H with rfl|H;·exact CU _ v d (f _ _ i) rfl rfl (nB A r)
   ·exact m I H
theorem DR.LU{prog:Qz}(e:DR a x b .tup y gw)(A:(y.map (·.1)).Nodup):(y.map λP=>Dg P.1).Nodup:=by unfold V.Nodup at A⊢;rw[V.pairwise_map] at A⊢;refine A.imp_of_mem λ{j E} g h m q=>m ?_;refine hF λl=>?_;refine eK (VZ.mp g) λs f=>?_;refine eK (VZ.mp h) λv k=>?_;refine yQ (e.get f) λU U U m3 r U=>?_;refine aM m3 λi G p=>?_;refine yQ (e.get k) λU U U pU w U=>?_;refine aM pU λn t L=>?_;refine l ?_;rw[G] at q r;refine R G ?_;rw[t] at q w;refine R t ?_;refine eM r.inv λU U U U U d=>?_;refine eM w.inv λU U U U U c=>?_;exact Ql _ (uS d c p L q)
theorem lW{own:V Qa}{k:Q}{Y:P5->Qh->Prop}(e:f.units<QG)(J:VR a.params (Sf d.heap b own) b k et)(j:bu.ok k)(B:∀c,Y (jD a k) {d with toks:=d.toks+c}):Qf (Qe h a) f (pyHash et) Y t d:=by
 induction bu using DK.casesOn with
 |str=>obtain⟨s,rfl⟩:=j;obtain⟨K,rfl,_⟩:=J.inv;exact UB (B 1)
 |int=>obtain⟨s,rfl⟩:=j;obtain⟨K,rfl⟩:=J.inv;exact wpAny_pyHash_int (B 1)
 |tup=>refine aM j λw wi D=>?_;clear j;subst wi;refine eM J.inv λL v c lJ i A=>?_;clear J;subst lJ;refine(TY (g7 h a)).pyHash (k:=w.map eX) e (CU _ v c i.1 rfl rfl (nB A D)) ?_;show Y (TX (g7 h a) _) _;refine R (pY ..) ?_;exact B ((w.map eX).length+1)
theorem wj{r:G->bx}{l:V G}{E:bx}(B:(l.map r)[K]? = S E):∃L,l[K]? = S L/\r L=E:=VA.mp (Vb.symm.trans B)
theorem uT(z:DR a x b bu y C.toList)(D:fN bf y=S gh)(r:QD->P6)(J:∀(s:Z) P (M:Q×Q),C[s]? = S P->y[s]? = S M->(r P=P4↔M.1=bf)):C.findIdx? r=gh:=by
 have c:=eQ D;have h:∀(s:Z) P,C[s]? = S P->(r P=P4↔(y.map (·.1))[s]? = S bf):=λs P n=>by refine aM (z.get' (V0.trans n)) λM X U=>?_;refine(J s P M n X).trans ?_;refine R Vb ?_;refine R X ?_;exact⟨Ql S,sX⟩
 clear D J;induction gh using U0 with
 |none=>rw[Qi.findIdx?_eq_none_iff];intro P B;obtain⟨s,g,rfl⟩:=Qi.mem_iff_getElem.mp B;exact X8.mpr λM=>c (Va ((h s _ (Wy g)).mp M))
 |some s=>refine bT c λG o=>?_;have g:=WJ (U8.mp G).1 ((U1 _).trans (z.len.trans U'));rw[Qi.findIdx?_eq_some_iff_getElem];exact ba g ((h s _ (Wy g)).mpr G) (λv E Y=>o v E ((h v _ (Wy (YP E g))).mp Y))
theorem DR.one(z:DR a x b bu y C.toList){M:Q×Q}(i:C[K]? = S m5)(X:y[K]? = S M):bu.ok M.1/\VR a.params x b M.1 m5.key:=by refine MW (z.get' (V0.trans i)) λA e U G p U=>?_;exact sX (e.symm.trans X)▸⟨G,p⟩
theorem DR.mem(z:DR a x b bu y C.toList)(B:m5∈C):∃M:Q,m5.hash=jD a M/\bu.ok M/\VR a.params x b M m5.key:=by refine hF λh=>?_;refine eK (Qi.mem_iff_getElem?.mp B) λv E=>?_;refine MW (z.get' (V0.trans E)) λM U I G p U=>?_;refine h ?_;exact mU M.1 I G p
theorem kF{own:V Qa}{s:Qh}{k:Q}{Y:O Z->Qh->Prop}(hu:f.units<QG)(hd:s.heap.get? A=S (bM C dw))(z:DR a (Sf s.heap b own) b bu y C.toList)(nd:(y.map (·.1)).Nodup)
  (J:VR a.params (Sf s.heap b own) b k et) (j:bu.ok k) (D:fO k y=S gh) (B:Y gh s):Qf (Qe h a) f (dictFind A et (jD a k)) Y t s:=by
 refine bT (gN D) λU D=>?_;induction bu using DK.casesOn with
 |str=>
  refine eK j λx pX=>?_;subst pX;refine aM J.inv λa4 wk g=>?_;refine R wk ?_;refine UD (knd:=PySem.strKind h a) (k:=sx x) (Si (sx x)) hd rfl (λen a0=>?_) ((uT z D _ λv en q i X=>?_).symm▸B);·refine rB (z.mem a0) λq I tA P=>?_;refine hF λa6=>?_;obtain⟨r,p⟩:=tA;subst p;refine aM P.inv λM P U=>?_;refine a6 ?_;exact ba (sx r) (P▸Si (sx r)) I
  ·refine bT (z.one i X) λtB P=>?_;refine eK tB λr p=>?_;rw[p] at P;refine R p ?_;refine aM P.inv λM P E=>?_;refine R P ?_;show(sx r==sx x)=P4↔_;refine R (m7 E g) ?_;exact Ra.trans ⟨Ql _,Q.str.inj⟩
 |int=>
  refine eK j λx wm=>?_;subst wm;refine eK J.inv λa4 AI=>?_;subst AI;refine UD (knd:=PySem.intKind h a) (k:=x) (Qu rfl) hd rfl (λen a0=>?_) ((uT z D _ λv en q i X=>?_).symm▸B);·refine rB (z.mem a0) λq I Gv P=>?_;refine hF λb9=>?_;obtain⟨r,p⟩:=Gv;subst p;refine eK P.inv λM P=>?_;refine b9 ?_;exact ba r (P▸Qu rfl) I
  ·refine bT (z.one i X) λGw P=>?_;refine eK Gw λr p=>?_;rw[p] at P;refine R p ?_;refine eK P.inv λM P=>?_;refine R P ?_;exact UC.trans ⟨Ql _,Q.int.inj⟩
 |tup=>
  have c:=eQ D
  refine aM j λw LV ea=>?_
  clear D j
  subst LV
  refine eM J.inv λa9 a2 a5 LX sa vr=>?_
  clear D J
  subst LX
  refine rB (DR.LQ (prog:=h) (h:=s.heap) (λa9 c1 a3=>a3.1) z) λxs T m l=>?_
  have n:∀(v:Z) (q:Qa×P'),xs[v]? = S (w.map eX,q)->(y.map (·.1))[v]? = S (.tup w):=λv q i=>by
   refine hF λa7=>?_;have G:(xs.map (·.1))[v]? = S (w.map eX):=by refine Vb.trans ?_;refine R i ?_;rfl
   rw[l] at G;refine aM (wj G) λp' e G=>?_;refine yQ (z.get e) λet vv o LY v2 U=>?_;refine aM LY λus h3 L=>?_;refine a7 ?_;refine Vb.trans ?_;refine R e ?_;rw[h3] at G v2;refine eM v2.inv λU U U U U x2=>?_;exact Ql S (h3.trans (Ql _ (uS x2 vr L ea G)))
  have a8:∀(v:Z),(y.map (·.1))[v]? = S (.tup w)->∃q,xs[v]? = S (w.map eX,q):=λv i=>by
   refine hF λH=>?_;refine aM (wj i) λp' o e5=>?_;have G:(y.map λgh=>Dg gh.1)[v]? = S (w.map eX):=by refine Vb.trans ?_;refine R o ?_;exact Ql S (Ql Dg e5)
   rw[<-l] at G;refine aM (wj G) λq K d=>?_;refine H ?_;exact⟨q.2,d▸K⟩
  refine R (pY (prog:=h) ..).symm ?_
  refine wpAny_dictFind_heap (knd:=TY (g7 h a)) (k:=w.map eX) (xs:=xs) hu (CU _ a2 a5 sa.1 rfl rfl (nB vr ea)) hd rfl T m (l▸DR.LU (prog:=h) z nd) (λa1=>?_) λv q i=>?_
  ·induction gh using U0 with
   |none=>exact B
   |some x=>obtain⟨q,X⟩:=a8 x c.1;exact Qp X (a1 x q)
  ·induction gh using U0 with
   |none=>exact Qp (Va (n v q i)) c
   |some x=>exact(X7 (U8.mp c.1).1 nd).mp (c.1.trans (n v q i).symm)▸B
structure DictAt(w:Qr)(own:V Qa)(r:cS)(s:Qh)(d:Qa)(as:V (Q×Q))(es:Qi QD)(ep:Z)(dk:DK):Prop where
 obj:s.heap.get? d=S (bM es ep)
 dr:DR w (Sf s.heap r own) r dk as es.toList
 nd:(as.map (·.1)).Nodup
theorem hA{s:Qh}(c:Inv a e g b k s.heap)(D:k.D[H]? = S y)(T:b.D[H]? = S A):∃j r n,DictAt a g b s A y j r n:=eM (c.ey.D H y A D T) λj r n o C i=>⟨j,r,n,o,C,i⟩
theorem DictAt.is(I:DictAt a g b d A y C dw bu):d.TypeIs (.ref A) "dict":=⟨_,I.obj,rfl⟩
noncomputable def MZ(i:Rb)(B:SP)(x:cS):O Q->O P'->Prop
 |some L,S C=>VR i B x L C
 |none,N=>Qw
 |_,_=>QC
theorem pZ{own:V Qa}(k:f.units<QG)(I:DictAt a own b d A y C dw bu)(J:VR a.params (Sf d.heap b own) b bf et)(D:dR y bf=S pr)
  (B:∀g j,MZ a.params (Sf d.heap b own) b pr j->ir j {d with toks:=d.toks+g}):Qf (Qe h a) f (Tf A et) ir t d:=by
 refine hF λp=>aM (VA.mp D) λP o bP=>?_;subst bP;refine aM (I.dr.kind o) λm ok z=>p (QE (P7 (lW (own:=own) k J ok λg=>P7 (kF (s:={d with toks:=d.toks+g}) (own:=own) k I.obj z I.nd J ok o ?_))));refine hF λi=>?_;induction P using U0 with
 |none=>exact i (Qg (B g N trivial))
 |some s=>
  have c:=(eQ (gN o).2).1
  replace c:=Vb▸c
  refine oA (y[s]?) (λn=>?_) (λq n=>?_)
  ·replace c:=n▸c;cases c
  ·refine yQ (z.get n) λl e T U U w=>i (P7 (R1 I.obj rfl (Qg ?_)));have:C[s]? = S ⟨jD a q.1,l,e⟩:=by simpa using T
   refine R this (B g _ ?_);show MZ _ _ _ ((y[s]?).map (·.2)) _;exact R n w
theorem iN{own:V Qa}(k:f.units+1<QG)(I:DictAt a own b d A y C dw bu)(J:VR a.params (Sf d.heap b own) b bf et)(D:dR y bf=S (S bg))
  (B:∀q e,VR a.params (Sf d.heap b own) b bg e->am e {d with toks:=d.toks+q}):Qf (Qe h a) f (Sj (.ref A) et) am t d:=by
 refine QE (P7 (Tg I.is (rfl) ?_));refine P7 (Rr (name:=WA "__getitem__") I.is SH (Q3 SH I.is entry_dict_getitem ?_ (args_dict_getitem _ _)));show Qf _ _ (Tf A et >>= _) _ _ d;refine P7 (pZ (own:=own) k I J D λq v P=>?_);induction v using U0 with
 |none=>exact P.elim
 |some e=>exact Qg ⟨e,rfl,Qg (B q e P)⟩
theorem AJ(D:fO bf y=S gh):∃j,dR y bf=S j/\j.isSome=gh.isSome:=by
 refine⟨_,by unfold dR;refine R D ?_;rfl,?_⟩;refine hF λC=>?_;induction gh using U0 with
 |none=>exact C rfl
 |some s=>
  have c:=(eQ (gN D).2).1
  replace c:=Vb▸c
  refine oA (y[s]?) (λn=>?_) (λM n=>?_)
  ·replace c:=n▸c;cases c
  ·refine C ?_;simp[n]
theorem kZ{own:V Qa}(k:f.units+1<QG)(i:(A==RC)=P8)(I:DictAt a own b d A y C dw bu)(J:VR a.params (Sf d.heap b own) b bf et)(D:fO bf y=S gh)
  (B:∀q,g5 gh.isSome {d with toks:=d.toks+q}):Qf (Qe h a) f (contains (.ref A) et) g5 t d:=by
 refine aM (AJ D) λj T m=>QE (P7 (Rd I.is TZ.lookup ?_));refine P7 (wpAny_callSpecialUnlessNone?_slot (name:=WA "__contains__") I.is TZ (Q3 TZ I.is entry_dict_contains ?_ (args_dict_contains _ _)));show Qf _ _ (Tf A et >>= _) _ _ d;refine P7 (pZ (own:=own) k I J T λq v P=>?_);have B:=B q;replace B:=m.symm▸B;induction v using U0 with
 |none=>
  induction j using U0 with
  |some _=>exact P.elim
  |none=>exact P7 (wpAny_pendingKey_other i (Qg ⟨_,rfl,RB B⟩))
 |some e=>
  induction j using U0 with
  |none=>exact P.elim
  |some _=>exact Qg ⟨_,rfl,RB B⟩
theorem Dh{own:V Qa}(k:f.units+1<QG)(i:(A==RC)=P8)(I:DictAt a own b d A y C dw bu)(J:VR a.params (Sf d.heap b own) b bf et)(D:fO bf y=S gh) :
  (∀Y T,(∀q,Y (.bool gh.isSome) {d with toks:=d.toks+q})->Qf (Qe h a) f (SI .In et (.ref A)) Y T d)/\(∀Y T,(∀q,Y (.bool !gh.isSome) {d with toks:=d.toks+q})->Qf (Qe h a) f (SI .NotIn et (.ref A)) Y T d):=by
 refine⟨λY T B=>?_,λY T B=>?_⟩;·exact P7 (kZ (own:=own) k i I J D λq=>Qg (B q))
 ·exact P7 (kZ (own:=own) k i I J D λq=>Qg (B q))
set_option tactic.hygienic true in
theorem dict_set{own:V Qa}(k:f.units<QG)(I:DictAt a own b d A y C dw bu)(J:VR a.params (Sf d.heap b own) b bf et)(P:VR a.params (Sf d.heap b own) b bg g8)(D:rG y bf bg=S m6)
  (B:∀q x g o m,VP A d.heap x->x.get? A=S (bM g o)->DR a (Sf d.heap b own) b m m6 g.toList->(m6.map (·.1)).Nodup->ca () {d with heap:=x,toks:=d.toks+q}):Qf (Qe h a) f (dictSet A et g8) ca t d:=by
 unfold rG at D;have H:y.length=C.size:=by exact I.dr.len.trans U'
 split at D
 ·rename_i s n;refine hF λr=>?_;cases D;refine aM (I.dr.kind n) λm ok z=>?_;have e:=(eQ (gN n).2).1;refine r (QE (P7 (lW (own:=own) k J ok λq=>?_)));refine QE (P7 (kF (s:={d with toks:=d.toks+q}) (own:=own) k I.obj z I.nd J ok n ?_));refine P7 (R2 (P7 (wpAny_updateDict I.obj rfl (Th ?_))));refine B q _ (C.modify s λD=>{D with val:=g8}) dw m (VL ..) ?_ ?_ ?_;·exact Vx _ I.obj rfl
  ·have:=z.modify (i:=s) P;obtain⟨l⟩:=C;simpa using this
  ·have:(y.modify s λD=>(D.1,bg)).map (·.1)=y.map (·.1):=by
    apply V.ext_getElem?;intro v;refine Vb.trans ?_;refine R Vb ?_;refine R (V.getElem?_modify ..) ?_;by_cases M:s=v;·subst M;cases y[s]?<;>simp
    ·simp[M]
   exact R this I.nd
 ·rename_i n;split at D
  ·rename_i p;cases D;refine aM (I.dr.kind n) λm ok z=>?_;have j:=Qj p;refine QE (P7 (lW (own:=own) k J ok λq=>?_));refine QE (P7 (kF (s:={d with toks:=d.toks+q}) (own:=own) k I.obj z I.nd J ok n ?_));refine P7 (R2 (UE I.obj rfl ?_ (by have:Q2=_:=Q';exact H.symm▸uD j rfl) ?_))
   ·refine B q _ (C.push ⟨jD a bf,et,g8⟩) (dw+1) m (VL ..) ?_ ?_ ?_;·exact Vx _ I.obj rfl
    ·have:=z.snoc ok J P;obtain⟨l⟩:=C;simpa using this
    ·refine R Vw ?_;rw[VI];refine⟨I.nd,by simp,λL c E w M=>?_⟩;simp at w;subst w;subst M;exact(eQ (gN n).2) c
   ·simp
  ·cases D
 ·cases D
theorem tC{own:V Qa}(k:f.units+1<QG)(I:DictAt a own b d A y C dw bu)(J:VR a.params (Sf d.heap b own) b bf et)(P:VR a.params (Sf d.heap b own) b bg g8)(D:rG y bf bg=S m6)
  (B:∀q x g o m,VP A d.heap x->x.get? A=S (bM g o)->DR a (Sf d.heap b own) b m m6 g.toList->(m6.map (·.1)).Nodup->ca () {d with heap:=x,toks:=d.toks+q}):Qf (Qe h a) f (SJ (.ref A) et g8) ca t d:=by refine QE (P7 (Tg I.is (rfl) ?_));refine P7 (Rr (name:=WA "__setitem__") I.is UG (Q3 UG I.is entry_dict_setitem ?_ (args_dict_setitem _ _ _)));refine P7 (T1 I.is ?_);show Qf _ _ (dictSet A et g8 >>= _) _ _ d;exact P7 (dict_set (own:=own) k I J P D λq x g o m L E c e=>Qg ⟨.none,rfl,Qg (B q x g o m L E c e)⟩)
theorem yX(r:G->bx)(l:V G):∀s:Z,(l.eraseIdx s).map r=(l.map r).eraseIdx s:=by
 induction l with
 |nil=>exact λ_=>rfl
 |cons I l k=>exact λs=>Vn s rfl λs=>Ql (r I :: ·) (k s)
theorem AK(i:(A==RC)=P8)(I:DictAt a g b d A y C dw bu)(P:y.length<1000)
  (B:∀q K,am (.int y.length K) {d with toks:=d.toks+q}):Qf (Qe h a) f (Q4 (.builtin "len") [.ref A]) am t d:=by
 have j:y.length=C.size:=by exact I.dr.len.trans U'
 refine call_function_entry kind_len plain_len entry_len (args_len1 _) (P7 (m:=oneArg "len" _) (Qg ?_));refine P7 (m:=T2 (.ref A) (WA "__len__")) (Rr (name:=WA "__len__") I.is PySem.F.slot_dict_len (Q3 PySem.F.slot_dict_len I.is PySem.F.entry_dict_len ?_ (PySem.F.args_dict_len_1 _)));·show Qf _ _ (dictSize A >>= λL=>QM.Dict.pendingCount A >>= λE=>_) _ _ d;refine P7 (P7 (R1 I.obj rfl (Qg ?_)));unfold QM.Dict.pendingCount;refine R (Qm (by refine R i ?_;decide)) ?_;refine P7 (Qg (P7 (SF (Qg (ba _ rfl ?_)))));refine P7 (QE (Qg ?_));refine P7 (T3 ?_);show Qf _ _ (if(((C.size:Z):P5)+((0:Z):P5))≥2 ^ 63 then _ else _) _ _ _;refine R (Qm (mt Wb.mp (Xp.mpr (n1 (Vh (VU _) (j▸P)) rfl)))) ?_;refine P7 (SF (Qg (ba _ rfl ?_)));have:=B 2 (d.toks+1);rw[j] at this;exact this
theorem rO{own:V Qa}(k:f.units+1<QG)(i:(A==RC)=P8)(I:DictAt a own b d A y C dw bu)(J:VR a.params (Sf d.heap b own) b bf et)(D:dR y bf=S pr)
  (B:∀q c,VR a.params (Sf d.heap b own) b (pr.getD .none) c->am c {d with toks:=d.toks+q}):Qf (Qe h a) f (Q4 (.builtin "dict.get") [.ref A,et]) am t d:=by
 refine Q3 PySem.F.slot_dict_get I.is PySem.F.entry_dict_get ?_ (PySem.F.args_dict_get_2 _ _);show Qf _ _ (Tf A et >>= _) _ _ d;refine P7 (pZ (own:=own) k I J D λq v P=>?_);clear k I J D;induction v using U0 with
 |some c=>induction pr using U0 with
  |some L=>exact Qg (ba c rfl (B q c P))
  |none=>exact P.elim
 |none=>induction pr using U0 with
  |some _=>exact P.elim
  |none=>exact P7 (wpAny_missed_other i (Qg (ba .none rfl (B q _ .none))))
set_option tactic.hygienic true in
theorem rP{own:V Qa}(k:f.units+1<QG)(I:DictAt a own b d A y C dw bu)(P:y.length<1000)(J:VR a.params (Sf d.heap b own) b bf et)(D:dR y bf=S (S bg))(T:yN y bf=S m6)
  (B:∀a0 x g o M e,VR a.params (Sf d.heap b own) b bg e->VP A d.heap x->x.get? A=S (bM g o)->DR a (Sf d.heap b own) b M m6 g.toList->(m6.map (·.1)).Nodup->am e {d with heap:=x,toks:=d.toks+a0}) :
  Qf (Qe h a) f (Q4 (.builtin "dict.pop") [.ref A,et]) am t d:=by
 have j:y.length=C.size:=by exact I.dr.len.trans U'
 unfold yN at T;split at T
 ·rename_i s n
  cases T
  refine aM (I.dr.kind n) λM ok z=>?_
  have c:=(eQ (gN n).2).1
  replace c:=Vb▸c
  obtain⟨q,X⟩:∃q,y[s]? = S q:=by
   induction Y:y[s]? using U0 with
   |none=>rw[Y] at c;exact nomatch c
   |some q=>exact⟨q,rfl⟩
  have G:q.2=bg:=by unfold dR at D;rw[n] at D;simp only[Xg,WH,X,YW] at D;exact D
  refine yQ (z.get X) λl e e1 U U w=>?_
  have L:C[s]? = S ⟨jD a q.1,l,e⟩:=by simpa using e1
  rw[G] at w
  refine Q3 PySem.F.slot_dict_pop I.is PySem.F.entry_dict_pop ?_ (PySem.F.args_dict_pop_2 _ _)
  refine P7 (P7 (T1 I.is ?_))
  refine Qg ?_
  have a1:∀{i:O QD->Qh->Prop},(∀D m,D.val=e->am e m->i (S D) m)->Qf (Qe h a) f.in1 (QM.Dict.takeOut A et) i t d:=by
   intro i hP;refine QE (P7 (lW (own:=own) k J ok λa0=>P7 (kF (s:={d with toks:=d.toks+a0}) (own:=own) k I.obj z I.nd J ok n ?_)));refine P7 (R1 I.obj rfl ?_);refine R L ?_;refine P7 (UE I.obj rfl ?_ (by have:Q2=_:=Q';exact j.symm▸uD P rfl) ?_)
   ·refine Qg (hP _ _ rfl ?_);refine B a0 _ (C.eraseIdxIfInBounds s) (dw+1) M e w (VL ..) (Vx _ I.obj rfl) ?_ ?_
    ·have:=z.erase s;have q:(C.eraseIdxIfInBounds s).toList=C.toList.eraseIdx s:=by
      unfold Xk;split;·simp
      ·rename_i K;rw[V.eraseIdx_of_length_le (by simpa using K)]
     exact R q this
    ·have:=I.nd;exact R (yX ..) (this.eraseIdx s)
   ·unfold Xk;split;·simp;exact Vu _ 2
    ·simp
  have p:∀E:P6,E=P8->Qf (Qe h a) f.in1 (do
    let a2<-if E=P4 then do rule "dict.pop.empty";pure N else QM.Dict.takeOut A et
    if a2.isNone=P4 then QM.Dict.missedRemoval A et
    match a2,(N:O P') with
    |some D,_=>do letGo [D.key] [D.val];ret D.val
    |none,S I=>do rule "dict.pop.default";ret I
    |none,N=>do rule "dict.pop.keyerror";Ti (<-newExc (.type "KeyError") [et])) (λp m=>∃bg,p=Fin.done (QP.ret bg)/\am bg m) t d:=by
   rintro _ rfl
   refine P7 (a1 λD m H hq=>?_)
   exact P7 (T3 (Qg (ba D.val rfl (R H hq))))
  clear z w j c G a1 k P B X
  induction M using DK.casesOn with
  |str=>obtain⟨v,rfl⟩:=ok;cases J;exact P7 (Qg (p P8 rfl))
  |int=>obtain⟨v,rfl⟩:=ok;cases J;exact P7 (Qg (p P8 rfl))
  |tup=>
   refine aM ok λvs bP r=>?_;subst bP;cases J;refine P7 (R1 I.obj rfl (P7 (Qg ?_)));have:C.isEmpty=P8:=by
    induction Y:C.isEmpty using U6 with
    |false=>rfl
    |true=>
     have:C = #[]:=by simpa using Y
     rw[this] at L;simp at L
   exact p _ this
 ·cases T
set_option tactic.hygienic true in
noncomputable def hZ(I:P9):P6:=by cases I;(case Slice=>exact P8);all_goals exact P4
theorem h9(b:d.TypeIs ju nq)(c:Ri (.type nq) "__getitem__"=pure (S (.builtin rs)))(w:hZ oz=P4)(B:Qf (Qe h a) f (Sj ju m8) am t d) :
  Qf (Qe h a) f (R3 jt oz ju m8) am t d:=by
 refine P7 (R (UH b.not_modules) (P7 (Rd b c ?_)));have P:subscripted oz P8 ju m8=operate [ju,m8] (Sj ju m8):=by induction oz using W5<;>first|rfl|cases w
 have p:Qf (Qe h a) f (subscripted oz P8 ju m8) (λx g=>Qf (Qe h a) f (letTemporaryGo jt ju x >>= λU=>pure x) am t g) t d:=by exact R P (UI (Qq B (λx g l=>P7 (UJ (Qg l))) λU U I=>I))
 first
  |exact Qg (P7 p)
  |exact P7 (Qg (P7 p))
  |exact P7 p
theorem xU(B:place gz q=S K):(gz=K/\K<q/\K<1000)\/(gz = -1/\0<q/\K=q - 1):=by refine dB B (λH B=>dB B (λG B=>.inl ?_) λU B=>nX B) λU B=>dB B (λG B=>.inr (gZ G.1 G.2 ((sX B).symm))) λU B=>nX B;refine eK (WR H) λX bP=>?_;clear H;subst bP;exact sX B▸(gZ rfl (Vj.mp G.1) (Vj.mp G.2))
theorem Jx(B:K<1000):(K:P5)<2 ^ 63:=P5.lt_trans (Vj.mpr B) (by decide)
theorem xV(B:0<q):(-1+(q:P5))=((q - 1:Z):P5):=by refine eK (Z.exists_eq_succ_of_ne_zero (Wc B)) λX cQ=>?_;subst cQ;exact(Ql (-1 + ·) (P5.natCast_succ X)).trans ((P5.add_comm ..).trans (P5.add_neg_cancel_right ..))
theorem AL(B:place gz q=S K):K<q/\-(2 ^ 63)<=gz/\gz<2 ^ 63/\seqIndex? gz q=S K:=by
 rcases xU B with⟨rfl,G,p⟩|⟨rfl,G,rfl⟩;·exact uO G (V7 (by decide) (Vg K)) (Jx p) (seqIndex_of (Vg K) (Vj.mpr G))
 ·have D:=xV G;have p:=Zb G Y2;refine uO p (by decide) (by decide) ?_;show(if(Qd (0<=-1+(q:P5))&&Qd (-1+(q:P5)<q))=P4 then S (-1+(q:P5)).toNat else N)=_;exact R D (Qk (Vi.mpr ⟨Qu (Vg _),Qu (Vj.mpr p)⟩))
theorem uU(c:d.heap.IsList n da)(B:place gz da.size=S K)(D:da[K]? = S ag)(M:am ag d):Qf (Qe h a) f (Sj (.ref n) (.int gz j3)) am t d:=by
 rcases xU B with⟨rfl,G,p⟩|⟨rfl,G,rfl⟩;·exact wpAny_getItem_list c (Vg K) (Jx p) D M
 ·have m:=xV G;exact wpAny_getItem_list_neg c (by decide) (P5.neg_le_neg (Wb.mpr G)) (by decide) (x:=ag) (m.symm▸D) M
theorem p5(B:bU Y x b z da.toList)(D:z[K]? = S bg):∃t,da[K]? = S t/\VR Y x b bg t:=aM (B.get D) λt T P=>ba t (by simpa using T) P
theorem mV.sub{v:Q}(M:f.units+64<QG)(K:Inv a e g b k d.heap)(c:VR a.params (Sf d.heap b g) b m dv)(C:VR a.params (Sf d.heap b g) b m9 qq)(z:hZ oz=P4)(D:aR k m m9=S v)
  (B:∀E p,VR a.params (Sf d.heap b g) b v p->am p {d with toks:=d.toks+E}):Qf (Qe h a) f (R3 jt oz dv qq) am t d:=by
 have H:=λp P=>by exact B 0 p P
 induction m using Zp with
 |tup w=>induction m9 using Zp with
  |int X=>refine eM c.inv λm y E eA i A=>?_;subst eA;refine eK C.inv λG eZ=>?_;subst eZ;refine lI D λI T s=>aM (p5 A s) λp l P=>uE (AL T) λU b1 b2 b3=>?_;rw[show w.length=y.size from A.len.trans U'] at b3;exact h9 (ba _ i.1 rfl) slot_tuple_getitem.lookup z (Zg (fk i) b1 b2 b3 l (H p P))
  |_=>exact nX D
 |lst w=>induction m9 using Zp with
  |int X=>refine eM c.inv λm y E g6 i A=>?_;subst g6;refine eK C.inv λG lR=>?_;subst lR;refine lI D λI T s=>aM (p5 A s) λp l P=>?_;rw[show w.length=y.size from A.len.trans U'] at T;exact h9 (ba _ i.1 rfl) T4.lookup z (uU (bb i.1) T l (H p P))
  |_=>exact nX D
 |aE X=>induction m9 using Zp with
  |int m9=>refine aM c.inv λm m3 J=>?_;subst m3;refine eK C.inv λG pU=>?_;subst pU;refine lI D λw L D=>lI D λI T s=>cN (K.ey.L X w m L J) λy E o A=>aM (p5 A s) λp l P=>?_;rw[show w.length=y.size from A.len.trans U'] at T;exact h9 (ba _ o rfl) T4.lookup z (uU (bb o) T l (H p P))
  |_=>exact nX D
 |ab X=>exact aM c.inv λm wi J=>R wi (lI D λY L D=>lI D λa0 T s=>Dc (hA K L J) λj r n x=>h9 x.is SH.lookup z (iN (own:=g) (IT M rfl) x C (T.trans (Ql S s)) B))
 |_=>exact nX D
theorem SE.sub{x:P9}(k:f.units+64<QG)(B:SE h a e l c j f i bk x)(A:SE h a e l c j f i l0 s)(C:hZ s=P4):SE h a e l c j f i (.sub bk l0) (.Subscript x s J):=by
 intro b I y d g p n t;refine R Ai (Tj ((B b I y d g p n).dX (.refl n.inv) (λbk z X G Y T o1 ε r L=>?_) t));refine R T (R Res.aP ?_);refine(A b X z G g p (n.on p o1)).dX o1 (λE K H o U m o2 M w a0=>?_) L;refine R m (R Res.aP ?_);induction D:aR K bk E using U0 with
 |none=>exact bX (D▸a0)
 |some v=>exact mV.sub k o2.inv (M.vr r) w C D λq v' P=>.ok (o2.trans (.tok o2.inv)) P
theorem ps{a:Z}(B:0<=gz):RM a gz=min gz.toNat a:=by
 refine eK (WR B) λX lJ=>?_;subst lJ;unfold RM;refine R (Qm (WU.mpr B)) ?_;rcases Z.le_total X a with q|q;·exact R (P5.min_eq_left (Wb.mpr q)) ((Yj q).symm)
 ·exact R (P5.min_eq_right (Wb.mpr q)) ((Y5 q).symm)
theorem uV(b:V G)(x U:Z):(b.drop (min x b.length)).take (min U b.length - min x b.length)=(b.take U).drop x:=by
 refine V.drop_take.symm.trans ?_;refine R (show b.take (min U b.length)=b.take U from V.take_eq_take_min.symm) ?_;rcases Z.le_total x b.length with B|B;·rw[Yj B]
 ·have Y:(b.take U).length<=b.length:=(V.length_take_le' ..);refine R (Y5 B) ?_;refine(Xv Y).trans ?_;refine R (Xv (U9 Y B)) rfl
theorem AM(v:Qi P')(h g:O P5)(a:∀s,h=S s->0<=s)(H:∀s,g=S s->0<=s):(Tn v h g N).toList=cut v.toList h g:=by
 unfold Tn;refine R (sliceBounds_plain ..) ?_;refine R (sliceRange_one (h.elim 0 (RM v.size)) (g.elim v.size (RM v.size))) ((pick_run ..).trans ?_);have G:h.elim 0 (RM v.size)=min (h.elim 0 WS) v.toList.length:=by
  induction h using U0 with
  |none=>simp
  |some s=>exact ps (a s rfl)
 have p:g.elim v.size (RM v.size)=min (g.elim v.toList.length WS) v.toList.length:=by
  induction g using U0 with
  |none=>simp
  |some s=>exact ps (H s rfl)
 refine R G (R p ?_);exact uV v.toList _ _
theorem More.M0(H:More b dz iy)(r:∀n∈iy,n∈bh)(o:∀n∈g,n∈bh)(d:Sf p b bh n ak):Sf p dz g n ak:=(gZ d.1 (λY=>(H.mem.mp Y).elim (λY=>d.2.2 (r n Y)) d.2.1) (λY=>d.2.2 (o n Y)))
theorem More.adopt(H:More b dz iy)(s:Inv a e bh b k p)(r:∀L∈iy,L∈bh)(d:iy.Nodup)(o:∀L∈g,L∈bh/\L∉iy)(A:tq a p dz cy (Sf p dz g)):Inv a e g dz cy p:=⟨λE z D=>⟨(s.keep E z D).1,λY=>(H.mem.mp Y).elim (λY=>by exact nX (((s.off E (r E Y)).2)▸D)) (s.keep E z D).2⟩,H.perm.nodup_iff.mpr (VI.mpr (gZ d s.As (λL c E w M=>by subst M;exact(s.off L (r L c)).1 w))),λL c=>⟨λY=>(H.mem.mp Y).elim (o L c).2 (s.off L (o L c).1).1,(s.off L (o L c).1).2⟩,λL c=>s.ex L (o L c).1,A⟩
theorem Inv.Gx{own:V Qa}(s:Inv a e bh b k p)(r:n∈bh)(X:∀E∈own,E∈bh/\E≠n)
  (o:p.get? n=S (bM C q)) (c:DR a (Sf p b bh) b bu y C.toList) (i:(y.map (·.1)).Nodup):Inv a e own (b.kT n) {k with D:=k.D++[y]} p:=by
 have H:=More.D b n;have t:∀E∈[n],E∈bh:=λE w=>by exact R (UZ.mp w) r
 have B:∀E z,Sf p b bh E z->Sf p (b.kT n) own E z:=λE z d=>H.M0 t (λA h=>(X A h).1) d;have A:=s.ey;refine H.adopt s t (Qj rfl) (λE w=>⟨(X E w).1,λY=>(X E w).2 (UZ.mp Y)⟩) ⟨A.jP,by simp[cS.kT,A.lT],A.mY,A.lU,λX g E T m=>?_,λX I E T m=>?_,λX g E T m=>?_,λX M f T m=>?_⟩;·exact cN (A.L X g E T m) λv q o c=>eP v q o (c.mono B H.le)
 ·rcases dP T with L|⟨rfl,rfl⟩
  ·rcases dP m with D|⟨rfl,_⟩;·exact eM (A.D X I E L D) λv q f o c i=>oS v q f o (c.mono B H.le) i
   ·rw[A.lT,VG (VB _)] at L;cases L
  ·rcases dP m with D|⟨_,rfl⟩;·rw[<-A.lT,VG (VB _)] at D;cases D
   ·exact oS C q bu o (c.mono B H.le) i
 ·exact A.B X g E T m
 ·obtain⟨o,C,q,G,c⟩:=A.I X M f T m;exact⟨o,C,q,G,c.mono B H.le⟩
theorem Inv.Gy{q:Qa×Qa}{f:Z}(s:Inv a e bh b k p)(f1:q.1∈bh)(f2:q.2∈bh)(j:q.1≠q.2)(X:∀E∈g,E∈bh/\E≠q.1/\E≠q.2)
  (K:p.get? q.1=S (QH (CA U) q.2)) (l:p.get? q.2=S (bM C f)) (h:FR a.params (Sf p b bh) b (cA U) bc C.toList):Inv a e g (b.yR q) {k with I:=k.I++[(U,bc)]} p:=by
 have H:=More.I b q;have t:∀E∈[q.1,q.2],E∈bh:=λE w=>by
  rcases U4.mp w with rfl|w;·exact f1
  ·exact R (UZ.mp w) f2
 have B:∀E z,Sf p b bh E z->Sf p (b.yR q) g E z:=λE z d=>H.M0 t (λU n=>(X U n).1) d;have c:=s.ey;refine H.adopt s t (by simp[j]) (λE w=>⟨(X E w).1,λY=>by
  rcases U4.mp Y with Y|Y;·exact(X E w).2.1 Y
  ·exact(X E w).2.2 (UZ.mp Y)⟩) ⟨c.jP,c.lT,c.mY,by simp[cS.yR,c.lU],λX bc E T m=>?_,λX bc E T m=>?_,λX bc E T m=>?_,λX P y T m=>?_⟩
 ·exact cN (c.L X bc E T m) λv f o h=>eP v f o (h.mono B H.le)
 ·exact eM (c.D X bc E T m) λv f y o h i=>oS v f y o (h.mono B H.le) i
 ·exact c.B X bc E T m
 ·rcases dP T with L|⟨rfl,rfl⟩
  ·rcases dP m with D|⟨rfl,_⟩;·obtain⟨o,C,f,G,h⟩:=c.I X P y L D;exact⟨o,C,f,G,h.mono B H.le⟩
   ·rw[c.lU,VG (VB _)] at L;cases L
  ·rcases dP m with D|⟨_,rfl⟩;·rw[<-c.lU,VG (VB _)] at D;cases D
   ·exact⟨K,C,f,l,h.mono B H.le⟩
theorem yS.dS{own':V Qa}(r:yS a g c j w b d.heap)(X:∀E∈own',E∈g\/d.heap.get? E=N)(P:∀E z,d.heap.get? E=S z->aa.get? E=S z):yS a own' c j w b aa:=by
 have B:∀L z,Sf d.heap b g L z->Sf aa b own' L z:=λL z Y=>(Y.dS X).grow P;refine⟨?_,λI A D=>?_,r.len⟩;·exact aM r.ns λH K i=>ba H (K.keeps P) (λv I C T m l=>aM (i v I C T m l) λt L E=>(ba t L (E.mono B (.refl b))))
 ·exact aM (r.mW I A D) λy s i=>ba y (s.keeps P) (λv C T m l=>aM (i v C T m l) λt L E=>(ba t L (E.mono B (.refl b))))
theorem bt.dS{own':V Qa}(p:bt g c j)(X:∀E∈g,E∈own'):bt own' c j:=⟨p.kind,p.glob,p.blt,X _ p.loc,λI A D=>⟨X _ (p.mW I A D).1,(p.mW I A D).2⟩,λL H=>X L (p.Dd L H),p.inj,p.IV,p.has⟩
theorem dI.dS{own':V Qa}(I:dI l g az p)(X:∀E,g.count E<=own'.count E)(P:∀E z,p.get? E=S z->aa.get? E=S z):dI l own' az aa:=⟨λD H=>I.el H λL x z j q E A y o M=>⟨L,x,z,j,q,E,U9 A (X x),y,P _ _ o,M⟩⟩
theorem St.dS{own':V Qa}(n:St a e g l c j b k w d){tk:Z}(X:∀E∈own',E∈g\/d.heap.get? E=N)(r:∀E,g.count E<=own'.count E)(P:∀E z,d.heap.get? E=S z->aa.get? E=S z)(H:∀E∈own',∃z,aa.get? E=S z):St a e own' l c j b k w {d with heap:=aa,toks:=tk}:=⟨n.inv.dS X P H,n.eW.dS X P,n.live.dS r P⟩
noncomputable def notStar:P9->P6
 |.Starred ..=>P8
 |_=>P4
theorem bI(B:notStar lc=P4):QT (lc :: kj) c=(P8,eval lc c) :: QT kj c:=by induction lc using W5<;>first|rfl|cases B
inductive rQ(prog:Qz)(w:Qr)(g₀:Qb)(l:V Qo)(env:Qo)(sl:V (O Qc))(A:QB)(cf:CF):fD->V P9->Prop
 |nil:rQ prog w g₀ l env sl A cf .nil []
 |cons {e:LE} {es:fD} {x:P9} {xs:V P9}:SE prog w g₀ l env sl A cf e x->notStar x=P4->rQ prog w g₀ l env sl A cf es xs->rQ prog w g₀ l env sl A cf (.cons e es) (x :: xs)
theorem rQ.run{pos:Qv}(I:rQ h a e l c j f i bm bn):∀b x y d g,bt b c j->St a e b l c j x y g d->mV a e b (Qe h a) f l (LP a) (R4 (QV pos (QT bn c))) (bB i bm g y) x d:=by
 induction I with
 |nil=>intro b x y d g p n t;exact PySem.Calls.spliced_nil (.ok (.refl n.inv) .nil)
 |@cons v bm I bn k q _ J=>intro b x y d g p n t;refine R hW (R (bI q) (PySem.Calls.spliced_cons ((k b x y d g p n).dX (.refl n.inv) (λL z X G Y T o1 A r D=>?_) t)));refine R T (R Res.aP ?_);refine(J b X z G g p (n.on p o1)).dX o1 (λE s H o U m o2 p2 w P=>?_) D;exact R m (.ok o2 (.cons (p2.vr r) w))
theorem lX{s:Qh}(J:ak.isFreed=P8)(c:Inv a e g b k s.heap):Sf (s.heap.push ak) b g s.heap.objs.size ak:=(gZ (Vs _ J) (c.fresh (ct _)) (c.no (ct _)))
theorem xW(L:Qa)(f:Qs)(Y:Sf d.heap b g L f):Sf (d.heap.push ak) b g L f:=Y.grow λU U D=>U2 _ D
noncomputable def nC:fD->Z
 |.nil=>0
 |.cons _ x=>nC x+1
theorem lY:∀{g:Loc} {y:AH} {vs:V Q} {H':AH},bB i bm g y=.ok (vs,H')->vs.length=nC bm:=by
 induction bm using fD.rec (motive_1:=λU=>Qw) (motive_3:=λU=>Qw) with
 |nil=>intro g y vs H' D;replace D:=C3.symm.trans D;obtain⟨rfl,rfl⟩:=rM D;rfl
 |cons D x _ k=>
  intro g y vs H' B;replace B:=hW.symm.trans B;refine Fd (aO i D g y) (λP T=>?_) (λU U T=>?_) (λT=>?_)
  ·rw[T,Res.aP] at B;refine Fd (bB i x g P.2) (λM m=>?_) (λU U m=>?_) (λm=>?_);·replace B:=m▸B;obtain⟨rfl,rfl⟩:=rM B;show _=nC x+1;refine V'.trans ?_;rw[k (vs:=M.1) (H':=M.2) m]
   ·replace B:=m▸B;cases B
   ·replace B:=m▸B;cases B
  ·replace B:=T▸B;cases B
  ·replace B:=T▸B;cases B
 |_=>trivial
theorem bU.length(B:bU Y x b z dm):dm.length=z.length:=B.len.symm
theorem SE.tup(I:rQ h a e l c j f i bm bn)(s:nC bm<1000):SE h a e l c j f i (.tup bm) (.Tuple bn rk J):=by
 intro b x y d g p n t;refine R pR (wpAny_Tuple_spliced ((I.run b x y d g p n).dX (.refl n.inv) (λL z X G Y T o1 U r m=>?_) t));refine R T ?_;have k:Y.length<1000:=by refine R r.length ?_;refine R (lY T) ?_;exact s
 refine⟨by have:Q2=_:=Q';exact uD k rfl,.ok (o1.trans (.grown o1.inv λU U D=>U2 _ D)) ?_⟩;exact .tup _ _ Y.toArray 0 (lX rfl o1.inv) (r.mono xW (.refl X))
theorem SE.lst(I:rQ h a e l c j f i bm bn)(s:nC bm<1000):SE h a e l c j f i (.lst bm) (.List bn J):=by
 intro b x y d g p n t;replace t:=v7▸t;refine R v7 ?_;refine UK ((I.run b x y d g p n).dX (.refl n.inv) (λL z X G Y T o1 U r m=>?_) t);refine R T ?_;have k:Y.length<1000:=by refine R r.length ?_;refine R (lY T) ?_;exact s
 refine⟨by have:Q2=_:=Q';exact uD k rfl,.ok (o1.trans (.grown o1.inv λU U D=>U2 _ D)) ?_⟩;exact .lst _ _ Y.toArray 0 (lX rfl o1.inv) (r.mono xW (.refl X))
theorem SE.emp:SE h a e l c j f i .emp (.List [] J):=by intro b x y d g p n t;refine R Gb (UK (PySem.Calls.spliced_nil ⟨by simp,?_⟩));have r:d.heap.get? d.heap.objs.size=N:=ct _;have P:∀E z,d.heap.get? E=S z->(d.heap.push (listOf #[] 0)).get? E=S z:=λU U D=>U2 _ D;refine .ok (r':=x.rN d.heap.objs.size) (.mk' (n.inv.Gn r P (Vs _ rfl) .nil) ((More.L x _).keep (λE w=>by refine R (UZ.mp w) ?_;exact r) P) (More.L x _).le) ?_;refine .aE _ _ ?_;exact R n.inv.ey.jP.symm hY
theorem kG(B:VR Y x b m ag)(D:truthy m=S fe):m=.bool fe/\ag=.bool fe:=by
 induction m using Zp with
 |bool A=>exact sX D▸⟨rfl,B.inv⟩
 |_=>exact nX D
theorem fW:rD i ai w k=(aO i ai w k).bind λx=>match truthy x.1 with|some E=>.ok (E,x.2)|none=>.bad:=rfl
theorem ST.plain(B:SE h a e l c j f i ai ao)(H:∀w,isTrue ao c w=(do let C<-w;standAt ao.pos;SK [C] (PySem.truthy C))):ST h a e l c j f i ai ao:=by
 intro b x y d g p n t;refine R fW (isTrue_plain ((B b x y d g p n).dX (.refl n.inv) (λL z X G Y T o1 U r D=>?_) t) (H _));refine R T (hF λk=>oA (truthy L) (λK=>?_) (λE K=>?_));·exact bX (K▸D)
 ·refine bT (kG r K) λbP cQ=>?_;clear T r D K y g p n t B H;subst bP;subst cQ;exact k (RB (.ok o1 rfl))
noncomputable def wo:P9->P6
 |.UnaryOp .Not ..|.BoolOp ..|.IfExp ..|.Compare ..=>P4
 |_=>P8
theorem tD(B:wo ao=P8)(w:Qt P'):isTrue ao c w=(do let C<-w;standAt ao.pos;SK [C] (PySem.truthy C)):=by
 induction ao using PySem.Expr.casesOn with
 |UnaryOp o n P=>induction o using UnaryOp.casesOn<;>first|rfl|cases B
 |BoolOp=>cases B
 |IfExp=>cases B
 |Compare=>cases B
 |_=>rfl
theorem mV.step{p:Rel G bx}{K:Qt bx}{n:Res (G×AH)}{r:G×AH->Res (pi×AH)}{i:bx->Qh->Prop}(B:mV a e g T f l p K n b d)(c:Inv a e g b k d.heap)
  (X:∀L s H o E,n=.ok (L,s)->aQ a e g [] b d H s o->p (Sf o.heap H g) H L E->r (L,s)≠.bad->i E o) (w:n.bind r≠.bad):Qf T f K i (EE a e g l (n.bind r).x? b d) d:=
 B.dX (.refl c) (λL s H o E D z U C t=>X L s H o E D z C t) w
theorem SE.and{L:LE}(v:SE h a e l c j f i L ao)(I:SE h a e l c j f i cz (.BoolOp .And (s :: kj) J)):SE h a e l c j f i (.and L cz) (.BoolOp .And (ao :: s :: kj) J):=by
 intro b x y d g p n t;refine R wa (BoolOp_and ((v b x y d g p n).step n.inv (λL z X G Y T o1 r D=>?_) t));refine R T (oA (truthy L) (λK=>?_) (λcz K=>?_));·replace D:=K▸D;exact bX D
 ·refine bT (kG r K) λeA eZ=>?_
  subst eA
  clear L T K t v
  subst eZ
  refine RB ?_
  induction cz using U6 with
  |false=>exact .ok o1 r
  |true=>exact(I b X z G g p (n.on p o1)).lift o1 D
theorem SE.or{L:LE}(v:SE h a e l c j f i L ao)(I:SE h a e l c j f i cz (.BoolOp .Or (s :: kj) J)):SE h a e l c j f i (.or L cz) (.BoolOp .Or (ao :: s :: kj) J):=by
 intro b x y d g p n t;refine R Am (BoolOp_or ((v b x y d g p n).step n.inv (λL z X G Y T o1 r D=>?_) t));refine R T (oA (truthy L) (λK=>?_) (λcz K=>?_));·replace D:=K▸D;exact bX D
 ·refine bT (kG r K) λg6 lR=>?_
  subst g6
  clear L T K t v
  subst lR
  refine RB ?_
  induction cz using U6 with
  |true=>exact .ok o1 r
  |false=>exact(I b X z G g p (n.on p o1)).lift o1 D
theorem SE.one(B:SE h a e l c j f i bk ao):SE h a e l c j f i bk (.BoolOp rm [ao] J):=λb x y d g p n t=>BoolOp_one (B b x y d g p n t)
theorem xX:rD i (.and bk cz) w k=(rD i bk w k).bind λM=>if M.1 then rD i cz w M.2 else .ok (P8,M.2):=by
 refine fW.trans ((bL wa).trans (R fW ?_));cases aO i bk w k with
 |ok P=>
  dsimp only[Res.aP]
  induction K:truthy P.1 using U0 with
  |none=>rfl
  |some A=>induction A using U6 with
   |true=>rfl
   |false=>exact Res.aP.trans (R K rfl)
 |exc _ _=>rfl
 |bad=>rfl
theorem AN:rD i (.or bk cz) w k=(rD i bk w k).bind λM=>if M.1 then .ok (P4,M.2) else rD i cz w M.2:=by
 refine fW.trans ((bL Am).trans (R fW ?_));cases aO i bk w k with
 |ok P=>
  dsimp only[Res.aP]
  induction K:truthy P.1 using U0 with
  |none=>rfl
  |some A=>induction A using U6 with
   |false=>rfl
   |true=>exact Res.aP.trans (R K rfl)
 |exc _ _=>rfl
 |bad=>rfl
theorem xY:rD i (.not bk) w k=(rD i bk w k).bind λM=>.ok (!M.1,M.2):=by
 refine fW.trans ((bL wb).trans (R fW ?_));cases aO i bk w k with
 |ok P=>
  dsimp only[Res.aP]
  induction K:truthy P.1 using U0 with
  |none=>rfl
  |some A=>rfl
 |exc _ _=>rfl
 |bad=>rfl
theorem ST.one(B:ST h a e l c j f i bk ao):ST h a e l c j f i bk (.BoolOp rm [ao] J):=by
 intro b x y d g p n t;induction rm using Rq.casesOn with
 |And=>
  refine isTrue_and (Qq (B b x y d g p n t) (λA G M=>?_) λU U D=>D)
  induction A using U6 with
  |true=>exact isTrue_and_nil M
  |false=>exact M
 |Or=>
  refine isTrue_or (Qq (B b x y d g p n t) (λA G M=>?_) λU U D=>D)
  induction A using U6 with
  |false=>exact isTrue_or_nil M
  |true=>exact M
theorem ST.and(v:ST h a e l c j f i bk ao)(I:ST h a e l c j f i cz (.BoolOp .And (s :: kj) J)):ST h a e l c j f i (.and bk cz) (.BoolOp .And (ao :: s :: kj) J):=by
 intro b x y d g p n t;rw[xX] at t;refine R xX ?_;refine isTrue_and ((v b x y d g p n).step n.inv (λbk z X G Y T o1 r D=>?_) t);obtain rfl:bk=Y:=r;refine R T ?_;clear T t v;induction bk using U6 with
 |true=>exact(I b X z G g p (n.on p o1)).lift o1 D
 |false=>exact .ok o1 rfl
theorem ST.or(v:ST h a e l c j f i bk ao)(I:ST h a e l c j f i cz (.BoolOp .Or (s :: kj) J)):ST h a e l c j f i (.or bk cz) (.BoolOp .Or (ao :: s :: kj) J):=by
 intro b x y d g p n t;rw[AN] at t;refine R AN ?_;refine isTrue_or ((v b x y d g p n).step n.inv (λbk z X G Y T o1 r D=>?_) t);obtain rfl:bk=Y:=r;refine R T ?_;clear T t v;induction bk using U6 with
 |false=>exact(I b X z G g p (n.on p o1)).lift o1 D
 |true=>exact .ok o1 rfl
theorem ST.not(B:ST h a e l c j f i bk ao):ST h a e l c j f i (.not bk) (.UnaryOp .Not ao J):=by intro b x y d g p n t;rw[xY] at t;refine R xY ?_;refine isTrue_not ((B b x y d g p n).step n.inv (λbk z X G Y T o1 r D=>?_) t);obtain rfl:bk=Y:=r;exact R T (.ok o1 rfl)
theorem SE.not{L:LE}(B:SE h a e l c j f i L ao):SE h a e l c j f i (.not L) (.UnaryOp .Not ao J):=by
 intro b x y d g p n t;refine R wb (UnaryOp_ ((B b x y d g p n).step n.inv (λL z X G Y T o1 r D=>?_) t));refine R T (hF λH=>oA (truthy L) (λK=>?_) (λE K=>?_));·exact bX (K▸D)
 ·refine bT (kG r K) λm3 pU=>?_;subst m3;clear L T r D K y g p n t B;subst pU;exact H (not_of (RB (.ok o1 (.bool _))))
theorem SE.neg(B:SE h a e l c j f i bk ao):SE h a e l c j f i (.neg bk) (.UnaryOp .USub ao J):=by intro b x y d g p n t;refine R An (UnaryOp_ ((B b x y d g p n).step n.inv (λbk z X G Y T o1 r D=>?_) t));refine R T ?_;clear T y g p n t B;refine eK (Jm D) λs M=>?_;subst M;obtain⟨K,rfl⟩:=r.inv;exact Zk (.ok (o1.trans (.tok o1.inv)) (.int _ _))
theorem xZ:aO i (.ite fi bk cz) w k=(rD i fi w k).bind λM=>if M.1 then aO i bk w M.2 else aO i cz w M.2:=by
 refine wc.trans (R fW ?_);cases aO i fi w k with
 |ok P=>
  dsimp only[Res.aP]
  induction K:truthy P.1 using U0 with
  |none=>rfl
  |some fi=>induction fi using U6<;>rfl
 |exc _ _=>rfl
 |bad=>rfl
theorem SE.ite(k:ST h a e l c j f i fi ao)(v:SE h a e l c j f i bk s)(I:SE h a e l c j f i cz i5):SE h a e l c j f i (.ite fi bk cz) (.IfExp ao s i5 J):=by
 intro b x y d g p n t;rw[xZ] at t;refine R xZ ?_;refine IfExp_ ((k b x y d g p n).step n.inv (λM z X G Y T o1 r D=>?_) t);obtain rfl:M=Y:=r;refine R T ?_;clear T t k;induction M using U6 with
 |true=>exact(v b X z G g p (n.on p o1)).lift o1 D
 |false=>exact(I b X z G g p (n.on p o1)).lift o1 D
theorem x5:rD i (.ite fi bk cz) w k=(rD i fi w k).bind λM=>if M.1 then rD i bk w M.2 else rD i cz w M.2:=by
 refine fW.trans ((bL wc).trans (R fW ?_));cases aO i fi w k with
 |ok P=>
  dsimp only[Res.aP]
  induction K:truthy P.1 using U0 with
  |none=>rfl
  |some fi=>induction fi using U6<;>rfl
 |exc _ _=>rfl
 |bad=>rfl
theorem ST.ite(k:ST h a e l c j f i fi ao)(v:ST h a e l c j f i bk s)(I:ST h a e l c j f i cz i5):ST h a e l c j f i (.ite fi bk cz) (.IfExp ao s i5 J):=by
 intro b x y d g p n t;rw[x5] at t;refine R x5 ?_;refine isTrue_IfExp ((k b x y d g p n).step n.inv (λM z X G Y T o1 r D=>?_) t);obtain rfl:M=Y:=r;refine R T ?_;clear T t k;induction M using U6 with
 |true=>exact(v b X z G g p (n.on p o1)).lift o1 D
 |false=>exact(I b X z G g p (n.on p o1)).lift o1 D
noncomputable def lZ:FY->CmpOp
 |.eq=>.Eq|.ne=>.NotEq|.lt=>.Lt|.le=>.LtE|.gt=>.Gt|.ge=>.GtE|.is=>.Is|.oa=>.IsNot|.in=>.In|.uH=>.NotIn
structure oU(g₀:Qb):Prop where
 mods:∃o,g₀.get? RC=S o
theorem oU.ne(H:oU e)(s:Inv a e g b k d.heap)(B:n∈b.M):(n==RC)=P8:=by refine eK H.mods λz D=>?_;have:=(s.keep _ z D).2;rw[RK];rintro rfl;exact this B
theorem wq(D:iM m bc=S au):∃l,m=.bH l:=by
 refine hF λz=>?_;induction m using Zp with
 |bH l=>exact z ⟨l,rfl⟩
 |_=>induction bc using U5<;>exact nX D
theorem uW(D:iM (.bH jr) (m :: bc)=S au):∃H o,m=.bH H/\iM (.bH jr) bc=S o/\(H==jr||o)=au:=by
 induction m using Zp with
 |bH H=>obtain⟨o,D,B⟩:=VA.mp D;exact uK H o rfl D B
 |_=>exact nX D
noncomputable def hasB(l:V Z):P'->P6
 |.bytes E _=>E.toList.map V1==l
 |_=>P8
theorem yY:∀{A:P6} {v:V P'},iM (.bH jr) bc=S A->bU Y x b bc v->
  (∀n∈v,∃E K,n=.bytes E K)/\A=v.any (hasB jr):=by
 induction bc with
 |nil=>intro A v D B;obtain rfl:=B.inv;exact⟨λn J=>(nomatch J),(sX D).symm⟩
 |cons L bc k=>
  intro A v D B;refine rL B.inv λU e wi G p=>?_;clear B;subst wi;refine rL (uW D) λH o lJ m pW=>?_;clear D;subst lJ;subst pW;refine cN G.inv λE K pX i=>?_;clear G;subst pX;refine bT (k m p) λd wk=>?_;clear p m;subst wk;refine⟨λn J=>?_,i▸rfl⟩;rcases U4.mp J with rfl|J;·exact z8 E K rfl
  ·exact d n J
theorem yZ(B:VR Y x b m ag):isNone m=N\/isNone m=S (ag==.none)/\plainIs ag .none=P4:=VR.casesOn (motive_1:=λm ag U=>isNone m=N\/isNone m=S (ag==.none)/\plainIs ag .none=P4) B (.inr ⟨rfl,rfl⟩) (λU=>.inr ⟨rfl,rfl⟩) (λU U=>.inr ⟨rfl,rfl⟩) (λU U U=>.inr ⟨rfl,rfl⟩) (λU U U U=>.inr ⟨rfl,rfl⟩) (λU=>.inr ⟨rfl,rfl⟩) (λU=>.inr ⟨rfl,rfl⟩) (λU U U=>.inr ⟨rfl,rfl⟩) (λU U U=>.inr ⟨rfl,rfl⟩) (λU U U=>.inr ⟨rfl,rfl⟩) (λU U U U=>.inr ⟨rfl,rfl⟩) (λU U U U U U=>.inr ⟨rfl,rfl⟩) (λU U U U U U=>.inr ⟨rfl,rfl⟩) (λU U U U U U U U U=>.inr ⟨rfl,rfl⟩) (λU U U U U U U U U U U U=>.inl rfl)
theorem is_none(c:VR Y x b m g4)(w:VR Y x b bp ag)(D:(match (generalizing:=false) bp with|.none=>isNone m|_=>N)=S au):ag=.none/\plainIs g4 .none=P4/\(g4==.none)=au:=by
 induction bp using Zp with
 |none=>
  refine⟨w.inv,?_⟩;rcases yZ c with B|⟨B,M⟩;·exact nX (B.symm.trans D)
  ·exact⟨M,sX (B.symm.trans D)⟩
 |_=>exact nX D
theorem tE{f:P5->P5->O P6}(c:VR Y x b m g4)(w:VR Y x b bp ag)(D:(match (generalizing:=false) m,bp with|.int I,.int n=>f I n|_,_=>N)=S au):∃I n K y,g4=.int I K/\ag=.int n y/\f I n=S au:=by
 induction m using Zp with
 |int I=>induction bp using Zp with
  |int n=>obtain⟨K,B⟩:=c.inv;obtain⟨y,a⟩:=w.inv;exact LJ I n K y B a D
  |_=>exact nX D
 |_=>exact nX D
theorem Jy(D:IQ k m bp=S au):(∃w l,bp=.lst w/\m=.bH l/\iM (.bH l) w=S au)\/∃X c P,bp=.ab X/\k.D[X]? = S c/\fO m c=S P/\P.isSome=au:=by
 induction bp using Zp with
 |lst w=>obtain⟨l,rfl⟩:=wq D;exact .inl (uK w l rfl rfl D)
 |ab X=>exact lI D λc L T=>Ab T λP a b=>.inr (CU X c P rfl L a b)
 |_=>exact nX D
theorem AO(z:f.units+64<QG)(i:oU e)(s:Inv a e g b k d.heap)(c:VR a.params (Sf d.heap b g) b m dv)(w:VR a.params (Sf d.heap b g) b bp ja)(D:IQ k m bp=S au) :
  (∀Y T,(∀x,Y (.bool au) {d with toks:=d.toks+x})->Qf (Qe h a) f (SI .In dv ja) Y T d)/\(∀Y T,(∀x,Y (.bool !au) {d with toks:=d.toks+x})->Qf (Qe h a) f (SI .NotIn dv ja) Y T d):=by
 refine hF λo=>?_;rcases Jy D with⟨vs,l,rfl,rfl,D⟩|⟨X,U,P,rfl,L,M,rfl⟩
 ·refine eM w.inv λI v x tA sx A=>?_;subst tA;refine cN c.inv λbp K tB C=>?_;subst tB;refine bT (yY D A) λG p=>?_;have H:∀n,n∈v->EqAt f.in1 d n (.bytes bp K) (hasB l n):=λn J=>by refine rC (G n (Qi.mem_toList_iff.mpr J)) λb' y wm=>?_;clear J;subst wm;exact λh a T Y B=>PySem.W.eqBool_bytes ((tu rfl C).symm▸B)
  have t:=p.trans (Y6 ..);clear A C G p z D;subst t;exact o ⟨λY T B=>in_listAt _ (bb sx.1) H (B 0),λY T B=>notIn_listAt _ (bb sx.1) H (B 0)⟩
 ·refine aM w.inv λa0 AI E=>?_;clear w D;subst AI;exact Dc (hA s L E) λj r dk I=>o (Dh (own:=g) (IT z rfl) (i.ne s (hX E)) I c M)
theorem ya(j:f.units+64<QG)(i:oU e)(s:Inv a e g b k d.heap)(c:VR a.params (Sf d.heap b g) b m dv)(w:VR a.params (Sf d.heap b g) b bp ja)(D:cW k ji m bp=S au)
  (B:∀l,am (.bool au) {d with toks:=d.toks+l}):Qf (Qe h a) f (SI (lZ ji) dv ja) am t d:=by
 have H:am (.bool au) d:=B 0;induction ji using FY.casesOn with
 |eq=>exact(AE s j c w D).1 h a t am H
 |ne=>refine Ab D λo T Gv=>?_;subst Gv;exact(AE s j c w T).2 h a t am H
 |is=>obtain⟨rfl,P,rfl⟩:=is_none c w D;exact wpAny_is_plain P H
 |oa=>
  have D:(match (generalizing:=false) bp with|.none=>(isNone m).map (!·)|_=>N)=S au:=D
  refine hF λv=>?_
  obtain⟨o,T,rfl⟩:∃o,(match (generalizing:=false) bp with|.none=>isNone m|_=>N)=S o/\(!o)=au:=by
   induction bp using Zp with
   |none=>exact VA.mp D
   |_=>exact nX D
  refine hO (is_none c w T) λJz P JA=>?_
  subst Jz
  subst JA
  exact v (wpAny_isNot_plain P H)
 |«in»=>exact(AO j i s c w D).1 am t B
 |uH=>refine Ab D λo T Gw=>?_;subst Gw;exact(AO j i s c w T).2 am t B
 |lt=>obtain⟨I,n,K,y,rfl,rfl,D⟩:=tE (f:=Ag .lt) c w D;exact Zl ((sX D).symm▸H)
 |le=>obtain⟨I,n,K,y,rfl,rfl,D⟩:=tE (f:=Ag .le) c w D;exact Zm ((sX D).symm▸H)
 |gt=>obtain⟨I,n,K,y,rfl,rfl,D⟩:=tE (f:=Ag .gt) c w D;exact Zn ((sX D).symm▸H)
 |ge=>obtain⟨I,n,K,y,rfl,rfl,D⟩:=tE (f:=Ag .ge) c w D;exact Zo ((sX D).symm▸H)
theorem SE.cmp(k:f.units+64<QG)(K:oU e)(v:SE h a e l c j f i bk ao)(I:SE h a e l c j f i cz s)(B:To (lZ ji) s=P8):SE h a e l c j f i (.cmp ji bk cz) (.Compare ao [lZ ji] [s] J):=by
 intro b x y d g p n t;refine R v9 (wpAny_Compare1 ((v b x y d g p n).step n.inv (λbk z X G Y T o1 r E=>?_) t) B);refine R T (R Res.aP ?_);refine(I b X z G g p (n.on p o1)).dX o1 (λcz C H o U m o2 M w P=>?_) E;refine R m (R Res.aP ?_);induction D:cW C ji bk cz using U0 with
 |none=>exact bX (D▸P)
 |some A=>exact ya k K o2.inv (M.vr r) w D λq=>.ok (o2.trans (.tok o2.inv)) (.bool A)
theorem ST.cmp(k:f.units+64<QG)(hm:oU e)(v:SE h a e l c j f i bk ao)(I:SE h a e l c j f i cz s)(B:To (lZ ji) s=P8):ST h a e l c j f i (.cmp ji bk cz) (.Compare ao [lZ ji] [s] J):=by
 intro b x y d g p n t;have E:rD i (.cmp ji bk cz) g y=(aO i bk g y).bind λx=>(aO i cz g x.2).bind λM=>match cW M.2 ji x.1 M.1 with|some C=>.ok (C,M.2)|none=>.bad:=by
  refine fW.trans ((bL v9).trans ?_)
  cases aO i bk g y with
  |ok P=>
   dsimp only[Res.aP]
   cases aO i cz g P.2 with
   |ok M=>dsimp only[Res.aP];induction(cW M.2 ji P.1 M.1) using U0<;>rfl
   |exc _ _=>rfl
   |bad=>rfl
  |exc _ _=>rfl
  |bad=>rfl
 rw[E] at t;refine R E ?_;refine wpAny_isTrue_Compare1 ((v b x y d g p n).step n.inv (λbk z X G Y T o1 r a0=>?_) t) B;refine R T (R Res.aP ?_);refine(I b X z G g p (n.on p o1)).dX o1 (λcz L H o U m o2 K w a1=>?_) a0;refine R m (R Res.aP ?_);induction D:cW L ji bk cz using U0 with
 |none=>exact bX (D▸a1)
 |some A=>exact ya k hm o2.inv (K.vr r) w D λq=>RB (.ok (o2.trans (.tok o2.inv)) rfl)
structure IX(K:QF):Prop where
 ga:∀c,c≠.bZ->Q8 K (.ref (CA c)) "__getattribute__"=S (S (.builtin "object.__getattribute__"))
 KV:∀c,c≠.bZ->Q8 K (.ref (CA c)) "__getattr__"=S N
 cls:∀c,∃cd,RD K (CA c)=S cd/\cd.hasDict=P4
 LZ:∀c,c≠.bZ->∀k∈cA c,Q8 K (.ref (CA c)) (sx k)=S N
 aU:∀c m f,td c m=S f->m≠26->c≠.bZ/\f<60/\m<NS/\m∉cA c/\Q8 K (.ref (CA c)) (sx m)=S (S (.ref (FA f)))
 fn:∀k,k<60->Rf K (.ref (FA k))=S (.type "function")/\Sk K (.ref (FA k))=P4
 Fe:∀c,Sk K (.ref (CA c))=P4
 lvl:Q8 K (.ref (CA .Mem)) (sx 26)=S (S (.ref 359))/\Tp K (.ref 359) "__get__"=S (S (.builtin "property.__get__"))/\takesIn K (.ref 359)=S P4/\∃rest,recIn K 359 "property"=S (.ref (FA 20) :: rest)
structure Gz(K:QF):Prop where
 sa:∀c,c≠.bZ->Q8 K (.ref (CA c)) "__setattr__"=S (S (.builtin "object.__setattr__"))/\plainOver K (CA c)=P4
 AP:∀c,c≠.bZ->∀k∈cA c,SM K (CA c) (sx k)=S N
structure y0(K:QF):Prop where
 ga:Q8 K (.ref (CA .bZ)) "__getattribute__"=S (S (.builtin "BaseException.__getattribute__"))
 KV:Q8 K (.ref (CA .bZ)) "__getattr__"=S N
 LZ:∀k∈cA .bZ,Q8 K (.ref (CA .bZ)) (sx k)=S N
 sub:mroIn K (CA .bZ) (.type "BaseException")=S P4
 cls:∃cd,RD K (CA .bZ)=S cd/\cd.hasDict=P4
theorem iO:∀A,∀X∈cA A,X<NS:=by intro A;induction A using gV.casesOn<;>decide +kernel
theorem pA:∀A,(cA A).Nodup:=by intro A;induction A using gV.casesOn<;>decide +kernel
theorem GA:∀{l:V Z} {s:Z},KJ fj l=S s->l[s]? = S fj:=by
 intro l;induction l with
 |nil=>intro _ B;exact nomatch B
 |cons E x b=>
  intro s B;replace B:(if fj==E then S 0 else(KJ fj x).map (· + 1))=S s:=B;refine z9 (fj==E) (λD=>?_) (λD=>?_);·replace B:=D▸B;exact Ab B λv G bP=>R bP.symm (b G)
  ·replace B:=D▸B;obtain rfl:=VH B;refine R (Ra.mp D) ?_;rfl
theorem Di(B:U≠.bZ):I8 U=cA U:=by induction U using gV.casesOn<;>first|rfl|exact(B rfl).elim
theorem sz(L:Z):jA .bZ L=N:=rfl
theorem uX(B:jA U fj=S aj):(cA U)[aj]? = S fj:=by
 have:U≠.bZ:=λD=>by exact nX (D▸B)
 exact R (Di this).symm (GA B)
structure bA(hd:O P')(n:Z)(A:QB)(l:V Qo):Prop where
 handled:A.handled=hd
 frames:A.frames=S l
 depth:A.depth+4*n+8<T5
 units:A.units+20*n+200<QG
theorem bA.in1(B:bA fq (q+1) f l):bA fq q f.in1 l:=⟨B.handled,B.frames,NZ B.depth,Jl B.units rfl⟩
theorem bA.less(B:bA fq q f l)(X:bj<=q):bA fq bj f l:=⟨B.handled,B.frames,MP X B.depth,MP X B.units⟩
theorem FR.find(A:ah.Nodup)(d:∀X∈ah,X<NS):∀{c:V Q} {j:V QD} {s X:Z} {L:Q},FR Y x b ah c j->ah[s]? = S X->c[s]? = S L->
  ∃D,j.find? (λD=>D.key.isStr (sx X))=S D/\VR Y x b L D.val:=by
 induction ah with
 |nil=>intro c j s X L B D;exact nX D
 |cons I ah k=>
  intro c j s X L B D T
  rw[Vl] at A
  cases B with
  |@cons _ C v t _ c j G p=>
   induction s using Vn with
   |zero=>obtain rfl:=sX D;obtain rfl:=sX T;exact ba ⟨VN Y (sx I),.str (sx I) t,v⟩ (by refine Yk.trans ?_;simp[P'.isStr]) G
   |succ s=>
    simp only[V.getElem?_cons_succ] at D T;refine aM (k A.2 (λX J=>d X (.tail _ J)) p D T) λP a m=>ba P ?_ m;refine Yk.trans ?_;have J:=Va D;have:(P'.str (sx I) t).isStr (sx X)=P8:=by refine(m7 (d I (.head _)) (d X (.tail _ J))).trans ?_;rw[RK];rintro rfl;exact A.1 J
    exact R this a
theorem FR.none(d:∀X∈ah,X<NS):∀{c:V Q} {j:V QD} {X:Z},FR Y x b ah c j->X<NS->X∉ah->j.find? (λD=>D.key.isStr (sx X))=N/\j.any (·.refKey)=P8:=by
 induction ah with
 |nil=>intro c j X B _ _;cases B;exact⟨rfl,rfl⟩
 |cons I ah k=>
  intro c j X B J K
  cases B with
  |@cons _ C v t _ c j G p=>
   refine bT (k (λX J=>d X (.tail _ J)) p J λH=>K (.tail _ H)) λT m=>?_;refine⟨?_,by refine YF.trans ?_;refine m.trans ?_;rfl⟩;refine Yk.trans ?_;have:(P'.str (sx I) t).isStr (sx X)=P8:=by refine(m7 (d I (.head _)) J).trans ?_;rw[RK];rintro rfl;exact K (.head _)
   exact R this T
theorem VR.handed(B:VR Y x b m ag):handedIn ag=P4:=by induction B using VR.casesOn<;>rfl
theorem oG{D:QD}(B:C.toList.find? (λD=>D.key.isStr dg)=S D):SN dg (bM C q)=S (S D.val):=by unfold SN;simp only[B]
theorem uY(B:C.toList.find? (λD=>D.key.isStr dg)=N)(x:C.toList.any (·.refKey)=P8):SN dg (bM C q)=S N:=by unfold SN;simp only[B,x,V5,Rl]
structure lp(s:Qh)(x d:Qa)(c:gV)(es:Qi QD)(n:Z):Prop where
 x:s.heap.get? x=S (QH (CA c) d)
 d:s.heap.get? d=S (bM es n)
theorem lp.inst(B:lp d cn A U C q):InstAt d.heap cn (QH (CA U) A) (CA U) (S (bM C q)):=⟨B.x,rfl,rfl,B.d⟩
theorem lp.tok(B:lp d cn A U C q):lp {d with toks:=jj} cn A U C q:=⟨B.x,B.d⟩
theorem yb{S:SP}(j:IX v)(g:v.In d.heap)(s:U≠.bZ)(k:lp d cn A U C q)(r:FR a.params S b (cA U) bc C.toList)(D:jA U fj=some aj)(E:bc[aj]? = some bg)
  (B:∀c,VR a.params S b bg c->am c {d with toks:=d.toks+1}):Qf (Qe h a) f (Sl (.ref cn) (sx fj) fe) am t d:=by
 have J:=uX D;refine aM (r.find (pA U) (iO U) J E) λP T m=>aM (j.cls U) λI G p=>?_;have i:findObj v (CA U) (some (bM C q)) (sx fj)=some (.value P.val):=by refine(oL G).trans ?_;refine(WH ..).trans ?_;refine(oL (j.LZ U s fj (Va J))).trans ?_;refine(WH ..).trans ?_;have l:Ze I (some (bM C q)) (sx fj)=some (some P.val):=(Qk p).trans (oG T);show Yo (Ze I (some (bM C q)) (sx fj)) _=_;refine(oL l).trans ?_;rfl
 exact get_value g k.inst (j.ga U s) i m.handed (B _ m)
noncomputable def hB:Key->Qa
 |.fn X=>FA X
 |.cls A=>CA A
noncomputable def RR(k:Qr)(G:Qb)(b:V Qa)(l:V Qo)(j:Res (Q×AH))(x:cS)(d:Qh):Q9->Qh->Prop:=λI m=>match I with
 |.ok (.ret C)=>QQ k G b (pT k) [] j x d C m
 |.ok _=>QC
 |.error D=>EE k G b l j.x? x d D m
structure kU(prog:Qz)(w:Qr)(g₀:Qb)(hd:O P')(cf:CF)(n:Z):Prop where
 run:∀own l A key args H r s vs,bA hd n A l->Inv w g₀ own r H s.heap->dI l own [] s.heap->bU w.params (Sf s.heap r own) r args vs->cf key args H≠.bad->
  QL (Qe prog w) A (.call (.ref (hB key)) ⟨vs,[]⟩) (RR w g₀ own l (cf key args H) r s) s
structure Gr(K:QF)(g₀:Qb)(p:Qz)(loose:V Qc)(mg mb:Qc->O P'):Prop where
 ok:IX K
 X:K.In g₀
 T:TopRead p loose mg mb g₀
 mods:oU g₀
 err:y0 K
 set:Gz K
noncomputable def fQ:P9->P6
 |.Call (.Name _ _) [] [] _=>P8
 |_=>P4
theorem iQ{L:Qc}{w:Qt P'}(B:fQ ao=P4):attributeBase ao L c w=w:=by
 induction ao using PySem.Expr.casesOn with
 |Call r b k P=>
  induction r using PySem.Expr.casesOn with
  |Name J M=>
   induction b using U5 with
   |nil=>induction k using U5 with
    |nil=>exact Qp B Vm
    |cons _ _=>exact Eq.refl w
   |cons _ _=>exact Eq.refl w
  |_=>exact Eq.refl w
 |_=>exact Eq.refl w
theorem Gr.In(A:Gr v e P cv cx cw)(s:Inv a e g b k d.heap):v.In d.heap:=A.X.keeps λE z D=>(s.keep E z D).1
theorem SE.gl{env:Qo}{loc:Loc}(A:Gr v e P cv cx cw)(I:QZ v QO r=S (S ag))(H:env.kindOf r=S .globalImplicit)(q:(r==("__debug__":Qc))=P8)(g:∀y,aO i ai loc y=.ok (m,y))(c:∀{B x},VR a.params B x m ag) :
  ∀b x y d,bt b env j->St a e b l env j x y loc d->mV a e b (Qe h a) f l (pT a) (eval (.Name r J) env) (aO i ai loc y) x d:=by intro b x y d p n t;refine R (g ..) ?_;exact SQ p.kind H (Tq (env:=env) (R p.glob (A.T.g.keeps λE z ai=>(n.inv.keep E z ai).1)) (mg_of A.X A.T.g I) (.ok (.refl n.inv) c)) q
theorem SE.gf(A:Gr v e P cv cx cw)(I:QZ v QO r=S (S (.ref (FA c9))))(H:c.kindOf r=S .globalImplicit)(q:(r==("__debug__":Qc))=P8):SE h a e l c j f i (.gf c9) (.Name r J):=λb x y d g p n=>SE.gl (loc:=g) A I H q (λy=>rfl) (.fn c9) b x y d p n
theorem SE.gc(A:Gr v e P cv cx cw)(I:QZ v QO r=S (S (.ref (CA U))))(H:c.kindOf r=S .globalImplicit)(q:(r==("__debug__":Qc))=P8):SE h a e l c j f i (.gc U) (.Name r J):=λb x y d g p n=>SE.gl (loc:=g) A I H q (λy=>rfl) (.cls U) b x y d p n
theorem SE.gi{k:Z}(A:Gr v e P cv cx cw)(I:QZ v QO r=S (S (.int gz j3)))(H:c.kindOf r=S .globalImplicit)(q:(r==("__debug__":Qc))=P8):SE h a e l c j f i (.gi k gz) (.Name r J):=λb x y d g p n=>SE.gl (loc:=g) A I H q (λy=>rfl) (.int gz j3) b x y d p n
theorem pC(s:Inv a e g b k d.heap)(J:b.I[H]? = S (n,A))(D:k.I[H]? = S (U,bc)):∃j q,lp d n A U j q/\FR a.params (Sf d.heap b g) b (cA U) bc j.toList:=by refine hF λC=>?_;obtain⟨o,j,q,G,r⟩:=s.ey.I H _ _ D J;exact C (eP j q ⟨o,G⟩ r)
theorem sA(I:handedIn ag=P4)(B:am ag d):Qf T f (handedOut ag) am t d:=by exact R (handedOut_of I) (Qg B)
theorem Dj{s:Qh}(j:IX v)(g:v.In s.heap)(k:lp s cn A .Mem C bj)
  (B:QL (Qe h a) f.in1 (.call (.ref (FA 20)) ⟨[.ref cn],[]⟩) (λx m=>match x with|.ok (.ret b)=>handedIn b=P4/\am b m|.ok _=>QC|.error D=>QC) {s with toks:=s.toks+1}) :
  Qf (Qe h a) f (Sl (.ref cn) (sx 26) fe) am t s:=by
 refine hF λq=>?_;obtain⟨G,p,c,d,L⟩:=j.lvl;refine aM (j.cls .Mem) λI l X=>?_;have i:findObj v (CA .Mem) (S (bM C bj)) (sx 26)=S (.bind (.builtin "property.__get__") (.ref 359)):=by refine(oL l).trans ((oL G).trans ?_);show Yo (Tp v (.ref 359) "__get__") _=_;refine(oL p).trans ?_;show Yo (takesIn v (.ref 359)) _=_;refine(oL c).trans rfl
 refine q (get_bind g k.inst (j.ga .Mem (by decide)) i (j.KV .Mem (by decide)) (RO (R5 (prop_get (s:={s with toks:=s.toks+1}) g L B) λx m Y=>?_)));rcases x with D|(b|_|_|_);·exact Y.elim
 ·exact Y.elim
 ·exact Y.elim
 ·exact Y.elim
 ·exact sA Y.1 Y.2
section
open Builtin Builtin.ObjectAttr
theorem tF:Slot "BaseException" "__getattribute__" "BaseException.__getattribute__":=.of (owner:="BaseException") (n:="__getattribute__") (by refine(Rg ..).trans ?_;refine R Tr ?_;kernel_rfl) (by decide +kernel) (by decide +kernel) (by decide +kernel) (by first|exact .inl (by decide +kernel)|exact .inr (rfl +kernel)) (by refine(Rt ..).trans ?_;kernel_rfl)
theorem Dl{w:V Q}{S:SP}(j:y0 v)(g:v.In d.heap)(H:d.heap.get? cn=some pt)(s:pt.cls=.ref (CA .bZ))(y:pt.dict=some A)(J:∃w,pt.data=.fields w)(c:d.heap.get? A=some (bM C q))
  (r:FR a.params S b (cA .bZ) w C.toList) (D:(cA .bZ)[aj]? = some fj) (E:w[aj]? = some bg)
  (B:∀x,VR a.params S b bg x->am x {d with toks:=d.toks+1}):Qf (Qe h a) f (Sl (.ref cn) (sx fj) fe) am t d:=by
 refine aM (r.find (pA .bZ) (iO .bZ) D E) λP T m=>?_;refine aM j.cls λI G p=>?_;have k:InstAt d.heap cn pt (CA .bZ) (some (bM C q)):=⟨H,s,by obtain⟨w,U⟩:=J;unfold notCls;refine R U rfl,by refine R y ?_;exact c⟩;have i:findObj v (CA .bZ) (some (bM C q)) (sx fj)=some (.value P.val):=by refine(oL G).trans ?_;refine(WH ..).trans ?_;refine(oL (j.LZ fj (Va D))).trans ?_;refine(WH ..).trans ?_;have l:Ze I (some (bM C q)) (sx fj)=some (some P.val):=(Qk p).trans (oG T);show Yo (Ze I (some (bM C q)) (sx fj)) _=_;refine(oL l).trans ?_;rfl
 clear T I G p H s y J c r D E w;obtain⟨n,o,z,K,e⟩:=d;have L:=k.type (M:=Qe h a);refine P7 (T6 (QE (P7 (L.at (P7 ((Sm (M:=Qe h a) g j.ga).at ?_))))));refine P7 ((Sm (M:=Qe h a) g j.KV).at (P7 (RP (QE ?_))));unfold callGetattribute;refine R (show(fe&&onTheHeap (P'.builtin "BaseException.__getattribute__"))=P8 from XR _) ?_;refine P7 (Qg ?_);refine RO (UL tF.plain PySem.F.entry_bexc_ga ?_);refine @Ts (Qe h a) _ _ ⟨n,o,z,K+1,e⟩ "BaseException.__getattribute__" "BaseException" "__getattribute__" (.ref cn) [.str (sx fj) K] [] _ (by decide +kernel) (by decide +kernel) (L.andThen (Tt g j.sub)) (PySem.F.args_bexc_ga (.ref cn) (.str (sx fj) K)) ?_;refine P7 (Qg (P7 (Qg (P7 (L.at (P7 ((looks_find (M:=Qe h a) g k i).at ?_)))))));refine Qg ?_;exact sA (m.handed) (B _ m)
end
theorem Dm:(cA .bZ)[0]? = S 76:=by decide +kernel
theorem p6(A:Gr v e P cv cx cw)(s:Inv a e g b k d.heap)(c:VR a.params (Sf d.heap b g) b m dv)(D:eG k m c9=some bg)
  (p:∀M,VR a.params (Sf d.heap b g) b bg M->am M {d with toks:=d.toks+1}):Qf (Qe h a) f (Sl dv (sx c9) fe) am t d:=by
 refine hF λi=>?_;have l:=A.In s;have r:∀{B:gV} {I:Z},jA B c9=some I->B≠.bZ:=λT q=>nX ((sz c9).symm.trans (q▸T));induction m using Zp with
 |obj B w=>refine uM c.inv λm y j H cQ G o C=>?_;subst cQ;exact lI D λI T E=>i (yb (S:=Sf d.heap b g) A.ok l (r T) ⟨G.1,o.1⟩ C T E p)
 |aA X=>refine cN c.inv λm y eA hk=>?_;subst eA;exact lI D λeZ L D=>lI D λI T E=>cN (pC s hk L) λj H U C=>i (yb (S:=Sf d.heap b g) A.ok l (r T) U C T E p)
 |exc K=>
  refine Oi c.inv λm y a0 j H AQ x hc Y J n C=>?_;clear r s c;subst AQ;by_cases q:c9=76;·subst q;obtain rfl:=sX (show some K=some bg from D);exact i (Dl (S:=Sf d.heap b g) A.err l x.1 hc Y J n.1 C Dm rfl p)
  ·exact nX ((Qm q).symm.trans D)
 |_=>exact nX D
theorem AR{M:Z}(A:Gr v e P cv cx cw)(U:kU h a e fq i M)(R:bA fq (M+1) f l)(s:Inv a e g b k d.heap)(E:dI l g [] d.heap)(c:VR a.params (Sf d.heap b g) b m dv) :
  mV a e g (Qe h a) f l (pT a) (Sl dv (sx c9) fe) (aG i k m c9) b d:=by
 intro t;refine oA (eG k m c9) (λD=>?_) (λC D=>?_)
 ·refine yQ (xP D t) λX w q L G n=>?_;subst q;subst G;rw[n] at t⊢;refine cN c.inv λm y lR J=>?_;clear c n D;subst lR;have o:i (.fn 20) [.aA X] k≠.bad:=λq=>t (by rw[q];rfl);refine cN (pC s J L) λj H x fr=>Dj A.ok (A.In s) x (R5 (U.run g l f.in1 (.fn 20) [.aA X] k b {d with toks:=d.toks+1} [.ref m] R.in1 s E (.cons (.aA X m y J) .nil) o) λY s' q=>?_);rcases Y with D|(C|_|_|_)
  ·refine cN q λK r T ε=>Qp ?_ t
   induction q:i (.fn 20) [.aA X] k using Zq with
   |exc _ _=>rfl
   |ok _=>exact nX (q▸T)
   |bad=>rfl
  ·exact q.elim
  ·exact q.elim
  ·exact q.elim
  ·refine eM q λB r I T z p=>?_;exact⟨p.handed,B,r,I,by rw[T];rfl,(aQ.tok s).trans z,p⟩
 ·have n:aG i k m c9=.ok (C,k):=by unfold aG;rw[D]
  exact n▸p6 A s c D λv' p=>.ok (.tok s) p
theorem SE.attr(A:Gr v e P cv cx cw)(U:kU h a e fq i q)(R:bA fq (q+1) f l)(k:SE h a e l c j f i ai ao)(H:fQ ao=P4):SE h a e l c j f i (.attr ai c9) (.Attribute ao (sx c9) J):=by intro b x y d g p n t;rw[kE] at t⊢;refine Attribute_any_ ((k b x y d g p n).step n.inv (λL z X G Y T o1 r D=>?_) t) (by refine(UM ..).trans ?_;rw[iQ H]);rw[T];exact(AR A U R o1.inv (n.live.keep n.inv o1) r).lift o1 D
theorem bN{Y:Args->Qh->Prop}(n:lg.any (·.1)=P8)(B:Qf T f (R4 lg) (λw G=>Y ⟨w,[]⟩ G) t d):Qf T f (evalArgs lf P4 lg []) Y t d:=by
 induction lg using U5 with
 |nil=>exact λa P H=>(P7 (Qq B (λw G v=>Qg v) λU U D=>D)) a P H
 |cons q g=>obtain⟨E,I⟩:=q;simp only[YF,XF] at n;refine bT n λm3 n=>?_;subst m3;exact evalArgs_plain B
theorem rQ.noStar{pos:Qv}(I:rQ h a e l c j f i bm bn):(QV pos (QT bn c)).any (·.1)=P8:=by
 induction I with
 |nil=>rfl
 |cons _ w _ k=>exact R (bI w) k
theorem yc{y:AH}{k:Key}(U:kU h a e fq i q)(R:bA fq q f l)(s:Inv a e g b y d.heap)(c:dI l g [] d.heap)(P:bU a.params (Sf d.heap b g) b pu dm):mV a e g (Qe h a) f l (pT a) (Q4 (.ref (hB k)) dm) (i k pu y) b d:=by intro t;refine RO (R5 (U.run g l f k pu y b d dm R s c P t) λY m M=>?_);rcases Y with D|(C|_|_|_)<;>exact M
theorem l5(j:IX v){k:Key}(B:∀r,k=.fn r->r<60):Sk v (.ref (hB k))=P4:=by
 induction k using Key.casesOn with
 |fn r=>exact(j.fn r (B r rfl)).2
 |cls A=>exact j.Fe A
theorem Dp(C:VR a.params (Sf d.heap b g) b m dv)(D:keyOf m=S jb):dv=.ref (hB jb)/\∀r,jb=.fn r->r<60:=by
 induction m using Zp with
 |fn v=>
  by_cases B:v<60;·obtain rfl:=sX ((Qk B).symm.trans D);exact⟨C.inv,λr D=>Key.fn.inj D▸B⟩
  ·exact nX ((Qm B).symm.trans D)
 |cls A=>obtain rfl:=sX D;exact⟨C.inv,λr D=>nomatch D⟩
 |_=>exact nX D
theorem SE.call{r:LE}(A:Gr v e P cv cx cw)(U:kU h a e fq i q)(R:bA fq (q+1) f l)(K:SE h a e l c j f i r ao)(k:rQ h a e l c j f i bm bn)
  (H:∀z L P,ao≠.Attribute z L P):SE h a e l c j f i (.call r bm) (.Call ao bn [] J):=by
 intro b x y d g p n t;rw[te] at t⊢;have I:eval (.Call ao bn [] J) c=(do SR J (<-eval ao c) [] (QV J (QT bn c)) []):=by induction ao using W5<;>first|rfl|exact Qp rfl (H _ _ _)
 rw[I];refine P7 ((K b x y d g p n).step n.inv (λL H1 r1 G Y T o1 v1 D=>?_) t);rw[T,Res.aP];induction E:keyOf L using U0 with
 |none=>exact bX (E▸D)
 |some X=>replace D:=E▸D;dsimp only at D⊢;refine bT (Dp v1 E) λpU a1=>?_;clear T v1 I t K H;subst pU;have C:=l5 (k:=X) A.ok a1;refine T8 (P:=λB=>v.In B) (by rw[k.noStar];rfl) (λB a0=>SU C B a0) (bN k.noStar ((k.run b r1 H1 G g p (n.on p o1)).dX o1 (λa3 s r2 o vb m o2 M w a2=>?_) D));refine⟨A.In o2.inv,?_⟩;rw[m];exact(yc U (R.less (VK _)) o2.inv ((n.live.keep n.inv o2)) w).lift o2 a2
theorem p7(H:fQ ny=P4)(P:(QV J (QT bn c)).any (·.1)=P8)(i:(lh.endLine==J.line)=P4)(K:bn.length<30)
  (B:Qf (Qe h a) f (eval ny c) (λy G=>∀pl,Qf (Qe h a) f (T9 y nz pl) (λX o=>Qf (Qe h a) f (SR J X.1 X.2 (QV J (QT bn c)) []) am t o) t G) t d) :
  Qf (Qe h a) f (eval (.Call (.Attribute ny nz lh) bn [] J) c) am t d:=by
 refine R (arm_eval_Call ..) ?_;refine R (iQ H) ?_;refine P7 (Qq B (λy G g=>P7 (QW ?_)) λU U D=>D);have b:methodCallForm (bn.length+([]:V Keyword).length) (QV J (QT bn c)) (backToKw J (keywordEach [] c))=P4:=by have:(QV J (QT bn c)).all (λM=>!M.1)=P4:=VD.mpr λM e=>(Wf M.1).mpr (X8.mpr (X9.mp P M e));show((QV J (QT bn c)).all (λM=>!M.1)&&P4&&Qd (bn.length+0+0<30))=P4;exact R this (Qu K)
 unfold methodCall;refine R b (P7 (QE ?_));refine Qq (g _) (λX o p=>?_) λU U D=>D;exact R (show methodCallPos P4 ny c lh J=pure J from Qk (show(!P4||lh.endLine==J.line)=P4 from i)) (P7 (Qg p))
theorem shadow{d:Qa}{S:SP}(r:FR a.params S b (cA U) bc C.toList)(g:aj<NS)(K:aj∉cA U):shadowIn (some (bM C bj)) (sx aj)=some P8:=by refine bT (r.none (iO U) g K) λG p=>?_;show XG _ (SN (sx aj) (bM C bj))=_;exact R (uY G p) rfl
noncomputable def M5:Q->Z->RA
 |.aE _,H=>if H=44 then "list.append" else "list.pop"
 |_,H=>if H=48 then "dict.get" else "dict.pop"
theorem GB(D:aK k m bj=S .bR):(∃X,m=.aE X/\(bj=44\/bj=51))\/∃X,m=.ab X/\(bj=48\/bj=51):=by
 induction m using Zp with
 |aE X=>
  by_cases B:bj=44\/bj=51;·exact .inl ⟨X,rfl,B⟩
  ·exact nX ((Qm B).symm.trans D)
 |ab X=>
  by_cases B:bj=48\/bj=51;·exact .inr ⟨X,rfl,B⟩
  ·exact nX ((Qm B).symm.trans D)
 |aA X=>
  have D:(match k.I[X]? with|some (A,_)=>if bj=26 then N else(td A bj).map .own|none=>N)=S Recv.bR:=D
  revert D
  cases k.I[X]? with
  |none=>exact nX
  |some M=>
   intro D;by_cases B:bj=26;·exact nX ((Qk B).symm.trans D)
   ·exact Ab ((Qm B).symm.trans D) λr U M=>nomatch M
 |_=>exact nX D
theorem y9{pl:Qt P6}{Y:P'×V P'->Qh->Prop}(s:Inv a e g b k d.heap)(c:VR a.params (Sf d.heap b g) b m dv)(D:aK k m bj=S .bR)(i:∀X,m=.aE X->X<k.L.length)(p:∀X,m=.ab X->X<k.D.length)
  (B:Y (.builtin (M5 m bj),[dv]) d):Qf (Qe h a) f (T9 dv (sx bj) pl) Y t d:=by
 refine hF λl=>?_;have G:sx 44="append":=by decide +kernel
 have C:sx 51="pop":=by decide +kernel
 have A:sx 48="get":=by decide +kernel
 rcases GB D with⟨X,rfl,q⟩|⟨X,rfl,q⟩
 ·refine aM c.inv λm wi J=>?_;subst wi;refine cN (s.ey.L X _ m (U3 (i X rfl)) J) λv x o U=>?_;refine Zj q (λr=>?_) λw=>?_;·subst r;exact l (G▸Tu ⟨_,o,rfl⟩ PySem.F.plainAttrs_list PySem.F.slot_list_append PySem.F.type_list_append (λE D=>XZ D▸⟨_,o,rfl⟩) B)
  ·subst w;exact l (C▸Tu ⟨_,o,rfl⟩ PySem.F.plainAttrs_list PySem.F.slot_list_pop PySem.F.type_list_pop (λE D=>XZ D▸⟨_,o,rfl⟩) B)
 ·refine aM c.inv λm lJ J=>?_;subst lJ;refine Aa (s.ey.D X _ m (U3 (p X rfl)) J) λj x n o U=>?_;rcases q with rfl|rfl;·exact l (A▸Tu ⟨_,o,rfl⟩ PySem.F.plainAttrs_dict PySem.F.slot_dict_get PySem.F.type_dict_get (λE D=>XZ D▸⟨_,o,rfl⟩) B)
  ·exact l (C▸Tu ⟨_,o,rfl⟩ PySem.F.plainAttrs_dict PySem.F.slot_dict_pop PySem.F.type_dict_pop (λE D=>XZ D▸⟨_,o,rfl⟩) B)
theorem Dq(s:Inv a e g b k d.heap)(c:VR a.params (Sf d.heap b g) b m dv):(∀X,m=.aE X->X<k.L.length)/\∀X,m=.ab X->X<k.D.length:=by
 refine⟨λX D=>?_,λX D=>?_⟩;·subst D;obtain⟨m,_,J⟩:=c.inv;exact s.ey.jP▸(U8.mp J).1
 ·subst D;obtain⟨m,_,J⟩:=c.inv;exact s.ey.lT▸(U8.mp J).1
theorem oH(i:Qi P')(q:Z)(r:Qi P'->Qi P'):∃y,Zc r (listOf i q)=listOf (r i) y:=⟨_,rfl⟩
inductive MC(H:AH):Q->Z->V Q->Q×AH->Prop
 |app {k:Z} {ws:V Q} {x:Q} (e:H.L[k]? = S ws) (h:ws.length<1000):MC H (.aE k) 44 [x] (.none,{H with L:=H.L.set k (ws++[x])})
 |pop {k:Z} {ws:V Q} {x:Q} (e:H.L[k]? = S ws) (h:ws.length<1000) (ex:ws.getLast? = S x):MC H (.aE k) 51 [] (x,{H with L:=H.L.set k ws.dropLast})
 |get {k:Z} {as:V (Q×Q)} {x:Q} {res:O Q} (e:H.D[k]? = S as) (ex:dR as x=S res):MC H (.ab k) 48 [x] (res.getD .none,H)
 |JB {k:Z} {as M7:V (Q×Q)} {x v:Q} (e:H.D[k]? = S as) (h:as.length<1000) (ex:dR as x=S (S v)) (ed:yN as x=S M7):MC H (.ab k) 51 [x] (v,{H with D:=H.D.set k M7})
theorem Dr(D:jB k m bj bc=S ft):MC k m bj bc ft:=by
 induction m using Zp with
 |aE X=>
  refine dB (c:=bj=44) D (λB D=>?_) λU D=>dB (c:=bj=51) D (λB D=>?_) λU D=>nX D
  ·refine R B ?_;rcases bc with _|⟨I,_|⟨n,x⟩⟩;·exact nX D
   ·exact lI D λe L D=>dB D (λP D=>sX D▸.app L (Qj P)) λU D=>nX D
   ·exact nX D
  ·refine R B ?_;rcases bc with _|⟨I,x⟩;·refine lI D λe L D=>dB D (λP D=>?_) λU D=>nX D;exact Ab D λI T D=>D▸.pop L (Qj P) T
   ·exact nX D
 |ab X=>
  refine dB (c:=bj=48) D (λB D=>?_) λU D=>dB (c:=bj=51) D (λB D=>?_) λU D=>nX D
  ·refine R B ?_;rcases bc with _|⟨I,_|⟨n,x⟩⟩;·exact nX D
   ·exact lI D λa L D=>Ab D λj T D=>D▸.get L T
   ·exact nX D
  ·refine R B ?_;rcases bc with _|⟨I,_|⟨n,x⟩⟩;·exact nX D
   ·refine lI D λa L D=>dB D (λP D=>?_) λU D=>nX D;exact lI D λC T D=>Ab D λz s D=>lI T λj E d=>D▸.JB L (Qj P) (E.trans (Ql S d)) s
   ·exact nX D
 |_=>exact nX D
theorem nE(B:q<1000)(D:q=bj):bj<Q2:=by have:Q2=_:=Q';exact D.symm▸n1 B rfl
theorem pop_list:(da.eraseIdxIfInBounds (da.size - 1)).toList=da.toList.take (da.size - 1):=by
 unfold Xk;by_cases B:da.size - 1<da.size;·refine R (dif_pos B) ?_;refine Qi.toList_eraseIdx.trans ?_;refine(V.eraseIdx_eq_take_drop_succ ..).trans ?_;refine R (V.drop_of_length_le (by refine R U' ?_;exact MR)) ?_;exact(VQ ..)
 ·have:da = #[]:=Qi.size_eq_zero_iff.mp (N3 B);exact R this rfl
theorem zc(hm:oU e)(hu:f.units+64<QG)(s:Inv a e g b k d.heap)(c:VR a.params (Sf d.heap b g) b m dv)(P:bU a.params (Sf d.heap b g) b bc qr)(D:aK k m bj=S .bR) :
  mV a e g (Qe h a) f l (pT a) (PySem.call (.builtin (M5 m bj)) (dv :: qr)) (.of (jB k m bj bc)) b d:=by
 intro t;induction p:jB k m bj bc using U0 with
 |none=>exact bX (p▸t)
 |some q=>
 have Y:=Dr p;clear p t D;have c:=c.inv;have X:f.units+1<QG:=IT hu rfl;induction Y using MC.casesOn with
 |app L hs=>refine aM c λm pW J=>R pW (aM P.one λi pX x1=>R pX (cN (s.ey.L _ _ m L J) λv M o A=>T' o (λx w G=>?_) (Wl (nE hs (A.len.trans U')))));exact .ok (r':=b) (.mk' (s.Gm J w G (R Qi.toList_push (A.append (.cons x1 .nil)))) (.but (a:=m) (λE z q Y=>(w.2 E q).trans Y) (.inl (oE J))) (.refl b)) .none
 |pop L hs T=>
  refine aM c λm wk J=>R wk ?_;obtain rfl:=P.uN;refine hF λa3=>cN (s.ey.L _ _ m L J) λv M o A=>?_;have j:=A.len.trans U';replace T:=V.getLast?_eq_getElem?▸T;refine aM (p5 A T) λa2 K U=>?_;rw[j] at K;refine a3 ?_;show Qf _ _ (PySem.call (.builtin "list.pop") [.ref m]) _ _ _;refine call_meets PySem.F.slot_list_pop (ba _ o rfl) PySem.F.entry_list_pop (PySem.F.args_list_pop_1 _) (MeetsSeq.list_pop_last m v M a2 K (Wl (nE hs j))) ⟨o,?_⟩;refine eK (oH v M λxs=>xs.eraseIdxIfInBounds (v.size - 1)) λy a0=>?_;generalize hf:Zc (λxs=>xs.eraseIdxIfInBounds (v.size - 1))=r at a0⊢;have G:(d.heap.update m r).get? m=S (listOf (v.eraseIdxIfInBounds (v.size - 1)) y):=by refine(Vx _ o (by refine R a0 ?_;rfl)).trans ?_;rw[a0]
  have w:VP m d.heap (d.heap.update m r):=VL ..;have z:=aQ.mk' (tk':=d.toks) (own:=g) (fr:=[]) (s:=d) (s.Gm J w G (R pop_list (R j.symm (A.take _)))) (.but (a:=m) (λE z q Y=>(w.2 E q).trans Y) (.inl (oE J))) (.refl b);exact R V.dropLast_eq_take (.ok z (z.vr U))
 |get L T=>exact aM c λm tA J=>R tA (aM P.one λi tB x1=>R tB (Dc (hA s L J) λes ep n I=>rO (own:=g) X (hm.ne s (hX J)) I x1 T λM C P=>.ok (.tok s) P))
 |JB L hs T ed=>refine aM c λm wm J=>R wm (aM P.one λi AI x1=>R AI (Dc (hA s L J) λes ep n I=>rP (own:=g) X I hs x1 T ed λM x a6 a5 a4 vv a1 w G H B=>?_));have z:=aQ.mk' (tk':=d.toks+M) (own:=g) (fr:=[]) (s:=d) (s.Js J w G H B) (.but (a:=m) (λE z q Y=>(w.2 E q).trans Y) (.inl (hX J))) (.refl b);exact .ok z (z.vr a1)
theorem pE{prog:Qz}{A:QB}{E:P'->Qh->Prop}(f:Gr v e P cv cx cw){pl:Qt P6}{Q:P'×V P'->Qh->Prop}(s:Inv a e g b k d.heap)(c:VR a.params (Sf d.heap b g) b m dv)(D:aK k m bj=some (.own c9))
  (B:Q (.ref (FA c9),[dv]) d):c9<60/\Qf (Qe prog a) A (T9 dv (sx bj) pl) Q E d:=by
 induction m using Zp with
 |aA X=>
  refine cN c.inv λm y bP r=>?_
  clear c
  subst bP
  have D:(match k.I[X]? with|some (h,_)=>if bj=26 then N else(td h bj).map .own|none=>N)=some (Recv.own c9):=D
  revert D
  induction n:k.I[X]? using U0 with
  |none=>exact nX
  |some q=>obtain⟨h,w⟩:=q;refine λD=>dB (c:=bj=26) D (λU D=>nX D) λH D=>Ab D λt p q=>?_;obtain rfl:=Recv.own.inj q;exact z' (f.ok.aU h bj _ p H) λl J i K L=>cN (pC s r n) λj x o C=>⟨J,method_fn (f.In s) o.inst (f.ok.ga h l) (f.ok.KV h l) L (f.ok.fn _ J).1 (shadow (d:=y) (S:=Sf d.heap b g) C i K) B⟩
 |aE X=>exact dB (c:=bj=44\/bj=51) D (λU D=>nomatch sX D) λU D=>nX D
 |ab X=>exact dB (c:=bj=48\/bj=51) D (λU D=>nomatch sX D) λU D=>nX D
 |_=>exact nX D
theorem SE.aU(A:Gr v e P cv cx cw)(a3:kU h a e fq i q)(R:bA fq (q+1) f l)(ih:SE h a e l c j f i ai ao)(I:rQ h a e l c j f i bm bn)
  (H:fQ ao=P4) (hl:(lh.endLine==J.line)=P4) (K:bn.length<30) (a4:∀{g y L H'},aO i ai g y=.ok (L,H')->aK H' L bj=S .bR->∀a6 s,bB i bm g H'=.ok (a6,s)->aK s L bj=S .bR) :
  SE h a e l c j f i (.aU ai bj bm) (.Call (.Attribute ao (sx bj) lh) bn [] J):=by
 intro b x y d g p st t;rw[pe] at t⊢;refine p7 H I.noStar hl K ((ih b x y d g p st).step st.inv (λL z X G Y T o1 r D pl=>?_) t);rw[T,Res.aP];refine oA (aK z L bj) (λn=>?_) (λrc n=>?_);·replace D:=n▸D;exact bX D
 ·rw[n] at D⊢
  induction rc using Recv.casesOn with
  |own a1=>
   dsimp only at D⊢;refine(pE A o1.inv r n ?_).2;have C:=l5 (k:=.fn a1) A.ok λa7 ai=>by cases ai;exact((pE (Q:=λU U=>Qw) (E:=λU U=>Qw) (A:=f) (prog:=h) (pl:=pl) A o1.inv r n trivial).1)
   refine T8 (P:=λB=>v.In B) (by simp[I.noStar]) (λB a5=>SU C B a5) (bN I.noStar ((I.run b X z G g p (st.on p o1)).dX o1 (λa2 s r2 o vb m o2 M w a0=>?_) D));refine⟨A.In o2.inv,?_⟩;rw[m];exact(yc (k:=.fn a1) a3 (R.less (VK _)) o2.inv (st.live.keep st.inv o2) (.cons (M.vr r) w)).lift o2 a0
  |bR=>dsimp only at D⊢;refine bT (Dq o1.inv r) λz1 z2=>y9 o1.inv r n z1 z2 (callWith_builtin I.noStar (bN I.noStar ((I.run b X z G g p (st.on p o1)).dX o1 (λa2 s r2 o vb m o2 M w a0=>?_) D)));rw[m];exact(zc A.mods (Fc R.units rfl) o2.inv (M.vr r) w (a4 T n a2 s m)).lift o2 a0
theorem sC(B:aK k m bj=S .bR):aK cy m bj=S .bR:=by
 induction m using Zp with
 |aA X=>
  replace B:(match k.I[X]? with|some (A,_)=>if bj=26 then N else(td A bj).map .own|none=>N)=S Recv.bR:=B
  revert B
  induction k.I[X]? using U0 with
  |none=>exact λB=>nomatch B
  |some M=>exact λB=>dB B (λU D=>nX D) λU D=>Ab D λr U M=>nomatch M
 |_=>exact B
noncomputable def uZ(i:Rb)(B:SP)(x:cS):O Q->P'->Prop
 |none,C=>C=.none
 |some L,C=>VR i B x L C
theorem uZ.mono(B:uZ Y x b jv ag)(f:∀jv z,x jv z->gu jv z)(n:b.le dz):uZ Y gu dz jv ag:=by
 induction jv using U0 with
 |none=>exact B
 |some jv=>exact VR.mono f n B
noncomputable def SO(o:Qz)(k:Qr)(G:Qb)(l:V Qo)(P:Qo)(c:V (O Qc))(J:QB)(f:CF)(z:LO)(I:O P9):Prop:=∀b x y d g,bt b P c->St k G b l P c x y g d->mV k G b (Qe o k) J l (λB x L C=>uZ k.params B x L C) (evalPart I P) (CR f z g y) x d
theorem SO.no:SO h a e l c j f i .no N:=λb x y d g p n t=>by exact Qg (.ok (.refl n.inv) rfl)
theorem SO.so(k:SE h a e l c j f i ai ao):SO h a e l c j f i (.so ai) (S ao):=λb x y d g p n t=>by refine R Fb ?_;exact(k b x y d g p n).step n.inv (λL z X G Y T o1 r D=>by exact R T (.ok o1 r)) t
theorem part_of{X:O P5}(B:uZ Y x b jv ag)(D:tc jv=S X):IsPart ag X/\∀s,X=S s->0<=s:=by
 induction jv using U0 with
 |none=>obtain rfl:=sX D;obtain rfl:ag=.none:=B;exact⟨.none,λs D=>nomatch D⟩
 |some jv=>
  induction jv using Zp with
  |int s=>refine eK (B).inv λK cQ=>?_;clear B;subst cQ;exact dB D (λq D=>sX D▸⟨.int s K,λv D=>sX D▸q.1⟩) λU D=>nX D
  |_=>exact nX D
theorem qb{i e:O P9}(b:d.TypeIs ju nq)(c:Ri (.type nq) "__getitem__"=pure (S (.builtin rs)))(B:Qf (Qe h a) f (Sj ju m8) am t d) :
  Qf (Qe h a) f (R3 jt (.Slice i e N qc) ju m8) am t d:=by
 refine P7 (R (UH b.not_modules) (P7 (Rd b c ?_)));have p:Qf (Qe h a) f (operate [m8,ju] (Sj ju m8)) (λx g=>Qf (Qe h a) f (letTemporaryGo jt ju x >>= λU=>pure x) am t g) t d:=UI (Qq B (λx g l=>P7 (UJ (Qg l))) λU U I=>I);first
  |exact Qg (P7 p)
  |exact P7 (Qg (P7 p))
  |exact P7 p
theorem Ds(B:bU Y x b bc qr):bU Y x b (cut bc oi oh) (cut qr oi oh):=by unfold cut;exact R B.len ((B.take _).drop _)
theorem Dt(B:ec.toList.map V1=jr)(a:∀s,oi=S s->0<=s)(H:∀s,oh=S s->0<=s):(PySem.W.KBy.picked ec oi oh).toList.map V1=cut jr oi oh:=by
 refine R (PySem.W.KBc.picked_eq ..) ?_;have G:oi.elim 0 (RM ec.size)=min (oi.elim 0 WS) ec.toList.length:=by
  induction oi using U0 with
  |none=>simp
  |some s=>exact ps (a s rfl)
 have p:oh.elim ec.size (RM ec.size)=min (oh.elim ec.toList.length WS) ec.toList.length:=by
  induction oh using U0 with
  |none=>simp
  |some s=>exact ps (H s rfl)
 refine R G ?_;refine R p ?_;refine R (uV ..) ?_;refine R B.symm ?_;unfold cut;refine V.map_drop.trans ?_;refine R X0 ?_;refine R (U1 ..) rfl
theorem JC(D:eU k m i8 jx=S ft):∃h g,tc i8=S h/\tc jx=S g/\(match (generalizing:=false) m with
  |.lst w=>if sm w.length then S (.lst (cut w h g),k) else N
  |.bH l=>if sm l.length then S (.bH (cut l h g),k) else N
  |.aE X=>(k.L[X]?).bind λw=>if sm w.length then S (.aE k.L.length,{k with L:=k.L++[cut w h g]}) else N
  |_=>N)=S ft:=by
 have D:(match tc i8,tc jx with
  |some h,S g=>match (generalizing:=false) m with
   |.lst w=>if sm w.length then S (.lst (cut w h g),k) else N
   |.bH l=>if sm l.length then S (.bH (cut l h g),k) else N
   |.aE X=>(k.L[X]?).bind λw=>if sm w.length then S (.aE k.L.length,{k with L:=k.L++[cut w h g]}) else N
   |_=>N
  |_,_=>N)=S ft:=D
 revert D
 cases tc i8 with
 |none=>exact nX
 |some h=>cases tc jx with
  |none=>exact nX
  |some g=>exact λD=>(uK h g rfl rfl D)
theorem mV.uC{s:Qh}{Y:P'}(x:Inv a e g b k s.heap)(r:VR a.params (Sf s.heap b g) b m dv)(v2:uZ a.params (Sf s.heap b g) b i8 ja)(v3:uZ a.params (Sf s.heap b g) b jx Y) :
  ∀{G E},aQ a e g [] G E b k s->Res.of (eU k m i8 jx)≠.bad->Qf (Qe h a) f (Ua "slice" [ja,Y,.none]) (λx s'=>Qf (Qe h a) f (R3 jt (.Slice qt qs N qc) dv x) (QQ a e g (pT a) [] (.of (eU k m i8 jx)) G E) (EE a e g l (Res.of (eU k m i8 jx)).x? G E) s') (EE a e g l (Res.of (eU k m i8 jx)).x? G E) s:=by
 intro G E oo t;induction j:eU k m i8 jx using U0 with
 |none=>exact bX (j▸t)
 |some q=>
  clear t;obtain⟨C,H4⟩:=q;refine Ru (rL (JC j) λp kh H eh j=>?_)
  ·skip
   refine bT (part_of v2 H) λpl n=>bT (part_of v3 eh) λph nh=>?_
   have I:∀i8 z,s.heap.get? i8=S z->(s.heap.push {cls:=.type "slice",data:=.fields #[ja,Y,.none]}).get? i8=S z:=λU U D=>U2 _ D
   have i1:=x.push {cls:=.type "slice",data:=.fields #[ja,Y,.none]}
   have c:∀B,aQ a e g [] b s b k {s with heap:=s.heap.push {cls:=.type "slice",data:=.fields #[ja,Y,.none]},toks:=B}:=λB=>.grown x I
   have a2:(s.heap.push {cls:=.type "slice",data:=.fields #[ja,Y,.none]}).IsSliceOf s.heap.objs.size ja Y .none:=Qb.IsSliceOf.new ..
   generalize a7:s.heap.push {cls:=.type "slice",data:=.fields #[ja,Y,.none]}=L at *
   have a6:∀{w:V Q} {m:Qa} {v:Qi P'} {a0:Z},w.length<1000->L.get? m=S (listOf v a0)->bU a.params (Sf L b g) b w v.toList->∀{a3 T:P'->Qh->Prop},
     (a3 (.ref L.objs.size) {s with heap:=L.push (listOf (Tn v p kh N) 0)})->Qf (Qe h a) f (R3 jt (.Slice qt qs N qc) (.ref m) (.ref s.heap.objs.size)) a3 T {s with heap:=L}:=by
    intro w m v a0 P o A a3 T hQ
    have hz:w.length=v.size:=by exact A.len.trans U'
    exact qb (ba _ o rfl) T4.lookup (wpAny_getItem_list_slice (s:={s with heap:=L}) (bb (s:={s with heap:=L}) o) a2 pl ph .none (by decide) hQ (by have:Q2=_:=Q';exact hz.symm▸uD P rfl))
   have d:∀m z,Sf s.heap b g m z->Sf L b g m z:=λm z a4=>a4.grow I
   have i:∀{w:V Q} {v:Qi P'},bU a.params (Sf L b g) b w v.toList->bU a.params (Sf L b g) b (cut w p kh) (Tn v p kh N).toList:=λA=>by exact R (AM _ _ _ n nh) (Ds A)
   have a1:∀{z:Qs} i8 o',L.get? i8=S o'->(L.push z).get? i8=S o':=λU U D=>U2 _ D
   induction m using Zp with
   |lst w=>refine eM r.inv λm v a0 eA sa A=>R eA (dB j (λP j=>?_) λU D=>nX D);have j:=sX j;obtain rfl:=Ql QU.fst j;obtain rfl:=Ql QU.snd j;have M:=A.mono d (.refl b);refine a6 (Qj P) (d _ _ sa).1 M (.ok ((oo.trans (c s.toks)).trans (.grown (s:={s with heap:=L}) i1 a1)) ?_);exact .lst _ _ _ 0 (lX (s:={s with heap:=L}) rfl i1) ((i M).mono (λm z a4=>a4.grow a1) (.refl b))
   |bH lb=>refine cN r.inv λi8 K eZ hb=>?_;subst eZ;refine dB j (λP j=>?_) λU D=>nX D;have j:=sX j;obtain rfl:=Ql QU.fst j;obtain rfl:=Ql QU.snd j;have P:=Qj P;refine qb (Sh _ _ _) PySem.W.FB.slot_bytes_getitem.lookup (getItem_meets (Sh _ _ _) (rfl) PySem.W.FB.slot_bytes_getitem PySem.W.FB.entry_bytes_getitem (PySem.W.FB.args_bytes_getitem_2 _ _) (PySem.W.KBc.meets_slice2 i8 K _ pl ph) (gZ a2 (U9 (PySem.W.KBc.size_picked_le i8 p kh) (Wl (nE P (hb▸(U1 _).trans U')))) (λy X=>?_)));exact .ok (oo.trans (c X)) (.bH _ y _ (Dt hb n nh))
   |aE X=>refine aM r.inv λm g6 J=>?_;clear H eh pl n ph nh a2 r v2 v3;subst g6;refine lI j λw e0 j=>dB j (λP j=>?_) λU D=>nX D;have j:=sX j;obtain rfl:=Ql QU.fst j;obtain rfl:=Ql QU.snd j;refine cN (x.ey.L X w m e0 J) λv a0 o A=>?_;have M:=A.mono d (.refl b);have a5:L.get? L.objs.size=N:=ct _;refine a6 (Qj P) (I _ _ o) M (.ok (r':=b.rN L.objs.size) ((oo.trans (c s.toks)).trans (.mk' (s:={s with heap:=L}) (i1.Gn a5 a1 (Vs _ rfl) (i M)) ((More.L b _).keep (λi8 hb=>by refine R (UZ.mp hb) ?_;exact a5) a1) (More.L b _).le)) ?_);refine .aE _ _ ?_;exact R x.ey.jP.symm hY
   |_=>exact nX j
theorem SE.uC{I K:LO}(k:SE h a e l c j f i ai ao)(il:SO h a e l c j f i I qt)(a0:SO h a e l c j f i K qs):SE h a e l c j f i (.uC ai I K) (.Subscript ao (.Slice qt qs N qc) J):=by intro b x y d g p n t;refine R Aj (Tj ((k b x y d g p n).step n.inv (λL z X G va T o1 r D=>?_) t));refine R T (R Res.aP ?_);refine R (arm_eval_Slice ..) (P7 ((il b X z G g p (n.on p o1)).dX o1 (λE s H o U m o2 M w P=>?_) D));refine R m (R Res.aP ?_);refine P7 (QE ((a0 b H s o g p (n.on p o2)).dX o2 (λA v C s3 vc e3 o3 B v3 q=>?_) P));refine R e3 (P7 (QE (Qg ?_)));exact mV.uC o3.inv (B.vr (M.vr r)) (uZ.mono w (λL a1 Y=>B.Ju Y) B.le) v3 o3 q
structure cX(own own' fr fr':V Qa)(h h':Qb):Prop where
 hs:∀b o,h.get? b=S o->h'.get? b=S o
 sub:∀a∈own,a∈own'
 new:∀c∈own',c∈own\/h.get? c=N
 GC:∀c∈fr',c∈fr\/h.get? c=N
 cnt:∀c,2<=own'.count c->2<=own.count c\/h.get? c=N
 le:∀c,own.count c<=own'.count c
theorem cX.keep{own:V Qa}{fr:V Qa}(I:cX own bh fr jd p aa)(X:eY bh jd b aa qo mn):eY own fr b p qo mn:=
 ⟨λE z D q r=>by refine hF λv=>?_;refine X.el (I.hs E z D) q (λH=>(I.GC E H).elim r λY=>by replace Y:=D.symm.trans Y;cases Y) λn1 o1 T G=>?_;refine v ?_;exact⟨n1,o1,T,G.imp id λn=>⟨(I.cnt E n.1).elim id λY=>(by replace Y:=D.symm.trans Y;cases Y),n.2⟩⟩⟩
theorem aQ.back{s:Qh}(I:cX g bh az jd s.heap aa)(z:aQ a e bh jd b {s with heap:=aa,toks:=jj} qo rp rq):aQ a e g az b s qo rp rq:=rC z.eq λp U D=>⟨(z8 p U D),z.inv.drop I.sub,I.keep z.keep,z.le⟩
theorem zd(P:∀E z,p.get? E=S z->aa.get? E=S z)(A:Qa)(Y:aa.get? A=N):p.get? A=N:=by
 induction M:p.get? A using U0 with
 |none=>rfl
 |some c=>exact nX (Y.symm.trans (P _ _ M))
theorem lQ.back{s:Qh}(I:cX g bh az jd s.heap aa)(z:lQ a e bh jd l b {s with heap:=aa,toks:=jj} gg cy db cm):lQ a e g az l b s gg cy db cm:=z.map I.sub I.cnt (zd I.hs) (λU U=>I.keep) (.refl b)
theorem EE.back{s:Qh}(n:cX g bh [] [] s.heap aa)(M:EE a e bh l iz b {s with heap:=aa,toks:=jj} db cm):EE a e g l iz b s db cm:=cN M λK v D Y=>eP K v D (Y.back n)
theorem cX.one{h':Qb}(s:Inv a e g b k d.heap)(r:d.heap.get? n=N)(P:∀E z,d.heap.get? E=S z->h'.get? E=S z):cX g (n :: g) [] [] d.heap h':=
 ⟨P,λU H=>.tail _ H,λA H=>(U4.mp H).elim (λD=>.inr (D▸r)) .inl,λU H=>(nomatch H),λA H=>by
  by_cases M:n=A;·exact .inr (M▸r)
  ·exact .inl (by simpa [M] using H),λA=>by refine R Yl ?_;exact Vu _ _⟩
theorem Sf.back(x:∀n∈g,n∈bh)(Y:Sf p b bh n ak):Sf p b g n ak:=(gZ Y.1 Y.2.1 (λH=>Y.2.2 (x n H)))
inductive wt(prog:Qz)(w:Qr)(g₀:Qb)(l:V Qo)(env:Qo)(sl:V (O Qc))(A:QB)(cf:CF):V Z->fD->V (O P9)->V P9->Prop
 |nil:wt prog w g₀ l env sl A cf [] .nil [] []
 |cons {k:Z} {ks:V Z} {e:LE} {es:fD} {c:Z} {cp:Qv} {y:P9} {xs:V (O P9)} {ys:V P9}:k<NS->SE prog w g₀ l env sl A cf e y->wt prog w g₀ l env sl A cf ks es xs ys->wt prog w g₀ l env sl A cf (k :: ks) (.cons e es) (S (.Constant (.str (sx k)) c cp) :: xs) (y :: ys)
abbrev Ot(k:Qr)(e:V Z):Rel (V Q) (V (P'×P')):=λB x L C=>bU k.params B x (e.map Q.str) (C.map (·.1))/\bU k.params B x L (C.map (·.2))
theorem wt.run{pos:Qv}(I:wt h a e l c j f i ah bm gr gj):∀b x y d g,bt b c j->St a e b l c j x y g d->mV a e b (Qe h a) f l (Ot a ah) (evalPairs (pairTrees gr gj c pos)) (bB i bm g y) x d:=by
 induction I with
 |nil=>intro b x y d g p n t;exact Qg (.ok (.refl n.inv) ⟨.nil,.nil⟩)
 |@cons X ah M bm A q K gr gj v k _ J=>intro b x y d g p n t;refine R hW ?_;have m:aQ a e b [] x d x y {d with toks:=d.toks+1}:=.tok n.inv;refine P7 (PySem.Calls.Constant_str (P7 (QE (P7 ?_))));refine(k b x y {d with toks:=d.toks+1} g p (n.on p m)).dX m (λL z C G Y T o1 p1 r D=>?_) t;refine R T (R Res.aP ?_);refine P7 (QW (Qg (P7 (QE ?_))));refine(J b C z G g p (n.on p o1)).dX o1 (λE s H o U B o2 p2 w P=>?_) D;exact R B (Qg (.ok o2 ⟨.cons (.str X _ v) w.1,.cons (p2.vr r) w.2⟩))
theorem wt.L0(I:wt h a e l c j f i ah bm gr gj):gr.all (·.isSome)=P4/\gr.length=gj.length/\gr.length=ah.length/\nC bm=ah.length:=by
 induction I with
 |nil=>exact uO rfl rfl rfl rfl
 |cons _ _ _ k=>exact uO (by simp[k.1]) (by simp[k.2.1]) (by simp[k.2.2.1]) (Ql (· + 1) k.2.2.2)
theorem u0(B:eqT ki.1 bf=S P8):fN bf (ki :: y)=(fN bf y).map (XG (· + 1)):=by show(match eqT ki.1 bf with|some P4=>S (S 0)|some P8=>(fN bf y).map (XG (· + 1))|none=>N)=_;refine R B rfl
theorem AS(B:eqT ki.1 bf=S P4):fN bf (ki :: y)=S (S 0):=by show(match eqT ki.1 bf with|some P4=>S (S 0)|some P8=>(fN bf y).map (XG (· + 1))|none=>N)=_;refine R B rfl
theorem ze(B:∀P∈y,∃v,P.1=.str v/\v≠H):fN (.str H) y=S N:=by
 induction y with
 |nil=>rfl
 |cons P y k=>refine aM (B P (.head _)) λv D E=>?_;have M:eqT P.1 (.str H)=S P8:=D▸Ql S (RY E);refine(u0 M).trans ?_;exact R (k λM e=>B M (.tail _ e)) rfl
theorem zf{own:V Qa}(hu:f.units<QG):∀{ks:V Z} {vs:V Q} {y:V (P'×P')} {s:Qh} {as:V (Q×Q)} {j:Qi QD} {r:Z} {dk:DK} {Y:PUnit->Qh->Prop},A∈own->DictAt a own b s A as j r dk->(∀P∈as,∃v,P.1=.str v/\v∉ks)->ks.Nodup->as.length+ks.length<1000->
  bU a.params (Sf s.heap b own) b (ks.map Q.str) (y.map (·.1))->bU a.params (Sf s.heap b own) b vs (y.map (·.2))->
  (∀x B g o m,VP A s.heap x->DictAt a own b {s with heap:=x,toks:=B} A (as++(ks.map Q.str).zip vs) g o m->Y ⟨⟩ {s with heap:=x,toks:=B})->Qf (Qe h a) f (storeAll A y) Y t s:=by
 intro ks;induction ks with
 |nil=>
  intro vs y s as j r dk Y M I _ _ _ G p hQ
  induction y using U5 with
  |cons _ _=>exact nomatch G.uN
  |nil=>refine Qg ?_;have:=hQ s.heap s.toks j r dk (.refl ..) (by simpa using I);exact this
 |cons X ks k=>
  intro vs y s as j r dk Y M I J d L G p hQ
  refine hF λa7=>?_
  induction y using U5 with
  |nil=>obtain⟨_,_,q,_⟩:=G.inv;exact nomatch q
  |cons kv y=>
   induction vs using U5 with
   |nil=>exact nomatch p.uN
   |cons C vs=>
    refine rL G.inv λU U q1 a1 a2=>rL p.inv λU U q2 b1 b2=>bT (Xx q1) λcQ eA=>?_;clear q1 G;subst cQ;subst eA;refine bT (Xx q2) λeZ g6=>?_;clear q2;subst eZ;subst g6
    ··skip
      rw[Vl] at d
      have K:fO (.str X) as=S N:=by exact ze λP n=>aM (J P n) λv D E=>(ba v D (λq=>E (q▸.head _)))
      have ds:rG as (.str X) C=S (as++[(.str X,C)]):=by
       unfold rG;refine R K ?_;have:sm as.length=P4:=by unfold sm;simp at L⊢;exact Ve (Vu _ _) L
       simp only[this,SV]
      refine a7 ?_
      unfold storeAll
      refine R (WW ..) (P7 (P7 (dict_set (own:=own) hu I a1 b1 ds λH x g o m sb a6 dr a4=>Qg ?_)))
      have w:∀a3 z,Sf s.heap b own a3 z->Sf x b own a3 z:=λa3 z a0=>a0.but (a:=A) (λa5 z q a0=>(sb.2 a5 q).trans a0) (.inr (.inl M))
      refine k (s:={s with heap:=x,toks:=s.toks+H}) (as:=as++[(.str X,C)]) (vs:=vs) M ⟨a6,dr.mono w (.refl b),a4⟩ ?_ d.2 (by refine R U7 ?_;exact Jk L) (a2.mono w (.refl b)) (b2.mono w (.refl b)) ?_
      ·intro P n;rcases Vd.mp n with n|n;·exact aM (J P n) λv D E=>ba v D (λH=>E (.tail _ H))
       ·exact R (UZ.mp n) (ba X rfl d.1)
      ·intro p T i e l a8 c;have:=hQ p T i e l (sb.trans a8) (by simpa using c);exact this
theorem St.but{X:Qr}{tk:Z}(n:St X e bh l c j b k w d)(p:bt g c j)(lv:∀D∈l,∀x,D.frame=S x->x∈g)(hd:A∉g)(r:A∈bh)(s:VP A d.heap aa)(J:∃z,aa.get? A=S z):St X e bh l c j b k w {d with heap:=aa,toks:=tk}:=by
 have P:∀E z,E≠A->d.heap.get? E=S z->aa.get? E=S z:=λE z q Y=>(s.2 E q).trans Y;have G:∀a z,Sf d.heap b bh a z->Sf aa b bh a z:=λa z Y=>Y.but P (.inr (.inl r));have i:∀E∈g,E≠A:=λE H q=>hd (q▸H);refine⟨n.inv.loose P (.inl r) (n.inv.off A r).1 λU=>J,⟨?_,λI f D=>?_,n.eW.len⟩,⟨λD H=>?_⟩⟩;·exact aM n.eW.ns λH K B=>ba H (K.sameBut s (i _ p.loc)) (λv I C T m h=>aM (B v I C T m h) λt a E=>(ba t a (E.mono G (.refl b))))
 ·exact aM (n.eW.mW I f D) λy lR B=>hF λL=>aM lR λz o q=>L (ba y (ba z (P _ _ (i _ (p.mW I f D).1) o) q) (λv C T m h=>aM (B v C T m h) λt a E=>(ba t a (E.mono G (.refl b)))))
 ·exact n.live.el H λa x z M a0 E f q o Y=>⟨a,x,z,M,a0,E,f,q,P _ _ (i _ (lv D H x E)) o,Y⟩
theorem dI.GD(I:dI l g az p):∀D∈l,∀x,D.frame=S x->x∈g:=λD H x M=>by refine I.el H λU K U U U r A U U U=>?_;replace r:=M.symm.trans r;obtain rfl:=sX r;exact Vz.mp (n4 A rfl)
theorem l6{pos:Qv}{P:P'->Qh->Prop}(hu:f.units<QG)(I:wt h a e l c j f i ah bm gr gj)(A:ah.Nodup)(hl:ah.length<=15)(p:bt g c j)(n:St a e g l c j b k w d)(t:bB i bm w k≠.bad)
  (a1:∀y x B r2 s o J a0 ep dk,bB i bm w k=.ok (J,s)->ah.length=J.length->d.heap.get? y=N->y∉g->cX g (y :: g) [] [y] d.heap x->aQ a e (y :: g) [y] b {d with heap:=x,toks:=B} r2 s o->St a e (y :: g) l c j r2 s w o->DictAt a (y :: g) r2 o y ((ah.map Q.str).zip J) a0 ep dk->P (.ref y) o) :
  Qf (Qe h a) f (eval (.Dict gr gj pos) c) P (EE a e g l (bB i bm w k).x? b d) d:=by
 refine uE I.L0 λl1 l2 l3 l4=>?_;have r:d.heap.get? d.heap.objs.size=N:=ct _;have hs:∀E z,d.heap.get? E=S z->(d.heap.push (bM #[] 0)).get? E=S z:=λU U D=>U2 _ D;have q:(d.heap.push (bM #[] 0)).get? d.heap.objs.size=S (bM #[] 0):=Vs _ rfl;have X:=cX.one (h':=d.heap.push (bM #[] 0)) n.inv r hs;have v:d.heap.objs.size∉g:=n.inv.no r;have W':cX g (d.heap.objs.size :: g) [] [d.heap.objs.size] d.heap (d.heap.push (bM #[] 0)):=⟨X.hs,X.sub,X.new,λa4 H=>.inr (R (UZ.mp H) r),X.cnt,X.le⟩;have K:St a e (d.heap.objs.size :: g) l c j b k w {d with heap:=d.heap.push (bM #[] 0)}:=
  n.dS (λE H=>X.new E H) X.le hs λE H=>by
   rcases U4.mp H with rfl|H;·exact⟨_,q⟩
   ·exact eK (n.inv.ex E H) λz D=>⟨z,hs _ _ D⟩
 have C:=p.dS X.sub;induction ah using U5 with
 |nil=>
  cases I with
  |nil=>refine wpAny_Dict_empty (a1 d.heap.objs.size (d.heap.push (bM #[] 0)) d.toks b k _ [] #[] 0 .str rfl rfl r v W' (.refl K.inv) K ⟨q,.nil,WL⟩)
 |cons k0 a2=>
  refine wpAny_Dict_any l1 l2 (by rintro rfl;cases l3) (l3.symm▸n1 hl rfl) ?_;refine Qq (I.run (pos:=pos) (d.heap.objs.size :: g) b k {d with heap:=d.heap.push (bM #[] 0)} w C K t) (λa5 G M=>?_) λD G M=>M.back X;refine Gg M λJ H1 r1 e1 o1 v1 v2=>?_;have d1:G.heap.get? d.heap.objs.size=S (bM #[] 0):=by refine o1.keep.el q (n.inv.fresh r) (λH=>nomatch H) λn1 o' T Y=>?_;have:g.count d.heap.objs.size=0:=Vp v;rw[Y.once (by refine R Yl ?_;refine R this ?_;simp)] at T;exact T
  have L:(k0 :: a2).length=J.length:=by refine R (lY e1) ?_;rw[l4]
  refine zf (own:=d.heap.objs.size :: g) hu (ks:=k0 :: a2) (vs:=J) (as:=[]) (dk:=.str) (.head _) ⟨d1,.nil,WL⟩ (λU H=>nomatch H) A (by simp at hl⊢;exact LF hl rfl) v1 v2 λx B a0 a3 m sb x'=>?_;have dJ:=(K.on C o1).but (tk:=B) p n.live.GD v (.head _) sb ⟨_,x'.obj⟩;have o2:aQ a e (d.heap.objs.size :: g) [d.heap.objs.size] r1 G r1 H1 {G with heap:=x,toks:=B}:=.mk' dJ.inv (.but (a:=d.heap.objs.size) (λE z M Y=>(sb.2 E M).trans Y) (.inr (.inl (.head _)))) (.refl r1);exact a1 _ _ d.toks r1 H1 _ J a0 a3 m e1 L r v W' (o1.wide.trans o2) dJ x'
theorem SE.xE(k:f.units<QG)(I:wt h a e l c j f i ah bm gr gj)(A:ah.Nodup)(hl:ah.length<=15):SE h a e l c j f i (.xE ah bm) (.Dict gr gj J):=by
 intro b a2 y d g p st t;refine R Ak ?_;have o:bB i bm g y≠.bad:=λM=>t ((bL M).trans rfl);induction E:bB i bm g y using Zq with
 |bad=>exact Qp E o
 |exc K v=>
  have:=l6 (pos:=J) (P:=λU U=>QC) k I A hl p st o λa0 x B r2 s s2 w a3 ep dk T=>by replace T:=E.symm.trans T;exact(nomatch T)
  rw[E] at this
  exact Qq this (λU U r=>r.elim) λU U D=>D
 |ok M=>
  obtain⟨w,s⟩:=M;have:=l6 (pos:=J) (P:=QQ a e b (pT a) [] ((bB i bm g y).bind λM=>if ah.length=M.1.length then .ok (.ab M.2.D.length,{M.2 with D:=M.2.D++[(ah.map Q.str).zip M.1]}) else .bad) a2 d) k I A hl p st o λa0 x B r2 s s2 w a3 ep dk T L r dn X z dJ G=>by refine R T ?_;refine R Res.aP ?_;refine R (Qk L) ?_;have o':=z.back X;have H:=More.D r2 a0;refine oS _ _ (r2.kT a0) rfl ⟨o'.eq,(dJ.inv.Gx (own:=b) (.head _) (λa1 H=>⟨.tail _ H,λM=>dn (M▸H)⟩) G.obj G.dr G.nd),⟨λa1 ob D q C=>?_⟩,o'.le.trans H.le⟩ (.ab _ _ (by refine R dJ.inv.ey.lT.symm ?_;exact hY));refine bT (o'.keep.get a1 ob D q C) λn1 Y=>⟨λn=>(H.mem.mp n).elim (λn=>?_) n1,Y⟩;rw[UZ.mp n,r] at D;exact nX D
  rw[E] at this;exact Qq this (λU U M=>M) λD m M=>by obtain⟨K,v,T,_⟩:=M;exact nX T
theorem lQ.more{own:V Qa}{fr:V Qa}(X:∀A∈fr,A∈jd)(I:lQ a e own fr l b d gg cy db cm):lQ a e own jd l b d gg cy db cm:=lQ.map (h1:=d.heap) (tk1:=d.toks) I (λU H=>H) (λU H=>.inl H) (λU H=>H) (λU U M=>M.less (λA H=>.inl (X A H)) λU H=>.inl H) (.refl b)
theorem lQ.wide{fr:V Qa}(I:lQ a e g [] l b d gg cy db cm):lQ a e g fr l b d gg cy db cm:=lQ.more (fr:=[]) (λU H=>nomatch H) I
theorem Du:∀{w:V Q} {M:Z×Q},(ah.zip w).find? (λP=>P.1==H)=S M->∃s,fN (.str H) ((ah.map Q.str).zip w)=S (S s)/\(((ah.map Q.str).zip w)[s]?).map (·.2)=S M.2:=by
 induction ah with
 |nil=>exact λD=>nX D
 |cons v ah k=>
  intro w M D
  induction w using U5 with
  |nil=>exact nX D
  |cons C w=>
   have D:(match (v==H) with|true=>S (v,C)|false=>(ah.zip w).find? (λP=>P.1==H))=S M:=D
   refine z9 (v==H) (λE=>?_) (λE=>?_)
   ·rw[E] at D;refine aM (k D) λs T m=>ba (s+1) ?_ m;exact(u0 (show eqT (.str v) (.str H)=S P8 from Ql S E)).trans (R T rfl)
   ·rw[E] at D;exact ba 0 (AS (show eqT (.str v) (.str H)=S P4 from Ql S E)) (Ql (λM:Z×Q=>S M.2) (sX D))
theorem zg{M:Z×Q}(D:(ah.zip bc).find? (λP=>P.1==H)=S M):dR ((ah.map Q.str).zip bc) (.str H)=S (S M.2):=by refine aM (Du D) λs T m=>?_;unfold dR fO;refine R T ?_;exact R m.symm rfl
theorem DictAt.keep{own:V Qa}(I:DictAt a own b d A y C dw bu)(c:A∉b.M)(s:own.count A<2)(z:aQ a e own [] b d aq cu ay):DictAt a own aq ay A y C dw bu:=by refine hF λq=>z.keep.el I.obj c (λH=>nomatch H) λU f T Y=>?_;rw[Y.once s] at T;exact q ⟨T,I.dr.mono (λU U Y=>z.Ju Y) z.le,I.nd⟩
theorem SE.pick{dp:Qv}(k:f.units+64<QG)(I:wt h a e l c j f i ah bm gr gj)(A:ah.Nodup)(hl:ah.length<=15)(ih:SE h a e l c j f i l0 s)(ns:hZ s=P4) :
  SE h a e l c j f i (.pick ah bm l0) (.Subscript (.Dict gr gj dp) s J):=by
 intro b x a2 d g p n t;rw[tf] at t;refine R tf ?_;have o:bB i bm g a2≠.bad:=λq=>t ((bL q).trans rfl);refine Tj ?_;induction E:bB i bm g a2 using Zq with
 |bad=>exact Qp E o
 |exc K v=>
  have:=l6 (pos:=dp) (P:=λU U=>QC) (LG k rfl) I A hl p n o λy h' B r2 M s2 w a7 ep dk T=>by replace T:=E.symm.trans T;exact nomatch T
  rw[E] at this
  exact Qq this (λU U r=>r.elim) λU U D=>D
 |ok q=>
  obtain⟨w,M⟩:=q;rw[E] at t;have:=l6 (pos:=dp) (P:=λz a8=>Qf (Qe h a) f (eval s c) (λiv a1=>Qf (Qe h a) f (R3 (.Dict gr gj dp) s z iv) (QQ a e b (pT a) [] ((aO i l0 g M).bind λx=>jM ah w x.1 x.2) x d) (EE a e b l ((aO i l0 g M).bind λx=>jM ah w x.1 x.2).x? x d) a1) (EE a e b l ((aO i l0 g M).bind λx=>jM ah w x.1 x.2).x? x d) a8) (LG k rfl) I A hl p n o λy h' B r2 b9 s2 c1 a7 ep dk T a5 r dn X z dJ G=>by
   replace T:=E.symm.trans T;refine hF λa4=>?_;clear r a5 n A hl;obtain⟨rfl,rfl⟩:=rM T;refine a4 (Qq (Q:=λiv a1=>Qf (Qe h a) f (R3 (.Dict gr gj dp) s (.ref y) iv) (QQ a e b (pT a) [] ((aO i l0 g M).bind λx=>jM ah w x.1 x.2) x d) (EE a e b l ((aO i l0 g M).bind λx=>jM ah w x.1 x.2).x? x d) a1) ((ih (y :: b) r2 M s2 g (p.dS X.sub) dJ).step dJ.inv (λL H3 C s3 va e3 o3 v3 a0=>?_) t) (λU U q=>q) λe' m q=>?_)
   ·refine R e3 (R Res.aP ?_)
    have dc:(y :: b).count y<2:=by refine R Yl ?_;refine R (Vp dn) ?_;simp
    have x3:=G.keep ((dJ.inv.off y (.head _)).1) dc o3
    refine eK (Gd a0) λa3 Y=>?_
    clear dn dJ G a4 e3 t dc p I ih
    subst Y
    unfold jM at a0⊢
    refine aM v3.inv λK cQ hk=>R cQ ?_
    dsimp only at a0⊢
    induction ef:(ah.zip w).find? (λa6=>a6.1==a3) using U0 with
    |none=>exact bX (ef▸a0)
    |some q=>refine h9 x3.is SH.lookup ns (iN (own:=y :: b) (IT k rfl) x3 (.str a3 K hk) (zg ef) λH vv a9=>?_);exact .ok (((z.trans o3.wide).trans (.tok (tk':=s3.toks+H) o3.inv)).back X) (a9.mono (λL z Y=>Y.back X.sub) (.refl _))
   ·refine cN q λK v D Y=>?_;exact eP K v D (((Y.wide (fr:=[y])).pre z λL H=>by refine R (UZ.mp H) ?_;exact .head _).back X)
  rw[E] at this;exact Qq this (λU U q=>q) λD m q=>by obtain⟨K,v,T,_⟩:=q;exact nX T
section
open PySem.Spec Builtin
theorem jQ:Slot "bytearray" "__len__" "bytearray.__len__":=.of (owner:="bytearray") (n:="__len__") (by refine(Rg ..).trans ?_;refine R Tr ?_;kernel_rfl) (by decide +kernel) (by decide +kernel) (by decide +kernel) (by first|exact .inl (by decide +kernel)|exact .inr (rfl +kernel)) (by refine(Rt ..).trans ?_;kernel_rfl)
theorem mi:Slot "bytearray" "__iter__" "bytearray.__iter__":=.of (owner:="bytearray") (n:="__iter__") (by refine(Rg ..).trans ?_;refine R Tr ?_;kernel_rfl) (by decide +kernel) (by decide +kernel) (by decide +kernel) (by first|exact .inl (by decide +kernel)|exact .inr (rfl +kernel)) (by refine(Rt ..).trans ?_;kernel_rfl)
theorem oJ:Slot "bytearray" "__setitem__" "bytearray.__setitem__":=.of (owner:="bytearray") (n:="__setitem__") (by refine(Rg ..).trans ?_;kernel_rfl) (by decide +kernel) (by decide +kernel) (by decide +kernel) (by first|exact .inl (by decide +kernel)|exact .inr (rfl +kernel)) (by refine(Rt ..).trans ?_;kernel_rfl)
theorem gA:Slot "bytearray" "__init__" "bytearray.__init__":=.of (owner:="bytearray") (n:="__init__") (by refine(Rg ..).trans ?_;kernel_rfl) (by decide +kernel) (by decide +kernel) (by decide +kernel) (by first|exact .inl (by decide +kernel)|exact .inr (rfl +kernel)) (by refine(Rt ..).trans ?_;kernel_rfl)
theorem eC:Slot "bytearray_iterator" "__next__" "bytearray_iterator.__next__":=.of (owner:="bytearray_iterator") (n:="__next__") (by refine(Rg ..).trans ?_;kernel_rfl) (by decide +kernel) (by decide +kernel) (by decide +kernel) (by first|exact .inl (by decide +kernel)|exact .inr (rfl +kernel)) (by refine(Rt ..).trans ?_;kernel_rfl)
theorem mr:Slot "bytearray_iterator" "__iter__" "bytearray_iterator.__iter__":=.of (owner:="bytearray_iterator") (n:="__iter__") (by refine(Rg ..).trans ?_;kernel_rfl) (by decide +kernel) (by decide +kernel) (by decide +kernel) (by first|exact .inl (by decide +kernel)|exact .inr (rfl +kernel)) (by refine(Rt ..).trans ?_;kernel_rfl)
theorem tG:Rv Rj "bytearray.__len__"=S Builtin.«bytearray.__len__»:=SW (by kernel_rfl)
theorem rR:Rv Rj "bytearray.__iter__"=S Builtin.«bytearray.__iter__»:=SW (by kernel_rfl)
theorem tH:Rv Rj "bytearray.__setitem__"=S Builtin.«bytearray.__setitem__»:=SW (by kernel_rfl)
theorem rT:Rv Rj "bytearray.__init__"=S Builtin.«bytearray.__init__»:=SW (by kernel_rfl)
theorem lA:Rv Rj "bytearray_iterator.__next__"=S Builtin.«bytearray_iterator.__next__»:=SW (by kernel_rfl)
theorem rU:Rv Rj "bytearray_iterator.__iter__"=S Builtin.«dict_keyiterator.__iter__»:=entryFor_alias (id':="dict_keyiterator.__iter__") (by kernel_rfl) rfl (by decide +kernel) (by kernel_rfl)
theorem u1(L:P'):Rw "bytearray.__len__" ⟨[L],[]⟩:=by kernel_rfl
theorem tJ(L:P'):Rw "bytearray.__iter__" ⟨[L],[]⟩:=by unfold Rw;kernel_rfl
theorem u4(L E A:P'):Rw "bytearray.__setitem__" ⟨[L,E,A],[]⟩:=by kernel_rfl
theorem tK(L E:P'):Rw "bytearray.__init__" ⟨[L,E],[]⟩:=by unfold Rw;kernel_rfl
theorem mx(L:P'):Rw "bytearray_iterator.__next__" ⟨[L],[]⟩:=by unfold Rw;kernel_rfl
theorem tL(L:P'):Rw "bytearray_iterator.__iter__" ⟨[L],[]⟩:=by unfold Rw;kernel_rfl
theorem ql(B:d.heap.get? n=S (fP ec)):d.TypeIs (.ref n) "bytearray":=(ba _ B rfl)
theorem qn{Y:Qi Qy->Qh->Prop}(B:d.heap.get? n=S (fP ec))(M:Y ec d):Qf T f (Zh (.ref n)) Y t d:=by refine P7 (P7 (Rx B ?_));exact Qg (Qg M)
theorem GF(w:ec.size<1000)(B:d.heap.get? n=S (fP ec))(M:am (.int ec.size (d.toks+1)) {d with toks:=d.toks+1+1}):Qf (Qe h a) f (Q4 (.builtin "len") [.ref n]) am t d:=by refine call_len_slot (ql B) jQ (λb e=>Q3 jQ (ql B) tG ?_ (u1 _)) (Qj rfl) (mt Wb.mp (Xp.mpr (n1 w rfl))) M;show Qf _ _ (Zh (.ref n) >>= λec=>retInt ec.size) _ _ d;refine P7 (qn B ?_);exact P7 (SF (Qg (ba _ rfl e)))
theorem Dv(B:d.heap.get? n=S (fP ec))(X:am (.ref d.heap.objs.size) {d with heap:=d.heap.push {cls:=.type "bytearray_iterator",data:=.fields #[.ref n,.int 0 0]}}):Qf (Qe h a) f (SX (.ref n)) am t d:=by refine Ub (ql B) mi (Q3 mi (ql B) rR ?_ (tJ _));show Qf _ _ (do ret (<-Ua "bytearray_iterator" [.ref n,rawInt 0])) _ _ d;exact P7 (Ru (Qg ⟨_,rfl,"bytearray_iterator",_,(ba _ (Vs _ rfl) rfl),eC.lookup,X⟩))
noncomputable def gO(B:Qb)(k L:Qa)(s:Z):Prop:=∃z,B.get? k=S z/\z.cls=.type "bytearray_iterator"/\z.data=.fields #[.ref L,.int s 0]
theorem gO.is(a:gO d.heap X n aj):d.TypeIs (.ref X) "bytearray_iterator":=rB a λz y s U=>(ba z y s)
theorem Dw(G:gO d.heap ff n aj)(B:am (.ref ff) d):Qf (Qe h a) f (SX (.ref ff)) am t d:=by refine Ub G.is mr (Q3 mr G.is rU ?_ (tL _));exact Qg ⟨_,rfl,"bytearray_iterator",_,G.is,eC.lookup,B⟩
theorem Dx{c:Qy}(G:gO d.heap ff n aj)(w:d.heap.get? n=S (fP ec))(H:ec[aj]? = S c)
  (X:∀b,gO b ff n (aj+1)->VP ff d.heap b->ir (S (.int (c.toNat:P5) d.toks)) {d with heap:=b,toks:=d.toks+1}):Qf (Qe h a) f (RE (.ref ff)) ir t d:=by refine rB (id G) λz y s q=>?_;refine P7 (RP (Rr (name:=PySem.Str.ofString "__next__") G.is eC (Q3 eC G.is lA ?_ (mx _))));show Qf _ _ (field (.ref ff) 0 >>= _) _ _ d;refine P7 (RQ y q (x:=.ref n) rfl ?_);refine P7 (Rx w ?_);refine P7 (RQ y q (x:=.int aj 0) rfl ?_);simp only[W0,H];refine P7 (SY y q (VB _) (P7 (SF (Qg (ba _ rfl (Qg (X _ ?_ (VL ..))))))));exact⟨_,Vx _ y (WK (Wu q _)),(YX ..).trans s,by refine(Wu q ..).trans ?_;exact rfl⟩
theorem GG{k:Qr}{a:Qa}{b:Qi Qy}(I:f.handled=N)(G:gO d.heap ff a aj)(w:d.heap.get? a=S (fP b))(H:b[aj]? = N)
  (X:∀c,Qb.ExtBut ff d.heap c->ir N {d with heap:=c}):Qf (Qe h k) f (RE (.ref ff)) ir t d:=by refine rB (id G) λz y s q=>?_;refine P7 (RP (Rr (name:=PySem.Str.ofString "__next__") G.is eC (Q3 eC G.is lA ?_ (mx _))));show Qf _ _ (field (.ref ff) 0 >>= _) _ _ d;refine P7 (RQ y q (x:=.ref a) rfl ?_);refine P7 (Rx w ?_);refine P7 (RQ y q (x:=.int aj 0) rfl ?_);simp only[W0,H];refine P7 (R2 (P7 (SY y q (VK _) (P7 (T3 ?_)))));refine P7 (P7 (Ru ?_ (by size_fits)));refine P7 (m:=Sn _ _) (QN (a:=P'.none) (by first|rfl|(rw[Sn];rfl)) ?_);refine Ru ?_ (by size_fits);dsimp only[Ti];refine P7 (Uc ?_);refine R (show f.in1.handled=N from I) (P7 (Qg (Ud ?_)));refine P7 (RZ (T:="StopIteration") (b:=true) (ba _ (Vs _ rfl) rfl) Ue ?_);exact Qg (X _ (((VL ..).extBut.push _).push _))
theorem AU(I:f.handled=N)(k L:Qa)(m:L≠k)(E:Qi Qy) :
  Walks h a f k [k,L] [k] E.size (λs C=>∃A i,E[s]? = S A/\C=.int (A.toNat:P5) i) (λs B=>gO B k L s/\B.get? L=S (fP E)) where
 sub:=λE w=>by simp at w;simp[w]
 frame:=λU U U n J=>⟨aM (n.1) λz y b=>(ba z (J k (.head _) z y) b),J L (.tail _ (.head _)) _ n.2⟩
 item:=λs d Y T g n X=>by refine Dx n.1 n.2 (c:=E[s]) (by simp[g]) λx c v=>?_;exact X _ x (d.toks+1) (eP _ _ (by simp[g]) rfl) ⟨c,(v.2 L m).trans n.2⟩ λE z w D=>v.extBut E z (λB=>w (by simp[B])) D
 done:=λd Y T n X=>GG I n.1 n.2 (by simp) λx t=>X x d.toks λE z w D=>t E z (λB=>w (by simp[B])) D
 self:=λU U U U n X=>Dw n.1 X
end
noncomputable def bJ(P:Qo):V Qa:=P.locals :: P.cells.map (·.2)
theorem lookup_mem[BEq G][LawfulBEq G]{I:G}{A:bx}:∀{l:V (G×bx)},l.lookup I=S A->A∈l.map (·.2):=by
 intro l;induction l with
 |nil=>intro D;exact nX D
 |cons a l b=>
  intro D;rw[VX] at D;split at D;·exact sJ D (.head _)
  ·exact .tail _ (b D)
theorem dI.at(I:dI l g az p)(P:∀E z,E≠n->p.get? E=S z->aa.get? E=S z)(c:(∃z j q,aa.get? n=S z/\z.data=.dict j q)\/(∀z,p.get? n=S z->∀j q,z.data≠.dict j q)):dI l g az aa:=
 ⟨λD H=>by
  refine hF λv=>I.el H λX x B j q r w K o y=>v ?_;by_cases M:x=n
  ·subst M;rcases c with⟨z,a,b,G,t⟩|Y;·exact⟨X,x,z,a,b,r,w,K,G,t⟩
   ·exact Qp y (Y B o j q)
  ·exact⟨X,x,B,j,q,r,w,K,P _ _ M o,y⟩⟩
noncomputable def nH(P:Qo)(C:V Qa)(I:Qc):Prop:=(P.kindOf I=S .local->P.locals∈C)/\∀A,P.kindOf I=S .cell->P.cells.lookup I=S A->A∈C
theorem nH.all:nH c (bJ c) r:=⟨λU=>.head _,λA U D=>.tail _ (lookup_mem D)⟩
theorem qA{fr:V Qa}{sl:V (O Qc)}{j:Z}(p:bt g c sl)(n:St a e g l c sl b k w d)(C:nH c fr r)(hj:sl[j]? = S (S r))(J:c.kindOf r=S .local\/c.kindOf r=S .cell)
  (hv:VR a.params (Sf d.heap b g) b bg mq) (X:∀s',(∀E z,E∉fr->d.heap.get? E=S z->s'.heap.get? E=S z)->aQ a e g fr b d b k s'->St a e g l c sl b k (w.set j (S bg)) s'->ca () s'):Qf T f (Tv c r mq) ca t d:=by
 have a2:∀{U:Z} {G:Qc} {i:Q},sl[U]? = S (S G)->(w.set j (S bg))[U]? = S (S i)->(G=r/\i=bg)\/(G≠r/\w[U]? = S (S i)):=by
  intro U G i M m;by_cases q:j=U
  ·subst q;refine hF λb9=>?_;replace M:=hj.symm.trans M;cases M;replace m:=Xq▸m;refine oA (w[j]?) (λY=>?_) (λc2 Y=>?_);·exact nX (Y▸m)
   ·refine b9 ?_;replace m:=Y▸m;cases m;exact .inl ⟨rfl,rfl⟩
  ·rw[Vv q] at m;refine .inr ⟨λY=>?_,m⟩;subst Y;exact q (p.IV j U _ hj M)
 rcases J with J|J
 ·refine aM n.eW.ns λa6 K hm=>?_;refine wpAny_storeName_local J K (λx a3 s=>?_) (by refine R p.kind ?_;rfl);have P:∀E z,E≠c.locals->d.heap.get? E=S z->x.get? E=S z:=λE z q Y=>(s.2 E q).trans Y;have S':∀L z,Sf d.heap b g L z->Sf x b g L z:=λL z Y=>Y.but P (.inr (.inl p.loc));have ob:∃z es a5,x.get? c.locals=S z/\z.data=.dict es a5:=by obtain⟨z,es,ep,o,y,_⟩:=a3;exact C4 z es ep o y
  have B:Inv a e g b k x:=n.inv.loose P (.inl p.loc) (n.inv.off _ p.loc).1 λε=>Aa ob λz ε ε o ε=>⟨z,o⟩;refine X _ (λE z q=>P E z λY=>q (by refine R Y ?_;exact C.1 J)) (.mk' B (.but (a:=c.locals) P (.inr (.inl (C.1 J)))) (.refl b)) ⟨B,⟨(ba _ a3 (λU G i M m e3=>?_)),λG A D=>?_,by refine Wg.trans ?_;exact n.eW.len⟩,n.live.at P (.inl ob)⟩
  ·rcases a2 M m with⟨rfl,rfl⟩|⟨q,a1⟩;·exact ba mq (Qk rfl) (hv.mono S' (.refl b))
   ·refine aM (hm U G i M a1 e3) λI z1 z2=>?_;exact ba I ((Qm q).trans z1) (z2.mono S' (.refl b))
  ·refine aM (n.eW.mW G A D) λov bP hc=>aM bP λz o y=>ba ov (ba z (P _ _ (p.mW G A D).2 o) y) (λU i M m e3=>?_);refine hF λa7=>?_;clear a3 bP ob;rcases a2 M m with⟨rfl,rfl⟩|⟨q,a1⟩;·rcases e3 with e3|e3<;>(replace e3:=J.symm.trans e3;cases e3)
   ·exact aM (hc U i M a1 e3) λI z1 z2=>a7 (ba I z1 (z2.mono S' (.refl b)))
 ·refine eK (p.has j r hj (.inl J)) λA a0=>aM (n.eW.mW r A a0) λc1 a4 h=>wpAny_storeName_cell p.kind J a0 a4 (λx H s=>?_);have P:∀E z,E≠A->d.heap.get? E=S z->x.get? E=S z:=λE z q Y=>(s.2 E q).trans Y;have v:=(p.mW r A a0).1;have S':∀L z,Sf d.heap b g L z->Sf x b g L z:=λL z Y=>Y.but P (.inr (.inl v));have B:Inv a e g b k x:=n.inv.loose P (.inl v) (n.inv.off _ v).1 λε=>aM H λz o ε=>⟨z,o⟩;refine X _ (λE z q=>P E z λY=>q (by refine R Y ?_;exact C.2 A J a0)) (.mk' B (.but (a:=A) P (.inr (.inl (C.2 A J a0)))) (.refl b)) ⟨B,⟨?_,λG c' D=>?_,by refine Wg.trans ?_;exact n.eW.len⟩,n.live.at P (.inr λz o es a5 y=>?_)⟩
  ·refine aM n.eW.ns λa6 K hm=>ba a6 (K.sameBut s (Wd (p.mW r A a0).2)) (λU G i M m e3=>?_);refine hF λa8=>?_;clear K s h v C hj X;rcases a2 M m with⟨rfl,rfl⟩|⟨q,a1⟩;·replace e3:=J.symm.trans e3;cases e3
   ·exact aM (hm U G i M a1 e3) λI z1 z2=>a8 (ba I z1 (z2.mono S' (.refl b)))
  ·by_cases q:G=r
   ·subst q;replace D:=a0.symm.trans D;obtain rfl:=sX D;refine ba _ H (λU i M m e3=>?_);refine hF λa9=>?_;clear s h H v C hj J X;rcases a2 M m with⟨_,rfl⟩|⟨q,_⟩;·exact a9 (ba mq rfl (hv.mono S' (.refl b)))
    ·exact q rfl
   ·refine aM (n.eW.mW G c' D) λov cQ hc=>aM cQ λz o y=>ba ov (ba z (P _ _ (λY=>q ?_) o) y) (λU i M m e3=>?_);·subst Y;exact p.inj G r _ D a0
    ·rcases a2 M m with⟨rfl,rfl⟩|⟨q',a1⟩;·exact(q rfl).elim
     ·exact aM (hc U i M a1 e3) λI z1 z2=>ba I z1 (z2.mono S' (.refl b))
  ·refine aM a4 λo' g' d'=>?_;replace o:=g'▸o;obtain rfl:=sX o;replace y:=d'▸y;cases y
theorem fG{fr:V Qa}{h:V (O Qc)}{loc:Loc}{j:Z}(p:bt g c h)(n:St a e g l c h b k loc d)(C:nH c fr r)(E:h[j]? = S (S r))(J:c.kindOf r=S .local\/c.kindOf r=S .cell) (P:VR a.params (Sf d.heap b g) b bg mq) (X:∀m,aQ a e g fr b d b k m->St a e g l c h b k (loc.set j (S bg)) m->ca () m):Qf T f (Tv c r mq) ca t d:=qA p n C E J P λm U=>X m
noncomputable def SrcAt(k:Qr)(b:V Qa)(x:cS)(B:Qb):Src->Qa->Prop
 |.eW w,L=>∃v q,Sf B x b L (listOf v q)/\bU k.params (Sf B x b) x w v.toList
 |.pQ X,L=>x.L[X]? = S L
theorem jR(P:VR a.params (Sf d.heap b g) b bg dv)(D:srcOf k bg=S (cg,H)):∃L,dv=.ref L/\SrcAt a g b d.heap cg L:=by
 induction bg using Zp with
 |lst w=>refine eM P.inv λL v c eA i A=>?_;subst eA;refine dB D (λU D=>?_) λU D=>nX D;obtain rfl:=Ql QU.fst (sX D);exact⟨L,rfl,v,c,i,A⟩
 |aE H=>refine aM P.inv λL eZ J=>?_;subst eZ;refine lI D λw U D=>dB D (λU D=>?_) λU D=>nX D;obtain rfl:=Ql QU.fst (sX D);exact ba L rfl J
 |_=>exact nX D
theorem SrcAt.items(s:Inv a e g b k d.heap)(I:SrcAt a g b d.heap cg n):∃c q,d.heap.get? n=S (listOf c q)/\
  ∀(v:Z) y,cg.at v k=S y->match y with|none=>c[v]? = N|some C=>∃t,c[v]? = S t/\VR a.params (Sf d.heap b g) b C t:=by
 have x:∀{w:V Q} {c:Qi P'},bU a.params (Sf d.heap b g) b w c.toList->∀(v:Z),match w[v]? with|none=>c[v]? = N|some C=>∃t,c[v]? = S t/\VR a.params (Sf d.heap b g) b C t:=by
  intro w c A v
  induction D:w[v]? using U0 with
  |none=>
   have:c.size<=v:=by exact R U'.symm (R A.len.symm (V.getElem?_eq_none_iff.mp D))
   exact Yp this
  |some C=>exact p5 A D
 induction cg using Src.casesOn with
 |eW w=>refine cN I λc q i A=>?_;exact eP c q i.1 (λv y D=>by obtain rfl:=sX D;exact x A v)
 |pQ X=>
  have J:X<k.L.length:=by exact R s.ey.jP.symm ((U8.mp I).1)
  refine cN (s.ey.L X _ n (U3 J) I) λc q o A=>?_
  refine eP c q o (λv y D=>?_)
  replace D:(k.L[X]?).map (·[v]?)=S y:=D
  rw[U3 J] at D
  have D:=sX D
  subst D
  exact x A v
theorem SrcAt.mono(I:SrcAt a g b p cg n)(B:∀n z,Sf p b g n z->Sf aa aq bh n z)(X:b.le aq):SrcAt a bh aq aa cg n:=by
 induction cg using Src.casesOn with
 |eW w=>exact cN I λv q i A=>eP v q (B _ _ i) (A.mono B X)
 |pQ c=>exact X.L _ _ I
theorem SrcAt.on{s:Qh}(I:SrcAt a g b s.heap cg n)(z:aQ a e g az b s aq cu ay)(J:∀n∈az,n∈g\/s.heap.get? n=N):SrcAt a g aq ay.heap cg n:=I.mono (λU U Y=>z.sf J Y) z.le
structure dT(w:Qr)(own:V Qa)(r:cS)(h:Qb)(src:Src)(I:Qa)(i:Z):Prop where
 src:∃a,SrcAt w own r h src a/\a≠I/\h.IsListIter I a i
 one:own.count I=1
theorem dT.mem(I:dT a g b p cg X aj):X∈g:=Vz.mp (by refine R I.one ?_;decide)
theorem dT.on{s:Qh}(K:Inv a e g b k s.heap)(I:dT a g b s.heap cg X aj)(z:aQ a e g az b s aq cu ay)(q:X∉az)(J:∀L∈az,L∈g\/s.heap.get? L=N):dT a g aq ay.heap cg X aj:=by refine hF λh=>?_;obtain⟨L,d,i,B,o,A,y⟩:=I.src;refine z.keep.el o (K.off X I.mem).1 q λU f G Y=>?_;obtain rfl:=Y.once (by refine R I.one ?_;decide);exact h ⟨⟨L,d.on z J,i,_,G,A,y⟩,I.one⟩
theorem GH{k:Qr}{a:Qa}(I:f.handled=N)(G:d.heap.IsListIter ff a aj)(c:d.heap.IsList a da)(H:da[aj]? = N)
  (X:∀i,(∃z,i.get? ff=S z)->(∀b z,b≠ff->d.heap.get? b=S z->i.get? b=S z)->ir N {d with heap:=i}):Qf (Qe h k) f (RE (.ref ff)) ir t d:=by refine hF λj=>rB (id G) λz y s q=>?_;obtain⟨o,g,_,n,e⟩:=id c;refine j ?_;refine P7 (RP (Rr (name:=PySem.Str.ofString "__next__") G.typeIs UN (Q3 UN G.typeIs entry_listiter_next ?_ (args_listiter_next _))));show Qf _ _ (field (.ref ff) 0 >>= _) _ _ d;refine P7 (RQ y q (x:=.ref a) rfl ?_);refine R (Qm (show¬((P'.ref a==P'.none)=P4) from Vm)) (P7 (RQ y q (x:=.int aj 0) rfl ?_));refine P7 (wpAny_seqItems g e ?_);simp only[W0,H];refine P7 (R2 (P7 (SY y q (Yd _) ?_)));refine P7 (P7 (Ru ?_ (by size_fits)));refine P7 (m:=Sn _ _) (QN (a:=P'.none) (by first|rfl|(rw[Sn];rfl)) ?_);refine Ru ?_ (by size_fits);dsimp only[Ti];refine P7 (Uc ?_);refine R (show f.in1.handled=N from I) (P7 (Qg (Ud ?_)));refine P7 (RZ (T:="StopIteration") (b:=true) (ba _ (Vs _ rfl) rfl) Ue ?_);refine Qg (X _ ⟨_,U2 _ (U2 _ (Vx _ y (WK (Wu q _))))⟩ λb z M D=>?_);exact U2 _ (U2 _ ((We _ _ (Wd M)).trans D))
theorem nI{y:O Q}(J:f.handled=N)(K:Inv a e g b k d.heap)(I:dT a g b d.heap cg X aj)(D:cg.at aj k=S y)
  (p:∀m,aQ a e g [X] b d b k m->match y with|none=>ir N m|some C=>∀l,VR a.params (Sf m.heap b g) b C l->dT a g b m.heap cg X (aj+1)->ir (S l) m):Qf (Qe h a) f (RE (.ref X)) ir t d:=by
 refine hF λj=>rB I.src λL n i G=>cN (n.items K) λv q o r=>?_;have H:=r aj y D;induction y using U0 with
 |none=>exact j (GH J G (bb o) H λx Y P=>p _ (.mk' (K.loose P (.inl I.mem) (K.off X I.mem).1 λU=>Y) (.but (a:=X) P (.inr (.inl (.head _)))) (.refl b)))
 |some C=>refine aM H λl T A=>j (wpAny_pyNext_list_item G (bb o) T λx c s=>?_);have P:∀E z,E≠X->d.heap.get? E=S z->x.get? E=S z:=λE z M Y=>(s.2 E M).trans Y;have B:Inv a e g b k x:=K.loose P (.inl I.mem) (K.off X I.mem).1 λU=>aM c λz o U=>⟨z,o⟩;have w:∀L z,Sf d.heap b g L z->Sf x b g L z:=λL z Y=>Y.but P (.inr (.inl I.mem));exact p {d with heap:=x} (.mk' (tk':=d.toks) B (.but (a:=X) P (.inr (.inl (.head _)))) (.refl b)) l (A.mono w (.refl b)) ⟨(mU L (n.mono w (.refl b)) i c),I.one⟩
section
open Sem (wp)
noncomputable def Dk(B x:Qb):Prop:=∀L z,B.get? L=S z->∃f,x.get? L=S f/\f.dict=z.dict
theorem Dk.refl(B:Qb):Dk B B:=λU z D=>⟨z,D,rfl⟩
theorem Dk.trans{L E A:Qb}(a:Dk L E)(n:Dk E A):Dk L A:=λM z D=>aM (a M z D) λo1 T I=>aM (n M o1 T) λo2 m b=>⟨o2,m,b.trans I⟩
theorem Dk.push(B:Qb)(z:Qs):Dk B (B.push z):=λU f D=>⟨f,U2 _ D,rfl⟩
theorem Dk.update(B:Qb)(L:Qa)(r:Qs->Qs)(J:∀z,B.get? L=S z->(r z).isFreed=P8/\(r z).dict=z.dict):Dk B (B.update L r):=λE z D=>by
 by_cases M:E=L;·subst M;exact ba _ (Vx _ D (J z D).1) ((J z D).2)
 ·exact ba z ((We _ _ (Wd M)).trans D) rfl
theorem qB(z:Qs)(r:Qi P'->Qi P'):(z.mapFields r).dict=z.dict:=by obtain⟨A,y,e,c⟩:=z;induction e using QX.casesOn<;>rfl
theorem zh(D:p.get? n=S ak):ak.isFreed=P8:=(Qb.get?_some_iff.mp D).2
theorem u6(z:Qs)(sl):({z with slots:=sl}:Qs).isFreed=z.isFreed:=by obtain⟨A,y,e,E⟩:=z;induction e using QX.casesOn<;>rfl
structure dA{α:Type}(t:Qt α):Prop where
 out:∀(M:Q0) (Γ:Ctx) (P:α->Qv->Qh->Prop) (Ee:P'->Qv->Qh->Prop) (p:Qv) (s:Qh),wp M Γ t P Ee p s->wp M Γ t (λa p' s'=>P a p' s'/\Dk s.heap s'.heap) Ee p s
namespace dA
theorem pure(L:G):dA (Pure.pure L:Qt G):=⟨λU U U U U U B=>⟨B,.refl _⟩⟩
theorem unsupported(k:RA):dA (PySem.unsupported k:Qt G):=⟨λU U U U U U B=>B.elim⟩
theorem bind{H:Qt G}{r:G->Qt bx}(c:dA H)(J:∀L,dA (r L)):dA (H >>= r):=⟨λy a i b P d B=>by rw[YQ] at B⊢;refine WI y a H (λL h m x=>?_) (λU U U I=>I) P d (c.out y a _ b P d B);exact WI y a (r L) (λE M o p=>⟨p.1,x.2.trans p.2⟩) (λU U U I=>I) h m ((J L).out y a i b h m x.1)⟩
theorem ite[RJ iq]{K i:Qt G}(a:dA K)(k:dA i):dA (if iq then K else i):=by split<;>assumption
theorem load(L:Qa):dA (PySem.load L):=⟨λU U U U U U B=>by exact aM B λz D B=>⟨z,D,B,.refl _⟩⟩
theorem stack:dA PySem.stack:=⟨λU U U U U U B=>by exact⟨B,.refl _⟩⟩
theorem alloc(z:Qs):dA (PySem.alloc z):=⟨λU U U U U U B=>by exact⟨B,.push _ _⟩⟩
theorem upd(L:Qa)(o:Qs->Qi (O P')):dA (PySem.update L λz=>{z with slots:=o z}):=⟨λy a i b P d B=>by refine gZ B.1 B.2 (.update _ _ _ λz D=>⟨?_,rfl⟩);refine(u6 ..).trans ?_;exact zh D⟩
theorem field(C:P')(s:Z):dA (PySem.field C s):=⟨λU a i b P d B=>by rw[wp_field_iff] at B⊢;exact Oh B λL z w I T m l o B=>⟨L,z,w,I,T,m,l,o,B,.refl _⟩⟩
theorem setField(C:P')(s:Z)(I:P'):dA (PySem.setField C s I):=⟨λU a i b P d B=>by rw[wp_setField_iff] at B⊢;refine MY B λL z w T m l o B=>N6 L z w T m l o B (.update _ _ _ λf D=>?_);replace D:=m▸D;obtain rfl:=sX D;exact⟨WK (Wu l _),qB _ _⟩⟩
end dA
theorem mA(P:Qo)(o:V Qo):dA (behindIsImport P o):=by unfold behindIsImport;repeat' with_reducible first|assumption|exact dA.pure _|exact dA.unsupported _|exact dA.field _ _|exact dA.load _|exact dA.stack|apply dA.ite|apply dA.bind|intro _|split
theorem iA:dA UO:=by unfold UO;repeat' with_reducible first|assumption|exact dA.pure _|exact dA.unsupported _|exact dA.field _ _|exact dA.load _|exact dA.stack|apply dA.ite|apply dA.bind|intro _|split
theorem u7(P:Qo)(s:P6)(l:V Qo):dA (keptBack P s l):=by have:=iA;induction l using U5<;>unfold keptBack<;>repeat' with_reducible first|assumption|exact dA.pure _|exact dA.unsupported _|exact dA.field _ _|exact dA.load _|exact dA.stack|apply dA.ite|apply dA.bind|intro _|split
theorem qC(l:V Qo):dA (readyFrames l):=by
 induction l with
 |nil=>exact dA.pure _
 |cons P o k=>
  have G:=mA P o
  unfold readyFrames
  repeat' with_reducible first|assumption|exact dA.pure _|exact dA.unsupported _|exact dA.field _ _|exact dA.load _|exact dA.stack|exact dA.upd _ _|exact(λs=>u7 P s o) _|apply dA.ite|apply dA.bind|intro _|split
theorem qD(l:V Qo):dA (frameObject l):=by
 induction l using U5 with
 |nil=>exact dA.pure _
 |cons P o=>
  have:=qC (P :: o)
  unfold frameObject
  repeat' with_reducible first|assumption|exact dA.pure _|apply dA.bind|intro _
theorem tM:dA frameEnvs:=by unfold frameEnvs;repeat' with_reducible first|assumption|exact dA.pure _|exact dA.stack|apply dA.bind|intro _
theorem wu(P:Qo):dA (frameOf P):=by have G:=tM;unfold frameOf;repeat' with_reducible first|assumption|exact dA.pure _|exact dA.unsupported _|exact(qD) _|apply dA.bind|intro _|split
theorem oV(r:Qa)(h:P6):dA (entryPlaceOf r h):=by unfold entryPlaceOf;repeat' with_reducible first|assumption|exact dA.pure _|exact dA.unsupported _|exact dA.field _ _|exact dA.load _|exact dA.stack|apply dA.ite|apply dA.bind|intro _|split
theorem u9(L E A y D:P')(pl:V P'):dA (EntryCells.newEntry L E A y D pl):=by unfold EntryCells.newEntry Ua newObj newObjAsIs;repeat' with_reducible first|assumption|exact dA.pure _|exact dA.unsupported _|exact dA.alloc _|apply dA.ite|apply dA.bind|intro _|split
theorem mB(D:P')(P:Qo):dA (noteFrame D P):=by unfold noteFrame;repeat' with_reducible first|assumption|exact dA.pure _|exact dA.unsupported _|exact dA.field _ _|exact dA.setField _ _ _|exact u9 _ _ _ _ _ _|exact(wu) _|exact(oV) _ _|apply dA.ite|apply dA.bind|intro _|split
theorem iR(D:P')(r:O Qa):dA (setFlight D r):=by unfold setFlight;repeat' with_reducible first|assumption|exact dA.pure _|exact dA.field _ _|exact dA.setField _ _ _|apply dA.ite|apply dA.bind|intro _|split
theorem qE(D:P')(P:Qo):dA (RG P D):=by unfold RG;exact dA.bind (mB _ _) λU=>iR _ _
theorem dA.at{K:Qt G}(X:dA K){M:Q0}{A:QB}{Y:G->Qh->Prop}(B:Qf M A K (λL m=>Dk d.heap m.heap->Y L m) t d):Qf M A K Y t d:=λa P H=>
 WI M a K (λL h m x=>x.1 x.2) (λU U U I=>I) P d (X.out M a _ _ P d (B a P H))
end
noncomputable def KW(k:Qr)(B:SP)(x:cS):Fl->QP->Prop
 |.next,.next=>Qw
 |.ret C,.ret t=>VR k.params B x C t
 |_,_=>QC
section
variable(w:Qr)(g₀:Qb)(own:V Qa)
noncomputable def QS(C:V Qa)(h:V Qo)(P:Qo)(c:V (O Qc))(I:Res (Fl×Loc×AH))(x:cS)(d:Qh):QP->Qh->Prop:=λr m=>∃k E v J,I=.ok (k,E,v)/\aQ w g₀ own C x d J v m/\St w g₀ own (P :: h) P c J v E m/\KW w (Sf m.heap J own) J k r
noncomputable def EF(C:V Qa)(l:V Qo)(I:O (Q×AH))(x:cS)(d:Qh):P'->Qh->Prop:=λT m=>∃K v,I=S (K,v)/\lQ w g₀ own C l x d K v T m
noncomputable def ES(y:Q0)(J:QB)(C:V Qa)(h:V Qo)(P:Qo)(I:O (Q×AH))(x:cS)(d:Qh):P'->Qh->Prop:=λD m=>Qf y J (RG P D) (λU i=>EF w g₀ own C h I x d D i) (λT i=>EF w g₀ own C h I x d T i) m
noncomputable def Dy(y:Q0)(J:QB)(C:V Qa)(h:V Qo)(P:Qo)(c:V (O Qc))(K:Qt QP)(I:Res (Fl×Loc×AH))(x:cS)(d:Qh):Prop:=I≠.bad->Qf y J K (QS w g₀ own C h P c I x d) (ES w g₀ own y J C h P I.x? x d) d
end
noncomputable def SS(o:Qz)(k:Qr)(G:Qb)(h:V Qo)(P:Qo)(c:V (O Qc))(J:QB)(f:CF)(n:LS)(I:Qn):Prop:=∀b x y d g,bt b P c->St k G b (P :: h) P c x y g d->Dy k G b (Qe o k) J (bJ P) h P c (exec I P) (dK f n g y) x d
noncomputable def ve(o:Qz)(k:Qr)(G:Qb)(h:V Qo)(P:Qo)(c:V (O Qc))(J:QB)(f:CF)(n:jL)(I:V Qn):Prop:=∀b x y d g,bt b P c->St k G b (P :: h) P c x y g d->Dy k G b (Qe o k) J (bJ P) h P c (Rk I P) (aW f n g y) x d
theorem bt.hU(p:bt g c j):∀L∈bJ c,L∈g:=λL H=>(U4.mp H).elim (λD=>D▸p.loc) (p.Dd L)
theorem EF.no(M:EF a e g az l N b d db cm):af:=cN M λK v Y U=>nX Y
theorem EF.pre(z:aQ a e g az b d aq cu ay)(J:∀L∈az,L∈g)(M:EF a e g az l iz aq ay db cm):EF a e g az l iz b d db cm:=cN M λK v D Y=>eP K v D (Y.pre z J)
theorem EF.wide{fr:V Qa}(M:EF a e g [] l iz b d db cm):EF a e g fr l iz b d db cm:=cN M λK v D Y=>eP K v D Y.wide
theorem ES.mono{G:O (Q×AH)}(X:∀kq km,EF a e g az o iz b d kq km->EF a e bh jd o G dz cm kq km)(M:ES a e g T f az o c iz b d kq km):ES a e bh T f jd o c G dz cm kq km:=Qq M (λU U Y=>X _ _ Y) λU U Y=>X _ _ Y
theorem zi{x:Qa}(C:f.frames=S (c :: o))(J:c.frame=S x)(I:lQ a e g az (c :: o) b d gg cy db cm)
  (X:∀i,lQ a e g az o b d gg cy db i->ca () i):Qf T f (RG c db) ca t cm:=by
 revert X;refine lQ.el (P:=λdb cm=>(∀i,lQ a e g az o b d gg cy db i->ca () i)->Qf T f (RG c db) ca t cm) I λa7 r' hr r h' a9 z1 z2 m w v z6 z7 X=>z7.el λK a0 oe a5 j q fw fb s y2 y3 B L H k f0 f1 f2 f3=>(qE _ _).at (wpAny_leaves_onW C J fw λp a1 U n=>?_);refine aM (n r oe s) λa3 G h=>X _ (.mk a7 r' hr r p _ z1 z2 m w v z6 (.mk K a0 a3 a5 j q a1 (λE z D=>(fb E z D).imp id ?_) G (h.trans y2) y3 B L H k f0 f1 f2 f3));rintro⟨A,⟨a6,y,M⟩,a8,a2⟩;obtain⟨a4,l⟩:=U E _ a2 λvs Y=>by replace Y:=M.symm.trans Y;cases Y
 exact⟨A,(z8 a6 y M),a4,l⟩
theorem EF.stmt{h:Z}(R:bA fq h f (c :: o))(j:dI (c :: o) g [] p)(q:EF a e g az (c :: o) iz b d db cm):ES a e g T f az o c iz b d db cm:=by refine hF λi=>cN q λK v eA Y=>?_;subst eA;exact j.el (.head _) λU x U U U J U U U U=>i (zi R.frames J Y λk q=>(eP K v rfl q))
theorem mV.fC{t:Z}{p:Rel G bx}{K:Qt bx}{n:Res (G×AH)}{r:G×AH->Res (Fl×Loc×AH)}{i:bx->Qh->Prop}(R:bA fq t f (c :: o))(k:dI (c :: o) g [] ay.heap)(J:∀L∈az,L∈g)(B:mV a e g T f (c :: o) p K n aq ay)(z:aQ a e g az b d aq cu ay)
  (X:∀L s H h E,n=.ok (L,s)->aQ a e g az b d H s h->aQ a e g [] aq ay H s h->p (Sf h.heap H g) H L E->r (L,s)≠.bad->i E h) (w:n.bind r≠.bad) :
  Qf T f K i (ES a e g T f az o c (n.bind r).x? b d) ay:=by
 refine Qq (B (λq=>w (by refine(bL q).trans ?_;rfl))) (λE m q=>?_) λl m q=>?_;·refine eM q λL s H eZ o2 C=>?_;clear B;subst eZ;exact X L s H m E rfl (z.trans o2.wide) o2 C w
 ·refine EF.stmt R k (EF.pre z J ?_)
  refine cN q λK v D Y=>?_
  clear q R k J B z X w
  induction n using Zq with
  |ok L=>exact nX D
  |bad=>exact nX D
  |exc y j=>obtain⟨rfl,rfl⟩:=sP D;exact eP _ _ rfl Y.wide
theorem QS.pre(z:aQ a e g az b d aq cu ay)(M:QS a e g az o c j jm aq ay qu cm):QS a e g az o c j jm b d qu cm:=Og M λk E v J D f Y=>LJ k E v J D (z.trans f) Y
theorem Dy.lift{K:Qt QP}(J:∀L∈az,L∈g)(B:Dy a e g T f az o c j K jm aq ay)(z:aQ a e g az b d aq cu ay)(t:jm≠.bad):Qf T f K (QS a e g az o c j jm b d) (ES a e g T f az o c jm.x? b d) ay:=Qq (B t) (λU U M=>M.pre z) λU U M=>M.mono λU U Y=>Y.pre z J
theorem ve.nil:ve h a e o c j f i .nil []:=λb x y d g p n t=>by exact Rm (jN .next g y x rfl (.refl n.inv) n trivial)
theorem ve.cons{L:LS}{l:jL}(G:SS h a e o c j f i L ma)(w:ve h a e o c j f i l ew):ve h a e o c j f i (.cons L l) (ma :: ew):=λb x y A g p H t=>by
 rw[gJ] at t;refine R gJ ?_;have D:dK i L g y≠.bad:=λM=>t ((bL M).trans rfl);refine S0 (Qq (G b x y A g p H D) (λr m M=>?_) λq m M=>?_)
 ·refine uM M λk E v J q z d Y=>?_
  rw[q,Res.aP] at t⊢
  induction k using Fl.casesOn with
  |next=>
   induction r using VY with
   |next=>exact(w b J v m E p d).lift p.hU z t
   |_=>exact Y.elim
  |ret C=>
   induction r using VY with
   |ret I=>exact jN (.ret C) E v J rfl z d Y
   |_=>exact Y.elim
 ·refine M.mono λP K Y=>cN Y λB v T Y=>?_
  induction n:dK i L g y using Zq with
  |ok _=>exact nX (n▸T)
  |bad=>exact(D n).elim
  |exc U s=>replace T:=n▸T;obtain⟨rfl,rfl⟩:=sP T;exact eP _ _ rfl Y
theorem SS.exp(R:bA fq q f (c :: o))(k:SE h a e (c :: o) c j f i ai s)(l:So c=P8)(P:Q5 s N J.line c=pure P8):SS h a e o c j f i (.exp ai) (.Expr s J):=λb x y d g p n t=>by rw[we] at t⊢;refine Ug ((k b x y d g p n).fC R n.live p.hU (.refl n.inv) (λL z X G Y T o1 C r D=>?_) t) l P;rw[T];exact jN .next g z X rfl o1 (n.on p C) trivial
theorem SS.ret(R:bA fq q f (c :: o))(k:SE h a e (c :: o) c j f i ai s):SS h a e o c j f i (.ret ai) (.Return (S s) J):=λb x y d g p n t=>by rw[Ap] at t⊢;refine wpAny_Return_some ((k b x y d g p n).fC R n.live p.hU (.refl n.inv) (λL z X G Y T o1 C r D=>?_) t);rw[T];exact jN (.ret L) g z X rfl o1 (n.on p C) r
theorem SS.asg(R:bA fq q f (c :: o))(k:SE h a e (c :: o) c j f i ai s)(E:j[K]? = S (S r))(l:c.kindOf r=S .local\/c.kindOf r=S .cell)
  (P:Q5 s (S (.Name r fu)) J.line c=pure P8):SS h a e o c j f i (.asg K ai) (.Assign [.Name r fu] s J):=λb x y d g p n t=>by rw[th] at t⊢;refine wpAny_Assign_Name ((k b x y d g p n).fC R n.live p.hU (.refl n.inv) (λL z X G Y T o1 C w D=>?_) t) P;rw[T];exact fG p (n.on p C) nH.all E l w λm A v=>(jN .next _ z X rfl (o1.trans A) v trivial)
theorem Dz:dK i (.ifs fi qv bq) w k=(rD i fi w k).bind λM=>if M.1 then aW i qv w M.2 else aW i bq w M.2:=by
 refine wg.trans (R fW ?_);cases aO i fi w k with
 |ok P=>
  dsimp only[Res.aP]
  induction K:truthy P.1 using U0 with
  |none=>rfl
  |some fi=>induction fi using U6<;>rfl
 |exc _ _=>rfl
 |bad=>rfl
theorem SS.ifs(R:bA fq q f (c :: o))(k:ST h a e (c :: o) c j f i fi s)(l:ve h a e o c j f i qv ew)(w:ve h a e o c j f i bq qw):SS h a e o c j f i (.ifs fi qv bq) (.If s ew qw J):=λb x y d g p n t=>by
 rw[Dz] at t⊢;refine wpAny_If ((k b x y d g p n).fC R n.live p.hU (.refl n.inv) (λM z X G Y T o1 C r D=>?_) t);obtain rfl:M=Y:=r;rw[T];clear t T R k;induction M using U6 with
 |true=>exact(l b X z G g p (n.on p C)).lift p.hU o1 D
 |false=>exact(w b X z G g p (n.on p C)).lift p.hU o1 D
open Builtin
theorem tO(o:d.heap.get? n=S (listOf da q))(H:0<=j6)(K:j6<da.size)(j:da.size<1000)
  (X:∀x y,x.get? n=S (listOf (da.setIfInBounds j6.toNat ag) y)->VP n d.heap x->ca () {d with heap:=x}):Qf (Qe h a) f (SJ (.ref n) (.int j6 j3) ag) ca t d:=by
 have c:=bb o;refine QE (P7 (Tg c.typeIs (rfl) ?_));refine P7 (Rr (name:=WA "__setitem__") c.typeIs UP (Q3 UP c.typeIs entry_list_setitem ?_ (args_list_setitem _ _ _)));show Qf _ _ (QM.List.listSubscript? (.int j6 j3) >>= _) _ _ d;refine P7 (wpAny_listSubscript_int (fitsIndex_of H (MS K j)) ?_);refine eK (WR H) λv bP=>?_;clear c H j;subst bP;have E:v<da.size:=by exact Vj.mp K
 have e:da[v]? = S da[v]:=Wy E;refine P7 (P7 (wpAny_seqItemAt o rfl (Qg ?_)));refine R e (hF λb=>eK (oH da q (·.setIfInBounds v ag)) λy T=>?_);have g:(d.heap.update n (Zc (·.setIfInBounds v ag))).get? n=S (listOf (da.setIfInBounds v ag) y):=by refine(Vx _ o (by refine R T ?_;rfl)).trans ?_;rw[T]
 refine b (P7 (wpAny_setSeqItemAt o rfl ?_));first
  |exact P7 (Qg (Qg (gZ .none rfl (Qg (X _ y g (VL ..))))))
  |exact Qg (ba .none rfl (Qg (X _ y g (VL ..))))
theorem wx{k:Qr}{a:Qa}(o:d.heap.get? a=S (fP ec))(H:0<=j6)(K:j6<ec.size)(j:ec.size<1000)(m:0<=lm)(o1:lm<256)
  (X:∀x,x.get? a=S (fP (ec.setIfInBounds j6.toNat lm.toNat.toUInt8))->VP a d.heap x->ca () {d with heap:=x}):Qf (Qe h k) f (SJ (.ref a) (.int j6 j3) (.int lm pj)) ca t d:=by
 refine QE (P7 (Tg (ql o) (rfl) ?_));refine P7 (Rr (name:=WA "__setitem__") (ql o) oJ (Q3 oJ (ql o) tH ?_ (u4 _ _ _)));refine P7 (P7 (Rd (T:="int") (Uh d j6 j3) int_index ?_));refine P7 (QN (a:=j6) rfl ?_);refine R (Qm (by unfold QM.Bytes.fitsIndex;simp;exact⟨i4 H (by decide),MS K j⟩)) ?_;refine Qg (P7 (P7 (QN (a:=lm) rfl ?_)));refine R (Qm (by simp;exact⟨m,o1⟩)) ?_;refine Qg (P7 (qn o ?_));rw[show seqIndex? j6 ec.size=S j6.toNat from seqIndex_of H K];refine P7 (P7 (Rx o ?_));refine P7 (Ui o ?_);have b:=Vx (Y7 (·.setIfInBounds j6.toNat lm.toNat.toUInt8)) o rfl;refine Tw b ?_ ?_;·show(if(ec.setIfInBounds j6.toNat lm.toNat.toUInt8).size>Q2 then S "bytearray:memory" else N)=N;rw[Qm];rw[Qi.size_setIfInBounds];exact Wo.mpr (uD j rfl)
 ·exact P7 (Qg (Qg ⟨.none,rfl,Qg (X _ b (VL ..))⟩))
theorem byte_back(H:0<=lm)(G:lm<256):((lm.toNat.toUInt8.toNat:Z):P5)=lm:=by refine eK (WR H) λa cQ=>?_;subst cQ;exact Ql YL (Z.mod_eq_of_lt (Vj.mp G))
theorem yd(hu:f.units+64<QG)(K:Inv a e g b k d.heap)(G:VR a.params (Sf d.heap b g) b ln qx)(p:VR a.params (Sf d.heap b g) b m9 qq)(h3:VR a.params (Sf d.heap b g) b bg g8)(D:ei k ln m9 bg=S cy)
  (hQ:∀m,aQ a e g [] b d b cy m->ca () m):Qf (Qe h a) f (SJ qx qq g8) ca t d:=by
 refine hF λa0=>?_;have G:=G.inv;induction ln using Zp with
 |aE X=>
  refine aM G λL eA J=>?_
  subst eA
  induction m9 using Zp with
  |int v=>refine eK p.inv λa1 eZ=>?_;subst eZ;refine aM (V3.mp D) λvs l D=>dB D (λq D=>?_) λU D=>nX D;refine cN (K.ey.L X vs L l J) λa5 a2 o A=>?_;have j:=A.len.trans U';refine hO q λq0 P M=>a0 ?_;exact tO o q0 (j▸P) (j▸Qj M) λx y C s=>hQ _ (sX D▸.mk' (K.Gm J s C (R X1 (A.set v.toNat h3))) (.but (a:=L) (λE ln q Y=>(s.2 E q).trans Y) (.inl (oE J))) (.refl b))
  |_=>exact nX D
 |ab X=>refine aM G λL g6 J=>?_;subst g6;exact aM (V3.mp D) λc l D=>aM (VA.mp D) λz T D=>Dc (hA K l J) λes r n I=>a0 (tC (own:=g) (IT hu rfl) I p h3 T λa2 x a6 a4 a3 s C H B=>hQ _ (D▸.mk' (K.Js J s C H B) (.but (a:=L) (λE ln q Y=>(s.2 E q).trans Y) (.inl (hX J))) (.refl b)))
 |fV X=>
  refine aM G λL lR J=>?_
  subst lR
  induction m9 using Zp with
  |int v=>
   induction bg using Zp with
   |int ln=>refine eK p.inv λa1 m3=>?_;subst m3;refine eK h3.inv λi pU=>?_;subst pU;refine aM (V3.mp D) λbs l D=>dB D (λq D=>?_) λU D=>nX D;refine aM (K.ey.B X bs L l J) λE o w=>?_;have j:=w▸(U1 _).trans U';refine z' q λq0 P M q3 q4=>a0 ?_;exact wx o q0 (j▸P) (j▸Qj q4) M q3 λx C s=>hQ _ (sX D▸.mk' (K.setB J s C (by refine R X1 ?_;refine YR.trans ?_;refine R w ?_;refine R (byte_back M q3) rfl)) (.but (a:=L) (λE ln q Y=>(s.2 E q).trans Y) (.inl (sy J))) (.refl b))
   |_=>exact nX D
  |_=>exact nX D
 |_=>exact nX D
theorem FR.findIdx(A:ah.Nodup)(d:∀X∈ah,X<NS):∀{c:V Q} {j:V QD} {s X:Z},FR Y x b ah c j->ah[s]? = S X->j.findIdx? (λD=>D.key.isStr (sx X))=S s:=by
 induction ah with
 |nil=>intro c j s X B D;exact nX D
 |cons I ah k=>
  intro c j s X B D
  rw[Vl] at A
  cases B with
  |@cons _ C v t _ c j G p=>
   refine Xl.trans ?_
   induction s using Vn with
   |zero=>obtain rfl:=sX D;simp[P'.isStr]
   |succ s=>
    have J:X∈ah:=Va D
    have:(P'.str (sx I) t).isStr (sx X)=P8:=by refine(m7 (d I (.head _)) (d X (.tail _ J))).trans ?_;rw[RK];rintro rfl;exact A.1 J
    simp only[this,V5,Rl]
    exact R (k A.2 (λX J=>d X (.tail _ J)) p D) rfl
theorem FR.noRef:∀{c:V Q} {j:V QD},FR Y x b ah c j->j.any (·.refKey)=P8:=by
 induction ah with
 |nil=>intro c j B;cases B;rfl
 |cons I ah k=>
  intro c j B
  cases B with
  |@cons _ C v t _ c j G p=>exact YF.trans ((k p).trans rfl)
theorem ye{k:Qr}{r:cS}{s:Qh}{a:Z}(j:IX v)(z:Gz v)(g:v.In s.heap)(o:U≠.bZ)(c:a∈cA U)(i:lp s cn A U C q)(H:FR k.params x r ah bc C.toList)(lt:∀X∈ah,X<NS)
  (L:C.size<500)
  (M:∀l B T K m,m.toList=(match C.toList.findIdx? (λD=>D.key.isStr (sx a)) with|some w=>C.toList.modify w (λD=>{D with val:=g8})|none=>C.toList++[⟨VN k.params (sx a),.str (sx a) K,g8⟩])->l.get? A=S (bM m T)->VP A s.heap l->ca () {s with heap:=l,toks:=B}) :
  Qf (Qe h k) f (S4 (.ref cn) (sx a) g8) ca t s:=by
 refine hF λe=>bT (z.sa U o) λG p=>aM (j.cls U) λI d Y=>e (set_plain g i.inst G (osa_open (s:={s with toks:=s.toks+1}) g i.inst p (z.AP U o a c) λE=>?_));refine P7 (Qg (P7 (P7 (R6 i.x (P7 (QA.here (s:={s with toks:=s.toks+1}) (Tx g d) ?_))))));refine R Y (Qg (a:=S A) (P7 (Qg (P7 ?_))));refine P7 (P7 (TV (Qg (P7 (T6 (P7 (R6 i.d ?_)))))));have b:C.any (·.refKey)=P8:=by exact Y6.symm.trans H.noRef
 have J:(!C.any (·.key.isStr (sx a))&&C.any (·.refKey))=P8:=by exact R b ((XR ..))
 dsimp only;refine R (aRefKeyMayBeTheName_at ..) (R J ?_);have P:Yq (sx a) (VN k.params (sx a)) (.str (sx a) (s.toks+1)) g8 (bM C q)=bM (putL (sx a) (VN k.params (sx a)) (.str (sx a) (s.toks+1)) g8 C.toList).toArray (putN (sx a) C.toList q):=by have:=putName_dict (sx a) (VN k.params (sx a)) (.str (sx a) (s.toks+1)) g8 C.toList q;exact this
 have y:(s.heap.update A (Yq (sx a) (VN k.params (sx a)) (.str (sx a) (s.toks+1)) g8)).get? A=S (bM (putL (sx a) (VN k.params (sx a)) (.str (sx a) (s.toks+1)) g8 C.toList).toArray (putN (sx a) C.toList q)):=by refine(Vx _ i.d (by refine R P ?_;rfl)).trans ?_;rw[P]
 have n:(putL (sx a) (VN k.params (sx a)) (.str (sx a) (s.toks+1)) g8 C.toList).length<=C.size+1:=by
  refine R (putL_find ..).symm ?_;split;·simp
  ·simp
 refine UQ i.d ?_;refine P7 (Tw y (UR (by refine R V.size_toArray ?_;refine R Q' ?_;exact n3 (U9 n L) rfl)) ?_);refine Qg (M _ _ (putN (sx a) C.toList q) (s.toks+1) _ ?_ y (VL ..));refine V.toList_toArray.trans ((putL_find ..).symm.trans ?_);cases V.findIdx? (λD=>D.key.isStr (sx a)) C.toList<;>rfl
noncomputable def isName:P9->P6
 |.Name ..=>P4
 |_=>P8
noncomputable def nJ:P9->P6
 |.ListComp ..|.SetComp ..|.DictComp ..=>P4
 |_=>P8
theorem fR(B:nJ s=P8)(K:O P9)(X:Z)(P:Qo):Q5 s K X P=pure P8:=by
 induction s using PySem.Expr.casesOn with
 |ListComp|SetComp|DictComp=>exact bF B.symm
 |_=>exact Eq.refl (pure P8)
theorem jT(G:∀L E A y,Q5 (.ListComp L E A y) (S gb) H c=pure P8)(p:∀L E A y,Q5 (.SetComp L E A y) (S gb) H c=pure P8)(t:∀L E A y D,Q5 (.DictComp L E A y D) (S gb) H c=pure P8):Q5 s (S gb) H c=pure P8:=by
 induction s using PySem.Expr.casesOn with
 |ListComp=>exact G _ _ _ _
 |SetComp=>exact p _ _ _ _
 |DictComp=>exact t _ _ _ _ _
 |_=>exact Eq.refl (pure P8)
theorem nK{y:P9}(m:V P9)(r:Z)(Y:Qv)(X:Z)(P:Qo):Q5 y (S (.Tuple m r Y)) X P=pure P8:=jT (λU U U U=>rfl) (λU U U U=>rfl) λU U U U U=>rfl
theorem kH(I:P9)(L:Qc)(Y:Qv)(X:Z)(P:Qo):Q5 s (S (.Attribute I L Y)) X P=pure P8:=jT (λU U U U=>rfl) (λU U U U=>rfl) λU U U U U=>rfl
theorem zj(I a:P9)(Y:Qv)(X:Z)(P:Qo):Q5 s (S (.Subscript I a Y)) X P=pure P8:=jT (λU U U U=>rfl) (λU U U U=>rfl) λU U U U U=>rfl
set_option backward.match.sparseCases true in
noncomputable def sD(w:V P9):P6:=w.any λ|.Starred ..=>P4|_=>P8
set_option backward.match.sparseCases true in
noncomputable def namesIn(T:Qc->O QI)(l:Z)(m:V P9):V Qc:=m.filterMap λ
 |.Name I p=>if T I==S .local&&p.line==l then S I else N
 |_=>N
noncomputable def JD(T:Qc->O QI)(m w:V P9):O (O (V Qc)):=
 if(!(m.length==2||m.length==3)||w.length != m.length) then S N
 else if sD w then S N
 else
  let b:=namesIn T ((m.head?.map (·.pos.line)).getD 0) m
  if(b.length != m.length||b.eraseDups.length != b.length) then S N
  else if w.all (foldedForSure 8) then S N
  else if w.all (constantsAlone 8) then N else S (S b)
theorem vf[RJ iq]{L E:O G}{I n:bx}{j:G}{P:bx->Prop}(D:(if iq then L else E)=S j)(a:L=S j->P I)(p:E=S j->P n):P (if iq then I else n):=by
 by_cases B:iq;·exact R (Qk B) (a ((Qk B).symm.trans D))
 ·exact R (Qm B) (p ((Qm B).symm.trans D))
theorem tP{w:V P9}{j:O (V Qc)}(J:c.scope.kind=.function)(D:JD c.kindOf bw w=S j):Sq [.Tuple bw H j7] (.Tuple w qy qz) c=pure j:=by
 have a:(c.blockKind != .function)=P8:=by unfold Qo.blockKind;exact R J rfl
 show(if(!(bw.length==2||bw.length==3)||w.length != bw.length||c.blockKind != .function)=P4 then pure N else if sD w=P4 then pure N else
  if((namesIn c.kindOf ((bw.head?.map (·.pos.line)).getD 0) bw).length != bw.length||(namesIn c.kindOf ((bw.head?.map (·.pos.line)).getD 0) bw).eraseDups.length != (namesIn c.kindOf ((bw.head?.map (·.pos.line)).getD 0) bw).length)=P4 then pure N else
  if w.all (foldedForSure 8)=P4 then pure N else if w.all (constantsAlone 8)=P4 then unsupported "assign.tuple-of-constant-expressions:order-of-the-stores" else pure (S (namesIn c.kindOf ((bw.head?.map (·.pos.line)).getD 0) bw)):Qt (O (V Qc)))=_
 refine R a ?_;refine R (P6.or_false ..) ?_;have M:∀{L:O (V Qc)},S L=S j->(pure L:Qt (O (V Qc)))=pure j:=λB=>Ql pure (sX B);exact vf (P:=λY=>Y=pure j) D M λD=>vf (P:=λY=>Y=pure j) D M λD=>vf (P:=λY=>Y=pure j) D M λD=>vf (P:=λY=>Y=pure j) D M λD=>vf (P:=λY=>Y=pure j) D nX M
theorem Ou(B:∀w r j,s≠.Tuple w r j):Sq [.Tuple bw H j7] s c=pure N:=by induction s using W5<;>first|rfl|exact Qp rfl (B _ _ _)
inductive wz(sl:V (O Qc))(env:Qo):V Z->V P9->V Qc->Prop
 |nil:wz sl env [] [] []
 |cons {j:Z} {js:V Z} {x:Qc} {q:Qv} {ts:V P9} {xs:V Qc}:sl[j]? = S (S x)->env.kindOf x=S .local\/env.kindOf x=S .cell->wz sl env js ts xs->wz sl env (j :: js) (.Name x q :: ts) (x :: xs)
theorem wz.each(I:wz j c cq bw fv):(Ry bw c).length=bw.length/\(Ry bw c).findIdx? (·.1)=N/\cq.length=bw.length/\fv.length=bw.length:=by
 induction I with
 |nil=>exact uO rfl rfl rfl rfl
 |@cons v cq I M bw fv _ _ _ k=>exact uE k λL E A y=>R (show Ry (.Name I M :: bw) c=(P8,RS (.Name I M) c) :: Ry bw c from rfl) (uO (Ql (· + 1) ‹_›) (by simp[Xl,E]) (Ql (· + 1) ‹_›) (Ql (· + 1) ‹_›))
theorem iU{E:V (P'->Qt Unit)}:∀{js:V Z} {xs:V Qc} {as:V Q} {w:V P'} {x:cS} {y:AH} {d:Qh} {loc:Loc} {Y:Unit->Qh->Prop},bt g c j->(∀L∈az,L∈g)->(∀I∈xs,nH c az I)->St a e g l c j x y loc d->E.length=js.length->xs.length=js.length->
  (∀(s v:Z) I,js[s]? = S v->xs[s]? = S I->j[v]? = S (S I)/\(c.kindOf I=S .local\/c.kindOf I=S .cell)/\∀C,∃K,E[s]? = S K/\∀{Y:Unit->Qh->Prop} {t} {d},Qf T f (Tv c I C) Y t d->Qf T f (K C) Y t d)->
  bU a.params (Sf d.heap x g) x as w->as.length=js.length->(∀m a0,dW loc js as=S a0->aQ a e g az x d x y m->St a e g l c j x y a0 m->Y () m)->Qf T f (Uj E w) Y t d:=by
 induction E with
 |nil=>intro js xs as w x y d loc Y p i X n b J H P h D;obtain rfl:=Xr.mp b.symm;obtain rfl:=Xr.mp h;obtain rfl:=P.uN;exact Qg (D d loc rfl (.refl n.inv) n)
 |cons K E k=>intro js xs as w x y d loc Y p i X n b J H P h D;refine rC (VO b.symm) λv js bP=>?_;subst bP;refine rC (VO h) λL as cQ=>?_;subst cQ;refine rC (VO J) λI xs eA=>?_;subst eA;refine rL P.inv λC w eZ r v2=>?_;clear P;subst eZ;refine hO (H 0 v I rfl rfl) λG h2 h3=>aM (h3 C) λt' ht a1=>?_;obtain rfl:=sX ht;refine P7 (QE (a1 (fG (loc:=loc) (j:=v) p n (X I (.head _)) G h2 r λm B a3=>?_)));exact k (js:=js) (xs:=xs) p i (λa2 M=>X a2 (.tail _ M)) a3 (W6 b) (W6 J) (λs U x' q1 q2=>H (s+1) U x' q1 q2) (v2.mono (λL z a4=>B.sf (λL M=>.inl (i L M)) a4) B.le) (W6 h) λo A q o2 dJ=>D o A q (B.trans o2) dJ
theorem wz.at{A:QB}{M:Q0}(I:wz j c cq bw fv):∀(s v:Z) n,cq[s]? = S v->fv[s]? = S n->j[v]? = S (S n)/\(c.kindOf n=S .local\/c.kindOf n=S .cell)/\∀C,∃K,((Ry bw c).map (·.2))[s]? = S K/\∀{Y:Unit->Qh->Prop} {a} {d},Qf M A (Tv c n C) Y a d->Qf M A (K C) Y a d:=by
 induction I with
 |nil=>exact λs v n D=>nX D
 |@cons J cq I b bw fv G p _ k=>
  intro s v n T m
  induction s using Vn with
  |zero=>exact sX T▸sX m▸(gZ G p (λC=>(ba _ rfl (λe=>assign_Name e))))
  |succ s=>exact k s v n T m
theorem nL:∀{l:Loc} {c:V Q} {p:Loc},dW l cq c=S p->c.length=cq.length:=by
 induction cq with
 |nil=>intro l c p D;induction c using U5 with
  |nil=>rfl
  |cons _ _=>exact nX D
 |cons v cq k=>intro l c p D;induction c using U5 with
  |nil=>exact nX D
  |cons L c=>exact Ql (· + 1) (k (l:=l.set v (S L)) D)
theorem jV(D:Qb.ExtBut p.objs.size p aa):∀E z,p.get? E=S z->aa.get? E=S z:=λE z o=>D E z (Wj (VV o)) o
theorem Ff(t:(match (generalizing:=false) m with|.tup a=>(match dW w cq a with|some p=>Res.ok (Fl.next,p,cu)|none=>.bad)|_=>Res.bad)≠.bad) :
  ∃a p,m=.tup a/\dW w cq a=S p:=by
 induction m using Zp with
 |tup a=>
  revert t
  show(match dW w cq a with|some p=>Res.ok (Fl.next,p,cu)|none=>.bad)≠.bad->_
  induction D:dW w cq a using U0 with
  |none=>exact bX
  |some p=>exact λU=>(eP a p rfl D)
 |_=>exact bX t
theorem SS.uI{a1:Z}{R:bA N a1 f (c :: o)}(l:SE h a e (c :: o) c j f i ai s)(M:wz j c cq bw fv)(g:Sq [.Tuple bw H j7] s c=pure N):SS h a e o c j f i (.uI cq ai) (.Assign [.Tuple bw H j7] s J):=λb a0 y d E p n t=>by rw[ti] at t⊢;refine Assign_Tuple ((l b a0 y d E p n).fC R n.live p.hU (.refl n.inv) (λL z X G Y T o1 C m D=>?_) t) (nK bw H j7 J.line c) g;rw[T,Res.aP];refine uE M.each λn1 n2 n3 n4=>cN (Ff D) λw P g6 k=>?_;clear t T D l g;subst g6;dsimp only;rw[k];refine eM m.inv λI B a2 lR sx v=>?_;clear m;subst lR;have K:=nL k;have eE:=n.on p C;refine Tz R.handled (fk sx) (n1.trans (n3.symm.trans (K.symm.trans (v.len.trans U')))) n2 λx ex=>?_;have r:aQ a e b [] X G X z {G with heap:=x}:=.grown (tk':=G.toks) eE.inv (jV ex);refine iU (js:=cq) (xs:=fv) (as:=w) (loc:=E) p p.hU (λU U=>nH.all) (eE.on p r) (U1 _ |>.trans (n1.trans n3.symm)) (n4.trans n3.symm) M.at (r.Gp v) K λs2 A q o2 dJ=>?_;obtain rfl:=sX (k.symm.trans q);exact jN .next P z X rfl ((o1.trans r.wide).trans o2) dJ trivial
theorem DA{l:V G}(B:l.length=2):∃L E,l=[L,E]:=by refine rC (VO B) λL l m3=>?_;subst m3;refine rC (VO (W6 B)) λE l pU=>?_;subst pU;exact z8 L E (Xr.mp (W6 (W6 B))▸rfl)
theorem GI{l:V G}(B:l.length=3):∃L E A,l=[L,E,A]:=by refine rC (VO B) λL l wi=>?_;subst wi;exact rC (DA (W6 B)) λE A lJ=>R lJ (KP L E A rfl)
theorem bU.rev:∀{w:V P'},bU Y x b z w->bU Y x b z.reverse w.reverse:=by
 induction z with
 |nil=>intro w B;exact B.uN▸.nil
 |cons L z k=>intro w B;obtain⟨C,e,rfl,G,p⟩:=B.inv;exact R Xu (R Xu ((k p).append (.cons G .nil)))
theorem zk(A:cq.Nodup)(t:cq.length=2\/cq.length=3)(D:dW r5 cq z=S kr):dW r5 cq.reverse z.reverse=S kr:=by
 have c:=nL D;rcases t with t|t;·refine hF λs=>rC (DA t) λL E pW=>?_;subst pW;refine rC (DA (c.trans t)) λI n pX=>?_;subst pX;exact s ((Ql S (Xy _ _ (show L≠E from λq=>(Vl.mp A).1 (q▸.head _)).symm)).trans D)
 ·refine Dc (GI t) λL E a wk=>?_;subst wk;refine Dc (GI (c.trans t)) λI n Y tA=>?_;clear c t;subst tA;refine bT (Vl.mp A) λw A=>(Ql S ?_).trans D;refine R (Xy (i:=a) (j:=E) _ _ (show E≠a from λq=>(Vl.mp A).1 (q▸.head _)).symm) ?_;refine(Xy (i:=a) (j:=L) _ _ (show L≠a from λq=>w (q▸.tail _ (.head _))).symm).trans ?_;refine R (Xy (i:=E) (j:=L) _ _ (show L≠E from λq=>w (q▸.head _)).symm) rfl
theorem zl(o:Qz)(k:Qr)(J:QB)(b:bt g c j)(I:wz j c cq bw fv)(A:fv.Nodup):cq.Nodup:=by refine uE I.each λU U n3 n4=>?_;rw[V.nodup_iff_pairwise_ne,V.pairwise_iff_getElem] at A⊢;intro s v G p h D;have a:=(I.at (M:=Qe o k) (A:=J) v _ _ (U3 p) (U3 (l:=fv) (n4▸n3▸p))).1;rw[<-D,((I.at (M:=Qe o k) (A:=J) s _ _ (U3 G) (U3 (l:=fv) (n4▸n3▸G))).1)] at a;exact A s v (n4▸n3▸G) (n4▸n3▸p) h (VH (VH a))
theorem sE{m:Z}{R:bA N m f l}(p:bt g c j)(J:wz j c cq bw fv)(A:fv.Nodup)(Y:cq.length=2\/cq.length=3)(eE:St a e g l c j aq cu w ay)(D:VR a.params (Sf ay.heap aq g) aq (.tup bc) dv)(k:dW w cq bc=S kr) :
  Qf (Qe h a) f (unpackItems dv fv.length N) (λv z=>Qf (Qe h a) f (Uj (fv.reverse.map λm=>bindName c m) v.reverse) (λU G=>aQ a e g (bJ c) aq ay aq cu G/\St a e g l c j aq cu kr G) t z) t ay:=by
 refine uE J.each λn1 n2 n3 n4=>eM D.inv λI B a1 tB sx i=>?_;clear n1 n2 D;subst tB;have E:=nL k;have H:=n4.trans n3.symm;rw[show fv.length=B.size from H.trans (E.symm.trans (i.len.trans U'))];refine wpAny_unpackItems_tuple R.handled (fk sx) λx T=>?_;have r:aQ a e g [] aq ay aq cu {ay with heap:=x}:=.grown (tk':=ay.toks) eE.inv (jV T);refine iU (js:=cq.reverse) (xs:=fv.reverse) (as:=bc.reverse) (loc:=w) p p.hU (λU U=>nH.all) (eE.on p r) ((U1 _).trans (VM.trans (H.trans VM.symm))) (VM.trans (H.trans VM.symm)) (λa0 X n L K=>?_) (r.Gp i).rev (VM.trans (E.trans VM.symm)) λo a2 q o2 dJ=>?_;·have y:=WJ (U8.mp L).1 VM;have s:=(Yz (H▸y)).symm.trans K;rw[H] at s;refine hO (J.at (M:=Qe h a) (A:=f) _ X n ((Yz y).symm.trans L) s) λb d U=>?_;exact gZ b d (λC=>(ba (λm=>bindName c n m) (by refine Vb.trans ?_;rw[K];rfl) (λP=>bindName_ P)))
 ·obtain rfl:=sX ((zk (zl h a f p J A) Y k).symm.trans q);exact⟨r.wide.trans o2,dJ⟩
theorem SS.L1{R:bA N q f (c :: o)}(k:SE h a e (c :: o) c j f i ai s)(E:wz j c cq bw fv)(A:fv.Nodup)(B:cq.length=2\/cq.length=3)(g:Sq [.Tuple bw H j7] s c=pure (S fv)):SS h a e o c j f i (.uI cq ai) (.Assign [.Tuple bw H j7] s J):=λb x y d v p n t=>by rw[ti] at t⊢;refine Assign_Tuple_swapped ((k b x y d v p n).fC R n.live p.hU (.refl n.inv) (λL z X G I T o1 C r D=>?_) t) (nK bw H j7 J.line c) g;rw[T,Res.aP];refine cN (Ff D) λw m wm l=>?_;clear t T D k g;subst wm;dsimp only;rw[l];exact Qq (sE (R:=R) p E A B (n.on p C) r l) (λU U Y=>Qq Y (λU U Y=>(jN .next m z X rfl (o1.trans Y.1) Y.2 trivial)) λU U Y=>Y) λU U Y=>Y
theorem AW:dK i (.iL cq bm) w k=dK i (.uI cq (.tup bm)) w k:=by
 refine xJ.trans (R ti (R pR ?_));cases bB i bm w k with
 |ok M=>rfl
 |exc _ _=>rfl
 |bad=>rfl
theorem SS.iL(k:SS h a e o c j f i (.uI cq (.tup bm)) ma):SS h a e o c j f i (.iL cq bm) ma:=λb x y d g p n=>by exact R AW (k b x y d g p n)
theorem AX(A:Gr v e P cv cx cw)(K:Inv a e g b k d.heap)(G:VR a.params (Sf d.heap b g) b ln qx)(o:VR a.params (Sf d.heap b g) b bg g8)(D:eO k ln fj bg=S cy)
  (X:∀m,aQ a e g [] b d b cy m->ca () m):Qf (Qe h a) f (S4 qx (sx fj) g8) ca t d:=by
 induction ln using Zp with
 |aA w=>
  refine cN G.inv λI y bP J=>R bP (lI D λcQ L D=>lI D λp T D=>dB D (λq D=>?_) λU D=>nX D);refine cN (pC K J L) λj a0 n r=>?_;have c:=uX T;have l:j.size<500:=by
   have:(cA cQ.1).length<500:=by induction cQ.1 using gV.casesOn<;>decide +kernel
   exact R U'.symm (R r.len.2 this)
  refine ye (r:=b) A.ok A.set (A.In K) (λq=>nX ((sz fj).symm.trans (q▸T))) (Va c) n r (iO cQ.1) l λx B z M C H i s=>X _ (sX D▸.mk' (K.LM J L s i ?_) (.but (a:=y) (λE ln q Y=>(s.2 E q).trans Y) (.inl (mZ J))) (.refl b));refine R H ?_;refine R (r.findIdx (pA cQ.1) (iO cQ.1) c) ?_;exact r.set o
 |_=>exact nX D
theorem SS.fU(A:Gr v e P cv cx cw)(R:bA fq q f (c :: o))(k:SE h a e (c :: o) c j f i r9 i5)(B:SE h a e (c :: o) c j f i ai s):SS h a e o c j f i (.fU ai fj r9) (.Assign [.Attribute s (sx fj) fu] i5 J):=λb x y d g p n t=>by
 rw[xH] at t⊢;refine Uk ((k b x y d g p n).fC R n.live p.hU (.refl n.inv) (λE z X G U T o1 C r D=>?_) t) (kH s (sx fj) fu J.line c);rw[T,Res.aP];have eE:=n.on p C;refine(B b X z G g p eE).fC R eE.live p.hU o1 (λa0 K H s2 Y m o2 M w a1=>?_) D;rw[m,Res.aP];induction l:eO K a0 fj E using U0 with
 |none=>exact bX (l▸a1)
 |some I=>exact AX A o2.inv w (M.vr r) l λL o3=>(jN .next g I H rfl (o2.trans o3.wide) ((eE.on p M).on p o3) trivial)
theorem SS.fE{z:LE}(hu:f.units+64<QG)(R:bA fq q f (c :: o))(k:SE h a e (c :: o) c j f i r9 i5)(K:SE h a e (c :: o) c j f i z ao)(a2:SE h a e (c :: o) c j f i l0 s):SS h a e o c j f i (.fE z l0 r9) (.Assign [.Subscript ao s fu] i5 J):=λb x y d g p n t=>by
 rw[xI] at t⊢;refine wpAny_Assign_Subscript ((k b x y d g p n).fC R n.live p.hU (.refl n.inv) (λE H1 X G U T o1 C r D=>?_) t) (zj ao s fu J.line c);rw[T,Res.aP];have eE:=n.on p C;refine(K b X H1 G g p eE).fC R eE.live p.hU o1 (λA H2 H s2 Y m o2 M w P=>?_) D;rw[m,Res.aP];have dJ:=eE.on p M;refine(a2 b H H2 s2 g p dJ).fC R dJ.live p.hU o2 (λa0 v r3 L vd l o3 B v3 a1=>?_) P;rw[l,Res.aP];induction I:ei v A a0 E using U0 with
 |none=>exact bX (I▸a1)
 |some H4=>exact yd hu o3.inv (B.vr w) v3 (B.vr (M.vr r)) I λs4 o4=>(jN .next g H4 r3 rfl (o3.trans o4.wide) ((dJ.on p B).on p o4) trivial)
inductive zm(prog:Qz)(w:Qr)(g₀:Qb)(l:V Qo)(env:Qo)(sl:V (O Qc))(A:QB)(cf:CF):fD->fD->V P9->Prop
 |nil:zm prog w g₀ l env sl A cf .nil .nil []
 |cons {o i:LE} {os is:fD} {x y:P9} {q:Qv} {ts:V P9}:SE prog w g₀ l env sl A cf o x->SE prog w g₀ l env sl A cf i y->zm prog w g₀ l env sl A cf os is ts->zm prog w g₀ l env sl A cf (.cons o os) (.cons i is) (.Subscript x y q :: ts)
theorem zm.each{n:Z}(I:zm h a e l c j f i jz jy bw):(Ry bw c).length=bw.length/\(Ry bw c).findIdx? (·.1)=N/\namesIn c.kindOf n bw=[]:=by
 induction I with
 |nil=>exact gZ rfl rfl rfl
 |@cons z s jz jy I b M bw _ _ _ k=>refine hO k λL E A=>R (show Ry (.Subscript I b M :: bw) c=(P8,RS (.Subscript I b M) c) :: Ry bw c from rfl) ?_;exact gZ (Ql (· + 1) ‹_›) (by simp[Xl,E]) (WQ.trans (A))
theorem nM{M:Qv}(B:Qf T f (PySem.eval ao c) (λy z=>Qf T f (PySem.eval s c) (λK g=>Qf T f (SJ y K ag) ca t g) t z) t d):Qf T f (RS (.Subscript ao s M) c ag) ca t d:=R (assign_Subscript ..) (P7 (QE (Qq B (λy z n=>P7 (QE (Qq n (λK g l=>P7 (QW (P7 (QE (Qq l (λU U M=>wpAny_release M) λU U ao=>ao))))) λU U ao=>ao))) λU U ao=>ao)))
theorem zm.run{a3:Z}(hu:f.units+64<QG)(R:bA fq a3 f (c :: o))(I:zm h a e (c :: o) c j f i jz jy bw):∀{b X G x y d g} {D:V Q} {w:V P'},bt b c j->St a e b (c :: o) c j x y g d->bU a.params (Sf d.heap x b) x D w->aQ a e b (bJ c) X G x y d->yO i jz jy D g y≠.bad->
  Qf (Qe h a) f (Uj ((Ry bw c).map (·.2)) w) (λε=>QS a e b (bJ c) o c j (yO i jz jy D g y) X G .next) (ES a e b (Qe h a) f (bJ c) o c (yO i jz jy D g y).x? X G) d:=by
 induction I with
 |nil=>
  intro b X G x y d g D w p n P z t
  induction D using U5 with
  |nil=>obtain rfl:=P.uN;exact Qg (jN .next g y x rfl z n trivial)
  |cons _ _=>exact bX t
 |@cons B li jz jy I a2 q bw a0 J _ k=>
  intro b X G x y d g D w p n P z t
  induction D using U5 with
  |nil=>exact bX t
  |cons L D=>
   refine rL P.inv λa4 w eA r v2=>?_;subst eA
   ·have eu:yO i (.cons B jz) (.cons li jy) (L :: D) g y=((aO i B g y).bind λa'=>(aO i li g a'.2).bind λE=>match ei E.2 a'.1 E.1 L with|some H'=>yO i jz jy D g H'|none=>.bad):=rfl
    rw[eu] at t⊢
    refine P7 (QE (nM ?_))
    refine(a0 b x y d g p n).fC R n.live p.hU z (λE s H s2 U m o2 p2 w2 a1=>?_) t
    rw[m,Res.aP]
    have dJ:=n.on p p2
    refine(J b H s s2 g p dJ).fC R dJ.live p.hU o2 (λA v C s3 Y l o3 p3 w3 M=>?_) a1
    rw[l,Res.aP]
    induction K:ei v E A L using U0 with
    |none=>exact bX (K▸M)
    |some H4=>rw[K] at M;exact yd hu o3.inv (p3.vr w2) w3 (p3.vr (p2.vr r)) K λT o4=>k p ((dJ.on p p3).on p o4) (o4.Gp (p3.Gp (p2.Gp v2))) (o3.trans o4.wide) M
theorem SS.oP{a1:Z}(hu:f.units+64<QG)(R:bA N a1 f (c :: o))(k:rQ h a e (c :: o) c j f i ij gj)(I:zm h a e (c :: o) c j f i jz jy bw)(s:nC ij<1000)(hl:nC ij=bw.length)(M:0<bw.length) :
  SS h a e o c j f i (.oP jz jy ij) (.Assign [.Tuple bw H j7] (.Tuple gj qy qz) J):=λb a0 l d g p n t=>by
 have E:dK i (.oP jz jy ij) g l=(aO i (.tup ij) g l).bind λq=>match q.1 with|.tup v=>yO i jz jy v g q.2|_=>.bad:=by
  refine xK.trans ?_;rw[pR]
  cases bB i ij g l with
  |ok q=>rfl
  |exc _ _=>rfl
  |bad=>rfl
 rw[E] at t⊢;refine hF λw=>hO (I.each (n:=0)) λn1 n2 U=>?_;have P:Sq [.Tuple bw H j7] (.Tuple gj qy qz) c=pure N:=by
  refine tP p.kind ?_;unfold JD;split;·rfl
  ·split;·rfl
   ·rw[Qk];rw[(I.each (n:=(bw.head?.map (·.pos.line)).getD 0)).2.2];simp;exact Wj M
 refine w (Assign_Tuple ((SE.tup k s b a0 l d g p n).fC R n.live p.hU (.refl n.inv) (λL z X G Y T o1 C v1 D=>?_) t) (nK (y:=.Tuple gj qy qz) bw H j7 J.line c) P);rw[T];refine aM (Jn (pR.symm.trans T)) λv q m=>?_;clear T;subst q;refine eM v1.inv λx' B a2 eZ sx A=>?_;subst eZ;have hz:v.length=B.size:=by exact A.len.trans U'
 have eE:=n.on p C;refine Tz R.handled (fk sx) (n1.trans (hl.symm.trans ((lY (vs:=v) (H':=z) m).symm.trans (A.len.trans U')))) n2 λx K=>?_;have r:aQ a e b [] X G X z {G with heap:=x}:=.grown (tk':=G.toks) eE.inv (jV K);exact I.run hu R p (eE.on p r) (r.Gp A) (o1.trans r.wide) D
theorem yS.back(x:∀L∈g,L∈bh)(r:yS a bh c j w b p):yS a g c j w b p:=by
 have B:∀L z,Sf p b bh L z->Sf p b g L z:=λL z Y=>Y.back x;refine⟨?_,λI A D=>?_,r.len⟩;·refine aM r.ns λH K i=>?_;exact ba H K (λv I C T m l=>aM (i v I C T m l) λt L E=>(ba t L (E.mono B (.refl b))))
 ·refine aM (r.mW I A D) λy s i=>?_;exact ba y s (λv C T m l=>aM (i v C T m l) λt L E=>(ba t L (E.mono B (.refl b))))
theorem dI.back{own0:V Qa}{h0:Qb}(h:dI l g [] h0)(I:dI l bh [] p):dI l g [] p:=
 ⟨λD H=>by refine hF λv=>?_;refine h.el H λU x U U U r A U U U=>?_;refine I.el H λX K z j q t U U o y=>?_;rw[r] at t;cases t;refine v ?_;exact⟨X,x,z,j,q,r,A,(λH=>nomatch H),o,y⟩⟩
theorem St.back{s:Qh}{h0:Qb}(x:∀L∈g,L∈bh)(h:dI l g [] h0)(n:St a e bh l c j b k w s):St a e g l c j b k w s:=⟨n.inv.drop x,n.eW.back x,h.back (own0:=g) (h0:=h0) n.live⟩
theorem KW.mono{L:Fl}{E:QP}(B:KW a x b L E)(X:∀L z,x L z->gu L z):KW a gu b L E:=by induction L using Fl.casesOn<;>induction E using VY<;>first|exact B|exact VR.mono X (.refl b) B
theorem QS.back{s:Qh}{h0:Qb}(X:cX g bh az jd s.heap aa)(h:dI (c :: o) g [] h0)(M:QS a e bh jd o c j jm b {s with heap:=aa,toks:=jj} qu cm):QS a e g az o c j jm b s qu cm:=by refine uM M λk E v J D z n Y=>?_;exact jN k E v J D (z.back X) (n.back X.sub h) (Y.mono λU U Y=>Y.back X.sub)
theorem EF.back{s:Qh}(X:cX g bh az jd s.heap aa)(M:EF a e bh jd l iz b {s with heap:=aa,toks:=jj} db cm):EF a e g az l iz b s db cm:=by refine cN M λK v D Y=>?_;exact eP K v D (Y.back X)
theorem cX.more{own:V Qa}{ns:V Qa}{fr:V Qa}(r:∀L∈ns,p.get? L=N)(a:ns.Nodup)(P:∀E z,p.get? E=S z->aa.get? E=S z):cX own (ns++own) fr (ns++fr) p aa:=
 ⟨P,λU H=>Vf _ H,λA H=>(Vd.mp H).elim (λD=>.inr (r A D)) .inl,λA H=>(Vd.mp H).elim (λD=>.inr (r A D)) .inl,λA H=>by
  rw[Vy] at H;by_cases M:A∈ns;·exact .inr (r A M)
  ·rw[Vp M] at H;rw[W7] at H;exact .inl H,λA=>by refine R Vy ?_;exact V4 _ _⟩
theorem aQ.inc{fr':V Qa}(I:aQ a e g az b d aq cu ay)(X:∀A∈az,A∈fr'):aQ a e g fr' b d aq cu ay:=I.less λA H=>.inl (X A H)
theorem St.KX(n:St a e g l c j b k w d)(p:bt g c j)(z:aQ a e g [X] b d aq cu ay)(hI:X∉bJ c)(a1:g.count X=1):St a e g l c j aq cu w ay:=by
 have a0:∀L z,Sf d.heap b g L z->Sf ay.heap aq g L z:=λL B Y=>z.sf (λL H=>.inl (by refine R (UZ.mp H) ?_;exact(Vz.mp (by refine R a1 ?_;decide)))) Y;refine⟨z.inv,⟨?_,λI A D=>?_,n.eW.len⟩,⟨λD H=>?_⟩⟩;·refine aM n.eW.ns λH bP h=>?_;refine hF λa4=>?_;refine eM bP λB M ep o y Y=>?_;refine z.keep.el o (n.inv.off _ p.loc).1 (λH=>hI (by refine R (UZ.mp H).symm ?_;exact .head _)) λU f G q=>?_;refine a4 ?_;refine ba H (oS f M ep G (q.data.trans y) Y) (λv I C T m P=>?_);refine aM (h v I C T m P) λt L E=>?_;exact ba t L (E.mono a0 z.le)
 ·refine aM (n.eW.mW I A D) λov cQ h=>?_;refine hF λi=>?_;refine aM cQ λB o y=>?_;refine z.keep.el o (n.inv.off _ (p.mW I A D).1).1 (λH=>hI (by refine R (UZ.mp H).symm ?_;exact .tail _ (lookup_mem D))) λU f G q=>?_;refine i ?_;refine ba ov (ba f G (q.data.trans y)) (λv C T m P=>?_);refine hF λa2=>?_;refine aM (h v C T m P) λt L E=>?_;refine a2 ?_;exact ba t L (E.mono a0 z.le)
 ·refine n.live.el H λh x B M a3 r J K o y=>?_;refine hF λs=>?_;obtain⟨_,f,G,Y⟩:=z.keep.get x B o (n.inv.off x (Vz.mp (by exact n4 J rfl))).1 λH=>by rw[UZ.mp H,a1] at J;exact Vk _ J
  refine s ?_;exact⟨h,x,f,M,a3,r,J,K,G,Y.data.trans y⟩
theorem sF{H:AH}{loc:Loc}{src:Src}{step:Z->Q->Loc->AH->Res (Fl×Loc×AH)}{m i:Z}{v:Q}(t:jm≠.bad)(D:(step i v loc H).bind (λM=>match M.1 with|.next=>cM step src m (i+1) M.2.1 M.2.2|.ret n=>.ok (.ret n,M.2.1,M.2.2))=jm){E:Res (Fl×Loc×AH)}(k:step i v loc H=E):E≠.bad/\
  (∀p a,E=.ok (.next,p,a)->cM step src m (i+1) p a=jm)/\(∀n p a,E=.ok (.ret n,p,a)->jm=.ok (.ret n,p,a))/\(∀K a,E=.exc K a->jm=.exc K a):=by subst k;refine uO (λM=>t (by refine D.symm.trans ?_;refine(bL M).trans ?_;rfl)) (λp a M=>by refine R D.symm ?_;refine R M ?_;rfl) (λn p a M=>by refine D.symm.trans ?_;refine(bL M).trans ?_;rfl) (λK a M=>by refine D.symm.trans ?_;refine(bL M).trans ?_;rfl)
theorem AY(R:bA N q f (c :: o))(hj:j[K]? = S (S r))(hk:c.kindOf r=S .local\/c.kindOf r=S .cell)(b9:ve h a e o c j f i bq ew)
  (p:bt bh c j) (hI:X∉bJ c) (I:Res (Fl×Loc×AH)) (t:I≠.bad)  (st:St a e bh (c :: o) c j b k w d) (g:dT a bh b d.heap cg X aj) (z:aQ a e bh (X :: bJ c) mj qd b k d)
  (D:cM (λU C l k=>aW i bq (l.set K (S C)) k) cg H aj w k=I) :
  QL (Qe h a) f (.forLoop (.Name r fu) (.ref X) ew [] c) (λM m=>match M with|.ok a0=>QS a e bh (X :: bJ c) o c j I mj qd a0 m|.error D=>S6 (Qe h a) f c (ES a e bh (Qe h a) f (X :: bJ c) o c I.x? mj qd) D m) d:=by
 refine codeAny_forLoop (λH d=>∃aj w k b,St a e bh (c :: o) c j b k w d/\dT a bh b d.heap cg X aj/\aQ a e bh (X :: bJ c) mj qd b k d/\cM (λU C l k=>aW i bq (l.set K (S C)) k) cg H aj w k=I) (λH d a1=>?_) H (jN aj w k b st g z D);refine hF λa9=>?_;refine uM a1 λaj w k b st g z D=>?_;clear a1;induction H using Vn with
 |zero=>exact t D.symm
 |succ x=>
  rw[KL] at D;refine oA (cg.at aj k) (λea=>?_) (λy ea=>?_);·rw[ea] at D;exact t D.symm
  ·rw[ea] at D
   refine a9 ?_
   refine nI R.handled st.inv g ea λG o1=>?_
   have a6:aQ a e bh (X :: bJ c) b d b k G:=o1.inc λA x=>by rw[UZ.mp x];exact .head _
   have eE:=st.KX p o1 hI g.one
   induction y using U0 with
   |none=>dsimp only at D;exact Rm (jN .next w k b D.symm (z.trans a6) eE trivial)
   |some C=>
    dsimp only at D⊢;intro v' P a8;refine S7 (fG (j:=K) p eE nH.all hj hk P λs2 o2 dJ=>?_);refine uE (sF (src:=cg) (step:=λU C l k=>aW i bq (l.set K (S C)) k) (m:=x) (i:=aj) (v:=C) (loc:=w) (H:=k) t D rfl) λb1 b2 b3 b4=>?_;have a3:=(z.trans a6).trans (o2.inc λA x=>.tail _ x);refine TA (E:=ES a e bh (Qe h a) f (X :: bJ c) o c I.x? mj qd) TB.leaving (Qq (b9 bh b k s2 (w.set K (S C)) p dJ b1) (λa0 s3 M=>?_) λe' s3 M=>?_)
    ·refine uM M λfl a5 v J T o3 a7 Y=>?_
     refine hF λa2=>?_
     have a4:=a3.trans (o3.inc λA x=>.tail X x)
     induction fl using Fl.casesOn with
     |next=>
      induction a0 using VY with
      |next=>refine a2 ?_;exact⟨x,VU x,aj+1,a5,v,J,a7,(a8.on eE.inv o2 hI λL x=>.inl (p.hU L x)).on dJ.inv o3 hI λL x=>.inl (p.hU L x),a4,b2 _ _ T⟩
      |_=>exact Y.elim
     |ret n=>
      induction a0 using VY with
      |ret v2=>refine a2 ?_;exact jN (.ret n) a5 v J (b3 _ _ _ T) a4 a7 Y
      |_=>exact Y.elim
    ·refine M.mono λe2 c1 Y=>?_;refine cN Y λB v e3 Y=>?_;refine EF.pre a3 (λL x=>(U4.mp x).elim (λM=>M▸g.mem) (p.hU L)) (eP B v ?_ ?_)
     ·refine Fd (aW i bq (w.set K (S C)) k) (λU n=>?_) (λt2 s n=>?_) (λn=>?_);·exact nX (n▸e3)
      ·replace e3:=n▸e3;refine sQ e3 ?_;rw[b4 _ _ n];rfl
      ·exact(b1 n).elim
     ·exact Y.more λA x=>.tail _ x
noncomputable def fo:P9->P6
 |.Set ..=>P4
 |_=>P8
theorem gG(B:fo s=P8)(C:P'):foldedSetIterable s c C=pure C:=by induction s using W5<;>first|rfl|cases B
structure AZ(K:QF)(env:Qo)(x:Qc)(v:P'):Prop where
 g:QZ K QO x=S N
 b:Ul x=S v
 n:x≠"__name__"
 k:env.kindOf x=S .globalImplicit
 d:(x==("__debug__":Qc))=P8
theorem yf{env:Qo}{c:QF}{x:Qc}{v:P'}(A:Gr c e P cv cx cw)(K:AZ c env x v)(p:bt g env j)(s:Inv a e g b k d.heap)(B:am v d):Qf T f (PySem.eval (.Name x J) env) am t d:=
 have X:=λE z D=>(s.keep E z D).1
 SQ p.kind K.k (loadGlobal_builtin (env:=env) (R p.glob (A.T.g.keeps X)) (mg_none_of A.X A.T.g K.g) (R p.blt (A.T.b.keeps X)) ((A.T.builtins x K.n).trans K.b) B) K.d
set_option genCtorIdx true in
inductive BV|fn(i:RA)|ty(T:RA)
noncomputable def BV.val:BV->P'
 |.fn s=>.builtin s
 |.ty U=>.type U
theorem A0{bv:BV}(A:Gr v e P cv cx cw)(K:AZ v c r bv.val)(p:bt g c j)(s:Inv a e g b k d.heap)(m:rQ h a e l c j f i bm bn)
  (B:Qf (Qe h a) f (R4 (QV J (QT bn c))) (λw G=>Qf (Qe h a) f (Q4 bv.val w) am t G) t d):Qf (Qe h a) f (PySem.eval (.Call (.Name r fu) bn [] J) c) am t d:=by
 refine P7 (yf A K p s ?_);have n:=m.noStar (pos:=J);clear A K p m;induction bv using BV.casesOn with
 |fn s=>exact PySem.Calls.callWith_builtin (args:=QV J (QT bn c)) n (bN n B)
 |ty U=>exact X2 (args:=QV J (QT bn c)) n (bN n B)
theorem SE.mC(k:SE h a e l c j f i ai s)(w:notStar s=P4):rQ h a e l c j f i (.cons ai .nil) [s]:=.cons k w .nil
theorem sG(X:∀kq km,t kq km->ra kq km)(M:S6 T f c t kq km):S6 T f c ra kq km:=Qq M (λU U Y=>X _ _ Y) λU U Y=>X _ _ Y
theorem eT(p:bt g c j)(s:Inv a e g b k d.heap)(r:d.heap.get? n=N):n∉g/\n∉bJ c:=by have M:n∉g:=s.no r;exact⟨M,λH=>M (p.hU n H)⟩
theorem SS.dZ{a5:Z}(R:bA N a5 f (c :: o))(k:SE h a e (c :: o) c j f i ai s)(E:j[K]? = S (S r))(hk:c.kindOf r=S .local\/c.kindOf r=S .cell)(A:ve h a e o c j f i bq ew)(P:fo s=P8) :
  SS h a e o c j f i (.dZ K ai bq) (.For (.Name r fu) s ew [] J):=λb x y a1 g p n t=>by
 rw[xM] at t⊢;refine wpAny_For ((k b x y a1 g p n).fC R n.live p.hU (.refl n.inv) (λL H1 r1 G va T o1 C v1 D=>?_) t) λa4=>gG P a4;rw[T,Res.aP];have eE:=n.on p C;induction I:srcOf H1 L using U0 with
 |none=>exact bX (I▸D)
 |some q=>
  obtain⟨a2,H⟩:=q
  replace D:=I▸D
  dsimp only at D⊢
  refine aM (jR v1 I) λd bP sa=>?_
  clear y n t T C v1 k P
  subst bP
  refine hF λa0=>cN (sa.items o1.inv) λv n' B U=>a0 (TC (bb B) ?_)
  have l:G.heap.get? G.heap.objs.size=N:=ct _
  refine bT (eT p eE.inv l) λq1 q2=>?_
  have X:=cX.more (own:=b) (fr:=bJ c) (ns:=[G.heap.objs.size]) (λbq w=>by rw[UZ.mp w];exact l) (Qj rfl) (λbq z ai=>U2 {cls:=.type "list_iterator",data:=.fields #[.ref d,.int 0 0]} ai)
  have M:(G.heap.push {cls:=.type "list_iterator",data:=.fields #[.ref d,.int 0 0]}).get? G.heap.objs.size=S {cls:=.type "list_iterator",data:=.fields #[.ref d,.int 0 0]}:=Vs _ rfl
  have dJ:=eE.dS (own':=[G.heap.objs.size]++b) (tk:=G.toks) X.new X.le X.hs λbq H=>by
   rcases Vd.mp H with H|H;·rw[UZ.mp H];exact⟨_,M⟩
   ·exact eK (eE.inv.ex bq H) λz ai=>⟨z,X.hs _ _ ai⟩
  have it:dT a ([G.heap.objs.size]++b) r1 ({G with heap:=G.heap.push {cls:=.type "list_iterator",data:=.fields #[.ref d,.int 0 0]},toks:=G.toks}:Qh).heap a2 G.heap.objs.size 0:=⟨(mU d (sa.mono (λL z Y=>(Y.dS X.new).grow X.hs) (.refl _)) (λq=>by rw[q,l] at B;exact nX B) (mU _ M rfl rfl)),by refine Vy.trans ?_;rw[Vp q1];simp⟩
  refine R5 (AY R E hk A (p.dS X.sub) q2 _ D dJ it (.refl dJ.inv) rfl) λY m q=>?_
  cases Y with
  |ok l=>exact(QS.back X eE.live q).pre o1
  |error ai=>exact sG (λai a3 Y=>Y.mono λai a3 Y=>(EF.back X Y).pre o1 p.hU) q
theorem SS.CO{a7:Z}(R:bA fq a7 f (c :: o))(k:ST h a e (c :: o) c j f i fi s)(a6:ve h a e o c j f i bq ew):SS h a e o c j f i (.CO fi bq) (.While s ew [] J):=λb x y d g p st t=>by
 rw[Ao] at t⊢;generalize L:jC _ _ 100 g y=I at t⊢;refine wpAny_While (codeAny_whileLoop (λX m=>∃a0 v r',St a e b (c :: o) c j r' v a0 m/\aQ a e b (bJ c) x d r' v m/\jC (λa2 y=>(aO i fi a2 y).bind λx=>match truthy x.1 with|some K=>.ok (K,x.2)|none=>.bad) (λa2 y=>aW i bq a2 y) X a0 v=I) (λX m hI=>?_) 100 (oS g y x st (.refl st.inv) L));refine eM hI λa0 v r' a1 o' D=>?_;clear hI;induction X using Vn with
 |zero=>exact Qp D.symm t
 |succ a3=>
  rw[LD] at D;replace D:=(show((aO i fi a0 v).bind λx=>match truthy x.1 with|some K=>.ok (K,x.2)|none=>.bad)=rD i fi a0 v from rfl)▸D;have P:rD i fi a0 v≠.bad:=λq=>t (D.symm.trans ((bL q).trans rfl));refine TA (E:=ES a e b (Qe h a) f (bJ c) o c I.x? x d) TB.leaving (Qq (k b r' v m a0 p a1 P) (λq G Y=>?_) λe' G Y=>?_)
  ·refine eM Y λK z r1 T C cQ=>?_
   subst cQ
   rw[T,Res.aP] at D
   have eE:=a1.on p C
   have o1:=o'.trans (C.wide (fr:=bJ c))
   dsimp only at D
   clear T C k
   induction K using U6 with
   |false=>exact Rm (jN .next a0 z r1 D.symm o1 eE trivial)
   |true=>
    have n:aW i bq a0 z≠.bad:=λq=>t (D.symm.trans ((bL q).trans rfl))
    refine TA (E:=ES a e b (Qe h a) f (bJ c) o c I.x? x d) TB.leaving (Qq (a6 b r1 z G a0 p eE n) (λr s2 Y=>?_) λe' s2 Y=>?_)
    ·refine uM Y λfl A H2 H e2 M dJ Y=>?_
     rw[e2] at D
     induction fl using Fl.casesOn with
     |next=>
      induction r using VY with
      |next=>exact⟨a3,VU a3,A,H2,H,dJ,o1.trans M,D⟩
      |_=>exact Y.elim
     |ret a4=>
      induction r using VY with
      |ret w=>exact jN (.ret a4) A H2 H D.symm (o1.trans M) dJ Y
      |_=>exact Y.elim
    ·refine Y.mono λe2 K Y=>cN Y λB H3 l Y=>EF.pre o1 p.hU (eP B H3 ?_ Y);refine Fd (aW i bq a0 z) (λε s=>?_) (λU H2 s=>?_) (λs=>?_);·exact nX (s▸l)
     ·rw[s] at l D;refine sQ l ?_;rw[<-D];rfl
     ·exact(n s).elim
  ·refine EF.stmt R a1.live (EF.pre o' p.hU ?_);refine hF λa5=>cN Y λB H3 l Y=>a5 (eP B H3 ?_ Y.wide);refine Fd (rD i fi a0 v) (λε s=>?_) (λU H2 s=>?_) (λs=>?_);·exact nX (s▸l)
   ·rw[s] at l D;refine sQ l ?_;rw[<-D];rfl
   ·exact(P s).elim
theorem Inv.part{own:V Qa}{fs:V Qa}(s:Inv a e bh b k p)(P:∀E z,E∉fs->p.get? E=S z->aa.get? E=S z)(c:∀L∈fs,L∈bh)(x:∀E∈own,E∈bh/\(E∈fs->∃z,aa.get? E=S z)):Inv a e own b k aa:=by
 have B:∀E z,Sf p b bh E z->Sf aa b own E z:=λE z Y=>(gZ (P E z (λH=>Y.2.2 (c E H)) Y.1) Y.2.1 (λH=>Y.2.2 (x E H).1));have J:=λE H M=>(s.off E (c E M)).1 H;have A:=s.ey;refine⟨λE z D=>⟨P E z (λH=>by have:=(s.off E (c E H)).2;replace this:=D.symm.trans this;cases this) (s.keep E z D).1,(s.keep E z D).2⟩,s.As,λL H=>s.off L (x L H).1,λL H=>?_,⟨A.jP,A.lT,A.mY,A.lU,λX w E T m=>?_,λX w E T m=>?_,λX w E T m=>?_,λX M d T m=>?_⟩⟩
 ·by_cases M:L∈fs;·exact(x L H).2 M
  ·obtain⟨z,D⟩:=s.ex L (x L H).1;exact⟨z,P L z M D⟩
 ·refine cN (A.L X w E T m) λv q o C=>?_;exact eP v q (P _ _ (J E (oE m)) o) (C.mono B (.refl b))
 ·refine eM (A.D X w E T m) λv q n o C i=>?_;exact oS v q n (P _ _ (J E (hX m)) o) (C.mono B (.refl b)) i
 ·refine aM (A.B X w E T m) λy o C=>?_;exact ba y (P _ _ (J E (sy m)) o) C
 ·obtain⟨o,j,q,G,C⟩:=A.I X M d T m;exact⟨P _ _ (J _ (tr m)) o,j,q,P _ _ (J _ (mZ m)) G,C.mono B (.refl b)⟩
theorem St.part{own:V Qa}{fs:V Qa}{tk:Z}(eo:bt own c j)(h:dI l own [] rb)(n:St a e bh l c j b k w d)(P:∀E z,E∉fs->d.heap.get? E=S z->aa.get? E=S z)(J:∀L∈fs,L∈bh)(X:∀E∈own,E∈bh/\(E∈fs->∃z,aa.get? E=S z))
  (G:∀L∈bJ c,L∉fs) (p:∀D∈l,∀x,D.frame=S x->x∉fs):St a e own l c j b k w {d with heap:=aa,toks:=tk}:=by
 have B:∀E z,Sf d.heap b bh E z->Sf aa b own E z:=λE z Y=>(gZ (P E z (λH=>Y.2.2 (J E H)) Y.1) Y.2.1 (λH=>Y.2.2 (X E H).1));refine⟨n.inv.part P J X,⟨?_,λI A D=>?_,n.eW.len⟩,⟨λD H=>?_⟩⟩;·refine aM n.eW.ns λH bP i=>?_;refine hF λf=>?_;refine Aa bP λob g ep o y=>?_;refine f ?_;exact ba H (C4 ob g ep (P _ _ (G _ (.head _)) o) y) (λv I C T m M=>aM (i v I C T m M) λt L E=>(ba t L (E.mono B (.refl b))))
 ·refine aM (n.eW.mW I A D) λov cQ i=>?_;refine hF λa0=>?_;refine aM cQ λz o q=>?_;refine a0 ?_;exact ba ov (ba z (P _ _ (G _ (.tail _ (lookup_mem D))) o) q) (λv C T m M=>aM (i v C T m M) λt L E=>(ba t L (E.mono B (.refl b))))
 ·refine h.el H λU x U U U r A U U U=>?_;refine hF λs=>?_;refine n.live.el H λL K z g a1 E U U o Y=>?_;replace E:=r.symm.trans E;obtain rfl:=sX E;refine s ?_;exact⟨L,x,z,g,a1,r,A,(λH=>nomatch H),P _ _ (p D H x r) o,Y⟩
structure iV(w:Qr)(own:V Qa)(r:cS)(h:Qb)(src:Src)(e I:Qa)(i:Z):Prop where
 src:∃a old,SrcAt w own r h src a/\a≠I/\a≠e/\h.IsListIter I a i/\IsEnum h e I i old
 one:own.count I=1
 DB:own.count e=1
 ne:e≠I
theorem iV.mem(I:iV a g b p cg dh X aj):∀L∈[dh,X],L∈g:=λL H=>by
 rcases U4.mp H with rfl|H;·exact Vz.mp (by refine R I.DB ?_;decide)
 ·refine R (UZ.mp H) ?_;exact Vz.mp (by refine R I.one ?_;decide)
theorem iV.on{s:Qh}(K:Inv a e g b k s.heap)(I:iV a g b s.heap cg dh X aj)(z:aQ a e g az b s aq cu ay)(h:∀L∈[dh,X],L∉az)(J:∀L∈az,L∈g\/s.heap.get? L=N):iV a g aq ay.heap cg dh X aj:=by refine hF λC=>?_;refine KQ I.src λL j d i n eA l=>?_;refine rB eA λB o A y=>?_;refine z.keep.el o (K.off X (I.mem X (by simp))).1 (h X (by simp)) λU f G Y=>?_;obtain rfl:=Y.once (by refine R I.one ?_;decide);refine z.keep.el l (K.off dh (I.mem dh (by simp))).1 (h dh (by simp)) λU o2 c Y=>?_;rw[Y.once (by refine R I.DB ?_;decide)] at c;refine C ?_;exact⟨(IU L j (d.on z J) i n (mU _ G A y) c),I.one,I.DB,I.ne⟩
theorem zo{rS:cS}{sS:Qh}{t0 kk:Z}(R:bA N q f (c :: o))(d7:j[mc]? = S (S lq))(e7:c.kindOf lq=S .local\/c.kindOf lq=S .cell)
  (d3:j[me]? = S (S lu)) (e4:c.kindOf lu=S .local\/c.kindOf lu=S .cell) (e5:ve h a e o c j f i bq ew)
  (eo:bt g c j) (x0:dI (c :: o) g [] sS.heap) (a1:cX g ([dh,X]++g) (bJ c) ([dh,X]++bJ c) sS.heap rb) (hI:∀L∈[dh,X],L∉g) (I:Res (Fl×Loc×AH)) (t:I≠.bad) 
  (st:St a e ([dh,X]++g) (c :: o) c j b k w d) (it:iV a ([dh,X]++g) b d.heap cg dh X aj) (z:aQ a e ([dh,X]++g) ([dh,X]++bJ c) rS {sS with heap:=rb,toks:=t0} b k d)
  (ev:cM (λH C l k=>aW i bq ((l.set mc (S (.int H))).set me (S C)) k) cg H aj w k=I) :
  QL (Qe h a) f (.forLoop (.Tuple [.Name lq k9,.Name lu l8] kk j7) (.ref dh) ew [] c) (λM s'=>match M with|.ok r=>QS a e g (bJ c) o c j I rS sS r s'|.error dh=>S6 (Qe h a) f c (ES a e g (Qe h a) f (bJ c) o c I.x? rS sS) dh s') d:=by
 have a2:=eo.dS a1.sub;have a4:=λL a0 M=>hI L M (eo.hU L a0);have c9:=λen a0 x M Y=>hI x Y (x0.GD en a0 x M);refine codeAny_forLoop_any (λH d=>∃aj w k b,St a e ([dh,X]++g) (c :: o) c j b k w d/\iV a ([dh,X]++g) b d.heap cg dh X aj/\aQ a e ([dh,X]++g) ([dh,X]++bJ c) rS {sS with heap:=rb,toks:=t0} b k d/\cM (λH C l k=>aW i bq ((l.set mc (S (.int H))).set me (S C)) k) cg H aj w k=I) (λH d c7=>?_) H (jN aj w k b st it z ev);refine hF λa7=>?_;clear ev z it st;refine hF λa8=>?_;refine uM c7 λaj w k b st it z ev=>?_;refine a8 ?_;clear c7 a8;induction H using Vn with
 |zero=>exact t ev.symm
 |succ a0=>
  rw[KL] at ev;refine oA (cg.at aj k) (λea=>?_) (λy ea=>?_);·rw[ea] at ev;exact t ev.symm
  ·rw[ea] at ev
   refine KQ it.src λL e8 sa d2 d5 G a5=>?_
   refine cN (sa.items st.inv) λe9 n' a3 hj=>?_
   have hx:=hj aj y ea
   have a6:=it.mem
   clear hj
   induction y using U0 with
   |none=>dsimp only at ev;refine a7 ?_;refine wpAny_pyNext_enum_end R.handled a5 G (bb a3) hx λh' eb=>Rm ?_;have P:∀bq B,bq∉[X]->d.heap.get? bq=S B->h'.get? bq=S B:=λbq B M Y=>eb bq B (λY=>M (by rw[Y];exact .head _)) Y;have b9:=st.part (own:=g) (fs:=[X]) (tk:=d.toks) eo x0 P (λL a0=>a6 L (.tail _ a0)) (λbq a0=>⟨a1.sub bq a0,λM=>Qp a0 (hI bq (.tail _ M))⟩) (λL a0 M=>a4 L a0 (.tail _ M)) λen a0 x M Y=>c9 en a0 x M (.tail _ Y);refine jN .next w k b ev.symm ⟨?_,b9.inv,a1.keep (z.keep.trans (.but (a:=X) (λbq B M Y=>P bq B (λa0=>M (UZ.mp a0)) Y) (.inr (.inl (.tail _ (.head _)))))),z.le⟩ b9 trivial;refine rC z.eq λh1 t1 T=>?_;clear eb hI;subst T;exact z8 _ _ rfl
   |some C=>
    refine hF λd9=>?_;refine aM hx λx' T vr=>?_;refine d9 ?_;refine a7 ?_;refine wpAny_pyNext_enum_item a5 G (bb a3) T it.ne λh1 c5 c6 e6 d4 c1=>?_;refine wpAny_letOwnedTupleGo_enum c5 λp a9 s=>?_;have P:∀bq B,bq∉[dh,X]->d.heap.get? bq=S B->p.get? bq=S B:=λbq B M Y=>by have q1:bq≠dh:=λY=>M (by rw[Y];exact .head _);exact(s.2 bq q1).trans (c1 bq B q1 (λY=>M (by rw[Y];exact .tail _ (.head _))) Y)
    have d0:=c6.extBut s.extBut (Wd it.ne);have e0:∀L∈[dh,X],∃z,p.get? L=S z:=λL a0=>by
     clear a7 G c5 c6 d4 c1 hx hI;rcases U4.mp a0 with rfl|a0;·exact⟨_,a9⟩
     ·rw[UZ.mp a0];obtain⟨z,a3,_⟩:=d0;exact⟨z,a3⟩
    have dJ:=st.part (own:=[dh,X]++g) (fs:=[dh,X]) (tk:=d.toks+1) a2 st.live P a6 (λbq a0=>⟨a0,e0 bq⟩) a4 c9;have o2:aQ a e ([dh,X]++g) ([dh,X]++bJ c) b d b k {d with heap:=p,toks:=d.toks+1}:=.mk' dJ.inv ⟨λbq B T q r=>⟨q,B,P bq B (λa0=>r (Vc _ a0)) T,.refl B⟩⟩ (.refl b);have S2:∀L B,Sf d.heap b ([dh,X]++g) L B->Sf p b ([dh,X]++g) L B:=λbq B Y=>⟨P bq B (λa0=>Y.2.2 (Vc _ a0)) Y.1,Y.2⟩;have nm:wz j c [mc,me] [.Name lq k9,.Name lu l8] [lq,lu]:=.cons d7 e7 (.cons d3 e4 .nil);refine hF λd6=>?_;refine uE nm.each λn1 n2 n3 n4=>?_;refine d6 ?_;refine Tz R.handled (⟨_,(s.2 _ (Wc (VV a5))).trans e6,rfl,_,rfl⟩) (by refine n1.trans ?_;rfl) n2 λh3 K=>?_;have o3:aQ a e ([dh,X]++g) [] b {d with heap:=p,toks:=d.toks+1} b k {d with heap:=h3,toks:=d.toks+1}:=.grown (tk':=d.toks+1) dJ.inv (jV K);refine iU (js:=[mc,me]) (xs:=[lq,lu]) (as:=[.int aj,C]) (loc:=w) a2 a2.hU (λU U=>nH.all) (dJ.on a2 o3) (by refine(U1 ..).trans ?_;rfl) rfl nm.at (.cons (.int _ _) (.cons (o3.vr (vr.mono S2 (.refl b))) .nil)) rfl λs4 g2 M o4 d1=>?_;refine hF λd8=>?_;obtain rfl:=sX M;refine uE (sF (src:=cg) (step:=λH C l k=>aW i bq ((l.set mc (S (.int H))).set me (S C)) k) (m:=a0) (i:=aj) (v:=C) (loc:=w) (H:=k) t ev rfl) λb1 b2 b3 b4=>?_;have D:aQ a e ([dh,X]++g) (bJ c) b {d with heap:=p,toks:=d.toks+1} b k s4:=(o3.wide (fr:=bJ c)).trans o4;have c4:=(z.trans o2).trans (D.inc λA a0=>Vf [dh,X] a0);refine d8 ?_;refine TA (E:=ES a e g (Qe h a) f (bJ c) o c I.x? rS sS) TB.leaving (Qq (e5 _ b k s4 ((w.set mc (S (.int aj))).set me (S C)) a2 d1 b1) (λr s5 M=>?_) λe' s5 M=>?_)
    ·refine uM M λfl c3 v r' m o5 c2 Y=>?_
     refine hF λc8=>?_
     have J:=c4.trans (o5.inc λA a0=>Vf [dh,X] a0)
     induction fl using Fl.casesOn with
     |next=>
      induction r using VY with
      |next=>refine c8 ?_;exact⟨a0,VU a0,aj+1,c3,v,r',c2,((show iV a ([dh,X]++g) b p cg dh X (aj+1) from⟨(IU L _ (sa.mono S2 (.refl b)) d2 d5 d0 (by exact_mod_cast a9)),it.one,it.DB,it.ne⟩).on (s:={d with heap:=p,toks:=d.toks+1}) dJ.inv D (λL a0 M=>a4 L M a0) λL a0=>.inl (a1.sub L (eo.hU L a0))).on d1.inv o5 (λL a0 M=>a4 L M a0) λL a0=>.inl (a1.sub L (eo.hU L a0)),J,b2 _ _ m⟩
      |_=>exact Y.elim
     |ret n=>
      induction r using VY with
      |ret v2=>refine c8 ?_;exact QS.back a1 x0 (jN (.ret n) c3 v r' (b3 _ _ _ m) J c2 Y)
      |_=>exact Y.elim
    ·refine M.mono λm g1 Y=>?_;refine cN Y λtt v e3 Y=>?_;refine EF.back a1 (EF.pre c4 (λL a0=>(Vd.mp a0).elim (λM=>a6 L M) λM=>a1.sub L (eo.hU L M)) (eP tt v ?_ ?_))
     ·refine Fd (aW i bq ((w.set mc (S (.int aj))).set me (S C)) k) (λU n=>?_) (λt2 H2 n=>?_) (λn=>?_);·exact nX (n▸e3)
      ·replace e3:=n▸e3;refine sQ e3 ?_;rw[b4 _ _ n];rfl
      ·exact(b1 n).elim
     ·exact Y.more λA a0=>Vf _ a0
theorem SS.lG{a9:Z}(A:Gr v e P cv cx cw)(K:AZ v c "enumerate" (.type "enumerate"))(R:bA N a9 f (c :: o))(k:SE h a e (c :: o) c j f i ai s)(ns:notStar s=P4)(l:j[mc]? = S (S lq))(a7:c.kindOf lq=S .local\/c.kindOf lq=S .cell)
  (a1:j[me]? = S (S lu)) (a3:c.kindOf lu=S .local\/c.kindOf lu=S .cell) (a5:ve h a e o c j f i bq ew) :
  SS h a e o c j f i (.lG mc me ai bq) (.For (.Tuple [.Name lq k9,.Name lu l8] H j7) (.Call (.Name "enumerate" fu) [s] [] rn) ew [] J):=λb x y a4 g p n t=>by
 rw[xN] at t⊢;refine wpAny_For (A0 (bv:=.ty "enumerate") A K p n.inv (SE.mC k ns) ?_) λC=>gG rfl C;rw[bI ns];refine PySem.Calls.spliced_cons ((k b x y a4 g p n).fC R n.live p.hU (.refl n.inv) (λL H1 r1 G va T o1 pp v1 D=>?_) t);rw[T,Res.aP];have eE:=n.on p pp;induction er:srcOf H1 L using U0 with
 |none=>exact bX (er▸D)
 |some q=>
  obtain⟨a6,I⟩:=q
  replace D:=er▸D
  dsimp only at D⊢
  refine aM (jR v1 er) λd g6 sa=>?_
  subst g6
  refine hF λE=>?_
  refine cN (sa.items o1.inv) λa8 n' M U=>?_
  refine E ?_
  refine PySem.Calls.spliced_nil (call_enumerate_1 M λh' B a0 hz hs=>wpAny_pyIter_enum B ?_)
  have r:∀bq∈[G.heap.objs.size+1,G.heap.objs.size],G.heap.get? bq=N:=λbq w=>by
   rcases U4.mp w with rfl|w;·exact V6 (VK _)
   ·rw[UZ.mp w];exact ct _
  have X:=cX.more (own:=b) (fr:=bJ c) (ns:=[G.heap.objs.size+1,G.heap.objs.size]) r (by simp) hs
  have q1:=λL I=>(eT p eE.inv (r L I)).1
  have dJ:=eE.dS (own':=[G.heap.objs.size+1,G.heap.objs.size]++b) (tk:=G.toks) X.new X.le X.hs λbq I=>by
   rcases Vd.mp I with I|I
   ·rcases U4.mp I with rfl|I;·exact⟨_,B⟩
    ·rw[UZ.mp I];obtain⟨z,M,_⟩:=a0;exact⟨z,M⟩
   ·exact eE.inv.Jr X.hs I
  have la:=VV M
  have c0:=λL I=>Vp (q1 L I)
  have it:iV a ([G.heap.objs.size+1,G.heap.objs.size]++b) r1 h' a6 (G.heap.objs.size+1) G.heap.objs.size 0:=⟨(IU d _ (sa.mono (λL z Y=>(Y.dS X.new).grow X.hs) (.refl _)) (Wj la) (Wj (X6 la)) a0 B),by rw[Vy,c0 _ (.tail _ (.head _))];simp,by rw[Vy,c0 _ (.head _)];simp,Ye _⟩
  refine R5 (zo R l a7 a1 a3 a5 p eE.live X q1 _ D dJ it (.refl dJ.inv) rfl) λY m q=>?_
  cases Y with
  |ok r=>exact q.pre o1
  |error ai=>exact sG (λai a2 Y=>Y.mono λai a2 Y=>Y.pre o1 p.hU) q
noncomputable def lB(C:V (Qc×Qa)):V (Qc×QI)->V (Qc×Qa)->O (V (Qc×Qa))
 |[],e=>S e
 |(q,X) :: x,e=>if(X==.free)=P4 then(match C.lookup q with|some A=>lB C x ((q,A) :: e)|none=>N) else lB C x e
set_option tactic.hygienic true in
theorem zp{env:Qo}(r:Qc×QI->V (Qc×Qa)->Qt (R7 (V (Qc×Qa))))(J:∀q X e,r (q,X) e=if(X==.free)=P4 then cellOf env q >>= λA=>pure (.yield ((q,A) :: e)) else pure (.yield e)) :
  ∀{w:V (Qc×QI)} {e T:V (Qc×Qa)},lB env.cells w e=S T->forIn w e r=pure T:=by
 intro w;induction w with
 |nil=>intro e T D;exact sJ D XS
 |cons M x b=>
  obtain⟨q,X⟩:=M;intro e T D;refine(WW ..).trans ?_;refine R (J ..) ?_;have D:(if(X==.free)=P4 then(match env.cells.lookup q with|some A=>lB env.cells x ((q,A) :: e)|none=>N) else lB env.cells x e)=S T:=D;split at D
  ·rename_i M;refine R (Qk M) (oA (env.cells.lookup q) (λn=>?_) (λA n=>?_));·exact nX (n▸D)
   ·rw[n] at D;unfold cellOf;exact R n (b D)
  ·rename_i M;exact R (Qm M) (b D)
theorem rV(D:lB c.cells be.names []=S dq):closureFor be c=pure dq:=by show(forIn be.names [] _ >>= λa=>pure a)=pure dq;refine R (zp (env:=c) _ (λq X e=>by induction X using Yf<;>rfl) D) ?_;rfl
set_option tactic.hygienic true in
theorem wA{cells:V (Qc×Qa)}:∀{ns:V (Qc×QI)} {acc:V (Qc×Qa)},(∀I,(I,Wq)∈ns->∃A,cells.lookup I=S A)->(∀I A,acc.lookup I=S A->cells.lookup I=S A)->(∀L∈acc.map (·.2),L∈cells.map (·.2))->
  ∃T,lB cells ns acc=S T/\(∀I A,T.lookup I=S A->cells.lookup I=S A)/\(∀L∈T.map (·.2),L∈cells.map (·.2))/\(∀I,((I,Wq)∈ns\/∃A,acc.lookup I=S A)->∃A,T.lookup I=S A):=by
 intro ns;induction ns with
 |nil=>intro acc _ p t;exact CT acc rfl p t (λI H=>H.elim (λH=>nomatch H) id)
 |cons a x b=>
  obtain⟨q,X⟩:=a;intro acc G p t;rw[show lB cells ((q,X) :: x) acc=if(X==.free)=P4 then(match cells.lookup q with|some A=>lB cells x ((q,A) :: acc)|none=>N) else lB cells x acc from rfl];by_cases M:X=.free
  ·subst M;refine eK (G q (.head _)) λA s=>R s ?_;obtain⟨T,D,L,E,y⟩:=b (λI H=>G I (.tail _ H)) (λI o D=>by
    rw[VX] at D;split at D;·rename_i M;refine sJ D ?_;refine R (RL M) ?_;exact s
    ·exact p I o D) (λL H=>by
    rcases U4.mp H with rfl|H;·exact lookup_mem s
    ·exact t L H)
   refine CT T D L E (λI H=>y I ?_);have c:∀I,(∃A,acc.lookup I=S A)->∃o,Xd I ((q,A) :: acc)=S o:=λI ⟨o,D⟩=>by
    refine R VX ?_;split;·exact⟨_,rfl⟩
    ·exact⟨_,D⟩
   rcases H with H|H
   ·rcases U4.mp H with D|H;·cases D;exact .inr ⟨A,by refine VX.trans ?_;simp⟩
    ·exact .inl H
   ·exact .inr (c I H)
  ·refine R (Qm (by simpa using M)) ?_;refine Ar (b (λI H=>G I (.tail _ H)) p t) λT D L E y=>CT T D L E (λI H=>y I (H.imp (λH=>?_) id));clear L E y p t G;rcases U4.mp H with D|H;·cases D;exact(M rfl).elim
   ·exact H
theorem A1{g:Qc->QI->QI}{r:Qc×QI->Qc×QI}(J:∀q k,r (q,k)=(q,g q k))(I:Qc)(w:V (Qc×QI)):(w.map r).lookup I=(w.lookup I).map (g I):=by
 induction w with
 |nil=>rfl
 |cons M x a=>
  obtain⟨q,k⟩:=M
  refine R Vt (R (J q k) (VX.trans (R (VX (k:=q) (b:=k)) ?_)))
  induction D:I==q using U6 with
  |true=>exact Ql (λn=>S (g n k)) (RL D).symm
  |false=>exact a
theorem tQ(P:Qo)(I:Qc)(w:V (Qc×QI)):(w.map λ(q,X)=>if(X==Wq&&P.scope.kind==.function&&P.kindOf q==S .cell) then(q,X3) else(q,X)).lookup I =
  (w.lookup I).map λX=>if(X==Wq&&P.scope.kind==.function&&P.kindOf I==S .cell) then X3 else X:=
 A1 (g:=λq X=>if(X==Wq&&P.scope.kind==.function&&P.kindOf q==S .cell) then X3 else X) (λq X=>(apply_ite (QU.mk q) ..).symm) I w
theorem iC(I:Qc):(Qx be dq ap c).kindOf I=(be.names.lookup I).map λX=>if(X==Wq&&c.scope.kind==.function&&c.kindOf I==S .cell) then X3 else X:=tQ c I be.names
theorem dY(B:be.names.lookup r=S .local):(Qx be dq ap c).kindOf r=S .local:=by exact(iC ..).trans (R B rfl)
theorem zq(B:be.names.lookup r=S .globalImplicit):(Qx be dq ap c).kindOf r=S .globalImplicit:=by exact(iC ..).trans (R B rfl)
theorem kind_free(B:be.names.lookup r=S .free):(Qx be dq ap c).kindOf r=S .cell\/(Qx be dq ap c).kindOf r=S .free:=by
 refine R (iC ..) ?_;refine R B ?_;refine R (Xg ..) ?_;split;·exact .inl rfl
 ·exact .inr rfl
theorem zr(s:∀n∈be.names,n.2≠.cell)(B:(Qx be dq ap c).kindOf r=S .cell\/(Qx be dq ap c).kindOf r=S .free):be.names.lookup r=S .free:=by
 rw[iC] at B;induction D:be.names.lookup r using U0 with
 |none=>rw[D] at B;rcases B with B|B<;>exact nX B
 |some X=>
  rw[D,Xg] at B;by_cases M:X=.free;·rw[M]
  ·have q:(X==Wq)=P8:=by simpa using M
   rw[q] at B;simp only[P6.false_and,V5,Rl,YW] at B;clear q;rcases B with B|B;·subst B;exact Qp rfl (s _ (mem_of_lookup D))
   ·exact(M B).elim
theorem rW(B:(Qx be dq ap c).kindOf r=S .local):be.names.lookup r=S .local:=by
 rw[iC] at B;induction D:be.names.lookup r using U0 with
 |none=>exact nX (D▸B)
 |some X=>
  rw[D,Xg] at B;split at B;·exact(nomatch B)
  ·exact B
noncomputable def cY(l:Loc)(m:V Z):Loc:=m.foldl (λl v=>l.set v N) l
structure Fg(scope:Rc)(env:Qo)(sl sl':V (O Qc))(ts:V Z):Prop where
 cell:∀y∈scope.names,y.2≠.cell
 kind:scope.kind=.function
 loc:∀x∈scope.names,x.2=.local->scope.names.lookup x.1=S .local
 GJ:∀x,(x,Wq)∈scope.names->(env.kindOf x=S .cell\/env.kindOf x=S .free)/\∃j:Z,sl[j]? = S (S x)
 slot:∀(j:Z) x,sl'[j]? = S (S x)->(j∈ts/\scope.names.lookup x=S .local)\/(j∉ts/\sl[j]? = S (S x)/\scope.names.lookup x=S .free)
 inj:∀(i j:Z) x,sl'[i]? = S (S x)->sl'[j]? = S (S x)->i=j
 len:sl'.length=sl.length
theorem Fg.GK(a:Fg be c j du ts)(p:bt g c j):∃T,closureFor be c=pure T/\(∀I A,T.lookup I=S A->c.cells.lookup I=S A)/\(∀L∈T.map (·.2),L∈c.cells.map (·.2))/\(∀I,(I,Wq)∈be.names->∃A,T.lookup I=S A):=by refine Ar (wA (cells:=c.cells) (ns:=be.names) (acc:=[]) (λI H=>let⟨M,v,D⟩:=a.GJ I H;p.has v I D M) (λI A D=>nomatch D) (λL H=>nomatch H)) λT D L E y=>?_;exact CT T (rV D) L E (λI H=>y I (.inl H))
theorem yg{ts:V Z}{v:Q}:(∃I,ts=[I]/\∀l,gY l ts v=S (l.set I (S v)))\/(∃I n L E,ts=[I,n]/\∀l,gY l ts v=S ((l.set I (S L)).set n (S E)))\/∀l,gY l ts v=N:=by
 rcases ts with _|⟨I,_|⟨n,_|⟨Y,x⟩⟩⟩;·exact .inr (.inr λU=>rfl)
 ·exact .inl (ba I rfl (λU=>rfl))
 ·induction v using Zp with
  |tup w=>rcases w with _|⟨L,_|⟨E,_|⟨A,x⟩⟩⟩<;>first|exact .inr (.inr λU=>rfl)|exact .inr (.inl (MU I n L E rfl (λU=>rfl)))
  |_=>exact .inr (.inr λU=>rfl)
 ·exact .inr (.inr λU=>rfl)
theorem yh{y:O Q}:(((w.set fm jv).set p8 i8).set fm jx).set p8 y=(w.set fm jx).set p8 y:=by
 by_cases M:fm=p8;·subst M;refine R (Wk ..) ?_;refine R (Wk ..) ?_;refine R (Wk ..) ?_;rw[Wk]
 ·refine R (Xy (i:=p8) (j:=fm) i8 jx (λY=>M Y.symm)) ?_;refine(Wk ..).trans ?_;refine R (Wk ..) rfl
theorem vg:gY (cY w bz) bz bg=gY w bz bg:=by
 refine hF λi=>?_;rcases yg (ts:=bz) (v:=bg) with⟨I,rfl,B⟩|⟨I,n,L,E,rfl,B⟩|B;·refine i ?_;exact(B ..).trans (Ql S (Wk ..))
 ·refine i ?_;refine(B ..).trans ?_;refine R (B ..) ?_;exact Ql S yh
 ·refine i ?_;refine(B ..).trans ?_;refine R (B ..) rfl
theorem vh(D:gY w bz bg=S kr):cY kr bz=cY w bz:=by
 refine hF λs=>?_;rcases yg (ts:=bz) (v:=bg) with⟨I,rfl,B⟩|⟨I,n,L,E,rfl,B⟩|B;·exact s (sX ((B w).symm.trans D)▸Wk ..)
 ·exact s (sX ((B w).symm.trans D)▸yh)
 ·exact nX ((B w).symm.trans D)
theorem iD:∀{m:V Z} {g:Loc},(cY g m)[K]? = S (S bg)->g[K]? = S (S bg)/\K∉m:=by
 intro m;induction m with
 |nil=>intro g D;exact⟨D,λH=>nomatch H⟩
 |cons a m b=>
  intro g D;refine bT (b (show(cY (g.set a N) m)[K]? = S (S bg) from D)) λL E=>?_;clear D;by_cases M:a=K
  ·subst M;replace L:=Xq▸L;refine oA (g[a]?) (λY=>?_) (λn Y=>?_);·exact nX (Y▸L)
   ·replace L:=Y▸L;cases L
  ·replace L:=(Vv M).symm.trans L;exact⟨L,λH=>(U4.mp H).elim (λY=>M Y.symm) E⟩
theorem kJ:∀{ts:V Z} {loc:Loc},(cY loc ts).length=loc.length
 |[],_=>rfl
 |K :: ts,loc=>by have:=kJ (ts:=ts) (loc:=loc.set K N);simpa [cY] using this
theorem yS.clear(r:yS a g c j w b p):yS a g c j (cY w bz) b p:=by
 refine⟨?_,λI A D=>?_,by refine kJ.trans ?_;exact r.len⟩;·exact aM r.ns λH K i=>ba H K (λv I C T m l=>i v I C T (iD m).1 l)
 ·exact aM (r.mW I A D) λy s i=>ba y s (λv C T m l=>i v C T (iD m).1 l)
inductive DC(sl:V (O Qc))(scope:Rc):V Z->P9->Prop
 |one {j:Z} {x:Qc} {p:Qv}:sl[j]? = S (S x)->scope.names.lookup x=S .local->DC sl scope [j] (.Name x p)
 |two {j1 j2:Z} {x1 x2:Qc} {p1 p2 tp:Qv} {k:Z}:sl[j1]? = S (S x1)->scope.names.lookup x1=S .local->sl[j2]? = S (S x2)->scope.names.lookup x2=S .local->DC sl scope [j1,j2] (.Tuple [.Name x1 p1,.Name x2 p2] k tp)
theorem zt(D:gY r5 [fm,p8] bg=S kr):∃w,bg=.tup w/\∃L E,w=[L,E]/\dW r5 [fm,p8] [L,E]=S kr:=by
 induction bg using Zp with
 |tup w=>rcases w with _|⟨L,_|⟨E,_|⟨A,x⟩⟩⟩<;>first|exact nX D|exact⟨_,rfl,L,E,rfl,D⟩
 |_=>exact nX D
theorem DE(I:f.handled=N)(v:DC du be bz gb)(s:bt g (Qx be dq ap c) du)(n:St a e g l (Qx be dq ap c) du b k w d)(P:VR a.params (Sf d.heap b g) b bg mq)(D:gY w bz bg=S kr)
  (X:∀m,aQ a e g [ap] b d b k m->St a e g l (Qx be dq ap c) du b k kr m->ca () m):Qf (Qe h a) f (RS gb (Qx be dq ap c) mq) ca t d:=by
 refine hF λz=>?_;induction v using DC.casesOn with
 |@one a2 a0 a5 G p=>obtain rfl:=sX D;refine z ?_;exact S7 (fG (j:=a2) s n ⟨λU=>.head _,λA q=>by replace q:=(dY p).symm.trans q;cases q⟩ G (.inl (dY p)) P X)
 |@two j1 B y K C M Y a3 G p h3 h4=>
  obtain⟨vs,rfl,L,E,rfl,eb⟩:=zt D;refine eM P.inv λa0 xi H eA sx i=>?_;clear P D;subst eA
  ··skip
    have J:wz du (Qx be dq ap c) [j1,B] [.Name y C,.Name K M] [y,K]:=.cons G (.inl (dY p)) (.cons h3 (.inl (dY h4)) .nil)
    refine uE J.each λn1 n2 n3 n4=>?_
    have j:xi.size=2:=by have:=i.len;simp at this;exact this.symm
    refine z ?_
    refine Tz I (fk sx) (by refine R j ?_;rfl) n2 λx T=>?_
    have r:aQ a e g [] b d b k {d with heap:=x}:=.grown (tk':=d.toks) n.inv (jV T)
    refine iU (js:=[j1,B]) (xs:=[y,K]) (as:=[L,E]) (loc:=w) s (λL H=>by refine R (UZ.mp H) ?_;exact s.loc) (λa4 H=>⟨λU=>.head _,λA q=>by
     clear z a0 sx n1 n2 n3 n4 T j I;refine Zj (U4.mp H) (λa1=>?_) λH=>?_;·subst a1;replace q:=(dY p).symm.trans q;exact nomatch q
     ·rw[UZ.mp H,dY h4] at q;cases q⟩) (n.on s r) ((U1 ..).trans rfl) rfl J.at (r.Gp i) rfl λo a6 q o2 dJ=>X o ((aQ.wide r).trans o2) ?_
    exact sX (eb.symm.trans q)▸dJ
theorem rX(G:d.heap.IsListIter X n aj)(B:ca () d):Qf T f (Sr gb (.ref X) ag) ca t d:=by
 refine rB G λz y s c=>?_;have x:Qf T f (Sr (.List [] ⟨0,0,0,0⟩) (.ref X) ag) ca t d:=by
  induction ag using P'.casesOn with
  |ref E=>refine P7 (Rx y ?_);refine R s (R c ?_);show Qf _ _ (if(["enumerate","zip","dict_itemiterator","dict_reverseitemiterator","odict_iterator","itertools.zip_longest","itertools.pairwise"].contains "list_iterator"&&_)=P4 then _ else _) _ _ d;exact R (Qm (nofun)) (Qg B)
  |_=>exact Qg B
 induction gb using W5<;>first|exact Qg B|exact x
noncomputable def GL(o:Qz)(k:Qr)(G:Qb)(l:V Qo)(P:Qo)(c:V (O Qc))(J:QB)(f:CF)(a:LO)(i:V P9):Prop:=(a=.no/\i=[])\/∃D I,a=.so D/\i=[I]/\ST o k G l P c J f D I
theorem GL.run(I:GL h a e l c j f i g9 j8)(p:bt g c j)(n:St a e g l c j b k w d)(D:CS i g9 w k=.ok (au,cu))(o:∀X G,aQ a e g [] b d X cu G->g5 au G) :
  Qf (Qe h a) f (forIn j8 P4 λau b=>if b=P4 then do let r<-isTrue au c (PySem.eval au c);pure (R7.yield r) else pure (R7.yield b)) g5 t d:=by
 refine hF λm=>?_;rcases I with⟨rfl,rfl⟩|⟨L,x,rfl,rfl,B⟩;·replace D:=Ji.symm.trans D;obtain⟨rfl,rfl⟩:=rM D;exact m (R XS (Qg (o b d (.refl n.inv))))
 ·have D:rD i L w k=.ok (au,cu):=D;refine m (R (WW ..) ?_);refine P7 (P7 (Qq (B g b k d w p n (by refine R D ?_;nofun)) (λE G q=>?_) λU U q=>?_));·refine eM q λK s X T o1 eZ=>R eZ.symm ?_;replace T:=D.symm.trans T;obtain⟨rfl,rfl⟩:=rM T;refine Qg ?_;show Qf _ _ (forIn [] _ _) _ _ _;exact R XS (Qg (o X G o1))
  ·exact cN q λK v T U=>nX (D▸T)
theorem mE{e:P'}{R:Q9->Qh->Prop}(k:Z->Qh->Prop)
  (t:∀q d,k q d->Qf (Qe h a) f (RE pa) (λi G=>match i with
   |none=>R (.ok .next) G
   |some C=>Qf (Qe h a) f (Sr io pa C) (λU G=>Qf (Qe h a) f (RS io c C) (λU z=>
     Qf (Qe h a) f (forIn j8 P4 λA i=>if i=P4 then do let j<-isTrue A c (PySem.eval A c);pure (R7.yield j) else pure (R7.yield i)) (λj g=>
      if j=P4 then Qf (Qe h a) f (PySem.eval p9 c) (λI w=>
       Qf (Qe h a) f (Q4 (.builtin "list.append") [e,I]) (λU s=>∃H,H<q/\k H s) (λU U=>QC) w) (λU U=>QC) g
      else∃H,H<q/\k H g) (λU U=>QC) z) (λU U=>QC) G) (λU U=>QC) G) (λU U=>QC) d)
  (q:Z) (B:k q d):QL (Qe h a) f (.compLoop (.ListComp p9 [⟨io,jp,j8,0⟩] be J) 0 pa e c) R d:=by
 refine codeAny_loop rfl k (λq d p=>?_) q B
 refine wpAny_noted ((show∀{m:Type} {K:Qt m} {Y:m->Qh->Prop} {T:P'->Qh->Prop} {d:Qh},Qf (Qe h a) f K Y (λU U=>QC) d->Qf (Qe h a) f K Y T d from λB=>Qq B (λU U M=>M) λU U r=>r.elim) ?_)
 rw[compTurn_list]
 refine P7 (QW (P7 (Qq (t q d p) (λi G v=>?_) λU U x=>x)))
 induction i using U0 with
 |none=>exact Qg v
 |some C=>
  refine P7 (Qq v (λU G v=>?_) λU U x=>x)
  refine P7 (Qq v (λU z n=>P7 (Qq n (λj g l=>?_) λU U x=>x)) λU U x=>x)
  induction j using U6 with
  |false=>exact Qg ⟨rfl,l⟩
  |true=>
   exact P7 (P7 (Qq l (λI w o=>P7 (Qq o (λU s b=>Qg (Qg ⟨rfl,b⟩)) λU U x=>x)) λU U x=>x))
noncomputable def AccAt(k:Qr)(b:V Qa)(x:cS)(B:Qb)(E:Qa)(e:V Q):Prop:=∃v q,B.get? E=S (listOf v q)/\bU k.params (Sf B x b) x e v.toList
theorem AccAt.on{s:Qh}(K:Inv a e g b k s.heap)(I:AccAt a g b s.heap cj ms)(H:cj∈g)(A:g.count cj<2)(z:aQ a e g az b s aq cu ay)(n:cj∉az)(J:∀L∈az,L∈g\/s.heap.get? L=N):AccAt a g aq ay.heap cj ms:=by refine hF λf=>cN I λv q o C=>z.keep.el o (K.off cj H).1 n λU c G Y=>?_;rw[Y.once A] at G;exact f (eP v q G (C.mono (λU U Y=>z.sf J Y) z.le))
noncomputable def bD(f:CF)(i:LE)(m:V Z)(a:LO)(g:Loc):Q->AH->Res (O Q×AH):=λC y=>match gY g m C with
 |none=>.bad
 |some p=>((CS f a p y).bind λA=>if A.1 then(aO f i p A.2).bind λI=>.ok (S I.1,I.2) else .ok (N,A.2)).xF
theorem vi{I:Res G}{r:G->Res bx}{E:bx}(B:(I.bind r).xF=.ok E):∃L,I=.ok L/\(r L).xF=.ok E:=by
 refine hF λi=>?_;induction I using Zq with
 |ok L=>exact i (ba L rfl B)
 |exc _ _=>cases B
 |bad=>cases B
set_option tactic.hygienic true in
theorem sH{loc:Loc}{c7:Q9->Qh->Prop}(hh:f.handled=N)(hE:SE h a e l (Qx be dq ap c) du f i gq s)(hC:GL h a e l (Qx be dq ap c) du f i g9 j8)(tg:DC du be bz io)
  (p:bt g (Qx be dq ap c) du) (hI:X∉bJ (Qx be dq ap c)) (hD:cj∉bJ (Qx be dq ap c)) (mD:g.count cj=1) (c1:X≠cj) (I:Res (V Q×AH)) (t:I≠.bad) {a0 a3:Z} (hk:a0<=1001)
  (n:St a e g l (Qx be dq ap c) du b k (cY loc bz) d) (it:dT a g b d.heap cg X a3) (a2:AccAt a g b d.heap cj []) (ev:bW (bD i gq bz g9 loc) cg a0 a3 k=I)
  (hQ:∀c3 vs v r' e6 m,I=.ok (vs,v)->aQ a e g [X,cj,ap] b d r' v m->AccAt a g r' m.heap cj vs->St a e g l (Qx be dq ap c) du r' v e6 m->c7 (.ok c3) m) :
  QL (Qe h a) f (.compLoop (.ListComp s [⟨io,jp,j8,0⟩] be J) 0 (.ref X) (.ref cj) (Qx be dq ap c)) c7 d:=by
 have y:=Vz.mp (by refine R mD ?_;decide);have w:g.count cj<2:=by refine R mD ?_;decide
 refine hF λM=>?_;obtain⟨Iv,mk,el⟩:∃Iv:Z->Qh->Prop,(∀a0 m a3 v r' a2,a0<=1001->a2.length+a0<=1001->St a e g l (Qx be dq ap c) du r' v (cY loc bz) m->dT a g r' m.heap cg X a3->aQ a e g [X,cj,ap] b d r' v m->AccAt a g r' m.heap cj a2->(bW (bD i gq bz g9 loc) cg a0 a3 v).bind (λq=>.ok (a2++q.1,q.2))=I->Iv a0 m)/\
   ∀a0 m,Iv a0 m->∀a5:Prop,(∀a3 v r' a2,a0<=1001->a2.length+a0<=1001->St a e g l (Qx be dq ap c) du r' v (cY loc bz) m->dT a g r' m.heap cg X a3->aQ a e g [X,cj,ap] b d r' v m->AccAt a g r' m.heap cj a2->(bW (bD i gq bz g9 loc) cg a0 a3 v).bind (λq=>.ok (a2++q.1,q.2))=I->a5)->a5:=
  ⟨λa0 m=>∀a5:Prop,(∀a3 v r' a2,a0<=1001->a2.length+a0<=1001->St a e g l (Qx be dq ap c) du r' v (cY loc bz) m->dT a g r' m.heap cg X a3->aQ a e g [X,cj,ap] b d r' v m->AccAt a g r' m.heap cj a2->(bW (bD i gq bz g9 loc) cg a0 a3 v).bind (λq=>.ok (a2++q.1,q.2))=I->a5)->a5,λa0 m a3 v r' a2 L E A e9 D r o a5 Y=>Y a3 v r' a2 L E A e9 D r o,λa0 m Y=>Y⟩
 refine M (mE Iv (λa0 m d5=>?_) a0 (mk _ _ a3 k b [] hk (by simpa using hk) n it (.refl n.inv) a2 ?_))
 ·refine el _ _ d5 _ λi' v r' a8 c6 ha a7 a9 o' ac a4=>?_
  clear d5
  induction a0 using Vn with
  |zero=>exact Qp a4.symm t
  |succ H=>
   rw[NW] at a4;refine oA (cg.at i' v) (λea=>?_) (λov ea=>?_);·rw[ea] at a4;exact Qp a4.symm t
   ·rw[ea] at a4
    refine nI hh a7.inv a9 ea λs1 o1=>?_
    have eE:=a7.KX p o1 hI a9.one
    have c2:=ac.on a7.inv y w o1 (λH=>c1 (UZ.mp H).symm) (λL H=>by exact R (UZ.mp H) (.inl a9.mem))
    have d7:=o'.trans (o1.inc (fr':=[X,cj,ap]) λA H=>by exact R (UZ.mp H) (.head _))
    induction ov using U0 with
    |none=>rw[Res.aP,VQ] at a4;exact hQ _ a8 v r' _ _ a4.symm d7 c2 eE
    |some d3=>
     dsimp only at a4⊢;intro v' hv d6;refine hF λd1=>rB d6.src λa1 U U d4=>d1 (rX d4 (hF λc4=>Fd (bD i gq bz g9 loc d3 v) (λq j=>?_) (λK H2 j=>?_) (λj=>?_)))
     ·obtain⟨ox,H2⟩:=q
      rw[j,Res.aP] at a4
      unfold bD at j
      induction eb:gY loc bz d3 using U0 with
      |none=>replace j:=eb▸j;cases j
      |some l'=>
       replace j:=eb▸j
       dsimp only at j
       refine aM (vi j) λbP e3 j=>?_
       obtain⟨A,H3⟩:=bP
       refine c4 ?_
       refine DE hh tg p eE hv (by refine vg.trans ?_;exact eb) λs2 o2 dJ=>?_
       have f2:∀L∈[ap],L∈g\/s1.heap.get? L=N:=λL H=>.inl ((p.hU) L (R (UZ.mp H) (.head _)))
       have d9:=d7.trans (o2.inc (fr':=[X,cj,ap]) λA H=>by exact R (UZ.mp H) (.tail _ (.tail _ (.head _))))
       refine hC.run p dJ e3 λC s3 o3=>hF λd2=>?_
       have a6:=dJ.on p o3
       have c5:=(c2.on eE.inv y w o2 (λH=>hD (R (UZ.mp H) (.head _))) f2).on dJ.inv y w o3 (λH=>nomatch H) λU H=>nomatch H
       have c8:=(d6.on eE.inv o2 (λH=>hI (R (UZ.mp H) (.head _))) f2).on dJ.inv o3 (λH=>nomatch H) λU H=>nomatch H
       have d0:=d9.trans (o3.wide (fr:=[X,cj,ap]))
       have d8:∀{b:cS} {k:AH} {d:Qh},St a e g l (Qx be dq ap c) du b k l' d->St a e g l (Qx be dq ap c) du b k (cY loc bz) d:=λY=>by exact R (vh eb).symm ⟨Y.inv,Y.eW.clear,Y.live⟩
       clear m a7 a9 o' ac ea o1 d1 d4 c4 e3 o2 dJ eE c2 f2 el
       induction A using U6 with
       |false=>obtain⟨rfl,rfl⟩:=rM j;refine d2 (ba H (VU H) (mk _ _ (i'+1) H3 C a8 (YY c6) (uD ha rfl) (d8 a6) c8 d0 c5 ?_));dsimp only at a4;refine R a4.symm ?_;cases bW (bD i gq bz g9 loc) cg H (i'+1) H3<;>rfl
       |true=>
        refine d2 (hF λe0=>aM (vi j) λcQ e4 j=>?_);obtain⟨c3,H4⟩:=cQ;obtain⟨rfl,rfl⟩:=rM j;refine e0 ?_;refine Qq (hE g C H3 s3 l' p a6 (by refine R e4 ?_;nofun)) (λx' T q=>?_) λU U q=>by exact cN q λK v e1 U=>nX (e4▸e1)
        refine eM q λx0 H5 r4 e5 o4 vx=>?_;replace e5:=e4.symm.trans e5;obtain⟨rfl,rfl⟩:=rM e5;have b9:=a6.on p o4;have e8:=d0.trans (o4.wide (fr:=[X,cj,ap]));refine cN (c5.on a6.inv y w o4 (λH=>nomatch H) λU H=>nomatch H) λe7 nn o va=>?_;have hz:a8.length=e7.size:=by exact va.len.trans U'
        refine T' o (λh' sb G=>?_) (by have:Q2=_:=Q';exact hz▸n3 (U9 (Vu ..) ha) rfl);have P:∀E z,E∉[cj]->T.heap.get? E=S z->h'.get? E=S z:=λE z q Y=>(sb.2 E (λY=>q (R Y (.head _)))).trans Y;have fl:∀D∈l,∀x,D.frame=S x->x∉[cj]:=λD H x q Y=>by refine b9.live.el H λU L' U U U r A U U U=>?_;replace r:=q.symm.trans r;cases r;rw[UZ.mp Y,mD] at A;exact Vk _ A
        have c9:=b9.part (own:=g) (fs:=[cj]) (tk:=T.toks) p b9.live P (λL H=>by exact R (UZ.mp H) y) (λE H=>⟨H,λq=>by refine R (UZ.mp q) ?_;exact⟨_,G⟩⟩) (λL H q=>hD (R (UZ.mp q).symm H)) fl;have o5:aQ a e g [cj] r4 T r4 H4 {T with heap:=h'}:=.mk' (tk':=T.toks) c9.inv ⟨λE B e1 e2 r=>⟨e2,B,P E B r e1,.refl B⟩⟩ (.refl r4);have S5:∀L B,Sf T.heap r4 g L B->Sf h' r4 g L B:=λE B Y=>⟨P E B (λH=>Y.2.2 (R (UZ.mp H) y)) Y.1,Y.2⟩;refine ba H (VU H) (mk _ _ (i'+1) H4 r4 (a8++[c3]) (YY c6) (by refine R U7 ?_;exact U9 (Vq (WV ..)) ha) (d8 c9) ((c8.on a6.inv o4 (λH=>nomatch H) λU H=>nomatch H).on b9.inv o5 (λH=>c1 (UZ.mp H)) λL H=>by rw[UZ.mp H];exact .inl y) (e8.trans (o5.inc λA H=>by rw[UZ.mp H];exact .tail _ (.head _))) (eP _ _ G ?_) ?_);·have:=(va.mono S5 (.refl r4)).append (.cons (vx.mono S5 (.refl r4)) .nil);simpa using this
        ·dsimp only at a4
         rw[<-a4]
         cases bW (bD i gq bz g9 loc) cg H (i'+1) H4 with
         |ok q=>show Res.ok _=Res.ok _;simp
         |exc _ _=>rfl
         |bad=>rfl
     ·unfold bD at j;split at j;·cases j
      ·rename_i q;generalize (Res.bind _ _:Res (O Q×AH))=Y at j;induction Y using Zq<;>cases j
     ·rw[j] at a4;exact t a4.symm
 ·rw[ev]
  clear M a0 a3 a2 y w hh hE hC tg p hI hD mD c1 hk n it ev hQ
  induction I using Zq with
  |ok q=>rfl
  |exc _ _=>rfl
  |bad=>exact bX t
structure wC(w:Qr)(g₀:Qb)(own:V Qa)(l:V Qo)(env:Qo)(scope:Rc)(cl:V (Qc×Qa))(sl sl':V (O Qc))(loc:Loc)(r:cS)(H:AH)(s:Qh)(oI:Qs)(I D C:Qa)(ts:V Z)(h':Qb):Prop where
 Ac:cX own ([I,D,C]++own) [] ([I,D,C]++[]) s.heap h'
 eo:bt ([I,D,C]++own) (Qx scope cl C env) sl'
 st:∀tk,St w g₀ ([I,D,C]++own) l (Qx scope cl C env) sl' r H (cY loc ts) {s with heap:=h',toks:=tk}
 Ov:∀tk,St w g₀ ([I,D,C]++own) l env sl r H loc {s with heap:=h',toks:=tk}
 it:h'.get? I=S oI
 acc:h'.get? D=S (listOf #[] 0)
 new:∀b∈[I,D,C],s.heap.get? b=N
 nd:[I,D,C].Nodup
 IY:∀b∈[I,D],b∉bJ (Qx scope cl C env)
theorem lK{sl:V (O Qc)}{sl':V (O Qc)}{s:Qh}{loc:Loc}{ts:V Z}{acc0:P'}{R:P'->Qa->Q9->Qh->Prop}(c1:pb.isFreed=P8)(q:∀{Y:P'->Qh->Prop} {s':Qh} {t:P'->Qh->Prop},s'.heap.get? s.heap.objs.size=S pb->Y (.ref s.heap.objs.size) s'->Qf (Qe h a) f (SX (.ref s.heap.objs.size)) Y t s')(cs:Fg be c sl sl' ts)(p:bt g c sl)(n:St a e g l c sl b k loc s)(G:∀I A,dq.lookup I=S A->c.cells.lookup I=S A)(h2:∀L∈dq.map (·.2),L∈c.cells.map (·.2))(h3:∀I,(I,Wq)∈be.names->∃A,dq.lookup I=S A)
  (hR:∀a3 a2 U h' B,wC a e g l c be dq sl sl' loc b k s pb a3 a2 U ts h'->a3=s.heap.objs.size->
   QL (Qe h a) f (.compLoop (.ListComp p9 [⟨io,jp,j8,0⟩] be J) 0 (.ref a3) (.ref a2) (Qx be dq U c)) (R (.ref a2) U) {s with heap:=h',toks:=B}) :
  Qf (Qe h a) f (newList []) (λa6 c3=>Qf (Qe h a) f (TF be c.globals dq [] c.qual N .none (S c)) (λa7 a9=>
   QL (Qe h a) f (.compStart (.ListComp p9 [⟨io,jp,j8,0⟩] be J) 0 (.ref s.heap.objs.size) a6 {a7 with scope:=relabel be c}) (R a6 a7.locals) a9) t c3) t {s with heap:=s.heap.push pb}:=by
 refine Ru (wpAny_newFunctionEnv cs.cell (by intro a5 hy;simp at hy) (λv x y=>?_) cs.kind);dsimp only at x y;generalize w:s.heap.push pb=a0 at x y⊢;generalize i:a0.push {cls:=.type "list",dict:=N,data:=.seq ([]:V P').toArray}=j at x y⊢;have z1:a0.objs.size=s.heap.objs.size+1:=by rw[<-w];exact(YA ..)
 have d:j.objs.size=s.heap.objs.size+2:=by rw[<-i,YA,z1]
 have K:∀E z,E≠j.objs.size->j.get? E=S z->v.get? E=S z:=λE z M D=>(y.2 E M).trans (U2 _ D);have gI:=K _ _ (by rw[d];exact LI rfl) (by rw[<-i];exact U2 _ (by rw[<-w];exact Vs _ c1));have gD:v.get? a0.objs.size=S (listOf #[] 0):=K _ _ (by rw[z1,d];exact MQ rfl) (by rw[<-i];exact Vs _ rfl);have P:∃z,v.get? j.objs.size=S z:=by obtain⟨z,_,_,o,_⟩:=x;exact⟨z,o⟩
 have a4:∀E∈[s.heap.objs.size,a0.objs.size,j.objs.size],s.heap.get? E=N:=λE H=>V6 (by
  simp only[U4,VT,RH] at H;rcases H with rfl|rfl|rfl;·exact VB _
  ·rw[z1];exact VK _
  ·rw[d];exact Vu _ _)
 have nd:[s.heap.objs.size,a0.objs.size,j.objs.size].Nodup:=by rw[z1,d];simp
 have X:=cX.more (own:=g) (fr:=[]) (ns:=[s.heap.objs.size,a0.objs.size,j.objs.size]) a4 nd (λE z D=>K E z (by rw[d];exact Wj (Vh (VV D) (Vu _ _))) (by rw[<-i];exact U2 _ (by rw[<-w];exact U2 _ D)));have no:=λE H=>(eT p n.inv (a4 E H)).1;have b9:bt ([s.heap.objs.size,a0.objs.size,j.objs.size]++g) (Qx be dq j.objs.size c) sl':=⟨cs.kind,p.glob,p.blt,.tail _ (.tail _ (.head _)),λI A D=>⟨X.sub _ (p.mW I A (G I A D)).1,λM=>no A (by rw[M];exact .tail _ (.tail _ (.head _))) (p.mW I A (G I A D)).1⟩,λL H=>X.sub _ (p.Dd L (h2 L H)),λI a5 A T m=>p.inj I a5 A (G I A T) (G a5 A m),cs.inj,λa1 I D M=>h3 I (mem_of_lookup (zr cs.cell M))⟩;have dJ:∀B,St a e ([s.heap.objs.size,a0.objs.size,j.objs.size]++g) l c sl b k loc {s with heap:=v,toks:=B}:=λB=>n.dS X.new X.le X.hs λE H=>by
  rcases Vd.mp H with H|H
  ·simp only[U4,VT,RH] at H;rcases H with rfl|rfl|rfl;·exact⟨_,gI⟩
   ·exact⟨_,gD⟩
   ·exact P
  ·exact n.inv.Jr X.hs H
 have a8:wC a e g l c be dq sl sl' loc b k s pb s.heap.objs.size a0.objs.size j.objs.size ts v:=by
  refine⟨X,b9,λB=>⟨(dJ B).inv,⟨(ba _ x (λa1 I C T m e3=>?_)),λI A D=>?_,by rw[kJ,n.eW.len,cs.len]⟩,(dJ B).live⟩,dJ,gI,gD,a4,nd,λE H M=>?_⟩
  ·rcases cs.slot a1 I T with⟨H,_⟩|⟨_,_,M⟩;·exact Qp H (iD m).2
   ·replace M:=(rW e3).symm.trans M;exact nomatch M
  ·refine aM ((dJ B).eW.mW I A (G I A D)) λov hc hm=>ba ov hc (λa1 C T m e3=>?_);refine hF λc2=>?_;rcases cs.slot a1 I T with⟨H,_⟩|⟨_,q1,q2⟩;·exact Qp H (iD m).2
   ·exact c2 (hm a1 C q1 (iD m).1 (cs.GJ I (mem_of_lookup q2)).1)
  ·rcases U4.mp M with M|M
   ·have:E≠j.objs.size:=by
     simp only[U4,VT,RH] at H;rcases H with rfl|rfl;·rw[d];exact LI rfl
     ·rw[z1,d];exact MQ rfl
    exact this M
   ·exact no E (by simp only[U4,VT,RH] at H⊢;rcases H with H|H;exact .inl H;exact .inr (.inl H)) (p.Dd E (h2 E M))
 have r:QL (Qe h a) f (.compLoop (.ListComp p9 [⟨io,jp,j8,0⟩] be J) 0 (.ref s.heap.objs.size) (.ref a0.objs.size) (Qx be dq j.objs.size c)) (R (.ref a0.objs.size) j.objs.size) {s with heap:=v,toks:=s.toks+([]:V (Qc×P')).length}:=hR _ _ _ _ _ a8 rfl;exact codeAny_compStart_list r (q gI r)
theorem vj{D:Loc}(x:wC a e g l c be dq j du w b k d pb X cj ap bz rd)(p:bt g c j)(L:Inv a e g b k d.heap)(z:aQ a e ([X,cj,ap]++g) [X,cj,ap] b {d with heap:=rd,toks:=jj} aq cu ay)(f:AccAt a ([X,cj,ap]++g) aq ay.heap cj ms)(n:St a e ([X,cj,ap]++g) l (Qx be dq ap c) du aq cu D ay)(s:VP ap ay.heap mn) :
  aQ a e g [] b d aq cu {ay with heap:=mn}/\VR a.params (Sf mn aq g) aq (.lst ms) (.ref cj):=by
 have h:=λE H=>(eT p L (x.new E H)).1;have P:∀E B,E∉[ap]->ay.heap.get? E=S B->mn.get? E=S B:=λE B q Y=>(s.2 E (λY=>q (R Y (.head _)))).trans Y;have m:∀E∈[ap],E∈[X,cj,ap]++g:=λE H=>by exact R (UZ.mp H) (.tail _ (.tail _ (.head _)))
 refine cN f λv y o C=>?_;have A:=x.nd;simp only[Vl,U4,VT,RH,Rn] at A;refine⟨⟨?_,(n.inv.part P m λE H=>⟨x.Ac.sub E H,λq=>Qp H (h E (by refine R (UZ.mp q) ?_;exact .tail _ (.tail _ (.head _))))⟩),x.Ac.keep (z.keep.trans ?_),z.le⟩,.lst _ _ v y (gZ (P cj _ (λH=>A.2.1 (UZ.mp H)) o) ((n.inv.off cj (Vc _ (.tail _ (.head _)))).1) (h cj (.tail _ (.head _)))) (C.mono (λE B Y=>⟨P E B (λH=>Y.2.2 (m E H)) Y.1,Y.2.1,λH=>Y.2.2 (x.Ac.sub E H)⟩) (.refl aq))⟩;·exact rC z.eq λt i bP=>R bP (z8 mn i rfl)
 ·exact⟨λE B T y r=>⟨y,B,P E B (λH=>r (R (UZ.mp H) (.tail _ (.tail _ (.head _))))) T,.refl B⟩⟩
set_option maxHeartbeats 2000000 in
theorem vl(D:srcOf k bg=S (cg,H)):H<1000:=by
 induction bg using Zp with
 |lst w=>exact dB D (λB D=>Ve (Vq (Ql QU.snd (sX D)).symm) (Qj B)) λU D=>nX D
 |aE q=>exact lI D λw U D=>dB D (λB D=>Ve (Vq (Ql QU.snd (sX D)).symm) (Qj B)) λU D=>nX D
 |_=>exact nX D
theorem SE.comp{a9:Z}(R:bA N a9 f l)(ih:SE h a e l c j f i oj jp)(P:fo jp=P8)(cs:Fg be c j du bz)(v:DC du be bz io)
  (hE:∀T U,SE h a e l (Qx be T U c) du f i gq s) (M:∀T U,GL h a e l (Qx be T U c) du f i g9 j8):SE h a e l c j f i (.comp gq bz oj g9) (.ListComp s [⟨io,jp,j8,0⟩] be J):=by
 intro b x y d a0 p st t;have ev:aO i (.comp gq bz oj g9) a0 y=(aO i oj a0 y).bind λx=>match srcOf x.2 x.1 with|none=>.bad|some d=>(bW (bD i gq bz g9 a0) d.1 (d.2+1) 0 x.2).bind λq=>.ok (.lst q.1,q.2):=by rfl
 rw[ev] at t⊢;refine Ar (cs.GK p) λT I h1 h2 h3=>Um (use:=N) rfl (λa6=>gG P a6) I cs.kind cs.loc ((ih b x y d a0 p st).dX (.refl st.inv) (λL z X G va e1 o1 ε r D=>?_) t);rw[e1,Res.aP];induction n:srcOf z L using U0 with
 |none=>exact bX (n▸D)
 |some q=>
  obtain⟨a1,H⟩:=q;replace D:=n▸D;dsimp only at D;refine aM (jR r n) λa' cQ sa=>?_;clear I e1 r ev t ih P;subst cQ;refine cN (sa.items o1.inv) λa8 n' o ε=>TC (bb o) (lK (R:=λa4 U=>compPost (Qe h a) f (EE a e b l ((bW (bD i gq bz g9 a0) a1 (H+1) 0 z).bind λq=>.ok (Q.lst q.1,q.2)).x? x d) N (QQ a e b (pT a) [] ((bW (bD i gq bz g9 a0) a1 (H+1) 0 z).bind λq=>.ok (Q.lst q.1,q.2)) x d) a4 U) (acc0:=.none) (sl:=j) (sl':=du) (ts:=bz) (loc:=a0) rfl (λo q=>US (mU _ o rfl rfl) q) cs p (st.on p o1) h1 h2 h3 λk E U h' B g hI=>?_);have A:=g.nd;have no:=λa5 H=>Vp (eT p o1.inv (g.new a5 H)).1;have a2:=A;simp only[Vl,U4,VT,RH,Rn] at a2;have C:([k,E,U]++b).count k=1:=by refine Vy.trans ?_;rw[no k (by simp)];refine A.count.trans ?_;simp
  have w:([k,E,U]++b).count E=1:=by rw[Vy,no E (by simp),A.count];simp
  have oj:dT a ([k,E,U]++b) X ({G with heap:=h',toks:=B}:Qh).heap a1 k 0:=⟨(mU a' (sa.mono (λL b9 Y=>(Y.dS g.Ac.new).grow g.Ac.hs) (.refl _)) (λq=>by rw[q,g.new k (.head _)] at o;exact nomatch o) (mU _ g.it rfl rfl)),C⟩;refine sH (loc:=a0) R.handled (hE T U) (M T U) v g.eo (g.IY k (.head _)) (g.IY E (.tail _ (.head _))) w a2.1.1 _ (λq=>D (by rw[q];rfl)) (V2 (vl n)) (g.st B) oj (eP _ _ g.acc .nil) rfl λa7 vs H2 r2 c1 s2 m o2 ac dJ=>?_;refine hF λa3=>aM dJ.eW.ns λmm K ε=>a3 (ba mm K (λh2 sb=>?_));refine bT (vj g p o1.inv o2 ac dJ sb) λo3 v3=>?_;rw[m];exact oS _ _ r2 rfl (o1.trans o3) v3
theorem St.Ow{P:V Qa}(n:St a e g l c j b k w d)(p:bt g c j)(z:aQ a e g P b d aq cu ay)(h1:∀L∈bJ c,L∉P)(h2:∀D∈l,∀x,D.frame=S x->x∉P)(J:∀L∈P,L∈g):St a e g l c j aq cu w ay:=by
 have a0:∀L z,Sf d.heap b g L z->Sf ay.heap aq g L z:=λL B Y=>z.sf (λL H=>.inl (J L H)) Y;refine⟨z.inv,⟨?_,λI A D=>?_,n.eW.len⟩,⟨λD H=>?_⟩⟩;·refine aM n.eW.ns λH bP X=>hF λa3=>eM bP λB h ep o y Y=>z.keep.el o (n.inv.off _ p.loc).1 (h1 _ (.head _)) λU f G q=>a3 (ba H (oS f h ep G (q.data.trans y) Y) (λv I C T m M=>?_));exact aM (X v I C T m M) λt L E=>ba t L (E.mono a0 z.le)
 ·refine aM (n.eW.mW I A D) λov cQ X=>hF λi=>aM cQ λB o y=>z.keep.el o (n.inv.off _ (p.mW I A D).1).1 (h1 _ (.tail _ (lookup_mem D))) λU f G q=>i (ba ov (ba f G (q.data.trans y)) (λv C T m M=>?_));exact hF λa1=>aM (X v C T m M) λt L E=>a1 (ba t L (E.mono a0 z.le))
 ·refine n.live.el H λX x B h a2 r m1 K o y=>hF λs=>z.keep.el o (n.inv.off x (Vz.mp (n4 m1 rfl))).1 (h2 D H x r) λU f G Y=>?_;exact s ⟨X,x,f,h,a2,r,m1,K,G,Y.data.trans y⟩
set_option maxHeartbeats 2000000 in
theorem SS.L2{c1:Z}{it:LE}(R:bA N c1 f (c :: o))(ih:SE h a e (c :: o) c j f i it jp)(P:fo jp=P8)(cs:Fg be c j du bz)(tg:DC du be bz io)
  (hE:∀T U,SE h a e (c :: o) (Qx be T U c) du f i gq s) (M:∀T U,GL h a e (c :: o) (Qx be T U c) du f i g9 j8) (hj:j[K]? = S (S r)) (hk:c.kindOf r=S .local)
  (a9:Q5 (.ListComp s [⟨io,jp,j8,0⟩] be re) (S (.Name r fu)) J.line c=pure P4):SS h a e o c j f i (.asg K (.comp gq bz it g9)) (.Assign [.Name r fu] (.ListComp s [⟨io,jp,j8,0⟩] be re) J):=λb x y d g p st t=>by
 have ev:dK i (.asg K (.comp gq bz it g9)) g y=(aO i it g y).bind λx=>match srcOf x.2 x.1 with|none=>.bad|some d=>(bW (bD i gq bz g9 g) d.1 (d.2+1) 0 x.2).bind λq=>.ok (.next,g.set K (S (AV.lst q.1)),q.2):=by
  refine th.trans ((bL xG).trans ?_)
  cases aO i it g y with
  |ok q=>
   dsimp only[Res.aP]
   cases srcOf q.2 q.1 with
   |none=>rfl
   |some Y=>
    show Res.bind (Res.bind (bW (bD i gq bz g9 g) Y.1 (Y.2+1) 0 q.2) _) _=Res.bind (bW (bD i gq bz g9 g) Y.1 (Y.2+1) 0 q.2) _
    cases bW (bD i gq bz g9 g) Y.1 (Y.2+1) 0 q.2<;>rfl
  |exc _ _=>rfl
  |bad=>rfl
 rw[ev] at t⊢;refine Ar (cs.GK p) λT I G h2 h3=>?_;rw[exec_Assign_Name_used _ _ _ _ a9];refine P7 (QW (P7 ?_));refine P7 (Qq (Q:=λε m=>QS a e b (bJ c) o c j ((aO i it g y).bind λx=>match srcOf x.2 x.1 with|none=>Res.bad|some d=>(bW (bD i gq bz g9 g) d.1 (d.2+1) 0 x.2).bind λq=>Res.ok (Fl.next,g.set K (S (AV.lst q.1)),q.2)) x d .next m) (Um (use:=S (RS (.Name r fu) c)) (Q:=λε m=>QS a e b (bJ c) o c j ((aO i it g y).bind λx=>match srcOf x.2 x.1 with|none=>Res.bad|some d=>(bW (bD i gq bz g9 g) d.1 (d.2+1) 0 x.2).bind λq=>Res.ok (Fl.next,g.set K (S (AV.lst q.1)),q.2)) x d .next m) rfl (λd1=>gG P d1) I cs.kind cs.loc ?_) (λε m q=>Qg (Qg q)) λε ε a1=>a1);refine(ih b x y d g p st).fC R st.live p.hU (.refl st.inv) (λL H1 r1 s1 va e1 o1 pp v1 D=>?_) t;rw[e1,Res.aP];induction er:srcOf H1 L using U0 with
 |none=>exact bX (er▸D)
 |some q=>
  obtain⟨c6,H⟩:=q;replace D:=er▸D;dsimp only at D⊢;generalize a4:((bW (bD i gq bz g9 g) c6 (H+1) 0 H1).bind λq=>Res.ok (Fl.next,g.set K (S (AV.lst q.1)),q.2))=c5 at D⊢;refine aM (jR v1 er) λa' eA sa=>?_;clear t I v1 ev ih P a9;subst eA;refine cN (sa.items o1.inv) λd2 n' a2 ε=>TC (bb a2) ?_;have X:=st.on p pp;refine lK (R:=λc8 U=>compPost (Qe h a) f (ES a e b (Qe h a) f (bJ c) o c c5.x? x d) (S (RS (.Name r fu) c)) (λε m=>QS a e b (bJ c) o c j c5 x d .next m) c8 U) (acc0:=.none) (sl:=j) (sl':=du) (ts:=bz) (loc:=g) rfl (λa2 q=>US (mU _ a2 rfl rfl) q) cs p X G h2 h3 λk E U h' tk ci hI=>?_;have nd:=ci.nd;have n:=λa0 H=>(eT p o1.inv (ci.new a0 H)).1;have no:=λa0 H=>Vp (n a0 H);have z:=nd;simp only[Vl,U4,VT,RH,Rn] at z;have C:([k,E,U]++b).count k=1:=by refine Vy.trans ?_;rw[no k (by simp)];refine nd.count.trans ?_;simp
  have w:([k,E,U]++b).count E=1:=by refine Vy.trans ?_;rw[no E (by simp)];refine nd.count.trans ?_;simp
  have it:dT a ([k,E,U]++b) r1 ({s1 with heap:=h',toks:=tk}:Qh).heap c6 k 0:=⟨(mU a' (sa.mono (λL d3 Y=>(Y.dS ci.Ac.new).grow ci.Ac.hs) (.refl _)) (λq=>by rw[q,ci.new k (.head _)] at a2;exact nomatch a2) (mU _ ci.it rfl rfl)),C⟩;refine sH (loc:=g) R.handled (hE T U) (M T U) tg ci.eo (ci.IY k (.head _)) (ci.IY E (.tail _ (.head _))) w z.1.1 _ (λq=>D (by refine a4.symm.trans ?_;exact(bL q).trans rfl)) (V2 (vl er)) (ci.st tk) it (eP _ _ ci.acc .nil) rfl λa7 vs H2 r2 d4 s2 e2 o2 ac dJ=>?_;rw[e2] at a4;have c9:=p.dS ci.Ac.sub;have fl:=λa1 H a3 q Y=>n a3 Y (X.live.GD a1 H a3 q);have v:∀L∈[U]++b,L∈[k,E,U]++b:=λL H=>(Vd.mp H).elim (λH=>by rw[UZ.mp H];exact .tail _ (.tail _ (.head _))) λH=>Vf _ H;refine cN ac λc4 nn gD va=>?_;refine S7 (fG (j:=K) (fr:=bJ c) (p.dS λL H=>Vf _ H) (((ci.Ov tk).Ow c9 o2 (λL H q=>n L q (p.hU L H)) fl λL H=>Vc _ H).back v (X.live.dS (λa0=>by rw[Vy];exact V4 _ _) λε ε a1=>a1)) nH.all hj (.inl hk) (.lst _ _ c4 nn (gZ gD ((dJ.inv.off E (.tail _ (.head _))).1) (λH=>(Vd.mp H).elim (λH=>z.2.1 (UZ.mp H)) (n E (.tail _ (.head _))))) (va.mono (λε ε Y=>Y.back v) (.refl r2))) λs3 o3 c3=>?_);refine hF λa6=>aM dJ.eW.ns λl eZ ε=>Aa eZ λoC b9 c2 gC dC=>?_;have CI:=λH=>n U (.tail _ (.tail _ (.head _))) (p.hU U H);clear st G h2 h3 va pp D sa n' a2 hI e2 ac c4 nn gD eZ nd no z C w it v R cs tg hE M hj hk;refine o3.keep.el gC (dJ.inv.off U (.tail _ (.tail _ (.head _)))).1 CI λε d0 c7 zC=>a6 (ba l (oS d0 b9 c2 c7 (zC.data.trans dC.1) dC.2) (λh4 sb=>?_));have a8:∀a0 B,a0∉[U]->s3.heap.get? a0=S B->h4.get? a0=S B:=λa0 B q Y=>(sb.2 a0 (λY=>q (by rw[Y];exact .head _))).trans Y;have a5:St a e b (c :: o) c j r2 H2 (g.set K (S (.lst vs))) {s3 with heap:=h4}:=c3.part (own:=b) (fs:=[U]) (tk:=s3.toks) p X.live a8 (λL H=>Vc _ H) (λa0 H=>⟨Vf _ H,λq=>Qp H (n a0 (by rw[UZ.mp q];exact .tail _ (.tail _ (.head _))))⟩) (λL H q=>CI (by rw[<-UZ.mp q];exact H)) λa1 H a3 q Y=>fl a1 H a3 q (by rw[UZ.mp Y];exact .tail _ (.tail _ (.head _)));refine jN .next _ H2 r2 a4.symm (o1.trans ⟨?_,a5.inv,?_,o2.le.trans o3.le⟩) a5 trivial;·refine rC o2.eq λh5 t5 g6=>?_;clear x d p o1 dJ c3 a6 oC b9 c2 gC dC sb X n fl CI a5 zC;subst g6;refine rC o3.eq λh6 t6 lR=>?_;subst lR;exact z8 h4 t6 rfl
  ·have k1:eY ([k,E,U]++b) ([k,E,U]++bJ c) r1 h' r2 s2.heap:=o2.keep.less (λA H=>.inl (Vc _ H)) λε H=>.inl H;have k2:eY ([k,E,U]++b) ([k,E,U]++bJ c) r2 s2.heap r2 s3.heap:=o3.keep.less (λA H=>.inl (Vf _ H)) λA H=>.inl (by rw[Vy] at H⊢;have:V.count A [U]<=V.count A [k,E,U]:=V.Sublist.count_le A (((V.Sublist.refl _).cons _).cons _);exact U9 H (Wz this _));exact(cX.more ci.new ci.nd ci.Ac.hs).keep (k1.trans (k2.trans (⟨λa0 B e1 c1 a7=>⟨c1,B,a8 a0 B (λH=>a7 (by rw[UZ.mp H];exact .tail _ (.tail _ (.head _)))) e1,.refl B⟩⟩)))
theorem GN(o:d.heap.get? A=S (bM C dw)):d.TypeIs (.ref A) "dict":=(ba _ o rfl)
theorem yi(i:(A==RC)=P8)(o:d.heap.get? A=S (bM C dw))
  (X:am (.ref d.heap.objs.size) {d with heap:=d.heap.push {cls:=.type "dict_keyiterator",data:=.fields #[.ref A,.int 0 0,.int C.size 0,.int dw 0]}}):Qf (Qe h a) f (SX (.ref A)) am t d:=by have b:=GN o;refine Ub b PySem.F.slot_dict_iter (Q3 PySem.F.slot_dict_iter b PySem.F.entry_dict_iter ?_ (PySem.F.args_dict_iter_1 _));refine P7 ?_;refine P7 (T1 b ?_);refine Qg ?_;show Qf _ _ (QM.Dict.showsAll A >>= _) _ _ d;unfold QM.Dict.showsAll;refine R (Qm (by refine R i ?_;exact Vm)) ?_;refine P7 (Qg ?_);refine P7 (R1 o rfl ?_);refine P7 (Uo o rfl ?_);refine P7 (Ru (Qg ⟨_,rfl,"dict_keyiterator",_,(ba _ (Vs _ rfl) rfl),PySem.F.slot_dict_keyiterator_next.lookup,?_⟩));exact X
theorem yj{s:Qh}{en:QD}(G:s.heap.IsKeyIter ff A aj C.size dw)(o:s.heap.get? A=S (bM C dw))(H:C[aj]? = S en)
  (X:∀x,x.IsKeyIter ff A (aj+1) C.size dw->VP ff s.heap x->ir (S en.key) {s with heap:=x}):Qf (Qe h a) f (RE (.ref ff)) ir t s:=by refine rB (id G) λz y d b=>?_;refine P7 (RP (Rr (name:=WA "__next__") G.typeIs PySem.F.slot_dict_keyiterator_next (Q3 PySem.F.slot_dict_keyiterator_next G.typeIs PySem.F.entry_dict_keyiterator_next ?_ (PySem.F.args_dict_keyiterator_next_1 _))));refine P7 (Qg ?_);refine P7 ?_;refine P7 ?_;refine P7 (TG G.typeIs (Qg ?_));refine P7 (wpAny_fieldsOf y b ?_);refine R (show QM.Dict_items.ownsTuple "dict_keyiterator"=P8 from rfl) ?_;refine R (Qm (show¬((P'.ref A==P'.none)=P4) from Vm)) ?_;refine P7 (Qg ?_);refine P7 (R1 o rfl ?_);refine R (Qm (by simp)) ?_;refine P7 (Qg ?_);refine P7 (Uo o rfl ?_);refine R (Qm (by simp)) ?_;refine Qg ?_;refine eK (X4.mp H) λj bP=>?_;clear o H;subst bP;dsimp only;refine R (show C[WS (aj:P5)]? = S C[aj] from Wy j) ?_;refine P7 ?_;refine P7 (TG G.typeIs (Qg ?_));refine P7 (UT G.typeIs ?_);show Qf _ _ (setField (.ref ff) 1 (rawInt ((aj:P5)+1)) >>= _) _ _ s;refine P7 (SY y b (Qj rfl) ?_);have c:(s.heap.update ff (Zi (·.setIfInBounds 1 (rawInt ((aj:P5)+1))))).IsKeyIter ff A (aj+1) C.size dw:=(mU _ (Vx _ y (WK (Wu b _))) ((YX ..).trans d) (by refine(Wu b ..).trans ?_;exact rfl));refine P7 (QE ?_);refine P7 (UT (s:={s with heap:=s.heap.update ff (Zi (·.setIfInBounds 1 (rawInt ((aj:P5)+1))))}) c.typeIs ?_);exact Qg (Qg (ba _ rfl (Qg (X _ c (VL ..)))))
theorem A2(I:f.handled=N)(G:d.heap.IsKeyIter ff A aj C.size dw)(o:d.heap.get? A=S (bM C dw))(H:C.size<=aj)
  (X:∀x,(∃z,x.get? ff=S z)->(∀b z,b≠ff->d.heap.get? b=S z->x.get? b=S z)->ir N {d with heap:=x}):Qf (Qe h a) f (RE (.ref ff)) ir t d:=by refine rB (id G) λz y s q=>?_;unfold RE;refine P7 (RP (Rr (name:=WA "__next__") G.typeIs PySem.F.slot_dict_keyiterator_next (Q3 PySem.F.slot_dict_keyiterator_next G.typeIs PySem.F.entry_dict_keyiterator_next ?_ (PySem.F.args_dict_keyiterator_next_1 _))));refine P7 (Qg ?_);refine P7 ?_;refine P7 ?_;refine P7 (TG G.typeIs (Qg ?_));refine P7 (wpAny_fieldsOf y q ?_);refine R (show QM.Dict_items.ownsTuple "dict_keyiterator"=P8 from rfl) ?_;show Qf _ _ (if(P'.ref A==P'.none)=P4 then _ else _) _ _ d;refine R (Qm (show¬((P'.ref A==P'.none)=P4) from Vm)) ?_;refine P7 (Qg ?_);refine P7 (R1 o rfl ?_);refine R (Qm (by simp)) ?_;refine P7 (Qg ?_);refine P7 (Uo o rfl ?_);refine R (Qm (by simp)) ?_;refine Qg ?_;dsimp only;refine R (Qm (WU.mpr (Vg aj))) ?_;refine R (show C[WS (aj:P5)]? = N from Yp H) ?_;dsimp only;refine P7 ?_;refine P7 (TG G.typeIs (Qg ?_));show Qf _ _ (setField (.ref ff) 0 .none >>= _) _ _ d;refine P7 (SY y q (Qj rfl) ?_);show Qf _ _ (newExc (.type "StopIteration") [] >>= _) _ _ _;refine P7 ?_;simp only[newExc,newTuple];refine P7 (Ru ?_ (by size_fits));refine P7 (m:=Sn _ _) (QN (a:=P'.none) (by first|rfl|(rw[Sn];rfl)) ?_);refine Ru ?_ (by size_fits);dsimp only[Ti];refine P7 (Uc ?_);refine R (show f.in1.handled=N from I) ?_;refine P7 (Qg (Ud ?_));refine P7 (RZ (T:="StopIteration") (b:=true) (ba _ (Vs _ rfl) rfl) Ue ?_);refine Qg (X _ ⟨_,U2 _ (U2 _ (Vx _ y (WK (Wu q _))))⟩ λb z M D=>?_);exact U2 _ (U2 _ ((We _ _ (Wd M)).trans D))
theorem yk{es:Qi QD}(G:d.heap.IsKeyIter ff A aj es.size dw)(B:am (.ref ff) d):Qf (Qe h a) f (SX (.ref ff)) am t d:=wpAny_pyIter_keyiter G B
theorem A3(I:f.handled=N)(k y:Qa)(m:y≠k)(j:Qi QD)(r:Z) :
  Walks h a f k [k,y] [k] j.size (λs C=>∃P,j[s]? = S P/\C=P.key) (λs B=>B.IsKeyIter k y s j.size r/\B.get? y=S (bM j r)) where
 sub:=λE w=>by simp at w;simp[w]
 frame:=λU U U n J=>⟨n.1.at λz D=>J k (.head _) z D,J y (.tail _ (.head _)) _ n.2⟩
 item:=λs d Y T g n X=>by refine yj n.1 n.2 (en:=j[s]) (by simp[g]) λx c v=>?_;exact X _ x d.toks (ba _ (by simp[g]) rfl) ⟨c,(v.2 y m).trans n.2⟩ λE z w D=>v.extBut E z (λB=>w (by simp[B])) D
 done:=λd Y T n X=>A2 I n.1 n.2 (VB _) λx U t=>X x d.toks λE z w D=>t E z (λB=>w (by simp[B])) D
 self:=λU U U U n X=>yk n.1 X
theorem rY(G:d.heap.IsKeyIter X A aj C.size dw)(B:ca () d):Qf T f (Sr gb (.ref X) ag) ca t d:=by
 refine rB G λz y s c=>?_;have x:Qf T f (Sr (.List [] ⟨0,0,0,0⟩) (.ref X) ag) ca t d:=by
  induction ag using P'.casesOn with
  |ref E=>refine P7 (Rx y ?_);refine R s ?_;refine R c ?_;show Qf _ _ (if(["enumerate","zip","dict_itemiterator","dict_reverseitemiterator","odict_iterator","itertools.zip_longest","itertools.pairwise"].contains "dict_keyiterator"&&_)=P4 then _ else _) _ _ d;refine R (Qm (Qj rfl)) ?_;exact Qg B
  |_=>exact Qg B
 induction gb using W5<;>first|exact Qg B|exact x
theorem qF(A:Gr v e P cv cx cw)(C:bt g c j)(n:St a e g l c j b k w d)(E:j[K]? = S (S r))(o:c.kindOf r=S .local\/c.kindOf r=S .cell\/c.kindOf r=S .free)
  (U:(r==("__debug__":Qc))=P8) (s:(r==("__classdict__":Qc))=P8) (D:w[K]? = S (S m)) (T:eG k m c9=S bg) (B:∀x,VR a.params (Sf d.heap b g) b bg x->am x {d with toks:=d.toks+1}) :
  Qf (Qe h a) f (PySem.eval (.Attribute (.Name r fu) (sx c9) J) c) am t d:=by
 refine Attribute_any_ (Sb ?_ U) (by refine(UM ..).trans ?_;refine R (iQ rfl) rfl);have L:∀x,VR a.params (Sf d.heap b g) b m x->Qf (Qe h a) f (Sl x (sx c9) P4) am t d:=λx X=>p6 A n.inv X T B;rcases o with o|o;·refine hF λM=>?_;refine aM n.eW.ns λH Y i=>?_;refine hF λa1=>?_;refine aM (i K r m E D o) λx G p=>?_;refine a1 ?_;refine M ?_;exact Sd C.kind o Y G (L _ p)
 ·refine eK (C.has K r E o) λa0 z=>?_;refine aM (n.eW.mW r a0 z) λy I i=>?_;refine aM (i K m E D o) λx cQ p=>?_;clear i A n E U D T B;subst cQ;rcases o with o|o;·exact Uy C.kind o z I (L _ p)
  ·exact Uz C.kind o z I (L _ p) s
theorem A4{f:V (Q×Q)}:∀{w:V Q},kX y f=S w->w.length=f.length/\∀(s:Z) M,f[s]? = S M->∃C,w[s]? = S C/\dR y M.1=S (S C):=by
 induction f with
 |nil=>exact λD=>sX D▸⟨rfl,λs M D=>nX D⟩
 |cons E f k=>
  intro w D
  have D:(match (dR y E.1).bind id,kX y f with|some C,S w=>S (C :: w)|_,_=>N)=S w:=D
  revert D
  induction T:(dR y E.1).bind id using U0 with
  |none=>exact nX
  |some C=>induction m:kX y f using U0 with
   |none=>exact nX
   |some e=>
    intro D
    refine sJ D (bT (k m) λI n=>⟨Ql (· + 1) I,λs M D=>?_⟩)
    induction s using Vn with
    |zero=>exact sJ D (lI T λY l o=>ba C rfl (l.trans (Ql S o)))
    |succ s=>exact n s M D
theorem oW{nn:Z}{I:P'}(p:bt g c j)(n:St a e g l c j b k w d)(o:d.heap.get? cj=S (listOf da nn))(va:bU a.params (Sf d.heap b g) b ms da.toList)(i:VR a.params (Sf d.heap b g) b m I)(hz:ms.length<1002)(y:cj∈g)(cD:g.count cj=1)(hD:cj∉bJ c)
  (X:∀C,(∀E z,E≠cj->d.heap.get? E=S z->C.heap.get? E=S z)->aQ a e g [cj] b d b k C->St a e g l c j b k w C->AccAt a g b C.heap cj (ms++[m])->am .none C):Qf (Qe h a) f (Q4 (.builtin "list.append") [.ref cj,I]) am t d:=by
 have v:ms.length=da.size:=by exact va.len.trans U'
 refine T' o (λJ s G=>?_) (by have:Q2=_:=Q';exact v.symm▸uD hz rfl);have P:∀E z,E∉[cj]->d.heap.get? E=S z->J.get? E=S z:=λE z M Y=>(s.2 E (λY=>M (R Y (.head _)))).trans Y;have fl:∀D∈l,∀x,D.frame=S x->x∉[cj]:=λD H x M Y=>by refine n.live.el H λU K U U U r a0 U U U=>?_;replace r:=M.symm.trans r;obtain rfl:=sX r;rw[UZ.mp Y,cD] at a0;exact Vk _ a0
 have L:=n.part (own:=g) (fs:=[cj]) (tk:=d.toks) p n.live P (λm H=>by exact R (UZ.mp H) y) (λE H=>⟨H,λM=>by refine R (UZ.mp M) ?_;exact⟨_,G⟩⟩) (λm H M=>hD (R (UZ.mp M).symm H)) fl;have A:∀m B,Sf d.heap b g m B->Sf J b g m B:=λE B Y=>⟨P E B (λH=>Y.2.2 (R (UZ.mp H) y)) Y.1,Y.2⟩;refine X _ (λE z M=>P E z λH=>M (UZ.mp H)) (.mk' (tk':=d.toks) L.inv ⟨λE B T q r=>⟨q,B,P E B r T,.refl B⟩⟩ (.refl b)) L (eP _ _ G ?_);have:=(va.mono A (.refl b)).append (.cons (i.mono A (.refl b)) .nil);simpa using this
theorem zu(hu:f.units+64<QG)(hh:f.handled=N)(d5:Gr v e P cv cx cw)(d6:du[K]? = S (S jg))(hx:du[fm]? = S (S lw))(a7:be.names.lookup lw=S .local)(e7:be.names.lookup jg=S .free)(c8:K≠fm)
  (d1:(jg==("__debug__":Qc))=P8) (d2:(jg==("__classdict__":Qc))=P8) (d3:(lw==("__debug__":Qc))=P8) (p:bt g (Qx be dq ap c) du) (hI:X∉bJ (Qx be dq ap c)) (hD:cj∉bJ (Qx be dq ap c)) (M:g.count X=1) (mD:g.count cj=1) (t:X≠cj)
  (ej:w[K]? = S (S m)) (e2:fm<w.length) (ea:eG k m c9=S (.ab H)) (e0:k.D[H]? = S y) (c3:b.D[H]? = S A) (hz:y.length<1000) (lv:bc.length=y.length) (gv:∀(s:Z) q,y[s]? = S q->∃a9,bc[s]? = S a9/\dR y q.1=S (S a9))
  (xd:DictAt a g b d A y C dw bu) (n:St a e g l (Qx be dq ap c) du b k (cY w [fm]) d) (e4:d.heap.IsKeyIter X A 0 C.size dw) (e5:AccAt a g b d.heap cj []) :
  QL (Qe h a) f (.compLoop (.ListComp (.Subscript (.Attribute (.Name jg k9) (sx c9) l8) (.Name lw pw) qe) [⟨.Name lw rt,.Attribute (.Name jg ru) (sx c9) rx,[],0⟩] be J) 0 (.ref X) (.ref cj) (Qx be dq ap c)) (λq s'=>match q with
   |.ok _=>∃d9,aQ a e g [X,cj,ap] b d b k s'/\AccAt a g b s'.heap cj bc/\St a e g l (Qx be dq ap c) du b k d9 s'
   |.error _=>QC) d:=by
 have a4:=Vz.mp (by refine R M ?_;decide)
 have a3:=Vz.mp (by refine R mD ?_;decide)
 have cD:g.count cj<2:=by refine R mD ?_;decide
 have c5:ap∈g:=p.loc
 have i:∀E∈g,A≠E:=λE a0 q=>(n.inv.off E a0).1 (q▸(hX c3))
 have lz:y.length=C.size:=by exact xd.dr.len.trans U'
 have fl:∀(E:Qa),g.count E=1->∀c7∈l,∀x,c7.frame=S x->x∉[E]:=λE cb c7 a0 x q Y=>by refine n.live.el a0 λU L' U U U c9 a1 U U U=>?_;replace c9:=q.symm.trans c9;obtain rfl:=sX c9;rw[UZ.mp Y,cb] at a1;exact Vk _ a1
 refine mE (λa0 s'=>∃s,s+a0=C.size+1/\St a e g l (Qx be dq ap c) du b k (cY w [fm]) s'/\s'.heap.IsKeyIter X A s C.size dw/\s'.heap.get? A=S (bM C dw)/\aQ a e g [X,cj,ap] b d b k s'/\AccAt a g b s'.heap cj (bc.take s)) (λa0 s' e6=>?_) (C.size+1) ⟨0,by exact W7 _,n,e4,xd.obj,.refl n.inv,by exact e5⟩
 refine Od e6 λs hm a2 c2 c1 o' ac=>?_
 have S':∀E B,Sf d.heap b g E B->Sf s'.heap b g E B:=λE B Y=>o'.sf (λE a0=>.inl (by simp only[U4,VT,RH] at a0;rcases a0 with rfl|rfl|rfl<;>assumption)) Y
 by_cases hi:s<C.size
 ·have d4:s<y.length:=lz▸hi;refine hF λg1=>?_;obtain⟨q,eq⟩:∃q,y[s]? = S q:=⟨_,U3 d4⟩;refine yQ ((xd.dr.mono S' (.refl b)).get eq) λkv vv T ok vk U=>?_;have e8:C[s]? = S ⟨jD a q.1,kv,vv⟩:=by simpa using T
  refine aM (gv s q eq) λa9 ev eg=>g1 (yj c2 c1 e8 λG b9 g4=>?_);have a5:∀E z,E∉[X]->s'.heap.get? E=S z->G.get? E=S z:=λE z q Y=>(g4.2 E (λY=>q (R Y (.head _)))).trans Y;have eE:=a2.part (own:=g) (fs:=[X]) (tk:=s'.toks) p a2.live a5 (λm a0=>by exact R (UZ.mp a0) a4) (λE a0=>⟨a0,λq=>by refine R (UZ.mp q) ?_;obtain⟨z,a6,_⟩:=b9;exact⟨z,a6⟩⟩) (λm a0 q=>hI (R (UZ.mp q).symm a0)) (fl X M);have o1:aQ a e g [X] b s' b k {s' with heap:=G}:=.mk' (tk':=s'.toks) eE.inv ⟨λE B T a8 c9=>⟨a8,B,a5 E B c9 T,.refl B⟩⟩ (.refl b);have S1:∀E B,Sf s'.heap b g E B->Sf G b g E B:=λE B Y=>o1.sf (λE a0=>.inl (R (UZ.mp a0) a4)) Y;have D:=ac.on a2.inv a3 cD o1 (λa0=>t (UZ.mp a0).symm) λm a0=>.inl (R (UZ.mp a0) a4);have e3:G.get? A=S (bM C dw):=a5 A _ (λa0=>i X a4 (UZ.mp a0)) c1;refine rY b9 (S7 (qA (j:=fm) (fr:=[ap]) p eE ⟨λU=>.head _,λa1 q=>by replace q:=(dY a7).symm.trans q;cases q⟩ hx (.inl (dY a7)) (vk.mono S1 (.refl b)) λo c4 o2 dJ=>?_));refine Qg ?_;have f2:∀m∈[ap],m∈g\/({s' with heap:=G}:Qh).heap.get? m=N:=λm a0=>.inl (by rw[UZ.mp a0];exact c5);have d0:o.heap.get? A=S (bM C dw):=c4 A _ (λa0=>i ap c5 (UZ.mp a0)) e3;have g3:o.heap.IsKeyIter X A (s+1) C.size dw:=by obtain⟨z,a6,fm⟩:=b9;exact ba z (c4 X z (λa0=>hI (by rw[UZ.mp a0];exact .head _)) a6) fm
  have lj:((cY w [fm]).set fm (S q.1))[K]? = S (S m):=by simp only[cY,Xh,V.foldl_nil];rw[Vv (Wd c8),Vv (Wd c8)];exact ej
  have lx:((cY w [fm]).set fm (S q.1))[fm]? = S (S q.1):=by rw[Wm (by rw[kJ];exact e2)]
  refine Tj (qF d5 p dJ d6 (.inr (kind_free e7)) d1 d2 lj ea λv' hv=>?_);have o3:aQ a e g [] b o b k {o with toks:=o.toks+1}:=.tok dJ.inv;refine Sb ?_ d3;refine hF λd8=>aM (dJ.on p o3).eW.ns λmp hn I=>aM (I fm lw q.1 hx lx (dY a7)) λk' z1 z2=>d8 (Sd p.kind (dY a7) hn z1 (aM (VR.inv hv) λd' bP r=>R bP ?_))
  ·refine sJ (c3.symm.trans r) ?_;have j:DictAt a g b {o with toks:=o.toks+1} A y C dw bu:=⟨d0,xd.dr.mono (λE B Y=>(λE B Y=>o2.sf f2 (S1 E B Y)) E B (S' E B Y)) (.refl b),xd.nd⟩;refine h9 j.is SH.lookup rfl (iN (own:=g) (IT hu rfl) j z2 eg λnn v2 e9=>?_);have o4:aQ a e g [] b o b k {o with toks:=o.toks+1+nn}:=.tok dJ.inv;refine cN ((D.on eE.inv a3 cD o2 (λa0=>hD (by rw[UZ.mp a0];exact .head _)) f2).on dJ.inv a3 cD o4 (λa0=>nomatch a0) λU a0=>nomatch a0) λg5 n2 g2 va=>?_;refine oW p (dJ.on p o4) g2 va e9 (by rw[Wa];exact Ve (Wh ..) (n1 (YP d4 hz) rfl)) a3 mD hD λs5 c6 o5 L d7=>?_;refine⟨a0 - 1,b7 hm hi,s+1,b8 hm hi,?_,?_,c6 A _ (i cj a3) d0,?_,?_⟩
   ·have:cY ((cY w [fm]).set fm (S q.1)) [fm]=cY w [fm]:=by simp only[cY,Xh,V.foldl_nil,Wk]
    rw[<-this];exact⟨L.inv,L.eW.clear,L.live⟩
   ·exact aM g3 λz a6 fm=>ba z (c6 X z t a6) fm
   ·exact(((o'.trans (o1.inc λa1 a0=>by rw[UZ.mp a0];exact .head _)).trans (o2.inc λa1 a0=>by rw[UZ.mp a0];exact .tail _ (.tail _ (.head _)))).trans o4.wide).trans (o5.inc λa1 a0=>by rw[UZ.mp a0];exact .tail _ (.head _))
   ·rw[V.take_add_one,ev];exact d7
 ·refine A2 hh c2 c1 (Wo.mp hi) λG ex hs=>?_;have a5:∀E z,E∉[X]->s'.heap.get? E=S z->G.get? E=S z:=λE z q Y=>hs E z (λY=>q (by rw[Y];exact .head _)) Y;have eE:=a2.part (own:=g) (fs:=[X]) (tk:=s'.toks) p a2.live a5 (λm a0=>by rw[UZ.mp a0];exact a4) (λE a0=>⟨a0,λq=>by rw[UZ.mp q];exact ex⟩) (λm a0 q=>hI (by rw[<-UZ.mp q];exact a0)) (fl X M);have o1:aQ a e g [X] b s' b k {s' with heap:=G}:=.mk' (tk':=s'.toks) eE.inv ⟨λE B T a8 c9=>⟨a8,B,a5 E B c9 T,.refl B⟩⟩ (.refl b);have D:=ac.on a2.inv a3 cD o1 (λa0=>t (UZ.mp a0).symm) λm a0=>.inl (by rw[UZ.mp a0];exact a4);rw[V.take_of_length_le (U9 (Vq (lv.trans lz)) (Wo.mp hi))] at D;exact mU _ (o'.trans (o1.inc λa1 a0=>by rw[UZ.mp a0];exact .head _)) D eE
set_option maxHeartbeats 2000000 in
theorem SE.vals{c8:Z}(hf:c9≠26)(a3:Gr v e P cv cx cw)(R:bA N c8 f l)(cs:Fg be c j du [fm])(hs:j[K]? = S (S jg))(hk:c.kindOf jg=S .local\/c.kindOf jg=S .cell\/c.kindOf jg=S .free)(a5:du[K]? = S (S jg))(H:du[fm]? = S (S lw))(a8:be.names.lookup lw=S .local)(s:be.names.lookup jg=S .free)(c6:K≠fm)
  (I:(jg==("__debug__":Qc))=P8) (M:(jg==("__classdict__":Qc))=P8) (d3:(lw==("__debug__":Qc))=P8) :
  SE h a e l c j f i (.vals (.attr (.var K) c9) fm) (.ListComp (.Subscript (.Attribute (.Name jg k9) (sx c9) l8) (.Name lw pw) qe) [⟨.Name lw rt,.Attribute (.Name jg ru) (sx c9) rx,[],0⟩] be J):=by
 intro b x y d a1 p n t;have hu:f.units+64<QG:=Fc R.units rfl;refine hF λb9=>?_;induction ej:a1[K]? using U0 with
 |none=>exact(t (by refine pk.trans ?_;rw[kE,lH,ej];rfl)).elim
 |some o=>
 refine b9 (hF λc2=>?_);induction o using U0 with
 |none=>exact(t (by refine pk.trans ?_;rw[kE,lH,ej];rfl)).elim
 |some L=>
 have ev:aO i (.vals (.attr (.var K) c9) fm) a1 y=(aG i y L c9).bind λx=>ow x.2 x.1:=by refine pk.trans ?_;refine(bL kE).trans ?_;rw[lH,ej];rfl
 refine c2 ?_;rw[ev] at t⊢;have r:∃C,eG y L c9=S C:=by
  induction q:eG y L c9 using U0 with
  |some C=>exact⟨C,rfl⟩
  |none=>exact yQ (xP q λY=>t (bL Y)) λε ε ε ε Y ε=>(hf Y).elim
 refine eK r λC r=>?_;have er:aG i y L c9=.ok (C,y):=by unfold aG;rw[r]
 rw[er,Res.aP] at t⊢;refine Ar (cs.GK p) λcl a7 G h2 h3=>Um (use:=N) rfl (λC=>gG rfl C) a7 cs.kind cs.loc (qF a3 p n hs hk I M ej r λv' hv=>?_);refine MY (Ge t) λc7 as w q e0 hz ed ev=>?_;clear t;subst q;rw[ev];refine aM (VR.inv hv) λc3 cQ a2=>?_;subst cQ;refine hF λc5=>bT (A4 ed) λlv gv=>?_;have m:aQ a e b [] x d x y {d with toks:=d.toks+1}:=.tok n.inv;have a0:=n.on p m;refine Dc (hA (s:={d with toks:=d.toks+1}) a0.inv e0 a2) λes ep dk B=>?_;have T:fm<a1.length:=by rw[n.eW.len,<-cs.len];exact(U8.mp H).1
 refine c5 (yi (a3.mods.ne n.inv (hX a2)) B.obj (lK (s:={d with toks:=d.toks+1}) (R:=λa4 U=>compPost (Qe h a) f (EE a e b l (Res.ok (Q.lst w,y)).x? x d) N (QQ a e b (pT a) [] (.ok (Q.lst w,y)) x d) a4 U) (acc0:=.none) (sl:=j) (sl':=du) (ts:=[fm]) (loc:=a1) rfl (λc1 q=>yk (es:=es) (mU _ c1 rfl rfl) q) cs p a0 G h2 h3 λk E U h' tk g hI=>?_));have A:=g.nd;have no:=λa6 c4=>Vp (eT p a0.inv (g.new a6 c4)).1;have z:=A;simp only[Vl,U4,VT,RH,Rn] at z;have cI:([k,E,U]++b).count k=1:=by rw[Vy,no k (by simp),A.count];simp
 have cD:([k,E,U]++b).count E=1:=by rw[Vy,no E (by simp),A.count];simp
 have X:DictAt a ([k,E,U]++b) x {d with heap:=h',toks:=tk} c3 as es ep dk:=⟨g.Ac.hs _ _ B.obj,B.dr.mono (λL d0 Y=>(Y.dS g.Ac.new).grow g.Ac.hs) (.refl x),B.nd⟩;refine R5 (zu hu R.handled a3 a5 H a8 s c6 I M d3 g.eo (g.IY k (.head _)) (g.IY E (.tail _ (.head _))) cI cD z.1.1 ej T r e0 a2 hz lv gv X (g.st tk) (mU _ g.it rfl rfl) (eP _ _ g.acc .nil)) λY s2 q=>hF λa9=>?_;cases Y with
 |error D=>exact q.elim
 |ok c9=>refine rB q λd4 o2 ac dJ=>aM dJ.eW.ns λmm hn ε=>a9 (ba mm hn (λh2 sb=>?_));exact bT (vj g p a0.inv o2 ac dJ sb) λo3 v3=>oS _ _ x rfl (m.trans o3) v3
theorem vm:Ri (.type "int") "__bytes__"=pure N:=by refine(Rg ..).trans ?_;refine R Tr ?_;kernel_rfl
theorem rZ(X:∀i,am (.bytes #[0,0] i) {d with toks:=d.toks+1}) :
  QL (Qe h a) f (.call (.builtin "bytes.__new__") ⟨[.type "bytes",.int 2 j3],[]⟩) (wants am t) d:=by
 refine Up (P7 (QN (F.bm_newCall _) (Qg ⟨Uq F.bm_plain _,codeAny_builtin F.bm_entry ?_⟩)));refine P7 (QN (a:=true) rfl ?_);refine R8 rfl (P7 (QN F.bm_sub ?_));refine R8 rfl (P7 (QN (F.bm_bind _) ?_));refine P7 (QN (a:=()) rfl ?_);refine P7 (QN (a:=()) rfl ?_);refine R8 rfl (P7 (Rd (Uh d 2 j3) vm ?_));refine P7 (P7 (QN (a:=N) rfl (Qg ?_)));refine R8 rfl (P7 (Rd (Uh d 2 j3) F.slot_int_index.lookup ?_));refine R8 rfl ?_;first
  |refine P7 (RP (QN (a:=(2:P5)) rfl ?_))
  |(refine P7 (P7 (RP (QN (a:=(2:P5))) rfl ?_)))
 refine R8 ?_ ?_;·decide +kernel
 dsimp only;refine R (Qm (by decide)) ?_;refine R (Qm (by decide)) ?_;refine R8 ?_ ?_;·decide +kernel
 refine P7 (R2 ?_);refine P7 (wpAny_mkBytes ?_ (by decide +kernel));refine bm_if_true rfl ?_;first
  |exact Qg (X _)
  |(exact P7 (Qg (Qg (X _))))
theorem qG(X:∀i,am (.bytes #[0,0] i) {d with toks:=d.toks+1}):Qf (Qe h a) f (Q4 (.type "bytes") [.int 2 j3]) am t d:=by refine callType_codes (Q₁:=λo G=>G.TypeIs o "bytes"/\am o G) F.bm_called (F.bm_typeCall _) F.entry_object_init (rZ λi=>⟨PySem.W.typeIs_bytes _ _ _,X i⟩) λo G v=>?_;exact gZ v.1 (F.args_object_init_2 o _) (object_init_meets F.bm_called.init.lookup F.bm_called.made (rfl) h a f.in1 _ G (gZ v.1 rfl v.2))
theorem DF(e:d.TypeIs (.ref n) "bytearray")(B:g5 P8 d):Qf (Qe h a) f (QM.List.listLengthHint (.ref n)) g5 t d:=by refine P7 (Rd e jQ.lookup ?_);generalize c:("bytearray.__len__":RA)=i;wp_delta;refine R (show splitId i=S ("bytearray","__len__") from by subst c;decide +kernel) ?_;subst c;refine P7 (RZ (T:="bytearray") (b:=true) e (by refine(Rt ..).trans ?_;kernel_rfl) ?_);refine Td (λH=>Qp H (by decide)) (λU=>?_);refine Td (λU=>?_) (λH=>Qp (by decide +kernel) H);refine P7 (wpAny_typeOf e ?_);exact Qg B
theorem GO{b:Qi Qy}:KdlSrc h a "bytearray" n n b.size (λs C=>∃A c,b[s]? = S A/\C=.int (A.toNat:P5) c) (λB=>B.get? n=S (fP b)) where
 type:=λU i=>(ba _ i rfl)
 there:=λU i=>⟨VV i,VV i⟩
 keep:=λU U i J=>J n (.inl rfl) _ i
 notList:=rfl
 notTuple:=rfl
 hint:=λU U U U i e=>DF (ba _ i rfl) e
 iter:=λU U I i=>(uK _ _ (λU U e=>Dv i e) (AU I _ n (Wj (VV i)) b) ⟨(mU _ (Vs _ rfl) rfl rfl),U2 _ i⟩)
theorem GP{es:Qi QD}{ep:Z}(i:(n==RC)=P8):KdlSrc h a "dict" n n es.size (λs C=>∃P,es[s]? = S P/\C=P.key) (λB=>B.get? n=S (bM es ep)) where
 type:=λU i=>(ba _ i rfl)
 there:=λU i=>⟨VV i,VV i⟩
 keep:=λU U i J=>J n (.inl rfl) _ i
 notList:=rfl
 notTuple:=rfl
 hint:=λU U U U i e=>kdl_hint_dict (ba _ i rfl) e
 iter:=λU U I o=>(uK _ _ (λU U e=>yi i o e) (A3 I _ n (Wj (VV o)) es ep) ⟨(mU _ (Vs _ rfl) rfl rfl),U2 _ o⟩)
noncomputable def DG:BI->O (Qc×BV)
 |.len=>S ("len",.fn "len")
 |.min=>S ("min",.fn "min")
 |.max=>S ("max",.fn "max")
 |.abs=>S ("abs",.fn "abs")
 |.int=>S ("int",.ty "int")
 |.bytes=>S ("bytes",.ty "bytes")
 |.list=>S ("list",.ty "list")
 |.xC=>S ("list",.ty "list")
 |_=>N
theorem DR.key:∀{j:V QD} {s:Z} {P:QD},DR a x b bu y j->j[s]? = S P->∃M,y[s]? = S M/\VR a.params x b M.1 P.key:=by
 induction y with
 |nil=>intro j s P c D;cases c;exact nX D
 |cons M y k=>
  intro j s P c D
  cases c with
  |cons _ p _ L=>
   induction s using Vn with
   |zero=>obtain rfl:=sX D;exact ba _ rfl p
   |succ s=>exact k L D
theorem bU.build:∀{w:V P'},z.length=w.length->(∀(s:Z) C,w[s]? = S C->∃L,z[s]? = S L/\VR Y x b L C)->bU Y x b z w:=by
 induction z with
 |nil=>intro w D _;cases w with|nil=>exact .nil|cons _ _=>simp at D
 |cons L z k=>
  intro w D B
  induction w using U5 with
  |nil=>simp at D
  |cons C w=>refine aM (B 0 C (rfl)) λd T G=>?_;simp at T;refine R T ?_;exact .cons G (k (by simpa using D) λs C D=>by exact B (s+1) C D)
theorem mF(B:sm q=P4):q<1000:=Qj B
set_option tactic.hygienic true in
theorem jW{I n:G}(B:(if au=P4 then S I else N)=S n):au=P4/\I=n:=by
 split at B;·rename_i M;exact⟨M,VH B⟩
 ·exact nomatch B
theorem tR{tk:Z}{items:Qi P'}(s:Inv a e g b k d.heap)(J:∀E z,d.heap.get? E=S z->aa.get? E=S z)(o:aa.get? d.heap.objs.size=S (listOf items rk))
  (C:bU a.params (Sf d.heap b g) b bc items.toList):QQ a e g (pT a) [] (.ok (.lst bc,k)) b d (.ref d.heap.objs.size) {d with heap:=aa,toks:=tk}:=
 .ok (.grown s J) (.lst bc _ items rk (gZ o (s.fresh (ct _)) (s.no (ct _))) (C.mono (λU U Y=>Y.grow J) (.refl b)))
theorem tS{r:Q->O (Q×AH)}(D:pP r z=S ft)(C:bU Y x b z dm):∃I i,dm=[i]/\VR Y x b I i/\r I=S ft:=by
 induction z using U5 with
 |nil=>exact nX D
 |cons I z=>induction z using U5 with
  |nil=>obtain⟨i,rfl,B⟩:=C.one;exact uK I i rfl B D
  |cons _ _=>exact nX D
theorem wF(D:oR rf i9=S ft)(C:VR Y x b i9 g4):∃L K,g4=.int L K/\rf L=S ft:=by
 induction i9 using Zp with
 |int L=>obtain⟨K,rfl⟩:=C.inv;exact eP L K rfl D
 |_=>exact nX D
theorem tT(D:pP (oR rf) z=S ft)(C:bU Y x b z dm):∃L K,dm=[.int L K]/\rf L=S ft:=by refine hF λq=>?_;obtain⟨I,i,rfl,C,D⟩:=tS D C;exact cN (wF D C) λL K L3 D=>q (R L3 (eP L K rfl D))
theorem A5{r:P5->P5->O (Q×AH)}(D:FZ (λI n=>oR (λL=>oR (r L) n) I) z=S ft)(C:bU Y x b z dm):∃L E K i,dm=[.int L K,.int E i]/\r L E=S ft:=by
 induction z using U5 with
 |nil=>exact nX D
 |cons I z=>induction z using U5 with
  |nil=>exact nX D
  |cons n z=>induction z using U5 with
   |cons _ _=>exact nX D
   |nil=>refine rL C.two λa w Gk G p=>?_;clear C;subst Gk;refine cN (wF D G) λL K GQ D=>?_;clear G;subst GQ;refine cN (wF D p) λE i JE D=>?_;clear p;subst JE;exact MU L E K i rfl D
theorem GR{r:V Q->O (Q×AH)}(D:F5 r i9=S ft)(C:VR Y x b i9 g4):∃l L v q,g4=.ref L/\x L (listOf v q)/\bU Y x b l v.toList/\r l=S ft:=by
 induction i9 using Zp with
 |lst l=>obtain⟨L,v,q,rfl,G,p⟩:=C.inv;exact jN l L v q rfl G p D
 |_=>exact nX D
inductive wG(H:AH):Q->Q×AH->Prop
 |aE {k:Z} {xs:V Q} (e:H.L[k]? = S xs) (h:xs.length<1000):wG H (.aE k) (.int xs.length,H)
 |lst {xs:V Q} (h:xs.length<1000):wG H (.lst xs) (.int xs.length,H)
 |bH {l:V Z} (h:l.length<1000):wG H (.bH l) (.int l.length,H)
 |ab {k:Z} {xs:V (Q×Q)} (e:H.D[k]? = S xs) (h:xs.length<1000):wG H (.ab k) (.int xs.length,H)
 |fV {k:Z} {xs:V P5} (e:H.B[k]? = S xs) (h:xs.length<1000):wG H (.fV k) (.int xs.length,H)
theorem GS(D:F9 k i9=S ft):wG k i9 ft:=by
 induction i9 using Zp with
 |aE X=>obtain⟨b,T,m⟩:=V3.mp D;obtain⟨B,rfl⟩:=jW m;exact .aE T (mF B)
 |lst b=>obtain⟨B,rfl⟩:=jW D;exact .lst (mF B)
 |bH b=>obtain⟨B,rfl⟩:=jW D;exact .bH (mF B)
 |ab X=>obtain⟨b,T,m⟩:=V3.mp D;obtain⟨B,rfl⟩:=jW m;exact .ab T (mF B)
 |fV X=>obtain⟨b,T,m⟩:=V3.mp D;obtain⟨B,rfl⟩:=jW m;exact .fV T (mF B)
 |_=>exact nX D
theorem tU(B:q<1000)(D:q=bj):bj<=Q2:=by have:Q2=_:=Q';exact D.symm▸uD B rfl
theorem Fh(B:q<1000)(D:q=bj):(bj:P5)<2 ^ 63:=by exact Vj.mpr (n1 (Vh (VU _) (D▸B)) rfl)
theorem jX(B:bU Y x b qa da.toList):qa.length=da.size:=B.len.trans U'
theorem DH(y:oU e)(s:Inv a e g b k d.heap)(C:VR a.params (Sf d.heap b g) b i9 g4)(D:F9 k i9=S ft) :
  Qf (Qe h a) f (Q4 (.builtin "len") [g4]) (QQ a e g (pT a) [] (.ok ft) b d) t d:=by
 have p:∀{q H l:Z} {K:QY},q=H->QQ a e g (pT a) [] (.ok (.int q,k)) b d (.int H K) {d with toks:=l}:=λD=>D▸.ok (.tok s) (.int _ _);have z:=GS D;clear D;induction z using wG.casesOn with
 |aE D B=>obtain⟨L,rfl,J⟩:=C.inv;obtain⟨v,H,o,A⟩:=s.ey.L _ _ L D J;exact call_len_list (bb o) (Fh B (jX A)) (p (jX A))
 |lst B=>obtain⟨L,v,H,rfl,o,A⟩:=C.inv;exact call_len_list (bb o.1) (Fh B (jX A)) (p (jX A))
 |bH B=>refine cN C.inv λE K GQ c=>R GQ ?_;have j:=c▸(U1 (as:=E.toList) V1).trans U';exact len_bytes (j.symm▸uD B rfl) (p j)
 |ab D B=>obtain⟨L,rfl,J⟩:=C.inv;obtain⟨m,r,n,i9⟩:=hA s D J;exact AK (y.ne s (hX J)) i9 B λq K=>p rfl
 |fV D B=>refine aM C.inv λL Ay J=>?_;clear y C;subst Ay;refine aM (s.ey.B _ _ L D J) λi o uP=>?_;clear D J s;subst uP;have j:=(U1 (as:=i.toList) λE=>(E.toNat:P5)).trans U';exact GF (j▸B) o (p j)
theorem A6(I:f.handled=N)(y:oU e)(s:Inv a e g b k d.heap)(C:VR a.params (Sf d.heap b g) b i9 g4)(D:E9 k i9=S ft) :
  Qf (Qe h a) f (Q4 (.type "list") [g4]) (QQ a e g (pT a) [] (.ok ft) b d) t d:=by
 induction i9 using Zp with
 |ab X=>refine lI D λw T m=>?_;obtain⟨K,rfl⟩:=jW m;refine aM C.inv λL GU J=>?_;subst GU;refine Dc (hA s T J) λH r n i9=>?_;have j:=i9.dr.len.trans U';refine kdl_call (GP (es:=H) (ep:=r) (y.ne s (hX J))) I i9.obj (tU (mF K) j) λx B q M p G c=>tR s p G (.build (U1 _ |>.trans <| j.trans <| c.1.symm) λv C D=>aM (c.2 v C (V0▸D)) λP o Ax=>?_);refine R Ax (aM (i9.dr.key (V0.trans o)) λft U l=>?_);exact ba ft.1 (by refine Vb.trans ?_;exact R U rfl) l
 |fV X=>refine lI D λw T m=>?_;obtain⟨K,rfl⟩:=jW m;refine aM C.inv λL JF J=>?_;clear y m;refine R JF (aM (s.ey.B _ w L T J) λi Y JG=>?_);clear T;subst JG;have j:=(U1 (as:=i.toList) λE=>(E.toNat:P5)).trans U';refine kdl_call (GO (b:=i)) I Y (tU (mF K) j) λx B q M p G c=>tR s p G (.build (U1 _ |>.trans <| j.trans <| c.1.symm) λv C D=>cN (c.2 v C (V0▸D)) λA g4 o AQ=>?_);refine R AQ ?_;exact ba (.int A.toNat) (by refine Vb.trans ?_;refine R Vb ?_;refine R V0 ?_;exact R o rfl) (.int _ _)
 |_=>exact nX D
theorem A7[RJ iq]{L E:P5}:VR Y x b (.int (if iq then E else L)) (if iq then .int E pj else .int L j3):=by
 by_cases B:iq;·refine R (Qk B) ?_;refine R (Qk B) ?_;exact .int _ _
 ·refine R (Qm B) ?_;refine R (Qm B) ?_;exact .int _ _
theorem zv{E:P'->Qh->Prop}{bv:Qc×BV}{m:Q}(I:f.handled=N)(y:oU e)(s:Inv a e g b k d.heap)(C:bU a.params (Sf d.heap b g) b z dm)(D:bK k jq z=S (m,cy))(w:DG jq=S bv) :
  Qf (Qe h a) f (Q4 bv.2.val dm) (QQ a e g (pT a) [] (.ok (m,cy)) b d) E d:=by
 induction jq using BI.casesOn with
 |len=>obtain rfl:=sX w;obtain⟨c,i,rfl,C,D⟩:=tS D C;exact DH y s C D
 |list=>obtain rfl:=sX w;obtain⟨c,i,rfl,C,D⟩:=tS D C;exact A6 I y s C D
 |min=>obtain rfl:=sX w;obtain⟨L,jq,K,i,rfl,D⟩:=A5 D C;exact sX D▸min_two_ints I λx j J=>.ok (.grown s J) A7
 |max=>obtain rfl:=sX w;obtain⟨L,jq,K,i,rfl,D⟩:=A5 D C;exact sX D▸max_two_ints I λx j J=>.ok (.grown s J) A7
 |abs=>
  obtain rfl:=sX w;obtain⟨L,K,rfl,D⟩:=tT D C;have M:(if L<0 then -L else L)=((L.natAbs:Z):P5):=by
   split;·rename_i B;exact(P5.ofNat_natAbs_of_nonpos (YO B)).symm
   ·rename_i B;exact(P5.natAbs_of_nonneg (WU.mp B)).symm
  exact sX D▸call_abs_int λi j=>.ok (.tok s) (M▸.int _ _)
 |int=>obtain rfl:=sX w;obtain⟨L,K,rfl,D⟩:=tT D C;exact sX D▸call_int_int (.ok (.refl s) (.int _ _))
 |bytes=>
  obtain rfl:=sX w;obtain⟨L,K,rfl,D⟩:=tT D C;by_cases M:L=2;·subst M;exact sX D▸qG λi=>.ok (.tok s) (.bH _ _ _ rfl)
  ·exact nX ((Qm M).symm.trans D)
 |xC=>obtain rfl:=sX w;obtain⟨c,i,rfl,C,D⟩:=tS D C;refine uM (GR D C) λP L v q JH o A D=>R JH ?_;obtain⟨n,l⟩:=jW D;refine l▸call_list_seq L (.inl rfl) o.1 rfl rfl (λx t p G=>?_) (tU (mF n) (jX A));have r:=ct d.heap;exact .ok (.mk' (s.Gn r p G A) ((More.L b _).keep (λL H=>UZ.mp H▸r) p) (More.L b _).le) (.aE _ _ (R s.ey.jP.symm hY))
 |_=>exact nX w
theorem SE.bC{bv:BV}(w:DG jq=S (r,bv))(R:bA N q f l)(A:Gr v e P cv cx cw)(K:AZ v c r bv.val)(k:rQ h a e l c j f i bm bn):SE h a e l c j f i (.bC jq bm) (.Call (.Name r fu) bn [] J):=by
 intro b x y d g p n t;rw[lS] at t⊢;refine A0 A K p n.inv k ((k.run b x y d g p n).dX (.refl n.inv) (λL z X G Y T o1 U o D=>?_) t);rw[T,Res.aP];induction m:bK z jq L using U0 with
 |none=>exact bX (m▸D)
 |some M=>obtain⟨B,s⟩:=M;exact Qq (zv (E:=EE a e b l (Res.ok (B,s)).x? x d) R.handled A.mods o1.inv o m w) (λC H M=>M.pre o1) λU U M=>M
theorem A8{bv:BV}(A:Gr v e P cv cx cw)(K:AZ v c r bv.val)(p:bt g c j)(s:Inv a e g b k d.heap)(n:(QV J (QT bn c)).any (·.1)=P8)
  (B:Qf (Qe h a) f (R4 (QV J (QT bn c))) (λw G=>Qf (Qe h a) f (Q4 bv.val w) am t G) t d):Qf (Qe h a) f (PySem.eval (.Call (.Name r fu) bn [] J) c) am t d:=by
 refine P7 (yf A K p s ?_);clear A K p;induction bv using BV.casesOn with
 |fn s=>exact PySem.Calls.callWith_builtin (args:=QV J (QT bn c)) n (bN n B)
 |ty U=>exact X2 (args:=QV J (QT bn c)) n (bN n B)
theorem SE.hM{n:Z}(R:bA N n f l)(A:Gr v e P cv cx cw)(a1:AZ v c "list" (.type "list"))(m:AZ v c "range" (.type "range"))(k:SE h a e l c j f i ai s)(w:notStar s=P4) :
  SE h a e l c j f i (.bC .hM (.cons ai .nil)) (.Call (.Name "list" fu) [.Call (.Name "range" j7) [s] [] rn] [] J):=by
 intro b x y d g p M t;rw[lS] at t⊢;refine A8 (bv:=.ty "list") A a1 p M.inv rfl (PySem.Calls.spliced_cons ?_);refine A0 (bv:=.ty "range") A m p M.inv (SE.mC k w) (((SE.mC k w).run b x y d g p M).dX (.refl M.inv) (λa5 H1 X G Y T o1 U r D=>?_) t);rw[T,Res.aP];induction e2:bK H1 .hM a5 using U0 with
 |none=>exact bX (e2▸D)
 |some q=>
  obtain⟨a',H'⟩:=q;refine hF λa6=>?_;refine cN (tT e2 r) λH K bP ai=>?_;clear T r D y g p M t A a1 m k w;subst bP;refine bT (C' ai) λcQ ai=>?_;refine bT cQ λL q2=>?_;refine a6 ?_;rw[<-ai];refine call_range_1 ?_;refine PySem.Calls.spliced_nil ?_;have hr:IsRange (G.heap.push {cls:=.type "range",data:=.fields #[.int 0 G.toks,.int H K,.int 1 (G.toks+1)]}) G.heap.objs.size 0 H 1 G.toks K (G.toks+1):=IsRange.new _ _ _ _ _ _ _;have a2:∀E z,G.heap.get? E=S z->(G.heap.push {cls:=.type "range",data:=.fields #[.int 0 G.toks,.int H K,.int 1 (G.toks+1)]}).get? E=S z:=λE z ai=>U2 _ ai;have i1:Inv a e b X _ ({G with heap:=G.heap.push {cls:=.type "range",data:=.fields #[.int 0 G.toks,.int H K,.int 1 (G.toks+1)]},toks:=G.toks+1+1}:Qh).heap:=o1.inv.grow a2;refine call_list_range (n:=H.toNat) R.handled hr (small_one (by exact Vg _) (by exact Vg _) (by exact i4 L rfl) (by exact i3 q2 rfl)) (by refine(rangeSize_one ..).trans ?_;exact o7 L) (by exact Wl (n1 ((P5.toNat_lt L).mpr q2) rfl)) λh' B a3 o a4 g' a0=>?_;have o2:aQ a e b [] X G X _ {G with heap:=G.heap.push {cls:=.type "range",data:=.fields #[.int 0 G.toks,.int H K,.int 1 (G.toks+1)]},toks:=G.toks+1+1}:=.grown o1.inv a2;refine(tR (items:=a3) (tk:=B) i1 a4 g' ?_).pre (o1.trans o2);refine .build (by refine(U1 ..).trans ?_;refine YZ.trans ?_;refine a0.1.symm.trans ?_;rfl) λI C ai=>?_;have e':a3[I]? = S C:=by refine V0.symm.trans ?_;exact ai
  refine eK (a0.2 I C e') λa7 eA=>?_;subst eA;have hj:I<H.toNat:=by rw[<-a0.1];exact(X4.mp e').1
  refine ba (.int I) (by refine Vb.trans ?_;rw[V.getElem?_range hj];rfl) ?_;rw[show(0:P5)+(I:P5)*1=(I:P5) from(P5.zero_add _).trans (P5.mul_one _)];exact .int _ _
theorem SE.jK(R:bA N q f l)(A:Gr v e P cv cx cw)(K:AZ v c "isinstance" (.builtin "isinstance"))(m:AZ v c "int" (.type "int"))(k:SE h a e l c j f i ai s)(w:notStar s=P4) :
  SE h a e l c j f i (.bC .jK (.cons ai .nil)) (.Call (.Name "isinstance" fu) [s,.Name "int" j7] [] J):=by
 intro b x y d g p n t;rw[lS,hW] at t⊢;have B:(QV J (QT [s,.Name "int" j7] c)).any (·.1)=P8:=by rw[bI w];rfl
 refine A8 (bv:=.fn "isinstance") A K p n.inv B ?_;rw[bI w];have o:(aO i ai g y).bind (λI=>Res.of (bK I.2 .jK [I.1]))≠.bad:=by
  intro M;apply t
  induction E:aO i ai g y using Zq with
  |ok I=>rw[E] at M;exact M
  |exc _ _=>replace M:=E▸M;cases M
  |bad=>rfl
 have X:(((aO i ai g y).bind λI=>(bB i .nil g I.2).bind λM=>.ok (I.1 :: M.1,M.2)).bind λM=>Res.of (bK M.2 .jK M.1))=(aO i ai g y).bind (λI=>Res.of (bK I.2 .jK [I.1])):=by
  induction E:aO i ai g y using Zq with
  |ok I=>rfl
  |exc _ _=>rfl
  |bad=>rfl
 rw[X];refine PySem.Calls.spliced_cons ((k b x y d g p n).dX (.refl n.inv) (λL z r1 G Y T o1 U r D=>?_) o);refine PySem.Calls.spliced_cons ?_;refine yf (x:="int") (v:=.type "int") A m p o1.inv ?_;refine PySem.Calls.spliced_nil ?_;rw[T];clear T B t X p n R A K m k w;induction L using Zp with
 |lst vs=>obtain⟨L,a0,H,rfl,C,vr⟩:=r.inv;exact IsiPair.list_int C.1 rfl (.ok (o1.trans (.tok o1.inv)) (.bool P8))
 |_=>exact bX D
noncomputable def M8(y:QX):O Ur:=vw QX.ctorIdx 8 y λB=>QX.cls.elim y B λA=>S A
theorem JI(y:QX):aZ (M8 y) λA=>y=.cls A:=ek λB=>QX.cls.elim (motive:=λy=>∀B,aZ (QX.cls.elim (motive:=λ_=>O Ur) y B λA=>S A) λA=>y=.cls A) y B (λA _=>rfl) B
theorem anyC{z:O G}{r:G->P6}(B:z.any r=P4):∃L,z=S L/\r L=P4:=by
 induction z using U0 with
 |none=>exact bF B
 |some L=>exact⟨L,rfl,B⟩
noncomputable def qH(a:QF)(U:Qa):P6:=(a.lookup U).any λz=>(M8 z.data).any λI=>!I.hasDel&&(z.slots.toList[4]?).join==S (.builtin "Exception.__new__")&&!I.mro.isEmpty&&I.mro.contains (.ref U)&&I.mro.contains (.type "Exception")&&I.mro.contains (.type "BaseException")&& !I.mro.contains (.type "AttributeError")&&!I.mro.contains (.type "NameError")&&Tp a (.ref U) "__call__"==S (S (.builtin "type.__call__"))&&instIn a (.ref U) (.type "type")==S P4
structure wH(M:Q0)(h:Qb)(C:Qa):Prop where
 obj:∃oc od cd sl,h.get? C=S ⟨oc,od,.cls cd,sl⟩/\cd.hasDel=P8/\cd.mro.isEmpty=P8
 mro:∃cd:Ur,(∃oc od sl,h.get? C=S ⟨oc,od,.cls cd,sl⟩)/\QA M h (mroOf (.ref C)) cd.mro
 made:QA M h (Bind.madeBy (.ref C)) (S "Exception.__new__")
 base:QA M h (Bind.staticBase (.ref C)) (.ref C)
 self:QA M h (Ro (.ref C) (.ref C)) P4
 exc:QA M h (Ro (.ref C) (.type "Exception")) P4
 Ox:QA M h (Ro (.ref C) (.type "BaseException")) P4
 Pr:QA M h (Ro (.ref C) (.type "AttributeError")) P8
 Pt:QA M h (Ro (.ref C) (.type "NameError")) P8
 call:QA M h (Us (.ref C) "__call__") (S (.builtin "type.__call__"))
 typ:QA M h (Se (.ref C) (.type "type")) P4
set_option tactic.hygienic true in
theorem sI{M:Q0}(g:v.In p)(D:qH v ap=P4):wH M p ap:=by
 refine aM (anyC D) λz y D=>?_;obtain⟨b,k,e,B⟩:=z;refine aM (anyC D) λI q D=>?_;obtain rfl:=ot (JI e) q;clear q;refine hF λf=>?_;simp only[Ws,Wf,Ra] at D;obtain⟨⟨⟨⟨⟨⟨⟨⟨⟨m,G⟩,o⟩,H⟩,K⟩,C⟩,a⟩,r⟩,j⟩,h⟩:=D;have s:RD v ap=S I:=by unfold RD;rw[y]
 have i:QA M p (mroOf (.ref ap)) I.mro:=(Tx g s).andThen .now;obtain⟨A,l,c⟩:∃A l,I.mro=A :: l:=by cases t:I.mro with|nil=>replace o:=t▸o;cases o|cons A l=>exact z8 A l rfl
 have n:QA M p (Bind.madeBy (.ref ap)) (S "Exception.__new__"):=by intro J Y T d X t;refine P7 (i J _ T d X ?_);refine R c ?_;refine R (WW ..) ?_;refine P7 (P7 (P7 (P7 (R6 (X _ _ (g _ _ y)) (Qg ?_)))));refine R V0.symm ?_;refine R G ?_;exact Qg (Qg (Qg t))
 have x:∀{U:P'} {E:P6},I.mro.contains U=E->QA M p (Ro (.ref ap) U) E:=λw=>Tt g (by refine(oL s).trans ?_;refine(WH ..).trans ?_;refine(Qm (by refine R o ?_;decide)).trans ?_;refine R w rfl);refine f ⟨(LJ b k I B (g _ _ y) m o),(ba I (KP b k B (g _ _ y)) i),n,?_,x H,x K,x C,x a,x r,looks_specialIn g j,looks_instIn g h⟩;intro J Y T d X t;refine P7 (i J _ T d X ?_);refine R c ?_;refine R (WW ..) ?_;exact P7 (P7 (P7 (n J _ T d X (Qg (Qg (Qg t))))))
abbrev jH(U K:Qa):Qs:={cls:=.ref U,data:=.fields #[.ref K,.none,.none,.none,.bool P8,.none]}
theorem DI(l:wH (Qe h a) p ap)(j:iu.length<=Q2)
  (e:fy (.ok (.ret (.ref (p.objs.size+1)))) ⟨(p.push {cls:=.type "tuple",data:=.seq iu.toArray}).push (jH ap p.objs.size),qf,qg,mv,qh⟩) :
  QL (Qe h a) f (.call (.builtin "Exception.__new__") ⟨.ref ap :: iu,[]⟩) fy ⟨p,qf,qg,mv,qh⟩:=by
 refine hF λi=>?_
 obtain⟨⟨b,k,I,c,M,m,o⟩,-,n,B,q,J,y,K,L,d,A⟩:=l
 have r:=PySem.F.excBase_Exception
 have s:=r.ends
 have g:QA (Qe h a) p (Bind.madeHere "BaseException.__new__" (.ref ap)) ():=B.andThen (n.andThen (QA.of_pure (by simp only[Xg,r.canon,UU,V5,Rl])))
 refine i (codeAny_call_builtin_code (Xm _ r.quiet) ?_)
 have H:=r.noStar
 rw[Ut,r.newKind,r.newSplit]
 repeat (first|dsimp only[UU,V5,Rl]|lk|wp_step)
 refine PySem.codeAny_builtinAt r.entry (PySem.wpAt_bind (PySem.wpAt_bind (PySem.wpAt_stack λP t=>PySem.wpAt_of_wpAny ?_)))
 wp_walk
 refine PySem.wpAt_of_wpAny ?_
 rw[r.owner]
 repeat (first|lk|wp_step)
 refine Rx (U2 _ (U2 _ M)) (Qg ?_)
 rw[m]
 refine Qg (Qg ?_)
 show fy _ _
 rw[YA]
 exact e
theorem A9(l:wH (Qe h a) p ap)(j:iu.length<=Q2)(g:QA (Qe h a) p (Ri (.ref ap) "__init__") (S mw))
  (w:∀q,QA (Qe h a) p (Uu mw q) (mw,[q]))
  (e:QL (Qe h a) (f.under (.builtin "type.__call__" ⟨.ref ap :: iu,[]⟩)) (.call mw ⟨.ref (p.objs.size+1) :: iu,[]⟩) (InitBack (p.objs.size+1) fy) ⟨(p.push {cls:=.type "tuple",data:=.seq iu.toArray}).push (jH ap p.objs.size),qf,qg,mv,qh⟩) :
  QL (Qe h a) f (.call (.ref ap) ⟨iu,[]⟩) fy ⟨p,qf,qg,mv,qh⟩:=by
 refine hF λs=>?_;have r:=l;obtain⟨⟨b,k,I,sl,M,e2,o⟩,⟨c,⟨T,U,v,P⟩,i⟩,n,B,q,J,y,K,L,d,A⟩:=l;rw[M] at P;cases P;refine s (Up (nd_load M ?_));show Qf _ _ (TH.viaDunder (.ref ap) _) _ _ _;unfold TH.viaDunder;refine P7 (d.at ?_);dsimp only;rw[tc_bind];refine P7 (Qg (P7 (Qg ?_)));refine Qg (a:=Fin.again (.call (.builtin "type.__call__") ⟨.ref ap :: iu,[]⟩)) (Ym rfl ?_);refine codeAny_call_builtin_at (Xm _ (by decide +kernel)) Uv (Ts tc_kind tc_split A (tc_args _ _ _) ?_);unfold Builtin.«type.__call__»;repeat (first|simp only[o,V5,Rl]|with_reducible refine RO ?_|lk)
 refine DI r j ?_;have X:∀E z,p.get? E=S z->((p.push {cls:=.type "tuple",data:=.seq iu.toArray}).push (jH ap p.objs.size)).get? E=S z:=λE z D=>U2 _ (U2 _ D);have H:((p.push {cls:=.type "tuple",data:=.seq iu.toArray}).push (jH ap p.objs.size)).get? (p.objs.size+1)=S (jH ap p.objs.size):=by heap_get
 have t:QA (Qe h a) ((p.push {cls:=.type "tuple",data:=.seq iu.toArray}).push (jH ap p.objs.size)) (S8 (.ref (p.objs.size+1))) (.ref ap):=(QA.ld H).andThen .now;have G:=q.keeps X;have i1:=g.keeps X;have b1:=(w (.ref (p.objs.size+1))).keeps X;unfold Se T2 Us;repeat (first|with_reducible refine RO ?_|lk)
 refine R5 e λx m Y=>?_;rcases x with D|(C|_|_|_)<;>first|exact Y|exact Y.elim|skip
 obtain⟨rfl,Y⟩:=Y;exact Qg (Qg Y)
noncomputable def kT(c:V (Qc×P'))(M:Qc×P'):V (Qc×P'):=if(Xd M.1 c).isNone=P4 then c++[(M.1,M.2)] else c
theorem zw:∀(p:V (Qc×P')) (c:V (Qc×P')),(forIn p c λI d=>if(Xd I.1 d).isNone=P4 then(pure (R7.yield (d++[(I.1,I.2)])):Qt _) else pure (R7.yield d))=pure (p.foldl kT c):=by
 intro p;induction p with
 |nil=>intro c;refine XS.trans ?_;rfl
 |cons M p b=>
  intro c;refine(WW ..).trans ?_;refine R Xh ?_;unfold kT;split;·exact b _
  ·exact b _
theorem iW(A:ax.Nodup):∀{d:V P'} {j:Z} {q:Qc},ax[j]? = S q->(ax.zip d).lookup q=d[j]?:=by
 induction ax with
 |nil=>intro d j q D;simp at D
 |cons I b k=>
  intro d j q D
  rw[Vl] at A
  induction d using U5 with
  |nil=>simp
  |cons C w=>
   induction j using Vn with
   |zero=>simp at D;subst D;simp[Xd]
   |succ j=>
    have m:q≠I:=λM=>A.1 (M▸Va D)
    refine VX.trans ?_;refine R (RY m) ?_
    exact k A.2 D
theorem A'{c:V (Qc×P')}:∀{p:V (Qc×P')},(∀M∈p,(c.lookup M.1).isNone=P8)->p.foldl kT c=c:=by
 intro p;induction p with
 |nil=>intro _;exact rfl
 |cons M p b=>intro B;refine Xh.trans ?_;refine R (show kT c M=c from by unfold kT;exact(Qm (by refine R (B M (.head _)) ?_;exact Vm))) ?_;exact b λM H=>B M (.tail _ H)
theorem Ba:∀{p c:V (Qc×P')},(p.map (·.1)).Nodup->(∀M∈p,c.lookup M.1=N)->p.foldl kT c=c++p:=by
 intro p;induction p with
 |nil=>intro c _ _;simp
 |cons M p b=>intro c A B;rw[Vt,Vl] at A;refine Xh.trans ?_;refine R (show kT c M=c++[M] from by unfold kT;exact(Qk (by refine R (B M (.head _)) ?_;rfl))) ?_;rw[b A.2 λP H=>?_];refine R (VJ ..) ?_;rw[V.singleton_append];refine V.lookup_append.trans ?_;refine R (B P (.tail _ H)) ?_;refine VX.trans ?_;refine R (RY (show P.1≠M.1 from λD=>A.1 (D▸Vr (f:=λI:Qc×P'=>I.1) H))) ?_;rfl
theorem r0(A:ax.Nodup)(c:ax.length=fc.length):(ax.filterMap λq=>((ax.zip fc).lookup q).map (q,·))=ax.zip fc:=by
 have x:∀(X:Z),X<=ax.length->((ax.drop X).filterMap λq=>((ax.zip fc).lookup q).map (q,·))=(ax.drop X).zip (fc.drop X):=by
  intro X
  induction B:ax.length - X generalizing X with
  |zero=>intro J;refine R (Xv (by exact Yx B)) ?_;rfl
  |succ H k=>
   intro J;have j:=Z.lt_of_sub_eq_succ B;have a:X<fc.length:=by exact c▸j
   refine R (X' j) ?_;refine R (X' a) ?_;refine WQ.trans ?_;refine R (iW A (U3 j)) ?_;refine R (U3 a) ?_;exact Ql _ (k (X+1) (b6 B) j)
 exact x 0 (Yr _)
theorem Bb:∀{d E:V P'},ax.zip (d++E)=ax.zip d++(ax.drop d.length).zip E:=by
 induction ax with
 |nil=>intro d E;simp
 |cons I b k=>
  intro d E
  induction d using U5 with
  |nil=>simp
  |cons C w=>simp[k]
theorem Bc:∀{h:V P'} (X:Z),(fv.zip h).drop X=(fv.drop X).zip (h.drop X):=by
 induction fv with
 |nil=>intro h X;simp
 |cons I fv k=>
  intro h X
  induction h using U5 with
  |nil=>simp
  |cons n h=>
   induction X using Vn with
   |zero=>rfl
   |succ X=>exact k X
structure Pars(fd:Q1)(names:V Qc):Prop where
 ar:fd.params.args.map (·.arg)=names
 po:fd.params.posonlyargs=[]
 ko:fd.params.kwonlyargs=[]
 va:fd.params.vararg=N
 ka:fd.params.kwarg=N
 nd:names.Nodup
theorem nN{I:RJ iq}{K D:Qt G}{Y:G->Qh->Prop}(B:¬iq)(X:Qf T f D Y t d):Qf T f (if iq then K else D) Y t d:=(Qm B).symm▸X
section
variable{vals ds:V P'}{names:V Qc}(nd:names.Nodup)(h1:vals.length<=names.length)(h2:names.length<=vals.length+ds.length)(h3:ds.length<=names.length)
include nd h1 h2 in
theorem JJ:(names.take (names.length - ds.length)).filter (λn=>(Xd n (names.zip vals)).isNone)=[]:=by rw[V.filter_eq_nil_iff];intro n hn;obtain⟨j,hj,e⟩:=Ya.mp hn;refine R (iW nd (j:=j) (by refine(U3 (by exact Vh hj (Xa ..))).trans ?_;refine R e rfl)) ?_;refine R (U3 (Vh (Vh hj (Wh ..)) (Yw.mpr h2))) ?_;exact Vm
include h3 in
theorem JK:ds.drop (ds.length - names.length)=ds:=by rw[Z.sub_eq_zero_of_le h3];rfl
include nd h1 h2 h3
theorem L4:¬((!((names.take (names.length - (ds.drop (ds.length - names.length)).length)).filter (λq=>(Xd q (names.zip vals)).isNone)).isEmpty)=P4):=by rw[JK h3,JJ nd h1 h2];exact Vm
theorem GW:((names.drop (names.length - ds.length)).zip ds).foldl kT (names.zip vals)=names.zip (vals++ds.drop (vals.length+ds.length - names.length)):=by
 have P:(names.drop (names.length - ds.length)).zip ds=((names.drop (names.length - ds.length)).zip ds).take (vals.length+ds.length - names.length)++(names.drop vals.length).zip (ds.drop (vals.length+ds.length - names.length)):=by
  conv=>lhs;rw[<-V.take_append_drop (vals.length+ds.length - names.length) ((names.drop (names.length - ds.length)).zip ds)]
  refine R (Bc ..) ?_;refine R V.drop_drop ?_;rw[b1 h2 h3]
 have j:∀M∈((names.drop (names.length - ds.length)).zip ds).take (vals.length+ds.length - names.length),((names.zip vals).lookup M.1).isNone=P8:=λM e=>by obtain⟨v,E,D⟩:=Ya.mp e;rw[Y8] at D;refine R D.symm ?_;refine R (iW nd (j:=names.length - ds.length+v) (by refine R Y0 ?_;exact(U3 (Vh (b2 h2 h3 (Vh E (Wh ..))) h1)))) ?_;refine R (U3 (b2 h2 h3 (Vh E (Wh ..)))) ?_;rfl
 have B:(((names.drop vals.length).zip (ds.drop (vals.length+ds.length - names.length))).map (·.1)).Nodup:=by have:((names.drop vals.length).zip (ds.drop (vals.length+ds.length - names.length))).map (·.1)=names.drop vals.length:=V.map_fst_zip (by refine R WG ?_;refine R WG ?_;exact Vq (b3 h1 h2).symm);refine R this ?_;exact nd.sublist (V.drop_sublist _ _)
 have c:∀M∈(names.drop vals.length).zip (ds.drop (vals.length+ds.length - names.length)),(names.zip vals).lookup M.1=N:=λM e=>by obtain⟨v,E,D⟩:=V.mem_iff_getElem.mp e;rw[V.length_zip,WG] at E;rw[Y8] at D;refine R D.symm ?_;refine(iW nd (j:=vals.length+v) (by refine R Y0 ?_;exact(U3 (b5 (Vh E (Wh ..)))))).trans ?_;exact(VG (by exact Vu _ _))
 refine R P ?_;refine V.foldl_append.trans ?_;refine R (A' j) ?_;refine(Ba B c).trans ?_;rw[Bb]
theorem L5:((names++[]).filterMap λq=>((((names.drop (names.length - (ds.drop (ds.length - names.length)).length)).zip (ds.drop (ds.length - names.length))).foldl kT (names.zip vals)).lookup q).map (q,·))=names.zip (vals++ds.drop (vals.length+ds.length - names.length)):=by rw[JK h3,GW nd h1 h2 h3,VQ];exact r0 nd (by rw[U7,WG];exact(b4 h1 h2).symm)
end
theorem zx(i:Pars ae ax)(q:∀(y:Q0) (J:QB) (b:P'->Qh->Prop) (Y:O (Qi P')->Qh->Prop),(∀z,(z.getD #[]).toList=di->Y z d)->Qf y J (TJ ae.defaults) Y b d)
  (G:fc.length<=ax.length) (p:ax.length<=fc.length+di.length) (t:di.length<=ax.length):BindsTo d ae ⟨fc,[]⟩ (ax.zip (fc++di.drop (fc.length+di.length - ax.length))):=by intro y J b Y X;obtain⟨H,f,⟨j,s,x,K,e,r,h⟩,E,a,g,c,D,k,n,P,an,I,C,B⟩:=ae;obtain⟨L,T,m,l,o,A⟩:=i;have T:j=[]:=T;have m:K=[]:=m;have l:x=N:=l;have o:r=N:=o;have L:s.map (·.arg)=ax:=L;subst L T m l o;refine P7 (Qg ?_);refine P7 (q _ _ _ _ λz v=>?_);clear q;subst v;refine nN (λw=>Vk _ (Vh (Qj ((Ws ..).mp w).1) G)) ?_;refine nN (L4 A G p t) ?_;refine P7 (QN (zw ..) ?_);refine P7 (Qg ?_);refine nN nofun ?_;exact Qg ((L5 A G p t).symm▸X)
theorem zy:∀{j:V P'} {H:Qc->O P'},r∉ax->bindL rg (ax.zip j) H r=H r:=by
 induction ax with
 |nil=>intro _ _ _;rfl
 |cons q w k=>
  intro j H B
  induction j using U5 with
  |nil=>rfl
  |cons C a=>
   rw[U4,Rn] at B;refine(k B.2).trans ?_;split;·exact Qm B.1
   ·rfl
theorem zz:∀{j:V P'} {H:Qc->O P'},r∉ax->bindC rg (ax.zip j) H r=H r:=by
 induction ax with
 |nil=>intro _ _ _;rfl
 |cons q w k=>
  intro j H B
  induction j using U5 with
  |nil=>rfl
  |cons C a=>
   rw[U4,Rn] at B;refine(k B.2).trans ?_;split;·rfl
   ·exact Qm B.1
theorem vn(J:rg r=S .local):∀{j:V P'} {H:Qc->O P'} {v:Z} {C:P'},ax.Nodup->ax[v]? = S r->j[v]? = S C->bindL rg (ax.zip j) H r=S C:=by
 induction ax with
 |nil=>exact λ_ D=>nX D
 |cons q w k=>
  intro j H v C A D T
  induction j using U5 with
  |nil=>exact nX T
  |cons i n=>
   replace A:=Vl.mp A
   induction v using Vn with
   |zero=>clear k;obtain rfl:=sX D;refine sJ T ?_;refine(zy A.1).trans ?_;refine R (Qk J) ?_;exact Qk rfl
   |succ v=>exact k A.2 D T
theorem Be(J:rg r≠S .local):∀{j:V P'} {H:Qc->O P'} {v:Z} {C:P'},ax.Nodup->ax[v]? = S r->j[v]? = S C->bindC rg (ax.zip j) H r=S C:=by
 induction ax with
 |nil=>exact λ_ D=>nX D
 |cons q w k=>
  intro j H v C A D T
  induction j using U5 with
  |nil=>exact nX T
  |cons i n=>
   replace A:=Vl.mp A
   induction v using Vn with
   |zero=>clear k;obtain rfl:=sX D;refine sJ T ?_;refine(zz A.1).trans ?_;refine R (Qm J) ?_;exact Qk rfl
   |succ v=>exact k A.2 D T
theorem lC:∀{l:V (Qc×Qa)},r∈l.map (·.1)->∃A,l.lookup r=S A:=by
 intro l;induction l with
 |nil=>intro B;simp at B
 |cons a x b=>
  intro B
  refine R VX ?_
  induction w:r==a.1 using U6 with
  |true=>exact⟨a.2,rfl⟩
  |false=>rw[Vt,U4] at B;exact b (B.resolve_left λD=>by simp[D] at w)
theorem r6{a:Qa}{l:V (Qc×Qa)}:(l.map (·.1)).Nodup->(r,a)∈l->l.lookup r=S a:=by
 induction l with
 |nil=>exact λ_ B=>nomatch B
 |cons M x b=>
  obtain⟨X,C⟩:=M;intro A B;rw[Vt,Vl] at A;refine VX.trans (Zj (U4.mp B) (λD=>?_) λB=>?_);·cases D;simp
  ·have i:=Vr (f:=λM:Qc×Qa=>M.1) B;have m:r≠X:=λD=>A.1 (D▸i);exact R (RY m) (b A.2 B)
structure dF(fd:Q1)(names:V Qc)(sl:V (O Qc))(body:V Qn):Prop extends Pars fd names where
 body:fd.body=.stmts body
 co:fd.scope.isCoroutine=P8
 gen:fd.scope.isGenerator=P8
 kind:fd.scope.kind=.function
 M':fd.closure=[]
 glob:fd.globals=QO
 blt:fd.builtins=TU
 kinds:∀x∈names,fd.scope.names.lookup x=S .local\/(fd.scope.names.lookup x=S .cell/\x∈(RT 0 fd.scope.names []).map (·.1))
 L6:∀(j:Z) x,j<names.length->sl[j]? = S (S x)->names[j]? = S x
 IV:∀(i j:Z) x,sl[i]? = S (S x)->sl[j]? = S (S x)->i=j
 Na:((RT 0 fd.scope.names []).map (·.1)).Nodup
 has:∀(j:Z) x,sl[j]? = S (S x)->fd.scope.names.lookup x=S .cell\/fd.scope.names.lookup x=S .free->x∈(RT 0 fd.scope.names []).map (·.1)
theorem wK{a4:QB}{s:Qh}{loc:Loc}{vals:V P'}{P:Qo->Qh->Prop}(r:dF ae ax j fh)(b9:s.heap.NoLimit)
  (w:∀(T:Q0) (a4:QB) (t:P'->Qh->Prop) (a5:O (Qi P')->Qh->Prop),(∀z,(z.getD #[]).toList=di->a5 z s)->Qf T a4 (TJ ae.defaults) a5 t s)
  (h1:vals.length<=ax.length) (h2:ax.length<=vals.length+di.length) (h3:di.length<=ax.length)
  (a2:Inv a e g b k s.heap) (lv:dI l g [] s.heap) (L:loc.length=j.length)
  (hv:∀(v:Z) n,loc[v]? = S (S n)->∃C,(vals++di.drop (vals.length+di.length - ax.length))[v]? = S C/\VR a.params (Sf s.heap b g) b n C)
  (c1:∀h M G,h=Q6 ae s.heap.objs.size n->bt M h j->St a e M (h :: l) h j b k loc G->(∃x B,G={s with heap:=x,toks:=B}/\cX g M [] (bJ h) s.heap x)->(∀E z,s.heap.get? E=S z->G.heap.get? E=S z)->
   (∃H,G.heap.Ns h.locals H/\∀(v:Z) I C,ax[v]? = S I->(vals++di.drop (vals.length+di.length - ax.length))[v]? = S C->h.kindOf I=S .local->H I=S C)->
   P h G) :
  Qf T a4 (PySem.bindArgs ae ⟨vals,[]⟩) (λc3 c2=>Qf T a4 (TF ae.scope ae.globals ae.closure c3 (ae.qualname++".<locals>.") (S n) ae.code N ae.builtins) (λh a9=>a9.heap.NoLimit/\P h a9) t c2) t s:=by
 have y:(vals++di.drop (vals.length+di.length - ax.length)).length=ax.length:=by exact U7.trans (R WG (b4 h1 h2))
 have nm:∀a1,(RT a1 ae.scope.names []).map (·.1)=(RT 0 ae.scope.names []).map (·.1):=λa1=>cellsFrom_names _ _ _ _ _ rfl;refine zx r.toPars w h1 h2 h3 _ _ _ _ (R r.M' (wpAny_newFunctionEnv_cells r.kind (λI hx=>?_) λh he G I=>?_));·have c:=(V.of_mem_zip hx).1;refine(r.kinds I.1 c).imp id λq=>⟨q.1,?_⟩;refine eK (lC (l:=RT (s.heap.objs.size+1) ae.scope.names []) (by refine R (nm ..) ?_;exact q.2)) λA D=>?_;exact R D rfl
 ·have a3:h.scope=ae.scope:=by exact R he rfl
  have a6:h.cells=RT (s.heap.objs.size+1) ae.scope.names []:=by exact R he rfl
  have c5:h.frame=S h.locals:=by exact R he rfl
  refine rC I.toInCall.same λx B bP=>?_;subst bP;have p:∀E z,s.heap.get? E=S z->x.get? E=S z:=I.toInCall.keep;have fL:=V6 I.toInCall.fresh;have J:∀A∈h.cells.map (·.2),s.heap.get? A=N/\h.locals<A:=λA hc=>by refine aM (VF.mp hc) λcQ i eA=>?_;obtain⟨a0,o⟩:=cQ;refine R eA.symm ?_;have:=I.above a0 o i;exact⟨V6 (Wl (Ve I.toInCall.fresh this)),this⟩
  have nd:(h.cells.map (·.1)).Nodup:=by refine R a6 ?_;refine R (nm ..) ?_;exact r.Na
  have X:cX g (h.locals :: h.locals :: h.cells.map (·.2)++g) [] (bJ h) s.heap x:=by
   refine⟨p,λn H=>Vf _ H,λA H=>?_,λA H=>?_,λA H=>?_,λA=>by refine R Vy ?_;exact V4 _ _⟩
   ·rcases Vd.mp H with H|H
    ·rcases U4.mp H with rfl|H;·exact .inr fL
     ·rcases U4.mp H with rfl|H;·exact .inr fL
      ·exact .inr (J A H).1
    ·exact .inl H
   ·rcases U4.mp H with rfl|H;·exact .inr fL
    ·exact .inr (J A H).1
   ·rw[Vy] at H;by_cases q:A∈h.locals :: h.locals :: h.cells.map (·.2)
    ·refine .inr ?_;rcases U4.mp q with rfl|q;·exact fL
     ·rcases U4.mp q with rfl|q;·exact fL
      ·exact(J A q).1
    ·rw[Vp q] at H;rw[W7] at H;exact .inl H
  have c7:=Vp (a2.no fL);have eo:bt (h.locals :: h.locals :: h.cells.map (·.2)++g) h j:=by
   refine⟨by refine R a3 ?_;exact r.kind,by refine R he ?_;exact r.glob,by refine R he ?_;exact r.blt,.head _,λa0 A D=>?_,λn H=>?_,λa0 Y A e1 m=>name_of_addr I.apart (mem_of_lookup e1) (mem_of_lookup m),r.IV,λv a0 e1 m=>?_⟩;·have i:=Vr (f:=λq:Qc×Qa=>q.2) (mem_of_lookup D);exact⟨Vc _ (.tail _ (.tail _ i)),Wc (J A i).2⟩
   ·exact Vc _ (.tail _ (.tail _ H))
   ·rw[(show∀a0,h.kindOf a0=ae.scope.names.lookup a0 from λa0=>by unfold Qo.kindOf;refine R a3 rfl)] at m;exact lC (by refine R a6 ?_;refine R (nm ..) ?_;exact r.has v a0 e1 m)
  have d:∀(v:Z) n,loc[v]? = S (S n)->v<ax.length:=λv n D=>by refine aM (hv v n D) λC e1 U=>?_;exact R y.symm ((U8.mp e1).1)
  have a7:∀n z,Sf s.heap b g n z->Sf x b (h.locals :: h.locals :: h.cells.map (·.2)++g) n z:=λn z Y=>(Y.dS X.new).grow p;have st:St a e (h.locals :: h.locals :: h.cells.map (·.2)++g) (h :: l) h j b k loc {s with heap:=x,toks:=B}:=by
   refine⟨a2.dS X.new p λE H=>?_,⟨(ba _ I.toInCall.ns (λv a0 n e1 m e3=>?_)),λa0 A D=>(ba _ (I.cell a0 A D) (λv n e1 m e3=>?_)),L⟩,⟨λD H=>?_⟩⟩
   ·refine Aa I.toInCall.ns λoL U U gL U=>?_;rcases Vd.mp H with H|H
    ·rcases U4.mp H with rfl|H;·exact⟨oL,gL⟩
     ·rcases U4.mp H with rfl|H;·exact⟨oL,gL⟩
      ·refine aM (VF.mp H) λeZ i g6=>?_;obtain⟨a0,o⟩:=eZ;exact R g6.symm (aM ((λa0 A i=>I.cell a0 A (r6 nd i)) a0 o i) λoc gc U=>⟨oc,gc⟩)
    ·exact a2.Jr p H
   ·exact aM (hv v n m) λC e4 Y=>ba C (vn e3 r.nd (r.L6 v a0 (d v n m) e1) e4) (Y.mono a7 (.refl b))
   ·exact aM (hv v n m) λC e4 Y=>ba C (Be (by rcases e3 with e3|e3<;>refine R e3 ?_<;>simp) r.nd (r.L6 v a0 (d v n m) e1) e4) (Y.mono a7 (.refl b))
   ·rcases U4.mp H with rfl|H;·refine eM I.toInCall.ns λoL es ep gL dL U=>?_;refine⟨by refine R a3 ?_;refine R r.kind ?_;decide,D.locals,oL,es,ep,c5,?_,(λH=>nomatch H),gL,dL⟩;exact R Y9 (R Xb (R Xb (V4 _ _)))
    ·exact lv.el H λkk a8 ob es a1 f m1 K c4 c6=>⟨kk,a8,ob,es,a1,f,U9 m1 (X.le a8),K,p _ _ c4,c6⟩
  refine⟨b9.keeps p,c1 h _ _ ?_ eo st (eP x B rfl X) p (ba _ I.toInCall.ns (λv a0 C e1 m e3=>vn e3 r.nd e1 m))⟩;refine he.trans ?_;first|rfl|(rw[r.glob])
set_option backward.match.sparseCases true in
theorem enter{s:Qh}{loc:Loc}{vals:V P'}{R:Q9->Qh->Prop}(r:dF ae ax j fh)(J:f.depth<T5)(y:s.heap.get? n=S ak)(a3:ak.data=.func ae)(A:s.heap.NoLimit)(z:s.heap.CodeRec ae.code ae.qualname)
  (w:∀(a4:Q0) (f:QB) (T:P'->Qh->Prop) (Y:O (Qi P')->Qh->Prop),(∀ak,(ak.getD #[]).toList=di->Y ak s)->Qf a4 f (TJ ae.defaults) Y T s)
  (h1:vals.length<=ax.length) (p:ax.length<=vals.length+di.length) (t:di.length<=ax.length)
  (a0:Inv a e g b k s.heap) (c:dI l g [] s.heap) (a1:loc.length=j.length)
  (hv:∀(v:Z) n,loc[v]? = S (S n)->∃C,(vals++di.drop (vals.length+di.length - ax.length))[v]? = S C/\VR a.params (Sf s.heap b g) b n C)
  (X:∀d M G,d=Q6 ae s.heap.objs.size n->bt M d j->St a e M (d :: l) d j b k loc G->(∃x B,G={s with heap:=x,toks:=B}/\cX g M [] (bJ d) s.heap x)->(∀E ak,s.heap.get? E=S ak->G.heap.get? E=S ak)->
   (∃H,G.heap.Ns d.locals H/\∀(v:Z) I C,ax[v]? = S I->(vals++di.drop (vals.length+di.length - ax.length))[v]? = S C->d.kindOf I=S .local->H I=S C)->
   Qf (Qe h a) (f.deeper d) (Rk fh d) (λa2 m=>R (.ok (.ret (match a2 with|.ret C=>C|_=>.none))) m)
    (λD m=>Qf (Qe h a) (f.deeper d) (RG d D) (λU i=>R (.error D) i) (λe' i=>R (.error e') i) m) G) :
  QL (Qe h a) f (.call (.ref n) ⟨vals,[]⟩) R s:=
 UW J y a3 r.co r.gen r.body z (wK (P:=λd a5=>QL (Qe h a) f (.func fh d) R a5) r A w h1 p t a0 c a1 hv λd M G L q q3 o K q6=>codeAny_func (X d M G L q q3 o K q6))
structure DJ(w:Qr)(g₀:Qb)(fd:Q1)(dt:V Q)(ds:V P'):Prop where
 read:(fd.defaults=.none/\ds=[])\/∃T o items n,fd.defaults=.ref T/\g₀.get? T=some o/\o.data=.seq items n/\items.toList=ds
 vals:∀(P:Rb) (S:SP) (r:cS),bU P S r dt ds
theorem DJ.reads(E:DJ a e ae fg di)(s:Inv a e g b k d.heap):∀(y:Q0) (J:QB) (T:P'->Qh->Prop) (Y:O (Qi P')->Qh->Prop),(∀z,(z.getD #[]).toList=di->Y z d)->Qf y J (TJ ae.defaults) Y T d:=by
 intro y J T Y X;refine hF λf=>?_;rcases E.read with⟨D,rfl⟩|⟨U,z,v,q,D,o,c,rfl⟩;·refine f ?_;exact R D (Qg (X N rfl))
 ·refine f ?_;refine R D ?_;exact wpAny_seqItems (s.keep U z o).1 c (X (S v) rfl)
set_option tactic.hygienic true in
theorem iX{n:Z}(D:bindArgs pc fg n z=S w):z.length<=pc/\pc<=z.length+fg.length/\w=((z++fg.drop (z.length+fg.length - pc)).map S++XQ (n - pc) N):=by
 unfold bindArgs at D;split at D;·rename_i M;exact gZ M.1 M.2 ((VH D).symm)
 ·exact nomatch D
theorem tV{j:V Q}(D:(j.map S++XQ bj N)[K]? = S (S m)):j[K]? = S m:=by
 replace D:=XD▸D;split at D
 ·replace D:=Vb▸D
  induction M:j[K]? using U0 with
  |none=>exact nX (M▸D)
  |some E=>replace D:=M▸D;cases D;rfl
 ·replace D:=V.getElem?_replicate▸D;split at D<;>exact nomatch D
theorem yl.at(c:e.NoLimit)(s:Inv a e g b k d.heap):d.heap.NoLimit:=c.keeps λE z D=>(s.keep E z D).1
theorem GX{a9:Z}(r:dF ae ax j fh)(R:bA fq (a9+1) f l)(y:e.get? n=S ak)(a4:ak.data=.func ae)(A:e.NoLimit)(a2:e.CodeRec ae.code ae.qualname)
  (E:DJ a e ae fg di) (t:fg.length<=ax.length) (h4:ax.length<=j.length)
  (s:Inv a e g b k d.heap) (lv:dI l g [] d.heap) (C:bU a.params (Sf d.heap b g) b z fc) (hb:bindArgs ax.length fg j.length z=S w) (nb:aW i bq w k≠.bad)
  (a3:∀x,ve h a e l (Q6 ae x n) j (f.deeper (Q6 ae x n)) i bq fh) :
  QL (Qe h a) f (.call (.ref n) ⟨fc,[]⟩) (RR a e g l ((aW i bq w k).bind λb=>.ok ((match b.1 with|.ret C=>C|.next=>.none),b.2.2)) b d) d:=by
 refine hO (iX hb) λL q2 c=>?_;have I:=C.len;have ld:=(E.vals a.params (Sf d.heap b g) b).len;have a1:bU a.params (Sf d.heap b g) b (z++fg.drop (z.length+fg.length - ax.length)) (fc++di.drop (fc.length+di.length - ax.length)):=by rw[I,ld];exact C.append ((E.vals _ _ _).drop _)
 have k0:=λbq ak D=>(s.keep bq ak D).1;refine enter (loc:=w) r (MO R.depth) (k0 _ _ y) a4 (yl.at A s) ?_ (E.reads s) (I▸L) (I▸ld▸q2) (ld▸t) s lv ?_ (λc2 n D=>a1.get (tV (c▸D))) λP M G H p st a5 J a6=>?_;·exact uM a2 λa8 oc vs K T m e3 e4=>jN a8 oc vs K T (k0 _ _ m) e3 e4
 ·rw[c];exact tl L q2 h4
 ·subst H;refine cN a5 λh' B bP X=>?_;clear L q2 c a5 J a6 I ld a1 k0 r R y a4 A a2 E t h4 s lv hb;subst bP;refine Qq (a3 _ M b k _ _ p st nb) (λa0 s' q=>?_) λD s' q=>?_
  ·refine uM q λfl c1 v r' D ak a7 Y=>R D ?_
   clear D p st a7 nb a3
   induction fl using Fl.casesOn with
   |next=>
    induction a0 using VY with
    |next=>exact .ok (ak.back X) .none
    |_=>exact Y.elim
   |ret n=>
    induction a0 using VY with
    |ret b9=>exact .ok (ak.back X) (VR.mono (λU U Y=>Y.back X.sub) (.refl _) Y)
    |_=>exact Y.elim
  ·have x? : ((aW i bq w k).bind λb=>.ok ((match b.1 with|.ret C=>C|.next=>Q.none),b.2.2)).x? = (aW i bq w k).x?:=by
    induction(aW i bq w k) using Zq<;>rfl
   refine Qq q (λU o Y=>?_) λm o Y=>?_
   ·show EE _ _ _ _ _ _ _ _ _;exact R x? (EF.back X Y)
   ·show EE _ _ _ _ _ _ _ _ _;exact R x? (EF.back X Y)
inductive DL(prog:Qz)(w:Qr)(g₀:Qb)(l:V Qo)(env:Qo)(sl:V (O Qc))(A:QB)(cf:CF)(ym:Qc):V Z->fD->V Qn->Prop
 |nil:DL prog w g₀ l env sl A cf ym [] .nil []
 |cons {f:Z} {fs:V Z} {e:LE} {es:fD} {y:P9} {xs:V Qn} {p1 p2 p3:Qv}:SE prog w g₀ l env sl A cf e y->DL prog w g₀ l env sl A cf ym fs es xs->DL prog w g₀ l env sl A cf ym (f :: fs) (.cons e es) (.Assign [.Attribute (.Name ym p1) (sx f) p2] y p3 :: xs)
theorem FR.Bf(d:∀X∈ah,X<NS):∀{c:V Q} {j:V QD} {X:Z},FR Y x b ah c j->X<NS->X∉ah->j.findIdx? (λD=>D.key.isStr (sx X))=O.none:=by
 induction ah with
 |nil=>intro c j X B _ _;cases B;rfl
 |cons I ah k=>
  intro c j X B J K
  rw[U4,Rn] at K
  cases B with
  |@cons _ C v t _ c j G p=>
   refine Xl.trans ?_;have:(P'.str (sx I) t).isStr (sx X)=P8:=by refine(m7 (d I (.head _)) J).trans ?_;rw[RK];exact λD=>K.1 D.symm
   simp only[this,V5,Rl];refine R (k (λX J=>d X (.tail _ J)) p J K.2) ?_;rfl
theorem mV.bindG{t:Z}{p:Rel G bx}{K:Qt bx}{n:Res (G×AH)}{r:G×AH->Res pi}{i:bx->Qh->Prop}(R:bA fq t f (c :: o))(k:dI (c :: o) g [] ay.heap)(J:∀L∈az,L∈g)(B:mV a e g T f (c :: o) p K n aq ay)(z:aQ a e g az b d aq cu ay)
  (X:∀L s H h E,n=.ok (L,s)->aQ a e g az b d H s h->aQ a e g [] aq ay H s h->p (Sf h.heap H g) H L E->r (L,s)≠.bad->i E h) (w:n.bind r≠.bad) :
  Qf T f K i (ES a e g T f az o c (n.bind r).x? b d) ay:=by
 refine Qq (B (λq=>w (by refine(bL q).trans ?_;rfl))) (λE m q=>?_) λl m q=>?_;·refine eM q λL s H bP o2 C=>?_;clear B;subst bP;exact X L s H m E rfl (z.trans o2.wide) o2 C w
 ·refine EF.stmt R k (EF.pre z J ?_)
  refine cN q λK v D Y=>?_
  clear q R k J B z X w
  induction n using Zq with
  |ok L=>exact nX D
  |bad=>exact nX D
  |exc y j=>obtain⟨rfl,rfl⟩:=sP D;exact eP _ _ rfl Y.wide
noncomputable def tW(P:Qo)(i:Qc)(I:Qa)(B:Qb):Prop:=∃H,B.Ns P.locals H/\H i=S (.ref I)
theorem tW.keep{own:V Qa}{fr:V Qa}(p:bt own c j)(s:Inv a e own b k d.heap)(n:tW c de cn d.heap)(z:aQ a e own fr b d aq cu ay)(K:c.locals∉fr):tW c de cn ay.heap:=aM n λH cQ D=>eM cQ λB g r o y Y=>z.keep.el o (s.off _ p.loc).1 K λU f G q=>ba H ⟨f,g,r,G,q.data.trans y,Y⟩ D
structure qI(w:Qr)(g₀:Qb)(own:V Qa)(l:V Qo)(env:Qo)(sl:V (O Qc))(ym:Qc)(x d:Qa)(c:gV)(loc:Loc)(ks:V Z)(vs:V Q)(r:cS)(H:AH)(s:Qh):Prop where
 st:St w g₀ own l env sl r H loc s
 at':∃es n,lp s x d c es n/\FR w.params (Sf s.heap r own) r ks vs es.toList
 sat:tW env ym x s.heap
structure nO(own:V Qa)(env:Qo)(ym:Qc)(x d:Qa)(c:gV):Prop where
 ix:own.count x=1
 id:own.count d=1
 ne:x≠d
 nx:x∉bJ env
 nd:d∉bJ env
 ks:env.kindOf ym=S .local
 kd:(ym==("__debug__":Qc))=P8
 ce:c≠.bZ
theorem gB(B:g.count n=1):n∈g:=Vz.mp (by refine R B ?_;decide)
theorem qI.on{s:Qh}(y:nO g c de cn A U)(p:bt g c j)(n:qI a e g l c j de cn A U w ah bc b k s)(z:aQ a e g [] b s aq cu ay):qI a e g l c j de cn A U w ah bc aq cu ay:=by
 refine cN n.at' λo q h r=>?_;have d:∀{L:Qa} {B:Qs},g.count L=1->s.heap.get? L=S B->ay.heap.get? L=S B:=λ{L B} i D=>by refine z.keep.el D (n.st.inv.off L (gB i)).1 (λH=>nomatch H) λm f G M=>?_;exact R (M.once (n6 i rfl)).symm G
 exact⟨n.st.on p z,⟨o,q,⟨d y.ix h.x,d y.id h.d⟩,r.mono (λm m Y=>z.Ju Y) z.le⟩,n.sat.keep p n.st.inv z λH=>nomatch H⟩
theorem sL(C:Gr v e P cv cx cw)(p:bt g c j)(y:nO g c de cn A U)(s:qI a e g l c j de cn A U w ah bc aq cu ay)(J:ah++c9 :: j9=cA U)(v1:VR a.params (Sf ay.heap aq g) aq m dv)
  (X:∀o,aQ a e g [A] aq ay aq cu o->qI a e g l c j de cn A U w (ah++[c9]) (bc++[m]) aq cu o->ca () o) :
  Qf (Qe h a) f (PySem.eval (.Name de k9) c) (λov a0=>Qf (Qe h a) f (S4 ov (sx c9) dv) ca t a0) t ay:=by
 refine aM s.sat λH K i=>Sb ?_ y.kd;refine Sd p.kind y.ks K i (cN s.at' λn I k b=>?_);have hf:c9∈cA U:=by rw[<-J];exact Vf _ (.head _)
 have d:=λX H=>iO U X (by rw[<-J];exact Vc _ H);have a2:c9∉ah:=λH=>by have nd:=pA U;rw[<-J] at nd;exact(VI.mp nd).2.2 c9 H c9 (.head _) rfl
 have hz:n.size<500:=by
  have:(cA U).length<500:=by induction U using gV.casesOn<;>decide +kernel
  rw[<-J,U7] at this;rw[<-U',b.len.2];exact Ve (Vu _ _) this
 refine ye (r:=aq) C.ok C.set (C.In s.st.inv) y.ce hf k b d hz λx tk n' a3 a1 T G sb=>?_;rw[b.Bf d (iO U c9 hf) a2] at T;have L:∀E z,E≠A->ay.heap.get? E=S z->x.get? E=S z:=λE z M D=>(sb.2 E M).trans D;have o2:aQ a e g [A] aq ay aq cu {ay with heap:=x,toks:=tk}:=.mk' (s.st.inv.loose L (.inl (gB y.id)) ((s.st.inv.off A (gB y.id)).1) λε=>⟨_,G⟩) (.but (a:=A) L (.inr (.inl (.head _)))) (.refl aq);have q:∀E B,Sf ay.heap aq g E B->Sf x aq g E B:=λE B Y=>o2.sf (λm H=>.inl (by rw[UZ.mp H];exact gB y.id)) Y;refine X _ o2 ⟨s.st.KX p o2 y.nd y.id,⟨a1,n',⟨L _ _ y.ne k.x,G⟩,?_⟩,s.sat.keep p s.st.inv o2 λH=>y.nd (by rw[<-UZ.mp H];exact .head _)⟩;rw[T];exact(b.mono q (.refl aq)).snoc (v1.mono q (.refl aq))
theorem Bg(a2:Gr v e P cv cx cw)(R:bA fq q f (c :: o))(p:bt g c j)(ho:nO g c de cn A U)(B:DL h a e (c :: o) c j f i de j9 bm ew) :
  ∀{I:V Z} {vs:V Q} {x:cS} {y:AH} {d:Qh},qI a e g (c :: o) c j de cn A U w I vs x y d->I++j9=cA U->bB i bm w y≠.bad->
   Qf (Qe h a) f (Rk ew c) (λr m=>r=.next/\∃us b r',bB i bm w y=.ok (us,b)/\aQ a e g [A] x d r' b m/\qI a e g (c :: o) c j de cn A U w (cA U) (vs++us) r' b m)
    (ES a e g (Qe h a) f [A] o c (bB i bm w y).x? x d) d:=by
 have a1:∀L∈[A],L∈g:=λL H=>by rw[UZ.mp H];exact gB ho.id
 induction B with
 |nil=>intro I vs x y d n J t;rw[VQ] at J;refine Rm ⟨rfl,[],y,x,rfl,.refl n.st.inv,?_⟩;rw[VQ,<-J];exact n
 |@cons r j9 a5 bm y' ew C p2 p3 a3 B k=>
  intro I vs x y d n J t;rw[hW] at t⊢;refine S0 (Uk ((a3 g x y d w p n.st).bindG R n.st.live a1 (.refl n.st.inv) (λL z X G va T o1 C v1 a4=>?_) t) (kH (.Name de _) (sx r) _ p3.line c));rw[T,Res.aP];refine sL a2 p ho (n.on ho p C) J v1 λs2 o2 y2=>?_;have a0:bB i bm w z≠.bad:=λM=>a4 ((bL M).trans rfl);refine Qq (k y2 (by refine(VJ ..).trans ?_;exact J) a0) (λf' m M=>?_) λe' m M=>?_;·obtain⟨rfl,us,b,r',e2,o3,D⟩:=M;refine⟨rfl,L :: us,b,r',by rw[e2];rfl,(o1.trans o2).trans o3,?_⟩;rw[VJ] at D;exact D
  ·refine M.mono λE K Y=>cN Y λtt b l Y=>eP tt b ?_ (Y.pre (o1.trans o2) a1)
   induction M:bB i bm w z using Zq with
   |ok _=>exact nX (M▸l)
   |bad=>exact Qp M a0
   |exc t2 s=>replace l:=M▸l;obtain⟨rfl,rfl⟩:=sP l;rfl
theorem cX.comp{a:V Qa}{b:V Qa}{c:V Qa}{d:V Qa}(L:cX g a [] c p rd)(E:cX a b [] d rd mn):cX g b [] c p mn:=
 have h:∀{M:Qa},rd.get? M=N->p.get? M=N:=λ{M} D=>by
  induction Y:p.get? M using U0 with
  |none=>rfl
  |some z=>replace D:=(L.hs M z Y)▸D;cases D
 ⟨λM z D=>E.hs M z (L.hs M z D),λM H=>E.sub M (L.sub M H),λM H=>(E.new M H).elim (L.new M) λD=>.inr (h D),L.GC,λM H=>(E.cnt M H).elim (L.cnt M) λD=>.inr (h D),λM=>U9 (L.le M) (E.le M)⟩
theorem bA.deeper(R:bA fq (q+1) f l):bA fq q (f.deeper c) (c :: l):=⟨R.handled,QB.frames_deeper R.frames,Jl R.depth rfl,Jl R.units rfl⟩
theorem bA.make{A:QB}(R:bA fq (q+1) A l):bA fq q ((A.under (.builtin "type.__call__" ⟨.ref ap :: fc,[]⟩)).deeper c) (c :: l):=⟨R.handled,QB.frames_deeper (A:=A.under (.builtin "type.__call__" ⟨.ref ap :: fc,[]⟩)) R.frames,MN R.depth rfl,MN R.units rfl⟩
noncomputable def qJ(A:gV):Res (V Q×AH)->Res (Q×AH):=λM=>M.bind λx=>if hV A then .ok (.obj A x.1,x.2) else .ok (.aA x.2.I.length,{x.2 with I:=x.2.I++[(A,x.1)]})
theorem yn(X:∀E z,p.get? E=S z->aa.get? E=S z)(I:p.CodeRec ae.code ae.qualname):aa.CodeRec ae.code ae.qualname:=uM I λc b w K T m l o=>jN c b w K T (X _ _ m) l o
theorem yo{s:Qh}{P:Qo->Qh->Prop}(hc:U≠.bZ)(r:dF ae ax j fh)(a3:DJ a e ae fg di)(c4:e.NoLimit)(h3:fg.length<=ax.length)(h4:ax.length<=j.length)
  (n0:ax[0]? = S de) (p:ae.scope.names.lookup de=S .local) (kd:(de==("__debug__":Qc))=P8)
  (a2:Inv a e g b k s.heap) (lv:dI l g [] s.heap) (C:bU a.params (Sf s.heap b g) b z fc) (hb:bindArgs ax.length fg j.length (.none :: z)=S qi) (c:w=qi.set 0 N)
  (c5:∀a0 M x tk,a0=Q6 ae ((s.heap.push QK).push (QH (CA U) s.heap.objs.size)).objs.size j4->bt M a0 j->nO M a0 de (s.heap.objs.size+1) s.heap.objs.size U->qI a e M (a0 :: l) a0 j de (s.heap.objs.size+1) s.heap.objs.size U w [] [] b k {s with heap:=x,toks:=tk}->
   cX g M [] [s.heap.objs.size] s.heap x->P a0 {s with heap:=x,toks:=tk}) :
  Qf T f (PySem.bindArgs ae ⟨.ref (s.heap.objs.size+1) :: fc,[]⟩) (λd1 c9=>Qf T f (TF ae.scope ae.globals ae.closure d1 (ae.qualname++".<locals>.") (S j4) ae.code N ae.builtins) (λa0 a8=>a8.heap.NoLimit/\P a0 a8) t c9) t {s with heap:=(s.heap.push QK).push (QH (CA U) s.heap.objs.size)}:=by
 refine hO (iX hb) λq1 q2 a7=>?_;rw[V'] at q1 q2;have a4:=C.len;have ld:fg.length=di.length:=(a3.vals a.params (Sf s.heap b g) b).len;have o:s.heap.get? s.heap.objs.size=N:=ct _;have a9:s.heap.get? (s.heap.objs.size+1)=N:=V6 (VK _);have a1:∀E a6,s.heap.get? E=S a6->((s.heap.push QK).push (QH (CA U) s.heap.objs.size)).get? E=S a6:=λE a6 D=>U2 _ (U2 _ D);have gx:((s.heap.push QK).push (QH (CA U) s.heap.objs.size)).get? (s.heap.objs.size+1)=S (QH (CA U) s.heap.objs.size):=by heap_get
 have y:((s.heap.push QK).push (QH (CA U) s.heap.objs.size)).get? s.heap.objs.size=S QK:=by heap_get
 have d:cX g ([s.heap.objs.size+1,s.heap.objs.size]++g) [] [s.heap.objs.size] s.heap ((s.heap.push QK).push (QH (CA U) s.heap.objs.size)):=by
  have X:=cX.more (own:=g) (fr:=[]) (ns:=[s.heap.objs.size+1,s.heap.objs.size]) (λE hb=>by
   rcases U4.mp hb with rfl|hb;·exact a9
   ·rw[UZ.mp hb];exact o) (by simp) a1
  exact⟨X.hs,X.sub,X.new,λq H=>.inr (by rw[UZ.mp H];exact o),X.cnt,X.le⟩
 have b9:∀{L:Qa},s.heap.get? L=N->g.count L=0:=λ{L} D=>Vp (a2.no D);have i1:Inv a e ([s.heap.objs.size+1,s.heap.objs.size]++g) b k ((s.heap.push QK).push (QH (CA U) s.heap.objs.size)):=a2.dS d.new a1 λE H=>by
  rcases Vd.mp H with H|H
  ·rcases U4.mp H with rfl|H;·exact⟨_,gx⟩
   ·rw[UZ.mp H];exact⟨_,y⟩
  ·exact a2.Jr a1 H
 have c6:dI l ([s.heap.objs.size+1,s.heap.objs.size]++g) [] ((s.heap.push QK).push (QH (CA U) s.heap.objs.size)):=lv.dS d.le a1;have v1:bU a.params (Sf ((s.heap.push QK).push (QH (CA U) s.heap.objs.size)) b ([s.heap.objs.size+1,s.heap.objs.size]++g)) b z fc:=C.mono (λε ε Y=>(Y.dS d.new).grow a1) (.refl b);have A:bU a.params (Sf ((s.heap.push QK).push (QH (CA U) s.heap.objs.size)) b ([s.heap.objs.size+1,s.heap.objs.size]++g)) b (z++fg.drop (z.length+1+fg.length - ax.length)) (fc++di.drop (fc.length+1+di.length - ax.length)):=by rw[a4,ld];exact v1.append ((a3.vals _ _ _).drop _)
 refine wK (s:={s with heap:=(s.heap.push QK).push (QH (CA U) s.heap.objs.size)}) (vals:=.ref (s.heap.objs.size+1) :: fc) (loc:=w) r (yl.at c4 i1) (a3.reads i1) (by rw[V'];exact a4▸q1) (by rw[V'];exact a4▸ld▸q2) (ld▸h3) i1 c6 ?_ (λv L D=>?_) λa0 M s1 he eo st c8 J c3=>?_;·rw[c,a7,Wg];exact tl q1 q2 h4
 ·induction v using Vn with
  |zero=>
   replace D:=c▸D
   refine hF λd2=>?_
   induction qi using U5 with
   |nil=>cases D
   |cons n h=>cases D
  |succ v=>rw[c,a7] at D;have e2:=tV D;refine aM (A.get (i:=v) (a:=L) e2) λd0 e3 Y=>ba d0 ?_ Y;exact e3
 ·subst he;refine cN c8 λx tk bP W2=>?_;subst bP;have X:=d.comp W2;have I:∀{L:Qa} {B:Qs},([s.heap.objs.size+1,s.heap.objs.size]++g).count L=1->((s.heap.push QK).push (QH (CA U) s.heap.objs.size)).get? L=S B->M.count L=1:=λ{L B} D a5=>by
   have G:1<=M.count L:=U9 (Vq D.symm) (W2.le L);have h2:¬2<=M.count L:=λq=>(W2.cnt L q).elim (λY=>Qp (U9 Y (Vq D)) (by decide)) λY=>by replace Y:=a5▸Y;cases Y
   exact Yi (WZ (Y' h2)) G
  have m:∀{L:Qa} {B:Qs},((s.heap.push QK).push (QH (CA U) s.heap.objs.size)).get? L=S B->L∉bJ (Q6 ae ((s.heap.push QK).push (QH (CA U) s.heap.objs.size)).objs.size j4):=λ{L B} a5 H=>(W2.GC L H).elim (λY=>nomatch Y) λY=>by replace Y:=a5▸Y;cases Y
  have c1:([s.heap.objs.size+1,s.heap.objs.size]++g).count (s.heap.objs.size+1)=1:=by rw[Vy,b9 a9,Xb,YB (LI rfl),V.count_nil]
  have c2:([s.heap.objs.size+1,s.heap.objs.size]++g).count s.heap.objs.size=1:=by rw[Vy,b9 o,YB (N0 rfl),Xb,V.count_nil]
  have c7:nO M (Q6 ae ((s.heap.push QK).push (QH (CA U) s.heap.objs.size)).objs.size j4) de (s.heap.objs.size+1) s.heap.objs.size U:=⟨I c1 gx,I c2 y,Ye _,m gx,m y,p,kd,hc⟩;have n:qI a e M (Q6 ae ((s.heap.push QK).push (QH (CA U) s.heap.objs.size)).objs.size j4 :: l) (Q6 ae ((s.heap.push QK).push (QH (CA U) s.heap.objs.size)).objs.size j4) j de (s.heap.objs.size+1) s.heap.objs.size U w [] [] b k {s with heap:=x,toks:=tk}:=by refine⟨st,⟨#[],0,⟨J _ _ gx,J _ _ y⟩,.nil⟩,?_⟩;exact aM c3 λH K i=>⟨H,K,i 0 de _ n0 rfl p⟩
  exact c5 _ M _ _ rfl eo c7 n X
theorem DM{s:Qh}(a8:Gr v e P cv cx cw)(hc:U≠.bZ)(r:dF ae ax j fh)(R:bA fq (q+1) f l)
  (mk:TK v (CA U)=P4) (hi:Q8 v (.ref (CA U)) "__init__"=S (S (.ref j4))) (ht:Rf v (.ref j4)=S (.type "function"))
  (ho:e.get? j4=S ak) (c9:ak.data=.func ae) (c2:e.NoLimit) (c5:e.CodeRec ae.code ae.qualname) (c3:DJ a e ae fg di) (t:fg.length<=ax.length) (h4:ax.length<=j.length)
  (I:ax[0]? = S de) (kl:ae.scope.names.lookup de=S .local) (kd:(de==("__debug__":Qc))=P8)
  (a0:Inv a e g b k s.heap) (lv:dI l g [] s.heap) (d0:bU a.params (Sf s.heap b g) b z fc) (hb:bindArgs ax.length fg j.length (.none :: z)=S qi) (c:w=qi.set 0 N) (nb:bB i ij w k≠.bad)
  (c7:∀x,DL h a e (Q6 ae x j4 :: l) (Q6 ae x j4) j ((f.under (.builtin "type.__call__" ⟨.ref (CA U) :: fc,[]⟩)).deeper (Q6 ae x j4)) i de (cA U) ij fh) :
  QL (Qe h a) f (.call (.ref (CA U)) ⟨fc,[]⟩) (RR a e g l (qJ U (bB i ij w k)) b s) s:=by
 have a6:v.In s.heap:=a8.In a0;have k0:∀E ak,e.get? E=S ak->((s.heap.push QK).push (QH (CA U) s.heap.objs.size)).get? E=S ak:=λE ak D=>U2 _ (U2 _ (a0.keep E ak D).1);obtain⟨n,o,dd,K,os⟩:=s;refine make_core (makes_of a6 mk) (Sm a6 hi) (λc4=>bind_fn a6 c4 ht) (.inl rfl) (UW (s:=⟨(n.push QK).push (QH (CA U) n.objs.size),o,dd,K,os⟩) (Fc R.depth rfl) (k0 _ _ ho) c9 r.co r.gen r.body (yn k0 c5) (yo (s:=⟨n,o,dd,K,os⟩) (P:=λa7 c6=>QL (Qe h a) _ (.func fh a7) _ c6) hc r c3 c2 t h4 I kl kd a0 lv d0 hb c λa7 a9 h' tk he p a5 c8 a1=>codeAny_func ?_));subst he;refine Qq (Bg a8 R.make p a5 (c7 _) c8 rfl nb) (λa4 m a3=>?_) λD m a3=>?_
 ·obtain⟨rfl,us,H',J,T,ak,d⟩:=a3
  refine⟨rfl,?_⟩
  rw[T]
  refine cN d.at' λes H a2 a4=>?_
  have oB:aQ a e g [] b ⟨n,o,dd,K,os⟩ J H' m:=aQ.back (s:=⟨n,o,dd,K,os⟩) a1 (ak.inc λU H=>H)
  have G:n.objs.size+1∈a9:=gB a5.ix
  have y:n.objs.size∈a9:=gB a5.id
  have b9:n.get? n.objs.size=N:=ct _
  have c1:n.get? (n.objs.size+1)=N:=V6 (VK _)
  have nx:n.objs.size+1∉g:=a0.no c1
  have A:n.objs.size∉g:=a0.no b9
  unfold qJ
  rw[Res.aP]
  induction hf:hV U using U6 with
  |true=>exact .ok oB (.obj U us _ _ es H ⟨a2.x,(d.st.inv.off _ G).1,nx⟩ ⟨a2.d,(d.st.inv.off _ y).1,A⟩ (a4.mono (λε ε Y=>Y.back a1.sub) (.refl _)))
  |false=>
   have iB:Inv a e g (J.yR (n.objs.size+1,n.objs.size)) {H' with I:=H'.I++[(U,us)]} m.heap:=d.st.inv.Gy (q:=(n.objs.size+1,n.objs.size)) G y (Ye _) (λE H=>⟨a1.sub E H,(λD=>nx (by have D:E=n.objs.size+1:=D;rw[<-D];exact H)),λD=>A (by have D:E=n.objs.size:=D;rw[<-D];exact H)⟩) a2.x a2.d a4
   have M:=More.I J (n.objs.size+1,n.objs.size)
   refine .ok (r':=J.yR (n.objs.size+1,n.objs.size)) ⟨oB.eq,iB,⟨λE B D z1 z2=>?_⟩,λX L D=>M.le.L X L (oB.le.L X L D),λX L D=>M.le.D X L (oB.le.D X L D),λX L D=>M.le.B X L (oB.le.B X L D),λX L D=>M.le.I X L (oB.le.I X L D)⟩ (.aA _ (n.objs.size+1) n.objs.size (by rw[<-d.st.inv.ey.lU];exact hY))
   refine bT (oB.keep.get E B D z1 z2) λz3 z4=>⟨λY=>(M.mem.mp Y).elim (λY=>?_) z3,z4⟩
   rcases U4.mp Y with Y|Y
   ·rw[Y,c1] at D;cases D
   ·rw[UZ.mp Y,b9] at D;cases D
 ·have C : (qJ U (bB i ij w k)).x? = (bB i ij w k).x?:=by
   unfold qJ
   cases bB i ij w k with
   |ok a3=>rw[Res.aP];induction(hV U) using U6<;>rfl
   |exc _ _=>rfl
   |bad=>rfl
  refine Qq a3 (λε s2 Y=>?_) λe2 s2 Y=>?_
  ·show EE _ _ _ _ _ _ _ _ _;rw[C];exact EF.back (s:=⟨n,o,dd,K,os⟩) a1 Y
  ·show EE _ _ _ _ _ _ _ _ _;rw[C];exact EF.back (s:=⟨n,o,dd,K,os⟩) a1 Y
section
open Builtin.ObjectAttr
noncomputable def L7:V P':=[.type "Exception",.type "BaseException",.type "object"]
noncomputable def JL(C:P'):O Qa:=vw P'.ctorIdx 10 C λB=>W9 C B λL=>S L
theorem GY(C:P'):aZ (JL C) λL=>C=.ref L:=ek λB=>W9 (motive:=λC=>∀B,aZ (W9 (motive:=λ_=>O Qa) C B λL=>S L) λL=>C=.ref L) C B (λL _=>rfl) B
noncomputable def kK:V P'->P6
 |[]=>P8
 |C :: x=>((JL C).any λU=>kK x)||Qd (C :: x=L7)
theorem wM(q:P')(B:kK px=P4):refuseLoop q "__setattr__" px=pure ():=by
 induction px with
 |nil=>exact bF B
 |cons C x k=>
  rcases VS.mp B with B|B;·exact k0 (P:=λC=>refuseLoop q "__setattr__" (C :: x)=pure ()) (GY C) B λL B=>((refuseLoop_ref ..).trans (k B))
  ·exact R (Qj B) (PySem.F.store_Exception.passes q)
theorem DN(B:kK px=P4):px.contains (.type "object")=P4:=by
 induction px with
 |nil=>exact bF B
 |cons C x k=>
  rcases VS.mp B with B|B;·refine aM (QR B) λU U B=>?_;refine V.contains_cons.trans ?_;refine R (k B) ?_;exact(P6.or_true ..)
  ·refine R (Qj B) ?_;decide +kernel
structure zA(K:QF):Prop where
 sa:Q8 K (.ref (CA .bZ)) "__setattr__"=S (S (.builtin "object.__setattr__"))
 over:(RD K (CA .bZ)).any (λcd=>kK cd.mro)=P4
 AP:SM K (CA .bZ) (sx 76)=S N
 make:qH K (CA .bZ)=P4
 init:Q8 K (.ref (CA .bZ)) "__init__"=S (S (.ref 36))
 fn:Rf K (.ref 36)=S (.type "function")
theorem zB{s:Qh}{t:O Qs}{B:QY}{x:O P'}(g:v.In s.heap)(k:InstAt s.heap cn pt ap t)(j:(RD v ap).any (λI=>kK I.mro)=P4)(l:SM v ap nz=S x)
  (z:∀E,Qf (Qe h a) f.in1 (match x with|some L=>setByDescriptor L (.ref cn) ag|none=>storeInOwnDict (.ref cn) (.ref ap) (.str nz B) nz ag E)
   (λp m=>match p with|.done r=>fy (.ok r) m|.again o=>o.quiet=P4/\QL (Qe h a) f o fy m) (λD m=>fy (.error D) m) s) :
  QL (Qe h a) f (.call (.builtin "object.__setattr__") ⟨[.ref cn,.str nz B,ag],[]⟩) fy s:=by
 have b:=PySem.F.store_object;refine aM (QR j) λI e y=>?_;have i:I.mro.isEmpty=P8:=by cases q:I.mro with|nil=>replace y:=q▸y;cases y|cons _ _=>rfl
 refine UL b.slot.plain b.entry (@Ts (Qe h a) _ _ s "object.__setattr__" "object" "__setattr__" (.ref cn) [.str nz B,ag] [] _ b.kind b.split (k.type.andThen (Tt g (by refine(oL e).trans ?_;refine(WH ..).trans ?_;refine(Qm (by rw[i];decide)).trans ?_;rw[DN y]))) (b.args (.ref cn) (.str nz B) ag) ?_);refine lI l λA c n=>?_;have d:QA (Qe h a) s.heap (storeTaker? A) x:=by
  clear b i j l
  induction A using U0 with
  |none=>exact sJ n .now
  |some L=>refine Ab n λE w bP=>?_;clear n;subst bP;refine(looks_takesIn g w).andThen ?_;clear w;induction E using U6<;>exact .now
 rw[osa_eq,refuse_eq];refine P7 (P7 (k.type.here (P7 ((show QA (Qe h a) s.heap (mroOf (.ref ap)) I.mro from(Tx g e).andThen .now).here ?_))));rw[wM _ y];refine Qg (P7 (k.type.here (P7 ((Sm g c).here (P7 (d.here ?_))))));exact z _
theorem DO{s:Qh}{K:Qa}(k1:y0 v)(b:zA v)(g:v.In s.heap)(H:s.heap.get? cn=S (jH (CA .bZ) K))
  (X:∀x e B,(∀E z,E≠cn->s.heap.get? E=S z->x.get? E=S z)->x.get? cn=S {jH (CA .bZ) K with dict:=S s.heap.objs.size}->x.get? s.heap.objs.size=S (bM #[⟨VN a.params (sx 76),.str (sx 76) B,g8⟩] 1)->ca () {s with heap:=x,toks:=e}) :
  Qf (Qe h a) f (S4 (.ref cn) (sx 76) g8) ca t s:=by have k:InstAt s.heap cn (jH (CA .bZ) K) (CA .bZ) N:=⟨H,rfl,rfl,trivial⟩;refine aM k1.cls λI d C=>set_plain g k b.sa (zB (s:={s with toks:=s.toks+1}) g k b.over b.AP λE=>?_);refine P7 (Qg (P7 (P7 (R6 H (P7 (QA.here (s:={s with toks:=s.toks+1}) (Tx g d) ?_))))));refine R C (P7 (wpAny_alloc ?_));have c:(s.heap.push QK).get? cn=S (jH (CA .bZ) K):=U2 _ H;refine P7 (Ui c ?_);refine Qg (a:=S s.heap.objs.size) ?_;have m:=Wc (VV H);have y:((s.heap.push QK).update cn λz=>{z with dict:=S s.heap.objs.size}).get? s.heap.objs.size=S QK:=(We _ _ (Wd m)).trans (Vs _ rfl);have j:((s.heap.push QK).update cn λz=>{z with dict:=S s.heap.objs.size}).get? cn=S {jH (CA .bZ) K with dict:=S s.heap.objs.size}:=Vx _ c rfl;refine P7 (Qg (P7 ?_));refine P7 (P7 (TV (Qg (P7 (T6 (P7 (R6 y ?_)))))));refine R (show(!(#[]:Qi QD).any (·.key.isStr (sx 76))&&(#[]:Qi QD).any (·.refKey))=P8 from by simp) ?_;have q:=Vx (Yq (sx 76) (VN a.params (sx 76)) (.str (sx 76) (s.toks+1)) g8) y (by refine R (show QK=bM #[] 0 from rfl) ?_;exact R (show Yq (sx 76) (VN a.params (sx 76)) (.str (sx 76) (s.toks+1)) g8 (bM #[] 0)=bM #[⟨VN a.params (sx 76),.str (sx 76) (s.toks+1),g8⟩] 1 from rfl) rfl);refine UQ y ?_;refine P7 (Tw q (UR (by refine R Q' ?_;exact Yd _)) ?_);refine Qg (X _ _ _ (λE z w D=>?_) ((We _ _ m).trans j) q);have Y:s.heap.objs.size≠E:=Wc (VV D);exact(We _ _ Y).trans ((We _ _ (Wd w)).trans (U2 _ D))
end
structure wN(w:Qr)(h h':Qb)(x d tup:Qa)(tv:P'):Prop where
 kept:∀b o,h.get? b=S o->h'.get? b=S o
 nx:h.get? x=N
 nd:h.get? d=N
 nt:h.get? tup=N
 dx:d≠x
 tx:tup≠x
 gx:h'.get? x=S {jH (CA .bZ) tup with dict:=S d}
 gd:∃tt,h'.get? d=S (bM #[⟨VN w.params (sx 76),.str (sx 76) tt,tv⟩] 1)
theorem DP{c8:Z}{a0:Qc}{R:Q9->Qh->Prop}(A:Gr v e P cv cx cw)(k2:zA v)(r:dF ae [de,a0] j [.Assign [.Attribute (.Name de k9) (sx 76) l8] (.Name a0 pw) qe])(m:bA fq (c8+1) f l)
  (y:e.get? 36=S ak) (a6:ak.data=.func ae) (a3:e.NoLimit) (z:e.CodeRec ae.code ae.qualname) (a2:DJ a e ae fg di) (t:fg.length<=2) (L:j.length=2)
  (kl:ae.scope.names.lookup de=S .local) (kt:ae.scope.names.lookup a0=S .local) (kd:(de==("__debug__":Qc))=P8) (c4:(a0==("__debug__":Qc))=P8)
  (s:Inv a e g b k d.heap) (c:dI l g [] d.heap) (C:VR a.params (Sf d.heap b g) b gg ku)
  (hQ:∀x B I c5 b9,wN a d.heap x I c5 b9 ku->R (.ok (.ret (.ref I))) {d with heap:=x,toks:=B}) :
  QL (Qe h a) f (.call (.ref (CA .bZ)) ⟨[ku],[]⟩) R d:=by
 have ld:=(a2.vals a.params (Sf d.heap b g) b).len;have k0:=λE ak D=>(s.keep E ak D).1;have a1:=A.In s;obtain⟨n,o,dd,c6,os⟩:=d;have Y:∀E ak,n.get? E=S ak->((n.push {cls:=.type "tuple",data:=.seq [ku].toArray}).push (jH (CA .bZ) n.objs.size)).get? E=S ak:=λE ak D=>U2 _ (U2 _ D);have gx:((n.push {cls:=.type "tuple",data:=.seq [ku].toArray}).push (jH (CA .bZ) n.objs.size)).get? (n.objs.size+1)=S (jH (CA .bZ) n.objs.size):=by heap_get
 have i1:Inv a e g b k ((n.push {cls:=.type "tuple",data:=.seq [ku].toArray}).push (jH (CA .bZ) n.objs.size)):=s.grow Y;have a4:dI l g [] ((n.push {cls:=.type "tuple",data:=.seq [ku].toArray}).push (jH (CA .bZ) n.objs.size)):=c.dS (λU=>VB _) Y;refine A9 (sI a1 k2.make) (by have:Q2=_:=Q';simp;exact Yd _) (Sm a1 k2.init) (λc1=>bind_fn a1 c1 k2.fn) ?_;refine enter (s:=⟨(n.push {cls:=.type "tuple",data:=.seq [ku].toArray}).push (jH (CA .bZ) n.objs.size),o,dd,c6,os⟩) (vals:=[.ref (n.objs.size+1),ku]) (loc:=[N,S gg]) r (Fc m.depth rfl) (Y _ _ (k0 _ _ y)) a6 (yl.at a3 i1) ?_ (a2.reads i1) (VB _) (by simp) (by rw[<-ld];exact t) i1 a4 (by simp[L]) (λa7 c9 D=>?_) λc7 M s1 H p st a5 J a8=>?_;·exact uM z λcc oc w gg T e2 e3 e4=>jN cc oc w gg T (Y _ _ (k0 _ _ e2)) e3 e4
 ·rcases a7 with _|_|a7;·exact nX (sX D)
  ·obtain rfl:=sX (sX D);exact ba ku rfl (C.mono (λU U c2=>c2.grow Y) (.refl b))
  ·exact nX D
 ·subst H;refine cN a5 λx B bP X=>?_;clear a5 X ld k0 a1 i1 a4 r m y a6 a3 z a2 L s c C;subst bP;refine aM a8 λd0 K i=>S0 (Uk ?_ (kH (.Name de _) (sx 76) _ qe.line _));refine Sb (Sd p.kind kt K (i 1 a0 ku rfl rfl kt) ?_) c4;refine Sb (Sd p.kind kl K (i 0 de _ rfl rfl kl) ?_) kd;refine DO A.err k2 (A.In st.inv) (J _ _ gx) λt c3 tt kp a9 G=>Rm ⟨rfl,hQ t c3 (n.objs.size+1) x.objs.size n.objs.size ⟨λE ak D=>kp E ak (λq=>?_) (J _ _ (Y _ _ D)),V6 (VK _),?_,ct _,?_,Wj (VU _),a9,tt,G⟩⟩;·have:=VV D;rw[q] at this;exact Qp this (Wo.mpr (VK _))
  ·refine V6 ?_;have:=VV (J _ _ gx);exact Wl (Z.lt_of_succ_lt this)
  ·exact Wc (VV (J _ _ gx))
theorem sd{K:QF}{M:Q0}{I:Qt P'}(k1:y0 K)(a:Rf K (.ref (CA .bZ))=S (.type "type"))(h:f.handled=N)
  (B:Qf M f I (λC G=>∃D e w,C=.ref D/\K.In G.heap/\G.heap.get? D=S e/\e.cls=.ref (CA .bZ)/\e.data=.fields w/\w[1]? = S .none/\t (.ref D) G) t d):Qf M f (raiseStmt c (S I) N) gn t d:=by
 refine P7 (Qq B (λC G v=>?_) λj j I=>I);refine Of v λD e w bP g H s J P m=>R bP ?_;have U:QA M G.heap (S8 (.ref D)) (.ref (CA .bZ)):=by have:=(QA.ld (M:=M) (part:=S headPart) H).andThen (f:=λz=>Pure.pure z.cls) (b:=.ref (CA .bZ)) (by exact R s .now);exact this
 have n:∀{gn:P6->Qh->Prop},gn P8 G->Qf M f (isType (.ref D)) gn t G:=λq=>by refine P7 (R6 H ?_);exact R J (Qg q)
 refine P7 (Qg ?_);refine P7 (QE ?_);refine P7 (P7 (n (Qg ?_)));refine P7 ((U.andThen (f:=λi=>Ro i (.type "BaseException")) (Tt g k1.sub)).here ?_);refine Qg (P7 (n ?_));refine P7 (P7 (U.here (P7 ((looks_typeIn g a).here ?_))));refine Qg (P7 (P7 (RQ H J P ?_)));exact Qg (wpAny_raiseNew_none h m)
theorem qK{B:Qb}:∀{l:V Qo},dI l g [] p->(∀D∈l,∀x,D.frame=S x->B.get? x=N)->p.FunFrames B l:=by
 intro l;induction l with
 |nil=>intro _ _;trivial
 |cons D l b=>intro c w;refine hF λs=>c.el (.head _) λX x z j q r U U o y=>s ?_;exact gZ X (uL x z r (w D (.head _) x r) o (λa M=>by replace M:=y.symm.trans M;cases M)) (b ⟨λT H=>c.all T (.tail _ H)⟩ λT H=>w T (.tail _ H))
theorem se{fr:V Qa}{a8:Z}{a2:Qa}(R:bA fq a8 f (c :: o))(s:Inv a e g b k d.heap)(lv:dI (c :: o) g [] d.heap)(C:VR a.params (Sf d.heap b g) b gg ku)(I:wN a d.heap aa cn A a2 ku)
  (hQ:∀s',EF a e g fr o (S (gg,k)) b d (.ref cn) s'->ca () s'):Qf T f (RG c (.ref cn)) ca t {d with heap:=aa,toks:=jj}:=by
 refine hF λi=>?_;have i2:=s.grow I.kept;have a3:=lv.dS (λU=>VB _) I.kept;have X:cn∉g:=s.no I.nx;have xf:cn∉(c :: o).filterMap (·.frame):=λH=>by refine aM (WX.mp H) λD P J=>lv.el P λU x z U U r a1 U U U=>?_;replace J:=r.symm.trans J;obtain rfl:=sX J;exact X (Vz.mp (n4 a1 rfl))
 refine lv.el (.head _) λU x U U U J U U U U=>eK I.gd λB gd=>i ((qE _ _).at (wpAny_leaving_firstW (base:=hideAll aa (cn :: (c :: o).filterMap (·.frame))) (a0:=.ref a2) R.frames (qK a3 (λD P x J=>Uw _ (.tail _ (WX.mpr (ba D P J))))) J I.gx (λE z w=>of_hideAll _ w) (Uw _ (.head _)) rfl rfl rfl λh4 K n=>?_));refine hF λa6=>uE K λk1 cQ k3 k4=>hO cQ λU U k2=>aM (n cn _ I.gx) λp G dd=>?_;have a5:A∉g:=s.no I.nd;have kS:∀L z,Sf d.heap b g L z->Sf aa b g L z:=λL z Y=>Y.grow I.kept;refine a6 (hQ _ (eP gg k rfl (.mk g b d.heap cn h4 jj (λU H=>H) (λU H=>.inl H) s (.refl ..) (.refl b) I.nx (.mk _ (.ref a2) p A _ _ (uO k1 (Uw _ (.head _)) k2 k3) (λE z D=>?_) G dd I.dx (hideAll_get _ gd ?_) (s.fresh I.nd) a5 (.cons C .nil) I.nx (s.fresh I.nx) X (s.g0 I.nx)))))
 ·have m:=I.kept _ _ D;by_cases H:E∈(c :: o).filterMap (·.frame)
  ·refine .inr (hF λa4=>aM (WX.mp H) λe' P h=>?_);obtain⟨_,L',o',j,y,f',a1,_,l,M⟩:=a3.all e' P;rw[h] at f';cases f';replace m:=l.symm.trans m;obtain rfl:=sX m;refine a4 (gZ a1 (z8 j y M) (hF λa7=>?_));obtain⟨v,q⟩:=k4 E _ l λvs q=>by replace q:=M.symm.trans q;cases q
   exact a7 ⟨v,q⟩
  ·refine .inl (hideAll_get _ m λY=>(U4.mp Y).elim (λY=>?_) H);rw[Y,I.nx] at D;exact nomatch D
 ·intro H;rcases U4.mp H with H|H;·exact I.dx H
  ·refine aM (WX.mp H) λe' P h=>lv.el P λU L' o' j y f' a1 U l M=>?_;rw[h] at f';cases f';replace l:=I.nd.symm.trans l;exact nomatch l
structure nP(prog:Qz)(w:Qr)(g₀:Qb)(K:QF):Prop where
 ks:zA K
 ty:Rf K (.ref (CA .bZ))=S (.type "type")
 keep:Sk K (.ref (CA .bZ))=P4
 run:∀(own:V Qa) (l:V Qo) (A:QB) (hd:O P') (n:Z) (r:cS) (H:AH) (s:Qh) (t:Q) (tv:P') (R:Q9->Qh->Prop),bA hd (n+1) A l->Inv w g₀ own r H s.heap->dI l own [] s.heap->VR w.params (Sf s.heap r own) r t tv->
  (∀h' tk x d tup,wN w s.heap h' x d tup tv->R (.ok (.ret (.ref x))) {s with heap:=h',toks:=tk})->QL (Qe prog w) A (.call (.ref (CA .bZ)) ⟨[tv],[]⟩) R s
theorem SS.gy{env:Qo}(A:Gr v e P cv cx cw)(m:nP h a e v)(R:bA N (q+1) f (env :: o))(K:QZ v QO dg=S (S (.ref (CA .bZ))))(H:env.kindOf dg=S .globalImplicit)(c:(dg==("__debug__":Qc))=P8)(w:notStar s=P4)
  (k:SE h a e (env :: o) env j f i ai s):SS h a e o env j f i (.gy ai) (.Raise (S (.Call (.Name dg fu) [s] [] rn)) N J):=λb x y d g p n t=>by
 rw[xO] at t⊢;refine P7 (QW ?_);refine sd (K:=v) A.err m.ty R.handled (P7 ?_);refine P7 (SQ p.kind H (Tq (env:=env) (by rw[p.glob];exact A.T.g.keeps λa1 z ai=>(n.inv.keep a1 z ai).1) (mg_of A.X A.T.g K) ?_) c);have l:=SE.mC k w;have a3:(aO i ai g y).bind (λI=>(bB i .nil g I.2).bind λM=>(Res.exc I.1 M.2:Res (Fl×Loc×AH)))≠.bad:=by
  intro M;apply t
  induction E:aO i ai g y using Zq with
  |ok I=>replace M:=E▸M;cases M
  |exc _ _=>replace M:=E▸M;cases M
  |bad=>rfl
 show Qf _ _ (SR rn _ [] (QV rn (QT [s] env)) []) _ _ _;refine T8 (P:=λB=>v.In B) (by simp[l.noStar]) (λB a0=>SU m.keep B a0) (bN l.noStar ?_);rw[bI w];refine PySem.Calls.spliced_cons ((k b x y d g p n).fC R n.live p.hU (.refl n.inv) (λL H1 X G Y T o1 C r D=>?_) t);refine PySem.Calls.spliced_nil ⟨A.In o1.inv,?_⟩;rw[T];have eE:=n.on p C;refine RO (m.run b (env :: o) f N q X H1 G L Y _ R o1.inv eE.live r λh' tk I a4 a2 U=>P7 (QW (Qg ?_)));exact N7 I _ _ rfl (A.In (o1.inv.grow U.kept)) U.gx rfl rfl rfl (se (fr:=bJ env) R o1.inv eE.live r U λs' M=>EF.pre o1 p.hU M)
noncomputable def IZ(b:V Qa)(n B:Qb):Prop:=∀E z,n.get? E=S z->B.get? E=S z\/(2<=b.count E/\∃c,B.get? E=S {z with slots:=c})
theorem IZ.sf(U:IZ g kz p)(Y:Sf kz b g n ak):Sf p b g n ak:=⟨(U n ak Y.1).elim id λM=>Qp (Vz.mp (Vh (by decide) M.1)) Y.2.2,Y.2⟩
theorem IZ.at(U:IZ g kz p)(q:n∉g)(D:kz.get? n=S ak):p.get? n=S ak:=(U n ak D).elim id λM=>Qp (Vz.mp (Vh (by decide) M.1)) q
theorem Inv.slots(s:Inv a e g b k kz)(U:IZ g kz p):Inv a e g b k p:=by
 have B:∀L z,Sf kz b g L z->Sf p b g L z:=λL z Y=>U.sf Y;have J:∀{L:Qa},L∈b.M->L∉g:=λH M=>(s.off _ M).1 H;have A:=s.ey;refine⟨λE z D=>⟨?_,(s.keep E z D).2⟩,s.As,s.off,λL H=>?_,⟨A.jP,A.lT,A.mY,A.lU,λX w L T m=>?_,λX w L T m=>?_,λX w L T m=>?_,λX P M T m=>?_⟩⟩;·refine U.at (λH=>?_) (s.keep E z D).1;exact nX (((s.off E H).2)▸D)
 ·obtain⟨z,D⟩:=s.ex L H;rcases U L z D with Y|⟨_,c,Y⟩;·exact⟨_,Y⟩
  ·exact⟨_,Y⟩
 ·exact cN (A.L X w L T m) λv q o C=>eP v q (U.at (J (oE m)) o) (C.mono B (.refl b))
 ·exact eM (A.D X w L T m) λj q n o C i=>oS j q n (U.at (J (hX m)) o) (C.mono B (.refl b)) i
 ·exact aM (A.B X w L T m) λE o C=>ba E (U.at (J (sy m)) o) C
 ·obtain⟨o,j,q,G,C⟩:=A.I X P M T m;exact⟨U.at (J (tr m)) o,j,q,U.at (J (mZ m)) G,C.mono B (.refl b)⟩
theorem qL{M:Q0}{e:Qs}(k1:y0 v)(m:zA v)(a:Rf v (.ref (CA .bZ))=S (.type "type"))(g:v.In d.heap)(H:d.heap.get? dh=S e)(s:e.cls=.ref (CA .bZ))(B:g5 P4 d):Qf M f (excMatches (.ref dh) (.ref (CA .bZ))) g5 t d:=by
 refine hF λi=>?_;obtain⟨⟨n,k,I,c,l,_,_⟩,_,_,_,q,_,y,_,_,_,_⟩:=sI (M:=M) g m.make;have U:QA M d.heap (S8 (.ref dh)) (.ref (CA .bZ)):=by have:=(QA.ld (M:=M) (part:=S headPart) H).andThen (f:=λz=>Pure.pure z.cls) (b:=.ref (CA .bZ)) (by exact R s .now);exact this
 have h:∀{g5:P6->Qh->Prop},g5 P4 d->Qf M f (isType (.ref (CA .bZ))) g5 t d:=λj=>by refine P7 (R6 l ?_);exact Qg j
 refine i ?_;refine P7 ((show QA M d.heap (Se (.ref (CA .bZ)) (.type "tuple")) P8 from(looks_typeIn g a).andThen (f:=λK=>Ro K (.type "tuple")) (QA.of_pure (by refine(Rt ..).trans ?_;kernel_rfl))).here ?_);refine P7 (Qg ?_);refine P7 (P7 (P7 ?_));have E:∀{g5:P6->Qh->Prop},g5 P4 d->Qf M f (isExcClass (.ref (CA .bZ))) g5 t d:=λj=>by refine P7 (h ?_);exact y.here j
 refine E (Qg (Qg (P7 (U.here ?_))));refine P7 (P7 (P7 (q.here ?_)));exact Qg (Qg (Qg B))
theorem bA.marked(R:bA N q f l):bA (S (.ref dh)) q (f.mark (S (.ref dh))) l:=⟨by show(S (P'.ref dh)).or f.handled=_;rfl,R.frames,R.depth,R.units⟩
theorem GZ{gE:CF}(s:gE=λU U U=>Res.bad):kU h a e fq gE q:=⟨λb l J n L y x d w U U U U t=>Qp (by refine R s rfl) t⟩
theorem G'{k:V Qa}{K:Qb}{C:P'}{X:Qb}(a:YN K l mh (.ref (CA .bZ)) C X)
  (T:∀E z,kz.get? E=S z->K.get? E=S z\/(2<=k.count E/\(∃j q,z.data=.dict j q)/\∃c,p.get? E=S {z with slots:=c})) (U:p.UpToSlots X):IZ k kz X:=λE z D=>by
 rcases T E z D with Y|⟨A,⟨j,q,M⟩,c,Y⟩;·exact .inl (a.1 E z Y)
 ·obtain⟨i,d⟩:=U E _ Y λw n=>by replace n:=M.symm.trans n;cases n
  exact .inr ⟨A,i,d⟩
theorem wO(p:bt g c j)(n:St a e g l c j b k w d)(hj:j[K]? = S (S r))(hk:c.kindOf r=S .local)
  (X:∀s',aQ a e g (bJ c) b d b k s'->St a e g l c j b k (w.set K N) s'->ca () s'):Qf T f (do bindName c r .none;unbindBehindTheSuite c r J) ca t d:=by
 have a0:∀{U:Z} {G:Qc} {i:Q},j[U]? = S (S G)->(w.set K N)[U]? = S (S i)->G≠r/\w[U]? = S (S i):=by
  intro U G i h m;by_cases q:K=U
  ·subst q;refine hF λa6=>?_;replace m:=Xq.symm.trans m;refine oA (w[K]?) (λY=>?_) (λa5 Y=>?_);·exact nX (Y▸m)
   ·replace m:=Y▸m;cases m
  ·replace m:=(Vv q).symm.trans m;refine⟨λY=>?_,m⟩;subst Y;exact q (p.IV K U _ hj h)
 refine aM n.eW.ns λH hn hm=>?_;refine wpAny_nameGoes_keeps hk hn (by refine R p.kind ?_;rfl) λx C a2 sb=>?_;have P:∀E z,E≠c.locals->d.heap.get? E=S z->x.get? E=S z:=λE z q Y=>(sb.2 E q).trans Y;have S':∀L z,Sf d.heap b g L z->Sf x b g L z:=λL z Y=>Y.but P (.inr (.inl p.loc));have ob:∃z v a4,x.get? c.locals=S z/\z.data=.dict v a4:=by obtain⟨z,v,ep,o,y,_⟩:=a2;exact C4 z v ep o y
 have B:Inv a e g b k x:=n.inv.loose P (.inl p.loc) (n.inv.off _ p.loc).1 λε=>Aa ob λz ε ε o ε=>⟨z,o⟩;refine X _ (.mk' B (.but (a:=c.locals) P (.inr (.inl (.head _)))) (.refl b)) ⟨B,⟨(ba _ a2 (λU G i h m e3=>?_)),λG A a1=>?_,by refine Wg.trans ?_;exact n.eW.len⟩,n.live.at P (.inl ob)⟩;·refine bT (a0 h m) λq D=>?_;refine aM (hm U G i h D e3) λI M z2=>?_;exact ba I (by refine(Qm q).trans ?_;exact M) (z2.mono S' (.refl b))
 ·refine aM (n.eW.mW G A a1) λov bP hc=>?_;refine hF λa3=>?_;refine aM bP λz o y=>?_;refine a3 ?_;refine ba ov (ba z (P _ _ (p.mW G A a1).2 o) y) (λU i h m e3=>?_);refine hF λs=>?_;refine bT (a0 h m) λq D=>?_;refine aM (hc U i h D e3) λI M z2=>?_;refine s ?_;exact ba I M (z2.mono S' (.refl b))
theorem SS.oQ{env:Qo}(A:Gr v e P cv cx cw)(m:nP h a e v)(R:bA N q f (env :: o))(ih:SE h a e (env :: o) env j f i ai s)
  (c1:∀ea:Qa,SE h a e (env :: o) env j (f.mark (S (.ref ea))) (λU U U=>Res.bad) my i5) (hj:j[K]? = S (S r)) (hk:env.kindOf r=S .local)
  (I:QZ v QO dg=S (S (.ref (CA .bZ)))) (hx:env.kindOf dg=S .globalImplicit) (e6:(dg==("__debug__":Qc))=P8)
  (hi:So env=P8) (g5:Q5 s N k9.line env=pure P8) (c5:Q5 i5 N l8.line env=pure P8) :
  SS h a e o env j f i (.oQ ai K my) (.Try [.Expr s k9] [.ExceptHandler (S (.Name dg fu)) (S r) [.Expr i5 l8] pw] [] [] J):=λb x y d g p n t=>by
 rw[tj] at t⊢;have D:aO i ai g y≠.bad:=λM=>t (by rw[M]);refine wpAny_Try_except (S0 (Ug (Qq (ih b x y d g p n D) (λC s1 M=>?_) λe1 s1 M=>?_) hi g5));·refine eM M λa9 H1 X ev o1 v1=>?_;rw[ev];exact Rm (Rm (jN .next g H1 X rfl o1.wide (n.on p o1) trivial))
 ·refine cN M λa1 H1 ev x1=>?_;refine lQ.el x1 λh8 X hr ea h1 c3 za zb z1 z2 z3 z4 c=>?_;refine c.el λh5 a0 oe a5 es ne fw fb y1 Y y3 B y5 y6 k f0 f1 f2 f3=>?_;have c9:aO i ai g y=.exc a1 H1:=by
   induction M:aO i ai g y using Zq with
   |ok _=>exact nX (M▸ev)
   |bad=>exact(D M).elim
   |exc t2 H2=>replace ev:=M▸ev;refine sQ ev ?_;rfl
  rw[c9] at t⊢;dsimp only at t⊢;refine n.live.el (.head _) λU h0 U U U hf U U U U=>?_;refine(mB _ _).at (wpAny_looks_onW R.frames hf fw λh2 e5 d0 e9=>?_);refine(iR _ _).at (wpAny_landsW e5 λh3 L c2 e4=>?_);have k3:∀E z,e.get? E=S z->h3.get? E=S z:=λE z ai=>by
   rcases fb E z (z1.keep E z ai).1 with M|⟨a2,_⟩;·exact L.1 E z M
   ·exact nX (((z1.off E (Vz.mp (by exact n4 a2 rfl))).2)▸ai)
  refine aM L.there λh7 e2 d4=>?_;refine wpAny_handleBy_cons (codeAny_handlers_test (SQ p.kind hx (Tq (env:=env) (by rw[p.glob];exact A.T.g.keeps k3) (mg_of A.X A.T.g I) ?_) e6)) (by intro M;cases M);refine qL A.err m.ks m.ty (A.X.keeps k3) e2 d4 ?_;refine codeAny_handlers_suite_as ?_;refine(iR _ _).at (lands_againW L λh6 a4 d5 d8=>?_);have T:=G' a4 fb ((d0.trans c2).trans d5);have o6:aQ a e b [] x d X H1 {d with heap:=h6,toks:=c3}:=by
   refine .mk' ((z1.slots T).drop za) ⟨λE z ai H q=>?_⟩ z3;refine hF λd1=>?_;obtain⟨m1,o1,e1,sm⟩:=z2.get E z ai H q;refine d1 ?_;refine⟨m1,?_⟩;refine hF λa6=>?_;rcases T E o1 e1 with M|⟨a2,c8,M⟩;·refine a6 ?_;exact ba o1 M sm
   ·refine a6 ?_;refine ba _ M (sm.trans (.inr ⟨?_,c8,rfl⟩));exact(zb E a2).elim id λM=>by exact nX (M.symm.trans ai)
  refine hF λg4=>?_;refine aM (e9 ea oe y1) λe3 l d2=>?_;refine aM (e4 ea e3 l) λg1 g3 d3=>?_;refine aM (d8 ea g1 g3) λe7 G d6=>?_;have c4:VR a.params (Sf h6 X b) X (.exc a1) (.ref ea):=by refine hF λd9=>?_;obtain⟨_,_,_,h4,e0,T7,g8,g9,w,⟨c7,_⟩,d7,_⟩:=id a4;replace w:=G.symm.trans w;obtain rfl:=sX w;refine d9 ?_;exact .exc a1 ea a5 e7 es ne (gZ G f1 (λH=>f2 (za ea H))) c7 (d6.trans (d3.trans (d2.trans Y))) ⟨e0,d7⟩ (gZ (a4.1 a5 _ B) y5 (λH=>y6 (za a5 H))) (k.mono (λa9 z i5=>⟨(T.sf i5).1,i5.2.1,λH=>i5.2.2 (za a9 H)⟩) (.refl X))
  refine g4 ?_;refine fG p (n.on p o6) nH.all hj (.inl hk) c4 λs7 o7 b9=>?_;have a7:aO (λU U U=>Res.bad) my (g.set K (S (.exc a1))) H1≠.bad:=λM=>t (by rw[M];rfl);refine S0 (Ug (Qq (c1 ea b X H1 s7 _ p b9 a7) (λC s8 M=>?_) λe8 s8 M=>?_) hi c5);·refine eM M λa8 H8 r8 a3 o8 v8=>?_;rw[a3];refine Rm ?_;refine wO p (b9.on p o8) hj hk λs9 o9 c6=>?_;exact jN .next _ H8 r8 rfl (((o6.wide.trans o7).trans o8.wide).trans o9) c6 trivial
  ·refine cN M λt8 H8 a3 U=>?_;exfalso;refine Fd (aO (λU U U=>Res.bad) my (g.set K (S (.exc a1))) H1) (λU M=>?_) (λU U M=>?_) (λM=>?_);·exact nX (M▸a3)
   ·exact t (by rw[M];rfl)
   ·exact a7 M
set_option backward.match.sparseCases true
section
open Sem (wp)
noncomputable def dQ:Rh->P6
 |.builtin J _=>WB.contains J||["bytearray.__contains__","bytearray.__mod__","bytearray.__rmod__","_struct.pack_into.held","bytearray.find.held"].contains J
 |_=>P8
noncomputable def wQ(l:V (Rh×Qv)):Prop:=∀M∈l,dQ M.1=P8
structure Nd(Γ:Ctx)(A:QB):Prop where
 within:Γ.In A
 code:dQ Γ.code=P8
 below:wQ Γ.below
noncomputable def eV{j:Type}(y:Q0)(J:QB)(K:Qt j)(Y:j->Qh->Prop)(T:P'->Qh->Prop)(d:Qh):Prop:=∀a P,Nd a J->wp y a K (λL U m=>Y L m) (λD U m=>T D m) P d
noncomputable def codeN(y:Q0)(J:QB)(A:Rh)(R:Q9->Qh->Prop)(d:Qh):Prop:=∀a P,a.code=A->a.Below J->wQ a.below->wpCode y a R P d
theorem bS{K:Qt G}{Y:G->Qh->Prop}(B:Qf T f K Y t d):eV T f K Y t d:=λa P q=>B a P q.within
theorem Bh{R:Q9->Qh->Prop}(B:QL T f ik R d):codeN T f ik R d:=λa P s w U=>B a P s w
theorem bE{E:P'->Qh->Prop}{K:Qt G}{Y b:G->Qh->Prop}(B:eV T f K Y E d)(X:∀L d,Y L d->b L d)(m:∀D d,E D d->ra D d):eV T f K b ra d:=λa P q=>WI T a K (λL U d=>X L d) (λD U d=>m D d) P d (B a P q)
theorem gP{R b:Q9->Qh->Prop}(B:codeN T f ik R d)(r:∀x d,R x d->b x d):codeN T f ik b d:=λa P s w K=>wpCode_mono r (B a P s w K)
theorem vo{L:G}{Y:G->Qh->Prop}(B:Y L d):eV T f (pure L) Y t d:=λU U U=>B
theorem bV{H:Qt G}{r:G->Qt bx}{Y:bx->Qh->Prop}(B:eV T f H (λL m=>eV T f (r L) Y t m) t d):eV T f (H >>= r) Y t d:=λa P q=>by exact R (YQ ..) (WI T a H (λL h m x=>x a h q) (λU U U x=>x) P d (B a P q))
theorem aJ{H:Qt G}{r:G->Qt bx}{Y:bx->Qh->Prop}(B:Qf T f H (λL m=>eV T f (r L) Y t m) t d):eV T f (H >>= r) Y t d:=bV (bS B)
theorem hG{H:Qt G}{Y:G->Qh->Prop}(B:eV T f H Y t d):eV T f (SK dm H) Y t d:=λa P q=>by exact R (Qt.wp_holding ..) (B a P q)
theorem Bi{H:Qt G}{Y:G->Qh->Prop}(B:eV T f H Y t d):eV T f (H.keep dm) Y t d:=λa P q=>by exact R (Qt.wp_keep ..) (B a P q)
theorem jY{H:Qt G}{X:P'->Qt Unit}{Y:G->Qh->Prop}(B:eV T f H Y (λD m=>Qf T f (X D) (λU i=>t D i) t m) d):eV T f (H.onRaise X) Y t d:=λa P q=>by exact R (Qt.wp_onRaise ..) (WI T a H (λU U U x=>x) (λD h m x=>x a h q.within) P d (B a P q))
theorem gQ{R:Q9->Qh->Prop}(s:dQ ik=P8)
  (B:eV T (f.under ik) (T.den ik) (λp m=>match p with|.done r=>R (.ok r) m|.again o=>o.quiet=P4/\codeN T f o R m) (λD m=>R (.error D) m) d):codeN T f ik R d:=λa P z H K=>by
 rw[wpCode_iff_wp,z];refine WI T a _ (λp h m x=>?_) (λU U U x=>x) P d (B a P ⟨z▸H.in,by rw[z];exact s,K⟩);cases p with
 |done r=>exact x
 |again o=>exact⟨x.1,x.2 (a.goto o) h rfl (H.goto o) K⟩
theorem Nd.enter(q:Nd ro f)(A:Rh)(B:O P')(P:Qv):wQ (ro.enter A B P).below:=λM H=>by
 rcases U4.mp H with rfl|H;·exact q.code
 ·exact q.below M H
theorem tX(s:codeN T f ik (λx m=>match x with|.ok (.ret C)=>am C m|.ok _=>QC|.error D=>t D m) d):eV T f (runValue ik) am t d:=λa P q=>by refine R (Qt.wp_runValue ..) ?_;exact s _ P rfl (q.within.enter ik N P (by intro I;exact nX I)) (q.enter ik N P)
theorem mG{p:V P'}{k:V (Qc×P')}(s:codeN T f (.call lf ⟨p,k⟩) (λx m=>match x with|.ok (.ret C)=>am C m|.ok _=>QC|.error D=>t D m) d):eV T f (Q4 lf p k) am t d:=tX s
theorem DQ{B:O P'}(s:codeN T (f.mark B) ik (λx m=>match x with|.ok r=>gn r m|.error D=>t D m) d)(h:B≠S byPass):eV T f (run ik B) gn t d:=λa P q=>by refine R (Qt.wp_run ..) ?_;exact s _ P rfl (q.within.enter ik B P h) (q.enter ik B P)
theorem wR{h:O P'}(s:codeN T (f.mark h) ik (λx m=>match x with|.ok r=>gn r m|.error D=>S6 T f c t D m) d)(a:h≠S byPass):eV T f (runOwn ik c h) gn t d:=jY (DQ s a)
theorem tY{r:Rh×Qv->P6}(J:∀M,dQ M.1=P8->r M=P8)(B:g5 P8 d):eV T f (do return(<-stack).any r) g5 t d:=λa P q=>by
 show g5 (((a.code,P) :: a.below).any r) d;have:((a.code,P) :: a.below).any r=P8:=by
  rw[X9];intro M H;refine R (P6.not_eq_true ..) ?_;rcases U4.mp H with rfl|H;·exact J _ q.code
  ·exact J _ (q.below M H)
 exact R this B
theorem lD(B:gn .next d):eV T f (Rk [] c) gn t d:=bS (Rm B)
theorem jZ{n:Qn}{g:V Qn}(B:eV T f (exec n c) (λr m=>match r with|.next=>eV T f (Rk g c) gn t m|r=>gn r m) t d):eV T f (Rk (n :: g) c) gn t d:=λa P q=>by refine R (YQ ..) (WI T a _ (λr h m x=>?_) (λU U U x=>x) _ _ (B a P q));induction r using VY<;>first|exact x a h q|exact x
theorem Ha{a:P9}{b:V Qn}(B:Qf T f (isTrue a c (PySem.eval a c)) (λE z=>if E then eV T f (Rk fh c) gn t z else eV T f (Rk b c) gn t z) t d):eV T f (PySem.exec (.If a fh b J) c) gn t d:=R (exec_If ..) (aJ (QW (aJ (Qq B (λE z n=>by induction E using U6<;>exact n) λU U I=>I))))
theorem wU(B:eV T f (PySem.eval lc c) (λC=>gn (.ret C)) t d):eV T f (PySem.exec (.Return (S lc) J) c) gn t d:=R (exec_Return_some ..) (aJ (QW (bV (bE B (λC m x=>vo x) λU U I=>I))))
theorem Bj(B:eV (Qe h a) f (PySem.eval lc c) (λU=>gn .next) t d)(g:So c=P8)(P:Q5 lc N J.line c=pure P8):eV (Qe h a) f (PySem.exec (.Expr lc J) c) gn t d:=R (exec_Expr c lc J g P) (aJ (QW (bV (bE B (λC m x=>bS (wpAny_dropValue x)) λU U I=>I))))
theorem oX{A:Qc}{a:Qv} (B:eV T f (PySem.eval jt c) (λC G=>Qf T f (PySem.eval ny c) (λy z=>Qf T f (S4 y A C) (λU=>gn .next) t z) t G) t d) (P:Q5 jt (S (.Attribute ny A a)) J.line c=pure P8):eV T f (PySem.exec (.Assign [.Attribute ny A a] jt J) c) gn t d:=R (plainObj_exec_Assign_Attribute ny A a jt J P) (aJ (QW (bV (bE B (λC G v=>bS (P7 (P7 (QE (Qq v (λy z n=>P7 (QW (P7 (QE (Qq n (λU g M=>wpAny_release (Qg M)) λU U I=>I))))) λU U I=>I))))) λU U I=>I))))
theorem sM{P:Qb->Prop}{first:V P'}{c:V (O Qc×Qt P')}(h:(lg.any (·.1)||c.any (·.1.isNone))=P8)
  (g:∀B,P B->∃X,(X=Keeper.frame\/X=Keeper.machine\/X=Keeper.boundFrame)/\QA T B (keeperOf lf) X)
  (B:Qf T f (evalArgs lf P4 lg c) (λL G=>P G.heap/\eV T f (Q4 lf (first++L.pos) L.kw) am t G) t d):eV T f (SR J lf first lg c) am t d:=by
 refine aJ (QE (Qq B (λL G v=>aJ (QW ?_)) λU U I=>I));refine aM (g _ v.1) λX p e=>R h (aJ (e.here ?_));have b:∀{K:Qt P'},eV T f K am t G->eV T f (K >>= λx=>SK [x] point >>= λU=>pure x) am t G:=λa=>bV (bE a (λx z n=>bS (P7 (QE (Th (Qg n))))) λU U I=>I);have m (l:P'):eV T f (callMarked l lf (first++L.pos) L.kw) am t G:=by exact Bi v.2
 clear e h B;rcases p with rfl|rfl|rfl<;>dsimp only<;>first|exact b v.2|(split<;>first|exact b v.2|exact b (m _))
theorem Bk:dQ (.call lf ip)=P8:=rfl
theorem Bl:dQ (.func fh c)=P8:=rfl
theorem qM(B:eV (Qe h a) (f.deeper c) (Rk fh c) (λr m=>fy (.ok (.ret (match r with|.ret C=>C|_=>.none))) m)
   (λD m=>Qf (Qe h a) (f.deeper c) (RG c D) (λU i=>fy (.error D) i) (λT i=>fy (.error T) i) m) d):codeN (Qe h a) f (.func fh c) fy d:=by refine gQ Bl (aJ (Th (bV (jY (bE B (λr m x=>?_) λU U x=>x)))));induction r using VY<;>exact bS (Qg x)
theorem fZ{s:Qh}(J:f.depth<T5)(y:s.heap.get? n=S ak)
  (r:ak.data=.func ae) (g:ae.scope.isCoroutine=P8) (H:ae.scope.isGenerator=P8) (d:ae.body=.stmts fh) (p:s.heap.CodeRec ae.code ae.qualname)
  (B:Qf (Qe h a) f.in1 (PySem.bindArgs ae ip) (λk G=>
   Qf (Qe h a) f.in1 (TF ae.scope ae.globals ae.closure k (ae.qualname++".<locals>.") (S n) ae.code N ae.builtins)
    (λP z=>z.heap.NoLimit/\codeN (Qe h a) f (.func fh P) fy z) (λD j=>fy (.error D) j) G) (λD j=>fy (.error D) j) s) :
  codeN (Qe h a) f (.call (.ref n) ip) fy s:=by refine gQ Bk (bS ?_);show Qf _ f.in1 (TH (.ref n) ip) _ _ s;refine P7 (Rx y ?_);refine uM p λA b w t o c i e=>?_;rw[r];dsimp only[callFunction];rw[d,H,g,o];dsimp only;rw[o] at B;refine P7 (m:=field (.ref A) 1) (RQ c i e (P7 (Qg ?_)));exact P7 (Qq B (λk G v=>P7 (Qq v (λP z l=>P7 (wpAny_enterFrame l.1 J (Qg (Ym rfl l.2)))) λU U x=>x)) λU U x=>x)
end
set_option backward.match.sparseCases false
abbrev vX:=Loc->AH->Res (Q×AH)
abbrev vp:=Loc->AH->Res (Fl×Loc×AH)
noncomputable def JM(r o:vp):vp:=λl y=>(r l y).bind λM=>match M.1 with
 |.next=>o M.2.1 M.2.2
 |.ret C=>.ok (.ret C,M.2.1,M.2.2)
noncomputable def Hb:vp:=λl y=>.ok (.next,l,y)
noncomputable def Nb(f:CF)(A:LE)(r o:vp):vp:=λl y=>(rD f A l y).bind λM=>if M.1 then r l M.2 else o l M.2
noncomputable def JN(D:vX):vp:=λl y=>(D l y).bind λx=>.ok (.next,l,x.2)
noncomputable def JO(D:vX):vp:=λl y=>(D l y).bind λx=>.ok (.ret x.1,l,x.2)
noncomputable def Fi(f:CF)(m:V Q->AH->Res (Q×AH))(c:fD):vX:=λl y=>(bB f c l y).bind λM=>m M.1 M.2
noncomputable def Fj(f:CF)(m:V Q->AH->Res (Q×AH))(D:LE)(H r:Z)(c:fD):vX:=λl y=>(aO f D l y).bind λx=>match aK x.2 x.1 H with
 |some (.own t)=>if t=r then(bB f c l x.2).bind λM=>m (x.1 :: M.1) M.2 else .bad
 |_=>.bad
noncomputable def Fm(y:Q0)(J:QB)(P:Qo):P'->Qh->Prop:=λD m=>Qf y J (RG P D) (λU U=>QC) (λU U=>QC) m
noncomputable def qN(o:Qz)(k:Qr)(G:Qb)(l:V Qo)(P:Qo)(c:V (O Qc))(J:QB)(r:vX)(I:P9):Prop:=∀b x y d g,bt b P c->St k G b l P c x y g d->∀M,r g y=.ok M->∀T,eV (Qe o k) J (PySem.eval I P) (QQ k G b (pT k) [] (.ok M) x d) T d
noncomputable def jE(o:Qz)(k:Qr)(G:Qb)(h:V Qo)(P:Qo)(c:V (O Qc))(J:QB)(r:vp)(I:Qn):Prop:=∀b x y d g,bt b P c->St k G b (P :: h) P c x y g d->∀M,r g y=.ok M->eV (Qe o k) J (PySem.exec I P) (QS k G b (bJ P) h P c (.ok M) x d) (λU U=>QC) d
noncomputable def rE(o:Qz)(k:Qr)(G:Qb)(h:V Qo)(P:Qo)(c:V (O Qc))(J:QB)(r:vp)(I:V Qn):Prop:=∀b x y d g,bt b P c->St k G b (P :: h) P c x y g d->∀M,r g y=.ok M->eV (Qe o k) J (Rk I P) (QS k G b (bJ P) h P c (.ok M) x d) (λU U=>QC) d
noncomputable def RN(k:Qr)(G:Qb)(b:V Qa)(M:Q×AH)(x:cS)(d:Qh):Q9->Qh->Prop:=λI m=>match I with
 |.ok (.ret C)=>QQ k G b (pT k) [] (.ok M) x d C m
 |_=>QC
noncomputable def sN(o:Qz)(k:Qr)(G:Qb)(q:Z)(n:Key)(m:V Q->AH->Res (Q×AH)):Prop:=∀b l J L y x d w,bA N q J l->Inv k G b x y d.heap->dI l b [] d.heap->bU k.params (Sf d.heap x b) x L w->∀M,m L y=.ok M->codeN (Qe o k) J (.call (.ref (hB n)) ⟨w,[]⟩) (RN k G b M x d) d
theorem cG{I:Res G}{r:G->Res bx}{E:bx}(B:I.bind r=.ok E):∃L,I=.ok L/\r L=.ok E:=by
 induction I using Zq with
 |ok L=>exact ba L rfl B
 |exc _ _=>cases B
 |bad=>cases B
theorem Bm{K:Qt G}:∀{P:Qv} {d:Qh},Qt.wp T ro K (λU U U=>QC) (λU U U=>QC) P d->QC:=by
 induction K with
 |pure L=>intro P d B;exact B
 |raise D=>intro P d B;exact B
 |unsupported _=>intro P d B;exact B
 |finish _=>intro P d B;exact B
 |rule _ X k | «at» _ X k|alloc _ X k|loadIfAlive _ X k|point _ X k|fresh X k|ask X k|os _ _ X k|handled _ X k|newGen _ X k|stack X k|thread X k=>intro P d B;exact k _ B
 |load L _ X k=>intro P d B;obtain⟨z,_,B⟩:=B;exact k _ B
 |update L _ r X k=>intro P d B;exact k _ B.2
 |register _ _ _=>intro P d B;exact B
 |choose _ _ X k=>intro P d B;exact k _ B.2
 |call A q y l X k=>intro P d B;obtain⟨x,m,_,B⟩:=B;exact k _ B
 |genState o X k=>intro P d B;obtain⟨_,_,B⟩:=B;exact k _ B
 |resume o x l X k=>intro P d B;obtain⟨_,m,_,B⟩:=B;exact k _ B
 |yield _ _ _ _ _=>intro P d B;exact B
 |fork _ _ _=>intro P d B;exact B
 |await _ _ _ _ _ _=>intro P d B;exact B
theorem sO{K:Qt G}{b:G->Qh->Prop}(B:eV T f K b (Fm T f c) d):eV T f K b (λU U=>QC) d:=λa P q=>
 WI T a K (λU U U Y=>Y) (λD h m Y=>Bm (Y a h q.within)) P d (B a P q)
theorem ES.Fn(M:ES a e g T f az o c N b d kq km):Fm T f c kq km:=Qq M (λU U M=>EF.no M) λU U M=>EF.no M
theorem jE.KY{n:LS}(B:SS h a e o c j f i n ma):jE h a e o c j f (dK i n) ma:=λb x y d g p n M D=>by have:=B b x y d g p n (R D λY=>nomatch Y);rw[D] at this;exact sO (bS (Qq this (λU U Y=>Y) λU U Y=>ES.Fn Y))
theorem rE.KY{n:jL}{I:V Qn}(B:ve h a e o c j f i n I):rE h a e o c j f (aW i n) I:=λb x y d g p n M D=>by have:=B b x y d g p n (R D λY=>nomatch Y);rw[D] at this;exact sO (bS (Qq this (λU U Y=>Y) λU U Y=>ES.Fn Y))
theorem qN.KY(B:SE h a e l c j f i jc ao):qN h a e l c j f (aO i jc) ao:=λb x y d g p n M D T=>by have:=B b x y d g p n (R D λY=>nomatch Y);rw[D] at this;exact bS (Qq this (λU U Y=>Y) λU U M=>EE.no M)
theorem rE.nil:rE h a e o c j f Hb []:=λb x y d g p n M D=>by exact Gi D (lD (jN .next g y x rfl (.refl n.inv) n trivial))
variable{mz ry:vp}{im:vX}
theorem rE.cons(G:jE h a e o c j f mz ma)(s:rE h a e o c j f ry ew):rE h a e o c j f (JM mz ry) (ma :: ew):=λb x y d g p n M D=>by
 refine hF λq=>aM (cG D) λvq T m=>?_;clear D;obtain⟨k,L,l⟩:=vq;refine q (jZ (bE (G b x y d g p n _ T) (λi r z=>?_) λU U z=>z));refine uM z λU U U X E o1 eE z=>?_;clear y g n T G;cases E;induction k using Fl.casesOn with
 |next=>
  cases i with
  |next=>exact bE (s b X l r L p eE M m) (λU U z=>z.pre o1) λU U z=>z
  |_=>exact z.elim
 |ret C=>
  cases i with
  |ret t=>refine Gi m ?_;exact jN (.ret C) L l X rfl o1 eE z
  |_=>exact z.elim
theorem jE.ifs(k:ST h a e (c :: o) c j f i fi s)(t:rE h a e o c j f mz ew)(w:rE h a e o c j f ry qw):jE h a e o c j f (Nb i fi mz ry) (.If s ew qw J):=λb x y d g p n M D=>by
 refine hF λq=>aM (cG D) λvq T m=>?_;obtain⟨r,l⟩:=vq;have:=k b x y d g p n (R T λz=>nomatch z);replace this:=T▸this;refine q (Ha (Qq this (λv G z=>?_) λU U M=>EE.no M));refine eM z λU U X E o1 z=>?_;clear D T k;obtain⟨rfl,rfl⟩:=rM E;clear E;obtain rfl:r=v:=z;induction r using U6 with
 |true=>exact bE (t b X l G g p (n.on p o1) M m) (λU U z=>z.pre o1.wide) λU U z=>z
 |false=>exact bE (w b X l G g p (n.on p o1) M m) (λU U z=>z.pre o1.wide) λU U z=>z
theorem jE.exp(k:qN h a e (c :: o) c j f im s)(i:So c=P8)(P:Q5 s N J.line c=pure P8):jE h a e o c j f (JN im) (.Expr s J):=λb x y d g p n M im=>by refine aM (cG im) λvq T m=>Gi m (Bj (bE (k b x y d g p n _ T _) (λC G z=>?_) λU U z=>z) i P);refine hF λt=>eM z λU U X E o1 z=>?_;obtain⟨rfl,rfl⟩:=rM E;exact t (jN .next g vq.2 X rfl o1.wide (n.on p o1) trivial)
theorem jE.ret(k:qN h a e (c :: o) c j f im s):jE h a e o c j f (JO im) (.Return (S s) J):=λb x y d g p n M im=>by refine aM (cG im) λvq T m=>Gi m (wU (bE (k b x y d g p n _ T _) (λC G z=>?_) λU U z=>z));refine hF λt=>eM z λU U X E o1 z=>?_;obtain⟨rfl,rfl⟩:=rM E;exact t (jN (.ret vq.1) g vq.2 X rfl o1.wide (n.on p o1) z)
theorem runN{y:AH}{k:Key}(U:sN h a e q k pd)(R:bA N q f l)(s:Inv a e g b y d.heap)(c:dI l g [] d.heap)(P:bU a.params (Sf d.heap b g) b pu dm)(D:pd pu y=.ok ft):eV (Qe h a) f (Q4 (.ref (hB k)) dm) (QQ a e g (pT a) [] (.ok ft) b d) t d:=mG (gP (U g l f pu y b d dm R s c P ft D) λY m K=>by rcases Y with D|(C|_|_|_)<;>first|exact K|exact K.elim)
theorem qN.call{env:Qo}(A:Gr v e P cv cx cw)(t:sN h a e q jb pd)(R:bA N (q+1) f l)(Y:∀r,jb=.fn r->r<60)(k:rQ h a e l env j f i bm bn)
  (I:QZ v QO dg=S (S (.ref (hB jb)))) (H:env.kindOf dg=S .globalImplicit) (c:(dg==("__debug__":Qc))=P8):qN h a e l env j f (Fi i pd bm) (.Call (.Name dg fu) bn [] J):=by intro b x y d g p n M D a1;refine hF λo=>aM (cG D) λOy T m=>o ?_;refine aJ (SQ p.kind H (Tq (env:=env) (by rw[p.glob];exact A.T.g.keeps λa0 L D=>(n.inv.keep a0 L D).1) (mg_of A.X A.T.g I) ?_) c);have:=k.run (pos:=J) b x y d g p n (by rw[T];exact λz=>nomatch z);rw[T] at this;refine sM (P:=λB=>v.In B) (by rw[k.noStar];rfl) (λB C=>SU (l5 (k:=jb) A.ok Y) B C) (bN k.noStar (Qq this (λw G z=>?_) λU U M=>EE.no M));refine hF λs=>eM z λU U X E o1 z=>?_;obtain⟨rfl,rfl⟩:=rM E;exact s ⟨A.In o1.inv,bE (runN t (R.less (VK _)) o1.inv (n.live.keep n.inv o1) z m) (λU U K=>K.pre o1) λU U K=>K⟩
theorem DS{a0:vp}{c:V Q}{M:Fl×Loc×AH}(r:dF ae ax j fh)(R:bA N (q+1) f l)(y:e.get? n=S ak)(i:ak.data=.func ae)(A:e.NoLimit)(a4:e.CodeRec ae.code ae.qualname)
  (E:DJ a e ae fg di) (t:fg.length<=ax.length) (h4:ax.length<=j.length)
  (s:Inv a e g b k d.heap) (lv:dI l g [] d.heap) (C:bU a.params (Sf d.heap b g) b c fc) (hb:bindArgs ax.length fg j.length c=S w) (D:a0 w k=.ok M)
  (a8:∀x,rE h a e l (Q6 ae x n) j (f.deeper (Q6 ae x n)) a0 fh) :
  codeN (Qe h a) f (.call (.ref n) ⟨fc,[]⟩) (RN a e g ((match M.1 with|.ret C=>C|.next=>.none),M.2.2) b d) d:=by
 refine hO (iX hb) λL q2 hl=>?_;have I:=C.len;have ld:=(E.vals a.params (Sf d.heap b g) b).len;have a3:bU a.params (Sf d.heap b g) b (c++fg.drop (c.length+fg.length - ax.length)) (fc++di.drop (fc.length+di.length - ax.length)):=by rw[I,ld];exact C.append ((E.vals _ _ _).drop _)
 have k0:=λa0 ak D=>(s.keep a0 ak D).1;refine fZ (MO R.depth) (k0 _ _ y) i r.co r.gen r.body ?_ (wK (loc:=w) (P:=λa1 G=>codeN (Qe h a) f (.func fh a1) _ G) r (yl.at A s) (E.reads s) (I▸L) (I▸ld▸q2) (ld▸t) s lv ?_ (λc2 n D=>a3.get (tV (hl▸D))) λa1 a6 s1 H p st Y J a5=>qM ?_);·exact uM a4 λa7 oc vs K T e2 e3 e4=>jN a7 oc vs K T (k0 _ _ e2) e3 e4
 ·rw[hl];exact tl L q2 h4
 ·subst H
  refine cN Y λh' B uP X=>?_
  clear L q2 hl Y J a5 I ld a3 k0 r R y i A a4 E t h4 s lv C hb
  subst uP
  refine bE (a8 _ a6 b k _ _ p st M D) (λa2 m z=>?_) λD m z=>z.elim
  refine hF λo=>?_
  obtain⟨fl,c1,v,r',D,ak,a9,z⟩:=z
  obtain rfl:=KR D
  induction fl using Fl.casesOn with
  |next=>
   induction a2 using VY with
   |next=>refine o ?_;exact .ok (ak.back X) .none
   |_=>exact z.elim
  |ret n=>
   induction a2 using VY with
   |ret b9=>refine o ?_;exact .ok (ak.back X) (VR.mono (λU U z=>z.back X.sub) (.refl _) z)
   |_=>exact z.elim
noncomputable def JP(f:CF)(D:LE)(v:Z)(r:vp):vp:=λl y=>(aO f D l y).bind λx=>match srcOf x.2 x.1 with
 |none=>.bad
 |some d=>cM (λU C l y=>r (l.set v (S C)) y) d.1 (d.2+1) 0 l x.2
noncomputable def JQ(f:CF)(r:V Z)(L E:LE)(D:vX):vp:=λl y=>(aO f L l y).bind λI=>(aO f E l I.2).bind λn=>(D l n.2).bind λY=>match dW l r [I.1,n.1,Y.1] with
 |some p=>.ok (.next,p,Y.2)
 |none=>.bad
set_option tactic.hygienic true in
theorem qN.aU{a4:Z}(A:Gr v e P cv cx cw)(a2:sN h a e a4 (.fn c9) pd)(R:bA N (a4+1) f l)(ih:SE h a e l c j f i jc ao)(a0:rQ h a e l c j f i bm bn)
  (H:fQ ao=P4) (hl:(lh.endLine==J.line)=P4) (K:bn.length<30):qN h a e l c j f (Fj i pd jc bj c9 bm) (.Call (.Attribute ao (sx bj) lh) bn [] J):=by
 intro b x y d g p I q D a8;refine hF λa6=>aM (cG D) λbP T o=>?_;obtain⟨L,z⟩:=bP;clear D;have t:=ih b x y d g p I (by rw[T];exact λY=>nomatch Y);rw[T] at t;have M:=a0.noStar (pos:=J);refine a6 ?_;rw[arm_eval_Call,iQ H];refine aJ (Qq t (λva G Y=>aJ (QW ?_)) λU U q=>EE.no q);refine hF λa1=>eM Y λU U X E o1 r=>?_;obtain⟨rfl,rfl⟩:=rM E;have a7:methodCallForm (bn.length+([]:V Keyword).length) (QV J (QT bn c)) (backToKw J (keywordEach [] c))=P4:=by have:(QV J (QT bn c)).all (λq=>!q.1)=P4:=VD.mpr λq hq=>(Wf q.1).mpr (X8.mpr (X9.mp M q hq));show((QV J (QT bn c)).all (λq=>!q.1)&&P4&&Qd (bn.length+0+0<30))=P4;rw[this];exact Qu K
 refine a1 ?_;unfold methodCall;rw[a7];refine bV (hG ?_);refine hF λs=>?_;dsimp only at o;refine oA (aK z L bj) (λn=>?_) (λrc n=>?_);·replace o:=n▸o;cases o
 ·replace o:=n▸o
  induction rc using Recv.casesOn with
  |bR=>cases o
  |own f'=>
   dsimp only at o;split at o;·rename_i q';subst q';refine s (bS ((pE A o1.inv r n ?_).2));rw[show methodCallPos P4 _ c lh J=pure J from Qk (show(!P4||lh.endLine==J.line)=P4 from hl)];refine aJ (Qg ?_);refine hF λC=>aM (cG o) λcQ m e3=>?_;have t2:=a0.run (pos:=J) b X z G g p (I.on p o1) (by rw[m];exact λY=>nomatch Y);rw[m] at t2;refine C ?_;refine sM (P:=λB=>v.In B) (by rw[M];rfl) (λB a5=>SU (l5 (k:=.fn f') A.ok λa9 D=>by cases D;exact((pE (Q:=λU U=>Qw) (E:=λU U=>Qw) (A:=f) (prog:=h) (pl:=pure P4) A o1.inv r n trivial).1)) B a5) (bN M (Qq t2 (λw s2 Y=>?_) λU U q=>EE.no q));refine hF λa3=>eM Y λU U r2 E o2 Y=>?_;obtain⟨rfl,rfl⟩:=rM E;exact a3 ⟨A.In o2.inv,bE (runN (k:=.fn f') a2 (R.less (VK _)) o2.inv (I.live.keep I.inv (o1.trans o2)) (.cons (o2.vr r) Y) e3) (λU U jc=>jc.pre (o1.trans o2)) λU U jc=>jc⟩
   ·exact nomatch o
theorem tZ(B:eV T f rh (λC m=>rj [C] m) t d):eV T f (R4 [(P8,rh)]) rj t d:=by refine bV (bE B (λC G v=>?_) λU U I=>I);exact aJ (Qg (aJ (QE (PySem.Calls.spliced_nil (bS (Qg v))))))
theorem mH{g:V (P6×Qt P')}(B:Qf T f rh (λC G=>eV T f (R4 g) (λw z=>rj (C :: w) z) t G) t d):eV T f (R4 ((P8,rh) :: g)) rj t d:=by refine aJ (Qq B (λC G v=>?_) λU U I=>I);exact aJ (Qg (bV (hG (bE v (λw z n=>bS (Qg n)) λU U I=>I))))
theorem jE.tup{a8:Z}{D B K:P9}{k2:Z}{a0:Qv}(R:bA N a8 f (c :: o))(v:SE h a e (c :: o) c j f i bk D)(a2:SE h a e (c :: o) c j f i cz B)(a5:qN h a e (c :: o) c j f im K)
  (na:notStar D=P4) (nb:notStar B=P4) (ne:notStar K=P4) (nm:wz j c cq bw fv) (A:fv.Nodup) (h3:cq.length=3) (hw:Sq [.Tuple bw H j7] (.Tuple [D,B,K] k2 a0) c=pure (S fv)) :
  jE h a e o c j f (JQ i cq bk cz im) (.Assign [.Tuple bw H j7] (.Tuple [D,B,K] k2 a0) J):=λb x y d g p n q im=>by
 refine hF λs=>aM (cG im) λeA T im=>aM (cG im) λeZ e2 im=>aM (cG im) λg6 l im=>s ?_;induction eb:dW g cq [eA.1,eZ.1,g6.1] using U0 with
 |none=>replace im:=eb▸im;cases im
 |some l'=>rw[eb] at im;refine Gi im ?_;have t:=v b x y d g p n (by rw[T];exact λY=>nomatch Y);rw[T] at t;refine aJ (QW ?_);refine aJ (Qg ?_);refine bV (aJ (QW (bV ?_)));rw[bI na,bI nb,bI ne];refine mH (Qq t (λP G Y=>?_) λU U q=>EE.no q);refine hF λa4=>eM Y λU U X E o1 r=>?_;obtain⟨rfl,rfl⟩:=rM E;have eE:=n.on p o1;have t2:=a2 b X eA.2 G g p eE (by rw[e2];exact λY=>nomatch Y);rw[e2] at t2;refine a4 (mH (Qq t2 (λk s2 Y=>?_) λU U q=>EE.no q));refine hF λa1=>eM Y λU U r2 E o2 w=>?_;obtain⟨rfl,rfl⟩:=rM E;have dJ:=eE.on p o2;refine a1 (tZ (bE (a5 b r2 eZ.2 s2 g p dJ _ l _) (λm L Y=>?_) λU U Y=>Y));refine hF λa3=>eM Y λU U C E o3 v3=>?_;obtain⟨rfl,rfl⟩:=rM E;have M:=dJ.on p o3;refine a3 ?_;refine bS (wpAny_newTuple ?_ (by have:Q2=_:=Q';simp;exact V4 _ _));rw[hw];have o4:aQ a e b [] C L C g6.2 {L with heap:=L.heap.push {cls:=.type "tuple",data:=.seq #[P,k,m]}}:=.grown M.inv λU U im=>U2 _ im;have vt:VR a.params (Sf ({L with heap:=L.heap.push {cls:=.type "tuple",data:=.seq #[P,k,m]}}:Qh).heap C b) C (.tup [eA.1,eZ.1,g6.1]) (.ref L.heap.objs.size):=.tup _ _ #[P,k,m] 0 (lX rfl M.inv) (.cons ((o2.trans o3).vr r |> o4.vr) (.cons (o4.vr (o3.vr w)) (.cons (o4.vr v3) .nil)));refine bS (P7 (Qg ?_));exact P7 (R2 (P7 (Qq (sE (R:=R) p nm A (.inr h3) (M.on p o4) vt eb) (λa7 z a6=>P7 (Qq a6 (λU U Y=>Qg (jN .next l' g6.2 C rfl ((((o1.trans o2).trans o3).trans o4).wide.trans Y.1) Y.2 trivial)) λU U I=>I)) λU U I=>I)))
theorem zD{R:Q9->Qh->Prop}
  (t:Qf (Qe h a) f (RE pa) (λx G=>match x with
   |none=>R (.ok .next) G
   |some C=>Qf (Qe h a) f (RS io c C) (λU z=>eV (Qe h a) f (Rk fh c) (λr g=>match r with
     |.next|.cont=>codeN (Qe h a) f (.forLoop io pa fh [] c) R g
     |.brk=>R (.ok .next) g
     |.ret C=>R (.ok (.ret C)) g) (λU U=>QC) z) (λU U=>QC) G) (λU U=>QC) d)
  (b:∀C,Sr io pa C=pure ()):codeN (Qe h a) f (.forLoop io pa fh [] c) R d:=by
 refine gQ rfl ?_
 refine jY (bE (E:=λU U=>QC) ?_ (λU U Y=>Y) λU U Y=>Y.elim)
 refine aJ (QW (aJ (wpAny_onRaise (Qq t (λx G v=>?_) λU U Y=>Y.elim))))
 induction x using U0 with
 |none=>exact bS (Qg ⟨rfl,Bh (codeAny_block (Rm v))⟩)
 |some C=>
  refine aJ (QN (b C) ?_)
  refine aJ (Qq v (λU z n=>bV (bE n (λr g l=>?_) λU U Y=>Y)) λU U Y=>Y)
  induction r using VY with
  |next=>exact bS (Qg ⟨rfl,l⟩)
  |cont=>exact bS (Qg ⟨rfl,l⟩)
  |brk=>exact bS (Qg l)
  |ret C=>exact bS (Qg l)
theorem zE{a7:Z}(R:bA N a7 f (c :: o))(hj:j[K]? = S (S r))(J:c.kindOf r=S .local\/c.kindOf r=S .cell)(A:rE h a e o c j f mz ew)
  (p:bt bh c j) (M:X∉bJ c) (q:Fl×Loc×AH):∀{B s:Z} {g:Loc} {y:AH} {x:cS} {d:Qh},St a e bh (c :: o) c j x y g d->dT a bh x d.heap cg X s->aQ a e bh (X :: bJ c) mj qd x y d->
  cM (λU C l y=>mz (l.set K (S C)) y) cg B s g y=.ok q->
  codeN (Qe h a) f (.forLoop (.Name r fu) (.ref X) ew [] c) (λY s'=>match Y with|.ok mz=>QS a e bh (X :: bJ c) o c j (.ok q) mj qd mz s'|.error _=>QC) d:=by
 intro B;induction B with
 |zero=>intro s g y x d n I z D;cases D
 |succ H k=>
  intro s g y x d n I z D;rw[KL] at D;refine oA (cg.at s y) (λb=>?_) (λov b=>?_);·replace D:=b▸D;cases D
  ·rw[b] at D
   refine zD (nI R.handled n.inv I b λG o1=>?_) (λU=>rfl)
   have a1:aQ a e bh (X :: bJ c) x d x y G:=o1.inc λa5 H=>by rw[UZ.mp H];exact .head _
   have eE:=n.KX p o1 M I.one
   induction ov using U0 with
   |none=>refine Gi D ?_;exact jN .next g y x rfl (z.trans a1) eE trivial
   |some C=>
    dsimp only at D⊢
    intro v' P i
    refine S7 (fG (j:=K) p eE nH.all hj J P λs2 o2 dJ=>?_)
    refine hF λa3=>?_
    refine aM (cG D) λbP T m=>?_
    obtain⟨fl,l3,v⟩:=bP
    refine a3 ?_
    refine bE (A bh x y s2 _ p dJ _ T) (λt s3 Y=>?_) λU U Y=>Y
    refine hF λa4=>?_
    refine uM Y λU U U r3 E o3 a2 Y=>?_
    clear a3 T A
    cases E
    have a0:=((z.trans a1).trans (o2.inc λa5 H=>.tail _ H)).trans (o3.inc λa5 H=>.tail X H)
    induction fl using Fl.casesOn with
    |next=>
     cases t with
     |next=>refine a4 ?_;exact k a2 ((i.on eE.inv o2 M λL H=>.inl (p.hU L H)).on dJ.inv o3 M λL H=>.inl (p.hU L H)) a0 m
     |_=>exact Y.elim
    |ret a6=>
     cases t with
     |ret w=>refine a4 ?_;refine Gi m ?_;exact jN (.ret a6) l3 v r3 rfl a0 a2 Y
     |_=>exact Y.elim
theorem jE.dZ{a3:Z}(R:bA N a3 f (c :: o))(k:SE h a e (c :: o) c j f i jc s)(hj:j[K]? = S (S r))(hk:c.kindOf r=S .local\/c.kindOf r=S .cell)(A:rE h a e o c j f mz ew)(P:fo s=P8) :
  jE h a e o c j f (JP i jc K mz) (.For (.Name r fu) s ew [] J):=λb x y a0 g p B q D=>by
 refine hF λv=>?_;refine aM (cG D) λcQ T D=>?_;obtain⟨L,H1⟩:=cQ;have t:=k b x y a0 g p B (by rw[T];exact λY=>nomatch Y);rw[T] at t;dsimp only at D;refine v ?_;refine aJ (QW (aJ (Qq t (λva G Y=>?_) λU U q=>EE.no q)));refine eM Y λU U r1 I o1 M=>?_;obtain⟨rfl,rfl⟩:=rM I;have eE:=B.on p o1;refine oA (srcOf H1 L) (λn=>?_) (λsq n=>?_);·replace D:=n▸D;cases D
 ·obtain⟨a1,H⟩:=sq
  replace D:=n▸D
  refine aM (jR M n) λd eA sa=>?_
  clear B v T I M n t k
  subst eA
  refine cN (sa.items o1.inv) λa2 n' l U=>?_
  refine aJ (QN (gG P _) (aJ (QW (aJ (QE (TC (bb l) ?_))))))
  have f0:G.heap.get? G.heap.objs.size=N:=ct _
  refine bT (eT p eE.inv f0) λq1 q2=>?_
  have X:=cX.more (own:=b) (fr:=bJ c) (ns:=[G.heap.objs.size]) (λE w=>by rw[UZ.mp w];exact f0) (Qj rfl) (λE z D=>U2 {cls:=.type "list_iterator",data:=.fields #[.ref d,.int 0 0]} D)
  have C:(G.heap.push {cls:=.type "list_iterator",data:=.fields #[.ref d,.int 0 0]}).get? G.heap.objs.size=S {cls:=.type "list_iterator",data:=.fields #[.ref d,.int 0 0]}:=Vs _ rfl
  have dJ:=eE.dS (own':=[G.heap.objs.size]++b) (tk:=G.toks) X.new X.le X.hs λE H=>by
   rcases Vd.mp H with H|H;·rw[UZ.mp H];exact⟨_,C⟩
   ·refine eK (eE.inv.ex E H) λz D=>?_;exact⟨z,X.hs _ _ D⟩
  have it:dT a ([G.heap.objs.size]++b) r1 ({G with heap:=G.heap.push {cls:=.type "list_iterator",data:=.fields #[.ref d,.int 0 0]},toks:=G.toks}:Qh).heap a1 G.heap.objs.size 0:=⟨(mU d (sa.mono (λL z Y=>(Y.dS X.new).grow X.hs) (.refl _)) (λq=>by rw[q,f0] at l;exact nomatch l) (mU _ C rfl rfl)),by refine Vy.trans ?_;rw[Vp q1];simp⟩
  refine wR (h:=N) (gP (zE R hj hk A (p.dS X.sub) q2 q dJ it (.refl dJ.inv) D) λY m jc=>?_) nofun
  cases Y with
  |ok mz=>exact(QS.back X eE.live jc).pre o1.wide
  |error D=>exact jc.elim
set_option backward.match.sparseCases true
theorem lE(H:dQ (.builtin ky ip)=P8)(w:Rv Rj ky=S py)
  (B:eV (Qe h a) (f.under (.builtin ky ip)) (py ip) (λp m=>match p with|.done r=>fy (.ok r) m|.again o=>o.quiet=P4/\codeN (Qe h a) f o fy m) (λD m=>fy (.error D) m) d):codeN (Qe h a) f (.builtin ky ip) fy d:=by refine gQ H ?_;show eV _ _ (match Rv Rj ky with|some py=>py ip|none=>PySem.unsupported ((withoutEnding? ky "#data").getD ky)) _ _ d;rw[w];exact B
theorem gR(e:(Rh.builtin ky ip).quiet=P4)(H:dQ (.builtin ky ip)=P8)(w:Rv Rj ky=S py) (B:Qf (Qe h a) f.in1 (Ut ky ip) (λU G=>eV (Qe h a) (f.under (.builtin ky ip)) (py ip) (λp m=>match p with|.done r=>fy (.ok r) m|.again o=>o.quiet=P4/\codeN (Qe h a) f o fy m) (λD m=>fy (.error D) m) G) (λD m=>fy (.error D) m) d):codeN (Qe h a) f (.call (.builtin ky) ip) fy d:=gQ rfl (aJ (Qq B (λU G v=>bS (Qg (Ym e (lE H w v)))) λU U x=>x))
theorem Bn:dQ (.builtin "type.__call__" ip)=P8:=by show(WB.contains "type.__call__"||_)=P8;decide +kernel
theorem yp{s:Qh}{c:QB}{t o init:P'}(g:QA (Qe h a) s.heap (Se o t) P4)(H:QA (Qe h a) s.heap (Us o "__init__") (S init))(w:QA (Qe h a) s.heap (Uu init o) (init,[o]))
  (e:codeN (Qe h a) f (.call init ⟨o :: iu,[]⟩) (λx m=>match x with|.ok (.ret C)=>C=.none/\fy (.ok (.ret o)) m|.ok _=>QC|.error D=>fy (.error D) m) s) :
  eV (Qe h a) f (do
   let E<-Se o t
   if(!E)=P4 then do
     rule "type.call.new-gave-other-type"
     ret o
    else do
     let x<-SK [o] (T2 o (WA "__init__") iu)
     match x with
      |none=>ret o
      |some x=>
       if(x != P'.none)=P4 then do
        rule "type.call.init-returned-value"
        let q<-PySem.typeNameOf x
        raiseErrorMade "TypeError" (toString "__init__() should return None, not '"++toString q++toString "'")
        ret o
       else ret o) (λp m=>match p with|.done r=>fy (.ok r) m|.again b=>b.quiet=P4/\codeN (Qe h a) c b fy m) (λD m=>fy (.error D) m) s:=by
 refine aJ (g.here ?_)
 refine bV (hG ?_)
 refine aJ (H.here ?_)
 refine hG (aJ (w.here ?_))
 refine bV (mG (gP e λx m Y=>?_))
 rcases x with D|(C|_|_|_)<;>first|exact Y|exact Y.elim|skip
 obtain⟨rfl,Y⟩:=Y
 refine bS (Qg ?_)
 exact bS (Qg Y)
theorem wW(l:Makes (Qe h a) p ap)(g:QA (Qe h a) p (Ri (.ref ap) "__init__") (S mw))
  (w:∀q,QA (Qe h a) p (Uu mw q) (mw,[q])) (m:(S mw != S (P'.builtin "object.__init__"))=P4)
  (e:codeN (Qe h a) (f.under (.builtin "type.__call__" ⟨.ref ap :: iu,[]⟩)) (.call mw ⟨.ref (p.objs.size+1) :: iu,[]⟩) (InitBack (p.objs.size+1) fy) ⟨(p.push QK).push (QH ap p.objs.size),qf,qg,mv,qh⟩) :
  codeN (Qe h a) f (.call (.ref ap) ⟨iu,[]⟩) fy ⟨p,qf,qg,mv,qh⟩:=by
 refine hF λi=>?_;have r:=l;obtain⟨⟨b,k,I,c,M,T,v,o⟩,n,B,q,j,d,A⟩:=l;refine i (gQ rfl (bS (nd_load M ?_)));show Qf _ _ (TH.viaDunder (.ref ap) _) _ _ _;refine P7 (d.at ?_);refine P7 (Qg (P7 (Qg ?_)));refine Qg (a:=Fin.again (.call (.builtin "type.__call__") ⟨.ref ap :: iu,[]⟩)) (Ym rfl ?_);refine gR (Xm _ (by decide +kernel)) Bn Uv (Ts tc_kind tc_split A (tc_args _ _ _) ?_);unfold Builtin.«type.__call__»;dsimp only;rw[Qm (show¬((P'.ref ap==P'.type "type")=P4) from Vm)];refine aJ ((show QA (Qe h a) p (mroOf (.ref ap)) I.mro from((QA.ld (part:=N) M).andThen .now).andThen .now).at ?_);rw[Qm (by rw[o];exact Vm)];refine aJ (n.at ?_);dsimp only;refine aJ (Qg ?_);refine aJ (QE (RO (new_K r g (.inl m) ?_)));have X:∀E z,p.get? E=S z->((p.push QK).push (QH ap p.objs.size)).get? E=S z:=λE z D=>U2 _ (U2 _ D);have H:((p.push QK).push (QH ap p.objs.size)).get? (p.objs.size+1)=S (QH ap p.objs.size):=by heap_get
 have t:QA (Qe h a) ((p.push QK).push (QH ap p.objs.size)) (S8 (.ref (p.objs.size+1))) (.ref ap):=(QA.ld H).andThen .now;exact yp (s:=⟨(p.push QK).push (QH ap p.objs.size),qf,qg,mv,qh⟩) (t.andThen (f:=λmv=>Ro mv (.ref ap)) (q.keeps X)) (t.andThen (f:=λmv=>Ri mv "__init__") (g.keeps X)) ((w (.ref (p.objs.size+1))).keeps X) e
set_option backward.match.sparseCases false
theorem Bo:mroOf (.type "bytearray")=pure [.type "bytearray",.type "object"]:=by refine(mroOf_type ..).trans ?_;kernel_rfl
theorem sg:Ri (.type "bytearray") "__new__"=pure (S (.builtin "bytearray.__new__")):=by refine(Rg ..).trans ?_;kernel_rfl
theorem DT:Bind.madeBy (.type "bytearray")=pure (S "bytearray.__new__"):=madeBy_type Bo sg (by decide +kernel)
theorem vu(L:P'):checkTypeCall "bytearray" ⟨[L],[]⟩=pure ():=by kernel_rfl
theorem wX(L:P'):Ut "bytearray.__new__" ⟨[.type "bytearray",L],[]⟩=pure ():=by kernel_rfl
theorem t4:Rv Rj "bytearray.__new__"=S Builtin.«list.__new__»:=entryFor_alias (id':="list.__new__") (by kernel_rfl) rfl (by decide +kernel) (by kernel_rfl)
theorem t7:plainId "bytearray.__new__"=P4:=by decide +kernel
theorem wY:Ro (.type "bytearray") (.type "bytearray")=pure P4:=by refine(Rt ..).trans ?_;kernel_rfl
theorem DU(C:P'):QM.Bytes.bindOptional "bytearray.__init__" "bytearray" ["source","encoding","errors"] [C] []=pure [S C,N,N]:=by kernel_rfl
theorem wZ:Ri (.type "bytearray") "__release_buffer__"=pure (S (.builtin "bytearray.__release_buffer__")):=by refine(Rg ..).trans ?_;kernel_rfl
theorem w0:Ri (.type "bytes") "__index__"=pure N:=by refine(Rg ..).trans ?_;kernel_rfl
theorem j0:Ri (.type "bytes") "__buffer__"=pure (S (.builtin "bytes.__buffer__")):=by refine(Rg ..).trans ?_;kernel_rfl
theorem t9:Ri (.type "bytes") "__release_buffer__"=pure N:=by refine(Rg ..).trans ?_;kernel_rfl
theorem Bp:dQ (.builtin "bytearray.__init__" ip)=P8:=by show(WB.contains "bytearray.__init__"||_)=P8;decide +kernel
theorem Hc(B:am (.ref d.heap.objs.size) {d with heap:=d.heap.push (fP #[])}) :
  QL (Qe h a) f (.call (.builtin "bytearray.__new__") ⟨[.type "bytearray",ag],[]⟩) (wants am t) d:=by
 refine Up (P7 (QN (wX ag) (Qg ⟨Uq t7 _,codeAny_builtin_stack t4 rfl λP g=>?_⟩)))
 have H:=wY
 have b:("bytearray.__new__".splitOn ".__new__").headD ""="bytearray":=by exact R split_bytearray rfl
 obtain⟨n,o,y,c,e⟩:=d
 dsimp only;rw[b]
 wp_walk
 exact B
set_option tactic.hygienic true in
theorem vy(B:g5 P8 d):eV (Qe h a) f (QM.Bytes.exported (.ref n)) g5 t d:=by
 refine tY (λM e=>?_) B;obtain⟨A,P⟩:=M;induction A using Rh.casesOn;case builtin s c=>
  obtain⟨L,b⟩:=XF.mp (show(WB.contains s||["bytearray.__contains__","bytearray.__mod__","bytearray.__rmod__","_struct.pack_into.held","bytearray.find.held"].contains s)=P8 from e)
  clear e
  have q:∀X,["bytearray.__contains__","bytearray.__mod__","bytearray.__rmod__","_struct.pack_into.held","bytearray.find.held"].contains X=P4->¬s=X:=λX J D=>Vm ((D▸b).symm.trans J)
  obtain⟨p,k⟩:=c
  delta QM.Bytes.exported.match_1
  refine(S9 (q "bytearray.__contains__" (by decide +kernel))).trans ?_
  refine(S9 (q "bytearray.__mod__" (by decide +kernel))).trans ?_
  refine(S9 (q "bytearray.__rmod__" (by decide +kernel))).trans ?_
  refine(S9 (q "_struct.pack_into.held" (by decide +kernel))).trans ?_
  refine(S9 (q "bytearray.find.held" (by decide +kernel))).trans ?_
  induction p using U5 with
  |nil=>rfl
  |cons C x=>exact Yy.mpr (.inr L)
 all_goals rfl
theorem qO(c:d.TypeIs (.ref n) "bytearray")(B:g5 P8 d):Qf (Qe h a) f (QM.Bytes.ownRelease (.ref n)) g5 t d:=by refine P7 (P7 (Rd c wZ ?_));dsimp only;refine R (Qm (by decide +kernel)) ?_;refine RZ (T:="bytearray") (b:=true) c (by refine R (show("bytearray.__release_buffer__".dropRight ("__release_buffer__".length+1))="bytearray" from by decide +kernel) ?_;exact wY) ?_;exact Qg B
theorem vz{b0 b1:Qi Qy}{r:Qi Qy->Qi Qy}(o:d.heap.get? n=S (fP b0))(D:r b0=b1)(j:b1.size<1000)(B:∀x,x.get? n=S (fP b1)->VP n d.heap x->ca () {d with heap:=x}):Qf (Qe h a) f (QM.Bytes.write (.ref n) r) ca t d:=by
 refine P7 (Rx o ?_);refine P7 (Ui o ?_);have G:(d.heap.update n (Y7 r)).get? n=S (fP b1):=by refine(Vx _ o rfl).trans ?_;exact R D.symm rfl
 refine Tw G ?_ (B _ G (VL ..));exact(Qm (Wo.mpr (uD j rfl)))
theorem DV{k:Qr}{s:Qh}{a:Qa}{b:Qi Qy}{R:Fin->Qh->Prop}(o:s.heap.get? a=S (fP #[]))(j:b.size<1000)(B:∀x,x.get? a=S (fP b)->VP a s.heap x->R (.done (.ret .none)) {s with heap:=x}) :
  eV (Qe h k) f (Builtin.«bytearray.__init__» ⟨[.ref a,.bytes b pj],[]⟩) R t s:=by refine aJ (qO ((ba _ o rfl)) ?_);refine aJ (QN (DU _) ?_);refine aJ (QN (a:=()) rfl ?_);refine aJ (QN (a:=()) rfl ?_);refine bV (bV (vy ?_));refine bS (P7 ?_);refine P7 (Rx o (Qg (Qg ?_)));refine bS (P7 (vz o (b1:=#[]) rfl (by decide) λG K C=>?_));refine P7 (QN (a:=N) rfl ?_);refine P7 (Qg ?_);refine P7 (Rd (PySem.W.typeIs_bytes _ _ _) w0 ?_);refine P7 (P7 (Rd (PySem.W.typeIs_bytes _ _ _) j0 ?_));dsimp only;refine P7 (P7 (Rd (PySem.W.typeIs_bytes _ _ _) j0 ?_));dsimp only;rw[Qm (by decide +kernel)];refine RZ (T:="bytes") (b:=true) (PySem.W.typeIs_bytes _ _ _) (by rw[show("bytes.__buffer__".dropRight ("__buffer__".length+1))="bytes" from by decide +kernel];exact F.bm_sub) ?_;refine P7 (Rd (PySem.W.typeIs_bytes _ _ _) j0 ?_);refine P7 (P7 (P7 (Rd (PySem.W.typeIs_bytes _ _ _) t9 (Qg (Qg ?_)))));refine P7 (P7 (Qg ?_));refine Qg (Qg ?_);refine P7 (R2 ?_);refine P7 (vz K (b1:=b) rfl j λp l c=>?_);exact Qg (B p l (C.trans c))
noncomputable def Fo(f:CF)(D:LE):vX:=λl y=>(aO f D l y).bind λx=>.of (bK x.2 .rF [x.1])
theorem DW(j:ec.size<1000)(X:∀x,(∀A z,d.heap.get? A=S z->x.get? A=S z)->x.get? d.heap.objs.size=S (fP ec)->fy (.ok (.ret (.ref d.heap.objs.size))) {d with heap:=x}) :
  codeN (Qe h a) f (.call (.type "bytearray") ⟨[.bytes ec pj],[]⟩) fy d:=by refine gQ rfl (bS (Qg (Ym (Xm _ (by decide +kernel)) (lE Bn Uv ?_))));dsimp only;refine aJ (QN (vu _) ?_);refine aJ (QN Bo ?_);refine aJ (QN DT ?_);refine aJ (Qg ?_);refine aJ (QE (RO (Hc ?_)));have o:(d.heap.push (fP #[])).get? d.heap.objs.size=S (fP #[]):=Vs _ rfl;have U:QA (Qe h a) ({d with heap:=d.heap.push (fP #[])}:Qh).heap (S8 (.ref d.heap.objs.size)) (.type "bytearray"):=(QA.ld (part:=S headPart) o).andThen .now;refine yp (init:=.builtin "bytearray.__init__") (s:={d with heap:=d.heap.push (fP #[])}) (U.andThen (f:=λK=>Ro K (.type "bytearray")) (QA.of_pure wY)) (U.andThen (f:=λK=>Ri K "__init__") (QA.of_pure gA.lookup)) (QA.of_pure (gA.bind _)) (gR (Uq gA.plain _) Bp rT (gA.check _ _ _ _ _ _ _ _ (ba _ o rfl) (tK _ _) ?_));refine DV (s:={d with heap:=d.heap.push (fP #[])}) o j λx G s=>⟨rfl,X x (λA z D=>?_) G⟩;exact(s.2 A (Wj (VV D))).trans (U2 _ D)
theorem qP{first:V P'}(h:lg.any (·.1)=P8)
  (B:Qf T f (evalArgs (.type nq) P4 lg []) (λL G=>eV T f (Q4 (.type nq) (first++L.pos) L.kw) am t G) t d):eV T f (SR J (.type nq) first lg []) am t d:=by refine aJ (QE (Qq B (λL G v=>aJ (QW ?_)) λU U I=>I));refine R h (aJ (Qg ?_));exact bV (bE v (λx z n=>bS (P7 (QE (Th (Qg n))))) λU U I=>I)
set_option tactic.hygienic true in
theorem qN.rF(A:Gr v e P cv cx cw)(K:AZ v c "bytearray" (.type "bytearray"))(k:SE h a e l c j f i jc s)(w:notStar s=P4):qN h a e l c j f (Fo i jc) (.Call (.Name "bytearray" fu) [s] [] J):=by
 intro b x y a2 g p n q D a5;refine aM (cG D) λbP T m=>?_;clear D;obtain⟨I,z⟩:=bP;have t:=k b x y a2 g p n (R T λY=>nomatch Y);replace t:=T▸t;refine aJ (yf A K p n.inv ?_);have B:=SE.mC k w;refine qP B.noStar (bN B.noStar ?_);refine R (bI w) (PySem.Calls.spliced_cons (Qq t (λva G Y=>?_) λU U q=>EE.no q));refine hF λC=>eM Y λU U X ez o1 r=>?_;clear T Y t B y g p n A k w;cases ez;refine C (PySem.Calls.spliced_nil (hF λa1=>?_));dsimp only at m;clear C;induction I using Zp with
 |bH d=>
  refine cN (VR.inv r) λE a4 cQ a0=>?_;clear r;subst cQ;have m:Res.of (if sm d.length then S (Q.fV z.B.length,{z with B:=z.B++[d.map YL]}) else N)=.ok q:=m;split at m;·rename_i hz;obtain rfl:=KR m;have a3:=mF hz;have L:=Ql Xw a0;rw[U1,show E.toList.length=E.size from U'] at L;refine a1 (mG (DW (L.symm▸n1 a3 rfl) λh' M o=>?_));have f0:=ct G.heap;exact .ok (r':=X.Au G.heap.objs.size) (o1.trans (.mk' (tk':=G.toks) (o1.inv.LN (bs:=d.map YL) f0 M o (R a0.symm (R V8 rfl))) ((More.B X G.heap.objs.size).keep (own:=b) (fr:=[]) (λI H=>by exact R (UZ.mp H) f0) M) (More.B X G.heap.objs.size).le)) (.fV _ _ (R o1.inv.ey.mY.symm hY))
  ·exact nomatch m
 |_=>cases m
noncomputable def KZ:V vX->Loc->AH->Res (V Q×AH)
 |[],_,y=>.ok ([],y)
 |D :: x,l,y=>(D l y).bind λI=>(KZ x l I.2).bind λM=>.ok (I.1 :: M.1,M.2)
inductive ua(prog:Qz)(w:Qr)(g₀:Qb)(l:V Qo)(env:Qo)(sl:V (O Qc))(A:QB)(ym:Qc):V Z->V vX->V Qn->Prop
 |nil:ua prog w g₀ l env sl A ym [] [] []
 |cons {f:Z} {fs:V Z} {e:vX} {es:V vX} {y:P9} {xs:V Qn} {p1 p2 p3:Qv}:qN prog w g₀ l env sl A e y->ua prog w g₀ l env sl A ym fs es xs->ua prog w g₀ l env sl A ym (f :: fs) (e :: es) (.Assign [.Attribute (.Name ym p1) (sx f) p2] y p3 :: xs)
theorem zF{a1:Z}{es:V vX}(a0:Gr v e P cv cx cw)(R:bA N a1 f (c :: o))(p:bt g c j)(ho:nO g c de cn A U)(B:ua h a e (c :: o) c j f de j9 es ew) :
  ∀{I:V Z} {vs K:V Q} {x:cS} {y H:AH} {d:Qh},qI a e g (c :: o) c j de cn A U w I vs x y d->I++j9=cA U->KZ es w y=.ok (K,H)->
   eV (Qe h a) f (Rk ew c) (λr m=>r=.next/\∃r',aQ a e g [A] x d r' H m/\qI a e g (c :: o) c j de cn A U w (cA U) (vs++K) r' H m) (λb b=>QC) d:=by
 induction B with
 |nil=>intro I vs K x y H d n J E;refine bT (rM E) λGU L8=>?_;subst GU;subst L8;rw[VQ] at J;refine lD ⟨rfl,x,.refl n.st.inv,?_⟩;rw[VQ,<-J];exact n
 |@cons r j9 a3 es y' ew C M p3 i B k=>intro I vs K x y H d n J E;refine aM (cG E) λbP T e2=>?_;obtain⟨L,H1⟩:=bP;refine aM (cG e2) λcQ l e4=>?_;clear e2 R B;obtain⟨a2,s⟩:=cQ;obtain⟨rfl,rfl⟩:=rM e4;refine jZ (oX (bE (i g x y d w p n.st _ T _) (λva G z=>?_) λb b z=>z) (kH (.Name de _) (sx r) _ p3.line c));refine eM z λb b X ez C v1=>?_;obtain⟨rfl,rfl⟩:=rM ez;refine sL a0 p ho (n.on ho p C) J v1 λs2 o2 Y=>?_;refine bE (k Y (by refine(VJ ..).trans ?_;exact J) l) (λt m q=>?_) λb b q=>q;obtain⟨rfl,r',o3,D⟩:=q;refine⟨rfl,r',(C.wide.trans o2).trans o3,?_⟩;rw[VJ] at D;exact D
theorem Bq{vs:V vX}{us:V Q}(A:Gr v e P cv cx cw)(hc:U≠.bZ)(r:dF ae ax j fh)(R:bA N (q+1) f l)(fz:hV U=P4)
  (mk:TK v (CA U)=P4) (hi:Q8 v (.ref (CA U)) "__init__"=S (S (.ref j4))) (ht:Rf v (.ref j4)=S (.type "function"))
  (y:e.get? j4=S ak) (i:ak.data=.func ae) (a5:e.NoLimit) (a8:e.CodeRec ae.code ae.qualname) (a6:DJ a e ae fg di) (t:fg.length<=ax.length) (L:ax.length<=j.length)
  (I:ax[0]? = S de) (kl:ae.scope.names.lookup de=S .local) (T:(de==("__debug__":Qc))=P8)
  (s:Inv a e g b k d.heap) (lv:dI l g [] d.heap) (C:bU a.params (Sf d.heap b g) b z fc) (hb:bindArgs ax.length fg j.length (.none :: z)=S qi) (c:w=qi.set 0 N) (ev:KZ vs w k=.ok (us,cy))
  (a9:∀x,ua h a e (Q6 ae x j4 :: l) (Q6 ae x j4) j ((f.under (.builtin "type.__call__" ⟨.ref (CA U) :: fc,[]⟩)).deeper (Q6 ae x j4)) de (cA U) vs fh) :
  codeN (Qe h a) f (.call (.ref (CA U)) ⟨fc,[]⟩) (RN a e g (.obj U us,cy) b d) d:=by have a1:=A.In s;have k0:∀E ak,e.get? E=S ak->((d.heap.push QK).push (QH (CA U) d.heap.objs.size)).get? E=S ak:=λE ak D=>U2 _ (U2 _ (s.keep E ak D).1);obtain⟨n,o,dd,K,os⟩:=d;refine wW (makes_of a1 mk) (Sm a1 hi) (λa7=>bind_fn a1 a7 ht) rfl (fZ (s:=⟨(n.push QK).push (QH (CA U) n.objs.size),o,dd,K,os⟩) (Fc R.depth rfl) (k0 _ _ y) i r.co r.gen r.body (yn k0 a8) (yo (s:=⟨n,o,dd,K,os⟩) (P:=λa2 G=>codeN (Qe h a) _ (.func fh a2) _ G) hc r a6 a5 t L I kl T s lv C hb c λa2 c1 h' B he p a0 b9 X=>qM ?_));subst he;refine bE (zF A R.make p a0 (a9 _) b9 rfl ev) (λa3 m M=>?_) λD m M=>M.elim;obtain⟨rfl,J,ak,y'⟩:=M;refine⟨rfl,?_⟩;exact cN y'.at' λes H a4 a3=>.ok (aQ.back (s:=⟨n,o,dd,K,os⟩) X (ak.inc λU H=>H)) (.obj U us _ _ es H ⟨a4.x,(y'.st.inv.off _ (gB a0.ix)).1,s.no (V6 (VK _))⟩ ⟨a4.d,(y'.st.inv.off _ (gB a0.id)).1,s.no (ct _)⟩ (a3.mono (λε ε Y=>Y.back X.sub) (.refl _)))
noncomputable def cH(I:P9):O Qc:=vw VW 23 I λB=>P9.Name.elim I B λL P=>S L
noncomputable def lL(I:P9):O RU:=vw VW 19 I λB=>P9.Constant.elim I B λA X P=>S A
noncomputable def j'(I:P9):O (P9×Qc):=vw VW 20 I λB=>WD I B λn L P=>S (n,L)
noncomputable def ub(I:P9):O (P9×Qc×Qv):=vw VW 20 I λB=>WD I B λn L P=>S (n,L,P)
noncomputable def kn(I:P9):O (P9×V P9×Qv):=vw VW 16 I λB=>P9.Call.elim I B λr b k P=>bif k.isEmpty then S (r,b,P) else N
noncomputable def w9(I:P9):O (P9×P9):=vw VW 21 I λB=>P9.Subscript.elim I B λL s P=>S (L,s)
noncomputable def mI(I:P9):O (V P9):=vw VW 25 I λB=>P9.Tuple.elim I B λb X P=>S b
noncomputable def Hd(I:P9):O (V P9):=vw VW 24 I λB=>P9.List.elim I B λb P=>S b
noncomputable def Br(I:P9):O (V (O P9)×V P9):=vw VW 6 I λB=>P9.Dict.elim I B λe w P=>S (e,w)
noncomputable def JR(I:P9):O (P9×Sy×P9):=vw VW 2 I λB=>P9.BinOp.elim I B λL z E P=>S (L,z,E)
noncomputable def He(I:P9):O (P9×CmpOp×P9):=vw VW 15 I λB=>P9.Compare.elim I B λL e f P=>(l1 e).bind λz=>(l1 f).map λE=>(L,z,E)
noncomputable def vBool(I:P9):O (Rq×P9×P9×V P9×Qv):=vw VW 0 I λB=>WM I B λz b P=>b.head?.bind λn=>b.tail.head?.map λY=>(z,n,Y,b.tail.tail,P)
noncomputable def K0(I:P9):O (UnaryOp×P9):=vw VW 3 I λB=>P9.UnaryOp.elim I B λz n P=>S (z,n)
noncomputable def L9(I:P9):O (P9×P9×P9):=vw VW 5 I λB=>P9.IfExp.elim I B λL E A P=>S (L,E,A)
noncomputable def vA(I:P9):O (P9×P9×P9×V P9×Rc×P5):=vw VW 8 I λB=>P9.ListComp.elim I B λn G a P=>(l1 G).map λo=>(n,o.target,o.iter,o.ifs,a,o.is_async)
noncomputable def Bs(I:P9):O (O P9×O P9):=vw VW 26 I λB=>P9.Slice.elim I B λL E A P=>bif A.isNone then S (L,E) else N
theorem bG(I:P9):aZ (cH I) λL=>∃P,I=.Name L P:=ek λB=>P9.Name.elim (motive_1:=λI=>∀B,aZ (P9.Name.elim (motive_1:=λ_=>O Qc) I B λL P=>S L) λL=>∃P,I=.Name L P) I B (λL P _=>⟨_,rfl⟩) B
theorem iG(I:P9):aZ (lL I) λL=>∃M:Z×Qv,I=.Constant L M.1 M.2:=ek λB=>P9.Constant.elim (motive_1:=λI=>∀B,aZ (P9.Constant.elim (motive_1:=λ_=>O RU) I B λA X P=>S A) λL=>∃M:Z×Qv,I=.Constant L M.1 M.2) I B (λA X P _=>⟨(_,_),rfl⟩) B
theorem hH(I:P9):aZ (j' I) λL=>∃P,I=.Attribute L.1 L.2 P:=ek λB=>WD (motive_1:=λI=>∀B,aZ (WD (motive_1:=λ_=>O (P9×Qc)) I B λn L P=>S (n,L)) λL=>∃P,I=.Attribute L.1 L.2 P) I B (λn L P _=>⟨_,rfl⟩) B
theorem qQ(I:P9):aZ (ub I) λL=>I=.Attribute L.1 L.2.1 L.2.2:=ek λB=>WD (motive_1:=λI=>∀B,aZ (WD (motive_1:=λ_=>O (P9×Qc×Qv)) I B λn L P=>S (n,L,P)) λL=>I=.Attribute L.1 L.2.1 L.2.2) I B (λn L P _=>rfl) B
theorem fJ(I:P9):aZ (kn I) λL=>I=.Call L.1 L.2.1 [] L.2.2:=ek λB=>P9.Call.elim (motive_1:=λI=>∀B,aZ (P9.Call.elim (motive_1:=λ_=>O (P9×V P9×Qv)) I B λr b k P=>bif k.isEmpty then S (r,b,P) else N) λL=>I=.Call L.1 L.2.1 [] L.2.2) I B (λr b k P _=>by
  induction k using U5 with
  |nil=>exact rfl
  |cons _ _=>exact Vo) B
theorem nQ(I:P9):aZ (w9 I) λL=>∃P,I=.Subscript L.1 L.2 P:=ek λB=>P9.Subscript.elim (motive_1:=λI=>∀B,aZ (P9.Subscript.elim (motive_1:=λ_=>O (P9×P9)) I B λL s P=>S (L,s)) λL=>∃P,I=.Subscript L.1 L.2 P) I B (λL s P _=>⟨_,rfl⟩) B
theorem hS(I:P9):aZ (mI I) λL=>∃M:Z×Qv,I=.Tuple L M.1 M.2:=ek λB=>P9.Tuple.elim (motive_1:=λI=>∀B,aZ (P9.Tuple.elim (motive_1:=λ_=>O (V P9)) I B λb X P=>S b) λL=>∃M:Z×Qv,I=.Tuple L M.1 M.2) I B (λb X P _=>⟨(_,_),rfl⟩) B
theorem Bt(I:P9):aZ (Hd I) λL=>∃P,I=.List L P:=ek λB=>P9.List.elim (motive_1:=λI=>∀B,aZ (P9.List.elim (motive_1:=λ_=>O (V P9)) I B λb P=>S b) λL=>∃P,I=.List L P) I B (λb P _=>⟨_,rfl⟩) B
theorem yq(I:P9):aZ (Br I) λL=>∃P,I=.Dict L.1 L.2 P:=ek λB=>P9.Dict.elim (motive_1:=λI=>∀B,aZ (P9.Dict.elim (motive_1:=λ_=>O (V (O P9)×V P9)) I B λe w P=>S (e,w)) λL=>∃P,I=.Dict L.1 L.2 P) I B (λe w P _=>⟨_,rfl⟩) B
theorem Hf(I:P9):aZ (JR I) λL=>∃P,I=.BinOp L.1 L.2.1 L.2.2 P:=ek λB=>P9.BinOp.elim (motive_1:=λI=>∀B,aZ (P9.BinOp.elim (motive_1:=λ_=>O (P9×Sy×P9)) I B λL z E P=>S (L,z,E)) λL=>∃P,I=.BinOp L.1 L.2.1 L.2.2 P) I B (λL z E P _=>⟨_,rfl⟩) B
theorem Bu(I:P9):aZ (He I) λL=>∃P,I=.Compare L.1 [L.2.1] [L.2.2] P:=ek λB=>P9.Compare.elim (motive_1:=λI=>∀B,aZ (P9.Compare.elim (motive_1:=λ_=>O (P9×CmpOp×P9)) I B λL e f P=>(l1 e).bind λz=>(l1 f).map λE=>(L,z,E)) λL=>∃P,I=.Compare L.1 [L.2.1] [L.2.2] P) I B (λL e f P _=>by rcases e with _|⟨z,_|⟨o2,e⟩⟩<;>rcases f with _|⟨E,_|⟨b2,f⟩⟩<;>first|exact Vo|exact⟨_,rfl⟩) B
theorem pF(I:P9):aZ (vBool I) λL=>I=.BoolOp L.1 (L.2.1 :: L.2.2.1 :: L.2.2.2.1) L.2.2.2.2:=ek λB=>WM (motive_1:=λI=>∀B,aZ (WM (motive_1:=λ_=>O (Rq×P9×P9×V P9×Qv)) I B λz b P=>b.head?.bind λn=>b.tail.head?.map λY=>(z,n,Y,b.tail.tail,P)) λL=>I=.BoolOp L.1 (L.2.1 :: L.2.2.1 :: L.2.2.2.1) L.2.2.2.2) I B (λz b P _=>by rcases b with _|⟨n,_|⟨Y,x⟩⟩<;>first|exact Vo|exact rfl) B
theorem Bv(I:P9):aZ (K0 I) λL=>∃P,I=.UnaryOp L.1 L.2 P:=ek λB=>P9.UnaryOp.elim (motive_1:=λI=>∀B,aZ (P9.UnaryOp.elim (motive_1:=λ_=>O (UnaryOp×P9)) I B λz n P=>S (z,n)) λL=>∃P,I=.UnaryOp L.1 L.2 P) I B (λz n P _=>⟨_,rfl⟩) B
theorem Fp(I:P9):aZ (L9 I) λL=>∃P,I=.IfExp L.1 L.2.1 L.2.2 P:=ek λB=>P9.IfExp.elim (motive_1:=λI=>∀B,aZ (P9.IfExp.elim (motive_1:=λ_=>O (P9×P9×P9)) I B λL E A P=>S (L,E,A)) λL=>∃P,I=.IfExp L.1 L.2.1 L.2.2 P) I B (λL E A P _=>⟨_,rfl⟩) B
theorem uc(I:P9):aZ (vA I) λL=>∃P,I=.ListComp L.1 [⟨L.2.1,L.2.2.1,L.2.2.2.1,L.2.2.2.2.2⟩] L.2.2.2.2.1 P:=ek λB=>P9.ListComp.elim (motive_1:=λI=>∀B,aZ (P9.ListComp.elim (motive_1:=λ_=>O (P9×P9×P9×V P9×Rc×P5)) I B λn G a P=>(l1 G).map λo=>(n,o.target,o.iter,o.ifs,a,o.is_async)) λL=>∃P,I=.ListComp L.1 [⟨L.2.1,L.2.2.1,L.2.2.2.1,L.2.2.2.2.2⟩] L.2.2.2.2.1 P) I B (λn G a P _=>by rcases G with _|⟨⟨K,s,f,L⟩,_|⟨o,x⟩⟩<;>first|exact Vo|exact⟨_,rfl⟩) B
theorem Bw(I:P9):aZ (Bs I) λL=>∃P,I=.Slice L.1 L.2 N P:=ek λB=>P9.Slice.elim (motive_1:=λI=>∀B,aZ (P9.Slice.elim (motive_1:=λ_=>O (O P9×O P9)) I B λL E A P=>bif A.isNone then S (L,E) else N) λL=>∃P,I=.Slice L.1 L.2 N P) I B (λL E A P _=>by
  induction A using U0 with
  |none=>exact⟨_,rfl⟩
  |some _=>exact Vo) B
noncomputable def Ma(I:P9):O P9:=vw VW 0 I λB=>WM I B λz b P=>l1 b
theorem JS(I:P9):aZ (Ma I) λn=>∃M:Rq×Qv,I=.BoolOp M.1 [n] M.2:=ek λB=>WM (motive_1:=λI=>∀B,aZ (WM (motive_1:=λ_=>O P9) I B λz b P=>l1 b) λn=>∃M:Rq×Qv,I=.BoolOp M.1 [n] M.2) I B (λz b P _=>by rcases b with _|⟨n,_|⟨Y,x⟩⟩<;>first|exact Vo|exact⟨(z,P),rfl⟩) B
noncomputable def CV(I:P9):P9:=(Ma I).getD I
theorem JT(I:P9):CV I=I\/∃z P,I=.BoolOp z [CV I] P:=by
 have B:=JS I;unfold CV;revert B;cases Ma I with
 |none=>exact λU=>.inl rfl
 |some n=>exact λ⟨M,D⟩=>.inr (z8 M.1 M.2 D)
theorem Fq{P:P9->Prop}(B:P (CV ao))(X:∀z n a,P n->P (.BoolOp z [n] a)):P ao:=by
 rcases JT ao with D|⟨z,a,D⟩;·exact D▸B
 ·exact D▸X z _ a B
set_option genCtorIdx true in
inductive Kd|loc|cell|GJ|glob
 deriving R'
noncomputable def JU(P:Qo)(I:Qc):Kd->Prop
 |.loc=>P.kindOf I=S .local
 |.cell=>P.kindOf I=S .cell
 |.GJ=>P.kindOf I=S .cell\/P.kindOf I=S .free
 |.glob=>P.kindOf I=S .globalImplicit
structure Cx where
 names:V (Qc×QI)
 comp:P6
 sl:V (O Qc)
noncomputable def Oz(c:P6):QI->O Kd
 |.local=>S .loc
 |.cell=>if c then N else S .cell
 |.free=>S .GJ
 |.globalImplicit=>S .glob
 |_=>N
noncomputable def Cx.kd(A:Cx)(I:Qc):O Kd:=(A.names.lookup I).bind (Oz A.comp)
variable{E:Cx}
theorem Cx.JV{X:Kd}(K:c.kindOf r=E.names.lookup r)(D:E.kd r=S X):JU c r X:=by
 refine lI D λn T m=>?_;have l:=K.trans T;clear T K D;induction n using Yf with
 |«local»=>exact sX m▸l
 |cell=>
  revert m
  cases E.comp with
  |true=>exact nX
  |false=>exact λm=>sX m▸l
 |free=>exact sX m▸XW l
 |globalImplicit=>exact sX m▸l
 |_=>exact nX m
noncomputable def iH(A:Cx)(P:Qo):Prop:=∀I X,A.kd I=S X->JU P I X
noncomputable def Cx.slot(A:Cx)(v:Z)(I:Qc):P6:=Qd (A.sl[v]? = S (S I))
theorem Cx.pG(B:E.slot K r=P4):E.sl[K]? = S (S r):=Qj B
noncomputable def dU(I:Qc):P6:=!(I==("__debug__":Qc))&&!(I==("__classdict__":Qc))
theorem bQ(B:dU r=P4):(r==("__debug__":Qc))=P8:=nF (Vi.mp B).1
theorem kM(B:dU r=P4):(r==("__classdict__":Qc))=P8:=nF (Vi.mp B).2
noncomputable def Kd.isVar:Kd->P6
 |.glob=>P8
 |_=>P4
noncomputable def Kd.isDst:Kd->P6
 |.loc|.cell=>P4
 |_=>P8
noncomputable def Cx.var(A:Cx)(v:Z)(I:Qc):P6:=A.slot v I&&dU I&&(A.kd I).any Kd.isVar
noncomputable def Cx.dst(A:Cx)(v:Z)(I:Qc):P6:=A.slot v I&&(A.kd I).any Kd.isDst
theorem Cx.ud(z:iH E c)(B:E.var K r=P4):E.sl[K]? = S (S r)/\(c.kindOf r=S .local\/c.kindOf r=S .cell\/c.kindOf r=S .free)/\dU r=P4:=
 jO B λt L p=>by
  refine gZ (Cx.pG t) ?_ L;refine aM (QR p) λX D p=>?_;have Y:=z r X D;clear t L D z B;induction X using Kd.casesOn with
  |loc=>exact .inl Y
  |cell=>exact .inr (.inl Y)
  |GJ=>exact .inr Y
  |glob=>exact bF p
theorem Cx.ue(z:iH E c)(B:E.dst K r=P4):E.sl[K]? = S (S r)/\(c.kindOf r=S .local\/c.kindOf r=S .cell):=
 an B λG p=>by
  refine⟨Cx.pG G,?_⟩;refine aM (QR p) λX D p=>?_;have Y:=z r X D;induction X using Kd.casesOn with
  |loc=>exact .inl Y
  |cell=>exact .inr Y
  |_=>exact bF p
deriving instance DecidableEq for BV
set_option genCtorIdx true in
inductive GV|fn(k:Z)|cls(c:gV)|int(i:P5)|bi(b:BV)
 deriving R'
noncomputable def OA:V (Qc×GV):=[("Thing",GV.cls .Thing),("Text",GV.cls .Text),("Row",GV.cls .Row),("DictBody",GV.cls .Dict),("Span",GV.cls .Span),("Limits",GV.cls .FX),("VmSave",GV.cls .mX),("Memory",GV.cls .Mem),("PsError",GV.cls .bZ),("GRAIN",GV.int 1000000),("READ_ONLY",GV.int 2),("UNLIMITED",GV.int 3),("ITEM_COST",GV.int 8),("ENTRY_COST",GV.int 16),("MOST_COST",GV.int 16777216),("len",GV.bi (.fn "len")),("min",GV.bi (.fn "min")),("max",GV.bi (.fn "max")),("abs",GV.bi (.fn "abs")),("int",GV.bi (.ty "int")),("bytes",GV.bi (.ty "bytes")),("bytearray",GV.bi (.ty "bytearray")),("list",GV.bi (.ty "list")),("range",GV.bi (.ty "range")),("enumerate",GV.bi (.ty "enumerate")),("isinstance",GV.bi (.fn "isinstance"))]
noncomputable def DX:V (Qc×GV):=(fnName.zipIdx.filterMap λM=>match M.1 with|(X,N)=>S (sx X,GV.fn M.2)|_=>N)++OA
noncomputable def Nc(a:QF)(I:Qc):GV->Prop
 |.fn X=>QZ a QO I=S (S (.ref (FA X)))/\X<60
 |.cls A=>QZ a QO I=S (S (.ref (CA A)))
 |.int s=>∃K,QZ a QO I=S (S (.int s K))
 |.bi E=>QZ a QO I=S N/\Ul I=S E.val/\I≠"__name__"
noncomputable def vY(a:QF):Prop:=∀M∈DX,Nc a M.1 M.2/\dU M.1=P4
theorem oK{C:G}{l:V (Qc×G)}(B:l.lookup r=S C):(r,C)∈l:=by
 induction l with
 |nil=>exact nX B
 |cons M x k=>
  rw[VX] at B;refine z9 (r==M.1) (λD=>?_) (λD=>?_);·rw[D] at B;exact .tail _ (k B)
  ·rw[D] at B;exact Ra.mp D▸sX B▸.head _
noncomputable def Cx.Hg(A:Cx)(I:Qc):O GV:=if A.kd I=S .glob then DX.lookup I else N
theorem Cx.nR{C:GV}(z:iH E c)(o:vY v)(B:E.Hg r=S C):c.kindOf r=S .globalImplicit/\Nc v r C/\dU r=P4:=by
 by_cases D:E.kd r=S .glob;·exact⟨z r _ D,o _ (oK ((Qk D).symm.trans B))⟩
 ·exact nX ((Qm D).symm.trans B)
noncomputable def Cx.bi(A:Cx)(I:Qc)(E:BV):P6:=Qd (A.Hg I=S (.bi E))
theorem Cx.qR{a:BV}(z:iH E c)(o:vY v)(B:E.bi r a=P4):AZ v c r a.val:=hO (Cx.nR z o (Qj B)) λX bP pl=>hO bP λK l b=>⟨K,l,b,X,bQ pl⟩
noncomputable def sR:Rq->P6|.And=>P4|_=>P8
noncomputable def Fs(z:E7)(o:Sy):P6:=Qd (o=Av z)
noncomputable def Bx(A:Cx)(a:Rc)(m:V (Z×Qc)):V (O Qc):=A.sl.zipIdx.map λM=>(m.lookup M.2).or (M.1.bind λI=>if a.names.lookup I=S .free then S I else N)
noncomputable def Hh(A:Cx)(a:Rc)(v:V (O Qc))(m:V Z):P6:=a.names.all (λM=>Qd (M.2≠.cell))&&Qd (a.kind=.function)&&a.names.all (λM=>Qd (M.2≠.local)||Qd (a.names.lookup M.1=S .local))&& a.names.all (λM=>Qd (M.2≠.free)||((Qd (A.kd M.1=S .cell)||Qd (A.kd M.1=S .GJ))&&A.sl.contains (S M.1)))&& v.zipIdx.all (λM=>M.1.isNone||M.1.any λI=>(m.contains M.2&&Qd (a.names.lookup I=S .local))||(!m.contains M.2&&A.slot M.2 I&&Qd (a.names.lookup I=S .free)))&& Qd ((v.filterMap λM=>M).Nodup)&&Qd (v.length=A.sl.length)
inductive It|E(e:LE)(x:P9)|T(e:LE)(x:P9)|Es(es:fD)(xs:V P9)|O(o:LO)(x:Option P9)|P(ks:V Z)(vs:fD)(xs:V (Option P9))(ys:V P9)
noncomputable def lM(I:P9)(m:V Z):V (Z×Qc):=(((cH I).bind λJ=>(l1 m).map λv=>[(v,J)]).or (((mI I).bind l2).bind λM=>(cH M.1).bind λL=>(cH M.2).bind λE=>(l2 m).map λv=>[(v.1,L),(v.2,E)])).getD []
noncomputable def Hi(v:V (O Qc))(a:Rc)(m:V (Z×Qc)):P6:=m.all λM=>Qd (v[M.1]? = S (S M.2))&&Qd (a.names.lookup M.2=S .local)
noncomputable def I0:fD->O LE
 |.cons D .nil=>S D
 |_=>N
noncomputable def w'(D:LE):O Z:=by induction D using LE.casesOn with|var I=>exact S I|_=>exact N
noncomputable def I4(D:LE):O (Z×Z):=by induction D using LE.casesOn with|attr D L=>exact(w' D).map λv=>(v,L)|_=>exact N
theorem By(D:LE):aZ (w' D) λv=>D=.var v:=by induction D using LE.casesOn<;>first|exact Vo|rfl
theorem Ft(D:LE):aZ (I4 D) λM=>D=.attr (.var M.1) M.2:=by
 induction D using LE.casesOn with
 |attr D r=>
  have B:=By D
  revert B
  show _->aZ ((w' D).map _) _
  cases w' D with
  |none=>exact λU=>Vo
  |some v=>exact λB=>Ql (LE.attr · r) B
 |_=>exact Vo
theorem Bz(j:fD):aZ (I0 j) λD=>j=.cons D .nil:=by rcases j with _|⟨D,_|⟨m,x⟩⟩<;>first|exact Vo|rfl
noncomputable def JW(X:RU):O (V Qy):=vw RU.ctorIdx 6 X λB=>RU.bytes.elim X B λE=>S E
theorem Hj(X:RU):aZ (JW X) λE=>X=.bytes E:=ek λB=>RU.bytes.elim (motive:=λX=>∀B,aZ (RU.bytes.elim (motive:=λ_=>O (V Qy)) X B λE=>S E) λE=>X=.bytes E) X B (λE _=>rfl) B
noncomputable def OB(x:It->P6):fD->V P9->P6
 |.nil,b=>b.isEmpty
 |.cons D j,b=>match b with
  |[]=>P8
  |I :: b=>notStar I&&x (.E D I)&&x (.Es j b)
noncomputable def cO(x:It->P6):LO->O P9->P6
 |.no,I=>I.isNone
 |.so D,I=>I.any λI=>x (.E D I)
noncomputable def cP(x:It->P6):V Z->fD->V (O P9)->V P9->P6
 |[],w,b,h=>(match w with|.nil=>P4|_=>P8)&&b.isEmpty&&h.isEmpty
 |X :: e,w,b,h=>match w with
  |.nil=>P8
  |.cons C w=>match b with
   |[]=>P8
   |I :: b=>match h with
    |[]=>P8
    |n :: h=>I.any λI=>Qd (X<NS)&&(lL I).any (λM=>Qd (M=.str (sx X)))&&x (.E C n)&&x (.P e w b h)
noncomputable def cT(x:It->P6)(I:P9):LE->P6
 |.and L E=>(vBool I).any λM=>sR M.1&&x (.T L M.2.1)&&x (.T E (.BoolOp .And (M.2.2.1 :: M.2.2.2.1) M.2.2.2.2))
 |.or L E=>(vBool I).any λM=>!sR M.1&&x (.T L M.2.1)&&x (.T E (.BoolOp .Or (M.2.2.1 :: M.2.2.2.1) M.2.2.2.2))
 |.not L=>(K0 I).any λM=>Qd (M.1=.Not)&&x (.T L M.2)
 |.cmp z L E=>(He I).any λM=>Qd (M.2.1=lZ z)&&!(To (lZ z) M.2.2)&&x (.E L M.1)&&x (.E E M.2.2)
 |.ite K L E=>(L9 I).any λM=>x (.T K M.1)&&x (.T L M.2.1)&&x (.T E M.2.2)
 |D=>!(wo I)&&x (.E D I)
noncomputable def cB(x:It->P6)(A:Cx)(c:fD)(J:Qc)(b:V P9):BI->P6
 |.hM=>(I0 c).any λD=>(l1 b).any λn=>(kn n).any λK=>(cH K.1).any λd=>(l1 K.2.1).any λY=>Qd (J=("list":Qc))&&A.bi "list" (.ty "list")&&Qd (d=("range":Qc))&&A.bi "range" (.ty "range")&&notStar Y&&x (.E D Y)
 |.jK=>(I0 c).any λD=>(l2 b).any λM=>(cH M.2).any λd=>Qd (J=("isinstance":Qc))&&A.bi "isinstance" (.fn "isinstance")&&Qd (d=("int":Qc))&&A.bi "int" (.ty "int")&&notStar M.1&&x (.E D M.1)
 |E=>(DG E).any λbv=>Qd (J=bv.1)&&A.bi J bv.2&&x (.Es c b)
noncomputable def Mb(r:LE->P9->P6)(f:V P9):LO->P6
 |.no=>f.isEmpty
 |.so D=>(l1 f).any (r D)
noncomputable def cE(x:Cx->It->P6)(A:Cx)(I:P9):LE->P6
 |.and L E=>(vBool I).any λM=>sR M.1&&x A (.E L M.2.1)&&x A (.E E (.BoolOp .And (M.2.2.1 :: M.2.2.2.1) M.2.2.2.2))
 |.or L E=>(vBool I).any λM=>!sR M.1&&x A (.E L M.2.1)&&x A (.E E (.BoolOp .Or (M.2.2.1 :: M.2.2.2.1) M.2.2.2.2))
 |.oO=>(lL I).any λX=>Qd (X=.none)
 |.uB E=>(lL I).any λX=>Qd (X=.bool E)
 |.int s=>(lL I).any λX=>Qd (X=.int s)
 |.str X=>(lL I).any λM=>Qd (M=.str (sx X))&&Qd (X<NS)
 |.bH l=>(lL I).any λX=>(JW X).any λE=>Qd (E.map V1=l)
 |.var v=>(cH I).any λJ=>A.var v J
 |.gf r=>(cH I).any λJ=>Qd (A.Hg J=S (.fn r))
 |.gc T=>(cH I).any λJ=>Qd (A.Hg J=S (.cls T))
 |.gi _ s=>(cH I).any λJ=>Qd (A.Hg J=S (.int s))
 |.attr D L=>(j' I).any λM=>Qd (M.2=sx L)&&fQ M.1&&x A (.E D M.1)
 |.call r c=>(kn I).any λM=>(j' M.1).isNone&&x A (.E r M.1)&&x A (.Es c M.2.1)
 |.bC E c=>(kn I).any λM=>(cH M.1).any λJ=>cB (x A) A c J M.2.1 E
 |.aU D H c=>(kn I).any λM=>(ub M.1).any λK=>Qd (K.2.1=sx H)&&fQ K.1&&(K.2.2.endLine==M.2.2.line)&&Qd (M.2.1.length<30)&&x A (.E D K.1)&&x A (.Es c M.2.1)
 |.sub L s=>(w9 I).any λM=>hZ M.2&&x A (.E L M.1)&&x A (.E s M.2)
 |.uC D h p=>(w9 I).any λM=>(Bs M.2).any λK=>x A (.E D M.1)&&x A (.O h K.1)&&x A (.O p K.2)
 |.pick e w s=>(w9 I).any λM=>(Br M.1).any λK=>hZ M.2&&decide e.Nodup&&Qd (e.length<=15)&&x A (.P e w K.1 K.2)&&x A (.E s M.2)
 |.tup j=>(mI I).any λb=>Qd (nC j<1000)&&x A (.Es j b)
 |.lst j=>(Hd I).any λb=>Qd (nC j<1000)&&x A (.Es j b)
 |.emp=>(Hd I).any λb=>b.isEmpty
 |.xE e w=>(Br I).any λK=>decide e.Nodup&&Qd (e.length<=15)&&x A (.P e w K.1 K.2)
 |.bin z L E=>(JR I).any λM=>Fs z M.2.1&&x A (.E L M.1)&&x A (.E E M.2.2)
 |.cmp z L E=>(He I).any λM=>Qd (M.2.1=lZ z)&&!(To (lZ z) M.2.2)&&x A (.E L M.1)&&x A (.E E M.2.2)
 |.not L=>(K0 I).any λM=>Qd (M.1=.Not)&&x A (.E L M.2)
 |.neg L=>(K0 I).any λM=>Qd (M.1=.USub)&&x A (.E L M.2)
 |.ite K L E=>(L9 I).any λM=>x A (.T K M.1)&&x A (.E L M.2.1)&&x A (.E E M.2.2)
 |.comp i m g a=>(vA I).any λM=>cC x A i m g a M.1 M.2.1 M.2.2.1 M.2.2.2.1 M.2.2.2.2.1 M.2.2.2.2.2
 |.vals D X=>(vA I).any λM=>cV A D X M.1 M.2.1 M.2.2.1 M.2.2.2.1 M.2.2.2.2.1 M.2.2.2.2.2
where
 cC (x:Cx->It->P6) (A:Cx) (i:LE) (m:V Z) (g:LE) (a:LO) (d K s:P9) (fs:V P9) (sc:Rc) (n:P5):P6:=
  (Qd (n=0)&&!(fo s)&&x A (.E g s)&&Qd ((lM K m).map (·.1)=m)&&!m.isEmpty&&Hh A sc (Bx A sc (lM K m)) m&&Hi (Bx A sc (lM K m)) sc (lM K m))&&
  x ⟨sc.names,P4,Bx A sc (lM K m)⟩ (.E i d)&&Mb (λD d=>x ⟨sc.names,P4,Bx A sc (lM K m)⟩ (.T D d)) fs a
 cV (A:Cx) (D:LE) (X:Z) (d K s:P9) (fs:V P9) (sc:Rc) (n:P5):P6:=
  (I4 D).any λU=>(w9 d).any λL=>(j' L.1).any λE=>(cH E.1).any λf=>(cH L.2).any λo=>(cH K).any λG=>(j' s).any λy=>(cH y.1).any λk=>
   (Qd (E.2=sx U.2)&&Qd (y.2=sx U.2)&&Qd (k=f)&&Qd (G=o)&&fs.isEmpty&&Qd (n=0))&&
   (Qd (U.2≠26)&&Qd (U.1≠X)&&Hh A sc (Bx A sc [(X,o)]) [X]&&A.var U.1 f)&&(Qd (sc.names.lookup f=S .free)&&Qd (sc.names.lookup o=S .local)&&dU o&&
   Qd ((Bx A sc [(X,o)])[U.1]? = S (S f))&&Qd ((Bx A sc [(X,o)])[X]? = S (S o)))
noncomputable def DY(x:Cx->It->P6)(A:Cx):It->P6
 |.Es j b=>OB (x A) j b
 |.O z I=>cO (x A) z I
 |.P e w b h=>cP (x A) e w b h
 |.T D I=>cT (x A) (CV I) D
 |.E D I=>cE x A (CV I) D
noncomputable def gW:Z->Cx->It->P6
 |0,_,_=>P8
 |q+1,A,K=>DY (gW q) A K
theorem SE.bH:SE h a e l c j f i (.bH (nj.map V1)) (.Constant (.bytes nj) H J):=λb x y d g p n t=>by exact Constant_bytes (.ok (.tok n.inv) (.bH _ _ _ rfl))
theorem uf(B:ly.contains (S r)=P4):∃v:Z,ly[v]? = S (S r):=by have:=Wv.mp B;exact VZ.mp this
theorem sT(B:(ly.filterMap λM=>M).Nodup):∀(s v:Z) I,ly[s]? = S (S I)->ly[v]? = S (S I)->s=v:=by
 induction ly with
 |nil=>intro s v I D;exact nX D
 |cons L ly k=>
  intro s v I T m
  have A:(ly.filterMap λM=>M).Nodup:=by
   induction L using U0 with
   |none=>exact B
   |some n=>exact(Vl.mp (show(n :: ly.filterMap λM=>M).Nodup from B)).2
  have h:∀{v:Z},L=S I->ly[v]? = S (S I)->QC:=λ{v} r D=>by subst r;exact(Vl.mp (show(I :: ly.filterMap λM=>M).Nodup from B)).1 (WX.mpr (ba (S I) (Va D) rfl))
  induction s using Vn with
  |zero=>
   induction v using Vn with
   |zero=>rfl
   |succ v=>simp at T m;exact(h T m).elim
  |succ s=>
   induction v using Vn with
   |zero=>simp at T m;exact(h m T).elim
   |succ v=>simp at T m;refine R (k A s v I T m) rfl
theorem K1(B:(i7||fe)=P4)(q:i7≠P4):fe=P4:=(VS.mp B).resolve_left q
theorem dN[RJ ni](B:¬ni):decide ni≠P4:=λY=>B (Qj Y)
theorem yr(z:iH E c)(B:Hh E gp du bz=P4):Fg gp c E.sl du bz:=
 Jp B λG p t b l X a=>by
  refine⟨λn H=>Qj (VD.mp G n H),Qj p,λI H D=>Qj (K1 (VD.mp t I H) (dN λY=>Y D)),λI H=>?_,λv I D=>?_,sT (Qj X),Qj a⟩
  ·refine an (K1 (VD.mp b _ H) (dN λY=>Y rfl)) λL q=>⟨?_,uf q⟩;rcases VS.mp L with D|D;·exact .inl (z I _ (Qj D))
   ·exact z I _ (Qj D)
  ·have H:(S I,v)∈du.zipIdx:=XT.mpr D;rcases VS.mp (VD.mp l _ H) with D|D;·exact bF D
   ·rcases VS.mp D with D|D;·exact an D λL q=>.inl ⟨Wv.mp L,Qj q⟩
    ·exact jO D λL q s=>.inr ⟨λY=>Vm ((nF L).symm.trans (Wv.mpr Y)),Cx.pG q,Qj s⟩
theorem pH(v:V (O Qc)):iH ⟨gp.names,P4,v⟩ (Qx gp dq ap c):=by
 intro I X B;refine lI B λn T m=>?_;induction n using Yf with
 |«local»=>exact sX m▸dY T
 |free=>exact sX m▸kind_free T
 |globalImplicit=>exact sX m▸zq T
 |_=>exact nX m
theorem DZ{l:V (Z×G)}(B:l.map (·.1)=bz)(q:bz.isEmpty=P8):l≠[]:=by rintro rfl;subst B;cases q
inductive Hk:P9->V Z->V (Z×Qc)->Prop
 |one {x:Qc} {j:Z} (p:Qv):Hk (.Name x p) [j] [(j,x)]
 |two {x y:Qc} {i j:Z} (p1 p2:Qv) (k:Z) (p:Qv):Hk (.Tuple [.Name x p1,.Name y p2] k p) [i,j] [(i,x),(j,y)]
 |no {x:P9} {ts:V Z}:Hk x ts []
theorem Hl(I:P9)(m:V Z):Hk I m (lM I m):=by
 unfold lM;induction T:cH I using U0 with
 |some J=>
  obtain⟨P,rfl⟩:=ot (bG I) T
  induction c:l1 m using U0 with
  |some v=>obtain rfl:=ot (tm m) c;exact .one P
  |none=>exact .no
 |none=>
  induction c:mI I using U0 with
  |none=>exact .no
  |some b=>
   obtain⟨M,rfl⟩:=ot (hS I) c
   show Hk _ _ (O.getD ((l2 b).bind _) [])
   induction l:l2 b using U0 with
   |none=>exact .no
   |some a=>
    obtain rfl:=ot (C7 b) l
    show Hk _ _ (O.getD ((cH a.1).bind _) [])
    induction o:cH a.1 using U0 with
    |none=>exact .no
    |some L=>
     obtain⟨C,X⟩:=ot (bG _) o
     induction U:cH a.2 using U0 with
     |none=>exact .no
     |some E=>
      obtain⟨d,H⟩:=ot (bG _) U
      induction K:l2 m using U0 with
      |none=>exact .no
      |some v=>obtain rfl:=ot (C7 m) K;refine R X (R H ?_);exact .two C d M.1 M.2
theorem D2(B:Hi du gp (lM gb bz)=P4)(D:(lM gb bz).map (·.1)=bz)(i:bz.isEmpty=P8):DC du gp bz gb:=by
 revert B D;have I:∀{l:V (Z×Qc)} {M:Z×Qc},Hi du gp l=P4->M∈l->du[M.1]? = S (S M.2)/\gp.names.lookup M.2=S .local:=λ{l M} B H=>
  an (VD.mp B _ H) λb d=>⟨Qj b,Qj d⟩
 generalize c:lM gb bz=l;have Y:=c▸Hl gb bz;clear c;induction Y using Hk.casesOn with
 |one P=>exact λB U=>let M:=I B (.head _);.one M.1 M.2
 |two C a X P=>exact λB U=>let M:=I B (.head _);let A:=I B (.tail _ (.head _));.two M.1 M.2 A.1 A.2
 |no=>exact λU D=>Qp rfl (DZ (l:=([]:V (Z×Qc))) D i)
noncomputable def Good(o:Qz)(k:Qr)(G:Qb)(l:V Qo)(P:Qo)(c:V (O Qc))(J:QB)(f:CF):It->Prop
 |.E D I=>SE o k G l P c J f D I
 |.T D I=>ST o k G l P c J f D I
 |.Es j b=>rQ o k G l P c J f j b
 |.O z I=>SO o k G l P c J f z I
 |.P e w b h=>wt o k G l P c J f e w b h
theorem BA(B:Fs je qp=P4):qp=Av je:=Qj B
theorem vB(B:sR pz=P4):pz=.And:=by induction pz using Rq.casesOn<;>first|rfl|cases B
theorem yt(B:(!sR pz)=P4):pz=.Or:=by induction pz using Rq.casesOn<;>first|rfl|cases B
variable{pg:It->P6}
theorem D3(w:∀{D I},pg (.E D I)=P4->SE h a e l c j f i D I)(o:∀{ah ij gr gj},pg (.P ah ij gr gj)=P4->wt h a e l c j f i ah ij gr gj)
  (B:cP pg ah ij gr gj=P4):wt h a e l c j f i ah ij gr gj:=by
 induction ah using U5 with
 |nil=>induction ij using fD.casesOn with
  |nil=>induction gr using U5 with
   |nil=>induction gj using U5 with
    |nil=>exact .nil
    |cons _ _=>exact bF B
   |cons _ _=>exact bF B
  |cons _ _=>exact bF B
 |cons X ah=>induction ij using fD.casesOn with
  |nil=>exact bF B
  |cons C ij=>induction gr using U5 with
   |nil=>exact bF B
   |cons I gr=>induction gj using U5 with
    |nil=>exact bF B
    |cons n gj=>induction I using U0 with
     |none=>exact bF B
     |some I=>exact Aq B λG p t L=>k1 (P:=λI=>wt h a e l c j f i _ _ (S I :: _) _) (iG I) p λM b B=>dE B▸(.cons (Qj G) (w t) (o L))
theorem D4{b:fD}(R:bA N q f l)(A:Gr v e P cv cx cw)(o:vY v)(z:iH E c)(w:∀{D I},pg (.E D I)=P4->SE h a e l c j f i D I)(T:∀{m bn},pg (.Es m bn)=P4->rQ h a e l c j f i m bn)
  (B:cB pg E b dg bn jq=P4):SE h a e l c j f i (.bC jq b) (.Call (.Name dg fu) bn [] J):=by
 have g:∀{jq},((DG jq).any λbv=>Qd (dg=bv.1)&&E.bi dg bv.2&&pg (.Es b bn))=P4->SE h a e l c j f i (.bC jq b) (.Call (.Name dg fu) bn [] J):=λB=>by exact aM (QR B) λbv r B=>jO B λG p t=>SE.bC (r.trans (Ql S (QU.ext (Qj G).symm rfl))) R A (Cx.qR z o p) (T t)
 induction jq using BI.casesOn with
 |hM=>
  exact k0 (P:=λb=>SE h a e l c j f i (.bC _ b) _) (Bz b) B λD B=>k0 (P:=λbn=>SE h a e l c j f i _ (.Call _ bn [] _)) (tm bn) B λn B=>k0 (P:=λn=>SE h a e l c j f i _ (.Call _ [n] [] _)) (fJ n) B λK B=>
   k1 (P:=λn=>SE h a e l c j f i _ (.Call _ [.Call n _ [] _] [] _)) (bG K.1) B λd P B=>k0 (P:=λn=>SE h a e l c j f i _ (.Call _ [.Call _ n [] _] [] _)) (tm K.2.1) B λY B=>
   C9 B λG p t L k X=>dE G▸(dE t▸(SE.hM R A (Cx.qR z o p) (Cx.qR z o L) (w X) k))
 |jK=>
  exact k0 (P:=λb=>SE h a e l c j f i (.bC _ b) _) (Bz b) B λD B=>k0 (P:=λbn=>SE h a e l c j f i _ (.Call _ bn [] _)) (C7 bn) B λM B=>k1 (P:=λn=>SE h a e l c j f i _ (.Call _ [_,n] [] _)) (bG M.2) B λd P B=>
   C9 B λG p t L k X=>dE G▸(dE t▸(SE.jK R A (Cx.qR z o p) (Cx.qR z o L) (w X) k))
 |_=>exact g B
theorem yu{prog:Qz}{w:Qr}{g₀:Qb}{l:V Qo}{A:QB}{cf:CF}{go:Cx->It->P6}(e:∀{D I},go E (.E D I)=P4->SE prog w g₀ l c E.sl A cf D I)
  (i:∀{gp v T U D I},go ⟨gp.names,P4,v⟩ (.E D I)=P4->SE prog w g₀ l (Qx gp T U c) v A cf D I) (b:∀{gp v T U D I},go ⟨gp.names,P4,v⟩ (.T D I)=P4->ST prog w g₀ l (Qx gp T U c) v A cf D I)
  (z:iH E c) (B:cE.cC go E gq bz oj g9 s gb q8 om gp j6=P4):Qd (j6=0)=P4/\SE prog w g₀ l c E.sl A cf oj q8/\fo q8=P8/\Fg gp c E.sl (Bx E gp (lM gb bz)) bz/\DC (Bx E gp (lM gb bz)) gp bz gb/\
   (∀T U,SE prog w g₀ l (Qx gp T U c) (Bx E gp (lM gb bz)) A cf gq s)/\∀T U,GL prog w g₀ l (Qx gp T U c) (Bx E gp (lM gb bz)) A cf g9 om:=
 jO B λB J d=>Jp B λG p t L f X a=>⟨G,e t,nF p,yr z X,D2 a (Qj L) (nF f),λT U=>i J,λT U=>by
  induction g9 using LO.casesOn with
  |no=>induction om using U5 with
   |nil=>exact .inl ⟨rfl,rfl⟩
   |cons _ _=>exact bF d
  |so D=>exact k0 (P:=λom=>GL prog w g₀ l _ _ A cf _ om) (tm om) d λs B=>.inr (uK _ _ rfl rfl (b B))⟩
theorem D5{n:P5}(A:Gr v e P cv cx cw)(R:bA N q f l)(z:iH E c)(B:cE.cV E ai H s gb q8 om gp n=P4):SE h a e l c E.sl f i (.vals ai H) (.ListComp s [⟨gb,q8,om,n⟩] gp J):=
 k0 (P:=λai=>SE h a e l c E.sl f i (.vals ai H) _) (Ft ai) B λU B=>k1 (P:=λs=>SE h a e l c E.sl f i _ (.ListComp s _ _ _)) (nQ s) B λL P B=>
 k1 (P:=λs=>SE h a e l c E.sl f i _ (.ListComp (.Subscript s _ _) _ _ _)) (hH L.1) B λM P B=>k1 (P:=λs=>SE h a e l c E.sl f i _ (.ListComp (.Subscript (.Attribute s _ _) _ _) _ _ _)) (bG M.1) B λY P B=>
 k1 (P:=λs=>SE h a e l c E.sl f i _ (.ListComp (.Subscript _ s _) _ _ _)) (bG L.2) B λo P B=>k1 (P:=λs=>SE h a e l c E.sl f i _ (.ListComp _ [⟨s,_,_,_⟩] _ _)) (bG gb) B λG P B=>
 k1 (P:=λs=>SE h a e l c E.sl f i _ (.ListComp _ [⟨_,s,_,_⟩] _ _)) (hH q8) B λK P B=>k1 (P:=λs=>SE h a e l c E.sl f i _ (.ListComp _ [⟨_,.Attribute s _ _,_,_⟩] _ _)) (bG K.1) B λa0 P B=>
 jO B λI w T=>C9 I λr t j x y g=>Aq w λb1 b2 b3 b4=>C8 T λd C p D k=>by refine hO (Cx.ud z b4) λb X m=>?_;obtain rfl:=Wt.mp y;exact dE r▸(dE t▸(dE j▸(dE x▸(dE g▸(SE.vals (Qj b1) A R (yr z b3) b X (Qj D) (Qj k) (Qj C) (Qj d) (Qj b2) (bQ m) (kM m) (bQ p))))))
set_option maxHeartbeats 4000000 in
theorem fX{prog:Qz}{w:Qr}{l:V Qo}{A:QB}{a8:Qz}(c1:Gr v e a8 cv cx cw)(o:vY v)(C:kU prog w e N i q)(R:bA N (q+1) A l):∀(H:Z) (a7:Cx) (a9:Qo) (K:It),iH a7 a9->gW H a7 K=P4->Good prog w e l a9 a7.sl A i K:=by
 have hu:A.units+64<QG:=Fc R.units rfl;have R0:=R.less (VK _);intro H;induction H with
 |zero=>exact λa7 a9 K z B=>bF B
 |succ H k=>
  intro a7 a9 K z B
  have iE:∀{D I},gW H a7 (.E D I)=P4->SE prog w e l a9 a7.sl A i D I:=λB=>k a7 a9 _ z B
  have iT:∀{D I},gW H a7 (.T D I)=P4->ST prog w e l a9 a7.sl A i D I:=λB=>k a7 a9 _ z B
  have iS:∀{j b},gW H a7 (.Es j b)=P4->rQ prog w e l a9 a7.sl A i j b:=λB=>k a7 a9 _ z B
  have a:∀{L I},gW H a7 (.O L I)=P4->SO prog w e l a9 a7.sl A i L I:=λB=>k a7 a9 _ z B
  have iP:∀{ks vs b h},gW H a7 (.P ks vs b h)=P4->wt prog w e l a9 a7.sl A i ks vs b h:=λB=>k a7 a9 _ z B
  induction K using It.casesOn with
  |Es j b=>
   induction j using fD.casesOn with
   |nil=>induction b using U5 with
    |nil=>exact .nil
    |cons _ _=>exact bF B
   |cons D j=>induction b using U5 with
    |nil=>exact bF B
    |cons I b=>exact jO B λG p t=>.cons (iE p) G (iS t)
  |O L I=>
   induction L using LO.casesOn with
   |no=>induction I using Option.casesOn with
    |none=>exact .no
    |some _=>exact bF B
   |so D=>induction I using Option.casesOn with
    |none=>exact bF B
    |some I=>exact .so (iE B)
  |P ks vs b h=>exact D3 iE iP B
  |T D I=>
   have B:cT (gW H a7) (CV I) D=P4:=B
   refine Fq (P:=λI=>ST prog w e l a9 a7.sl A i D I) ?_ λU U U=>ST.one
   generalize CV I=I at B
   have pl:∀{D:LE},(!(wo I)&&gW H a7 (.E D I))=P4->ST prog w e l a9 a7.sl A i D I:=λB=>an B λG p=>.plain (iE p) (tD (nF G))
   induction D using LE.casesOn with
   |and L b9=>exact k0 (pF I) B λM B=>jO B λG p t=>(vB G).symm▸ST.and (iT p) (iT t)
   |or L b9=>exact k0 (pF I) B λM B=>jO B λG p t=>(yt G).symm▸ST.or (iT p) (iT t)
   |not L=>exact k1 (Bv I) B λM a8 B=>an B λG p=>dE G▸(ST.not (iT p))
   |cmp f L b9=>exact k1 (Bu I) B λM a8 B=>Aq B λG p t h4=>dE G▸(ST.cmp hu c1.mods (iE t) (iE h4) (nF p))
   |ite K L b9=>exact k1 (Fp I) B λM a8 B=>jO B λG p t=>ST.ite (iT G) (iT p) (iT t)
   |_=>exact pl B
  |E D I=>
   have B:cE (gW H) a7 (CV I) D=P4:=B
   refine Fq (P:=λI=>SE prog w e l a9 a7.sl A i D I) ?_ λU U U=>SE.one
   generalize CV I=I at B
   induction D using LE.casesOn with
   |and L b9=>exact k0 (pF I) B λM B=>jO B λG p t=>(vB G).symm▸SE.and (iE p) (iE t)
   |or L b9=>exact k0 (pF I) B λM B=>jO B λG p t=>(yt G).symm▸SE.or (iE p) (iE t)
   |oO=>exact k1 (iG I) B λM a8 B=>dE B▸SE.oO
   |uB b9=>exact k1 (iG I) B λM a8 B=>dE B▸SE.uB
   |int s=>exact k1 (iG I) B λM a8 B=>dE B▸SE.int
   |str c2=>exact k1 (iG I) B λM a8 B=>an B λG p=>dE G▸(SE.str (Qj p))
   |bH b9=>exact k1 (iG I) B λM a8 B=>k0 (P:=λM=>SE prog w e l a9 a7.sl A i _ (.Constant M _ _)) (Hj M) B λb9 B=>Qj B▸SE.bH
   |var c2=>exact k1 (bG I) B λM a8 B=>by obtain⟨z1,d,m⟩:=Cx.ud z B;exact SE.name z1 d (bQ m) (kM m)
   |gf r=>exact k1 (bG I) B λM a8 B=>by obtain⟨z1,d,m⟩:=Cx.nR z o (Qj B);exact SE.gf c1 d.1 z1 (bQ m)
   |gc c4=>exact k1 (bG I) B λM a8 B=>by obtain⟨z1,d,m⟩:=Cx.nR z o (Qj B);exact SE.gc c1 d z1 (bQ m)
   |gi J s=>exact k1 (bG I) B λM a8 B=>by obtain⟨z1,⟨_,d⟩,m⟩:=Cx.nR z o (Qj B);exact SE.gi c1 d z1 (bQ m)
   |attr D L=>exact k1 (hH I) B λM a8 B=>jO B λG p t=>dE G▸(SE.attr c1 C R (iE t) p)
   |call r c=>exact k0 (fJ I) B λM B=>jO B λG p t=>SE.call c1 C R (iE p) (iS t) λf a' p' Y=>bF (((Ql (λI=>(j' I).isNone) Y).symm.trans G))
   |bC b9 c=>exact k0 (fJ I) B λM B=>k1 (P:=λn=>SE prog w e l a9 a7.sl A i _ (.Call n _ [] _)) (bG M.1) B λJ a8 B=>D4 R0 c1 o z iE iS B
   |aU D m' c=>exact k0 (fJ I) B λM B=>k0 (P:=λn=>SE prog w e l a9 a7.sl A i _ (.Call n _ [] _)) (qQ M.1) B λK B=>C9 B λG p t h4 h5 X=>dE G▸(SE.aU c1 C R (iE h5) (iS X) p t (Qj h4) λU Y U U U=>sC Y)
   |sub L s=>exact k1 (nQ I) B λM a8 B=>jO B λG p t=>SE.sub hu (iE p) (iE t) G
   |uC D c5 c7=>exact k1 (nQ I) B λM a8 B=>k1 (P:=λn=>SE prog w e l a9 a7.sl A i _ (.Subscript _ n _)) (Bw M.2) B λK a8 B=>jO B λG p t=>SE.uC (iE G) (a p) (a t)
   |pick ks vs s=>exact k1 (nQ I) B λM a8 B=>k1 (P:=λn=>SE prog w e l a9 a7.sl A i _ (.Subscript n _ _)) (yq M.1) B λK a8 B=>C8 B λG p t h4 h5=>SE.pick hu (iP h4) (Qj p) (Qj t) (iE h5) G
   |tup j=>exact k1 (hS I) B λM a8 B=>an B λG p=>SE.tup (iS p) (Qj G)
   |lst j=>exact k1 (Bt I) B λM a8 B=>an B λG p=>SE.lst (iS p) (Qj G)
   |emp=>
    refine k1 (Bt I) B λM a8 B=>?_
    induction M using U5 with
    |nil=>exact SE.emp
    |cons _ _=>exact bF B
   |xE ks vs=>exact k1 (yq I) B λM a8 B=>jO B λG p t=>SE.xE (Ve (Vu _ _) hu) (iP t) (Qj G) (Qj p)
   |bin f L b9=>exact k1 (Hf I) B λM a8 B=>jO B λG p t=>SE.bin (iE p) (iE t) (BA G)
   |cmp f L b9=>exact k1 (Bu I) B λM a8 B=>Aq B λG p t h4=>dE G▸(SE.cmp hu c1.mods (iE t) (iE h4) (nF p))
   |not L=>exact k1 (Bv I) B λM a8 B=>an B λG p=>dE G▸(SE.not (iE p))
   |neg L=>exact k1 (Bv I) B λM a8 B=>an B λG p=>dE G▸(SE.neg (iE p))
   |ite K L b9=>exact k1 (Fp I) B λM a8 B=>jO B λG p t=>SE.ite (iT G) (iE p) (iE t)
   |comp c6 ts it c3=>exact k1 (uc I) B λM a8 B=>by obtain⟨a0,a1,a2,a3,x,y,g⟩:=yu iE (λB=>k _ _ _ (pH _) B) (λB=>k _ _ _ (pH _) B) z B;exact dE a0▸(SE.comp R0 a1 a2 a3 x y g)
   |vals D k'=>exact k1 (uc I) B λM a8 B=>D5 c1 R0 z B
noncomputable def qS(I:Qn):O (P9×P9):=vw WN 5 I λB=>Qn.Assign.elim I B λm n P=>(l1 m).map λK=>(K,n)
noncomputable def nS(I:Qn):O P9:=vw WN 24 I λB=>Qn.Expr.elim I B λn P=>S n
noncomputable def Mc(I:Qn):O (P9×V Qn×V Qn):=vw WN 12 I λB=>Qn.If.elim I B λn L E P=>S (n,L,E)
noncomputable def D6(I:Qn):O (P9×P9×V Qn):=vw WN 9 I λB=>Qn.For.elim I B λK n E D P=>bif D.isEmpty then S (K,n,E) else N
noncomputable def JX(I:Qn):O (P9×V Qn):=vw WN 11 I λB=>Qn.While.elim I B λn E D P=>bif D.isEmpty then S (n,E) else N
noncomputable def Hm(I:Qn):O P9:=vw WN 3 I λB=>Qn.Return.elim I B λn P=>n
noncomputable def Fu(I:Qn):O P9:=vw WN 16 I λB=>Qn.Raise.elim I B λn Y P=>bif Y.isNone then n else N
noncomputable def BB(I:ExceptHandler):O (P9×Qc×P9):=match I with
 |.ExceptHandler (S K) (S I) E _=>((l1 E).bind nS).map λY=>(K,I,Y)
 |_=>N
noncomputable def JY(I:Qn):O (P9×P9×Qc×P9):=vw WN 17 I λB=>Qn.Try.elim I B λE B D r P=>bif D.isEmpty&&r.isEmpty then((l1 E).bind nS).bind λn=>((l1 B).bind BB).map λM=>(n,M) else N
theorem hT(I:Qn):aZ (qS I) λL=>∃P,I=.Assign [L.1] L.2 P:=ek λB=>Qn.Assign.elim (motive_2:=λI=>∀B,aZ (Qn.Assign.elim (motive_2:=λ_=>O (P9×P9)) I B λm n P=>(l1 m).map λK=>(K,n)) λL=>∃P,I=.Assign [L.1] L.2 P) I B (λm n P _=>by rcases m with _|⟨K,_|⟨Y,x⟩⟩<;>first|exact Vo|exact⟨_,rfl⟩) B
theorem xa(I:Qn):aZ (nS I) λL=>∃P,I=.Expr L P:=ek λB=>Qn.Expr.elim (motive_2:=λI=>∀B,aZ (Qn.Expr.elim (motive_2:=λ_=>O P9) I B λn P=>S n) λL=>∃P,I=.Expr L P) I B (λn P _=>⟨_,rfl⟩) B
theorem Fv(I:Qn):aZ (Mc I) λL=>∃P,I=.If L.1 L.2.1 L.2.2 P:=ek λB=>Qn.If.elim (motive_2:=λI=>∀B,aZ (Qn.If.elim (motive_2:=λ_=>O (P9×V Qn×V Qn)) I B λn L E P=>S (n,L,E)) λL=>∃P,I=.If L.1 L.2.1 L.2.2 P) I B (λn L E P _=>⟨_,rfl⟩) B
theorem xb(I:Qn):aZ (D6 I) λL=>∃P,I=.For L.1 L.2.1 L.2.2 [] P:=ek λB=>Qn.For.elim (motive_2:=λI=>∀B,aZ (Qn.For.elim (motive_2:=λ_=>O (P9×P9×V Qn)) I B λK n E D P=>bif D.isEmpty then S (K,n,E) else N) λL=>∃P,I=.For L.1 L.2.1 L.2.2 [] P) I B (λK n E D P _=>by
  induction D using U5 with
  |nil=>exact⟨_,rfl⟩
  |cons _ _=>exact Vo) B
theorem Hn(I:Qn):aZ (JX I) λL=>∃P,I=.While L.1 L.2 [] P:=ek λB=>Qn.While.elim (motive_2:=λI=>∀B,aZ (Qn.While.elim (motive_2:=λ_=>O (P9×V Qn)) I B λn E D P=>bif D.isEmpty then S (n,E) else N) λL=>∃P,I=.While L.1 L.2 [] P) I B (λn E D P _=>by
  induction D using U5 with
  |nil=>exact⟨_,rfl⟩
  |cons _ _=>exact Vo) B
theorem BC(I:Qn):aZ (Hm I) λL=>∃P,I=.Return (S L) P:=ek λB=>Qn.Return.elim (motive_2:=λI=>∀B,aZ (Qn.Return.elim (motive_2:=λ_=>O P9) I B λn P=>n) λL=>∃P,I=.Return (S L) P) I B (λn P _=>by
  induction n using U0 with
  |some n=>exact⟨_,rfl⟩
  |none=>exact Vo) B
theorem D7(I:Qn):aZ (Fu I) λL=>∃P,I=.Raise (S L) N P:=ek λB=>Qn.Raise.elim (motive_2:=λI=>∀B,aZ (Qn.Raise.elim (motive_2:=λ_=>O P9) I B λn Y P=>bif Y.isNone then n else N) λL=>∃P,I=.Raise (S L) N P) I B (λn Y P _=>by
  induction Y using U0 with
  |none=>induction n using U0 with
   |some n=>exact⟨_,rfl⟩
   |none=>exact Vo
  |some _=>exact Vo) B
theorem yv(E:V Qn):aZ ((l1 E).bind nS) λn=>∃P,E=[.Expr n P]:=by
 rcases E with _|⟨d,_|⟨o,x⟩⟩;·exact Vo
 ·show aZ (nS d) _
  have B:=xa d
  revert B
  cases nS d with
  |none=>exact λU=>Vo
  |some n=>exact λ⟨P,D⟩=>⟨P,D▸rfl⟩
 ·exact Vo
theorem D8(E:V ExceptHandler):aZ ((l1 E).bind BB) λM=>∃P:Qv×Qv,E=[.ExceptHandler (S M.1) (S M.2.1) [.Expr M.2.2 P.1] P.2]:=by
 rcases E with _|⟨d,_|⟨o,x⟩⟩;·exact Vo
 ·obtain⟨K,I,E,P⟩:=d
  induction K using U0 with
  |none=>exact Vo
  |some K=>induction I using U0 with
   |none=>exact Vo
   |some I=>
    show aZ (((l1 E).bind nS).map _) _
    have B:=yv E
    revert B
    cases(l1 E).bind nS with
    |none=>exact λU=>Vo
    |some n=>exact λ⟨a,D⟩=>⟨(a,P),D▸rfl⟩
 ·exact Vo
theorem Ho(I:Qn):aZ (JY I) λL=>∃P:Qv×Qv×Qv×Qv,I=.Try [.Expr L.1 P.1] [.ExceptHandler (S L.2.1) (S L.2.2.1) [.Expr L.2.2.2 P.2.1] P.2.2.1] [] [] P.2.2.2:=ek λB=>Qn.Try.elim (motive_2:=λI=>∀B,aZ (Qn.Try.elim (motive_2:=λ_=>O (P9×P9×Qc×P9)) I B λE B D r P=>bif D.isEmpty&&r.isEmpty then((l1 E).bind nS).bind λn=>((l1 B).bind BB).map λM=>(n,M) else N) λL=>∃P:Qv×Qv×Qv×Qv,I=.Try [.Expr L.1 P.1] [.ExceptHandler (S L.2.1) (S L.2.2.1) [.Expr L.2.2.2 P.2.1] P.2.2.1] [] [] P.2.2.2) I B (λE B D r P _=>by
  induction D using U5 with
  |cons _ _=>exact Vo
  |nil=>induction r using U5 with
   |cons _ _=>exact Vo
   |nil=>
    show aZ (((l1 E).bind nS).bind λn=>((l1 B).bind BB).map λM=>(n,M)) _
    have G:=yv E
    have p:=D8 B
    revert G p
    cases(l1 E).bind nS with
    |none=>exact λU U=>Vo
    |some n=>cases(l1 B).bind BB with
     |none=>exact λU U=>Vo
     |some M=>exact λ⟨C,T⟩ ⟨a,m⟩=>⟨(C,a.1,a.2,P),T▸m▸rfl⟩) B
inductive Hp|S(st:LS)(x:Qn)|Ss(st:jL)(xs:V Qn)|U(os is:fD)(ts:V P9)
noncomputable def xc(A:Cx):V Z->V P9->O (V Qc)
 |[],m=>if m.isEmpty then S [] else N
 |v :: r,m=>m.head?.bind λK=>(cH K).bind λI=>if A.dst v I then(xc A r m.tail).map (I :: ·) else N
noncomputable def xe(A:Cx)(J:Qc):P6:=Qd (A.Hg J=S (.cls .bZ))
noncomputable def JZ(b:V (Qc×QI))(I:Qc)(K n:P9)(a:Rc):P6:=Qd (b.lookup I=S .local)&&K.pos.line==n.pos.line&&!(a.names.any λM=>M.1==I&&(M.2==.local||M.2==.cell))
set_option tactic.hygienic true in
noncomputable def J0(D:LE):O (Z×Z×Z×Z):=by
 cases D;case aU z H c=>exact(w' z).bind λs=>((I0 c).bind I4).map λM=>(s,H,M)
 all_goals exact N
theorem Hq(D:LE):aZ (J0 D) λM=>D=.aU (.var M.1) M.2.1 (.cons (.attr (.var M.2.2.1) M.2.2.2) .nil):=by
 induction D using LE.casesOn with
 |aU z H c=>
  show aZ ((w' z).bind λs=>((I0 c).bind I4).map λM=>(s,H,M)) _
  have G:=By z
  have p:=Bz c
  revert G p
  cases w' z with
  |none=>exact λU U=>Vo
  |some s=>cases I0 c with
   |none=>exact λU U=>Vo
   |some L=>
    show _->_->aZ ((I4 L).map _) _
    have t:=Ft L
    revert t
    cases I4 L with
    |none=>exact λU U U=>Vo
    |some M=>exact λT m l=>by refine R (show z=_ from m) ?_;refine R (show c=_ from l) ?_;exact R (show L=_ from T) rfl
 |_=>exact Vo
noncomputable def Nf(A:Cx)(c:LE)(Y:P9):P6:=(J0 c).any λv=>(kn Y).any λM=>(ub M.1).any λK=>(cH K.1).any λL=>(l1 M.2.1).any λn=>(j' n).any λi=>(cH i.1).any λE=>
 Qd (K.2.1=sx v.2.1)&&(K.2.2.endLine==M.2.2.line)&&A.var v.1 L&&Qd (i.2=sx v.2.2.2)&&A.var v.2.2.1 E
set_option tactic.hygienic true in
noncomputable def isAny(d:LS):P6:=by cases d;(case any=>exact P4);all_goals exact P8
noncomputable def Hr(D:LE):O (LE×V Z×LE×LO):=by induction D using LE.casesOn with|comp L E A y=>exact S (L,E,A,y)|_=>exact N
theorem Hs(D:LE):aZ (Hr D) λM=>D=.comp M.1 M.2.1 M.2.2.1 M.2.2.2:=by induction D using LE.casesOn<;>first|exact Vo|rfl
theorem D9(d:LS)(B:isAny d=P4):d=.any:=by induction d using LS.casesOn<;>first|rfl|exact bF B
noncomputable def sS(y:Z)(x:Hp->P6)(A:Cx)(I:Qn):LS->P6
 |.asg v D=>(qS I).any λM=>(cH M.1).any λJ=>A.dst v J&&gW y A (.E D M.2)&&(!(nJ M.2)||((Hr D).any λU=>(vA M.2).any λK=>JZ A.names J M.1 M.2 K.2.2.2.2.1))
 |.fU D L C=>(qS I).any λM=>(j' M.1).any λK=>Qd (K.2=sx L)&&gW y A (.E C M.2)&&gW y A (.E D K.1)
 |.fE z s C=>(qS I).any λM=>(w9 M.1).any λK=>gW y A (.E C M.2)&&gW y A (.E z K.1)&&gW y A (.E s K.2)
 |.uI r D=>(qS I).any λM=>(mI M.1).any λm=>(xc A r m).any λU=>(mI M.2).isNone&&gW y A (.E D M.2)
 |.iL r j=>(qS I).any λM=>(mI M.1).any λm=>(xc A r m).any λb=>(mI M.2).any λh=>gW y A (.Es j h)&&(Qd (nC j<1000)&&(JD (λn=>A.names.lookup n) m h).any λk=>k.isNone||(Qd (k=S b)&&decide b.Nodup&&Qd (r.length=2\/r.length=3)))
 |.oP e i w=>(qS I).any λM=>(mI M.1).any λm=>(mI M.2).any λh=>gW y A (.Es w h)&&x (.U e i m)&&Qd (nC w<1000)&&Qd (nC w=m.length)&&Qd (0<m.length)
 |.exp D=>(nS I).any λn=>!(nJ n)&&gW y A (.E D n)
 |.ifs K L E=>(Mc I).any λM=>gW y A (.T K M.1)&&x (.Ss L M.2.1)&&x (.Ss E M.2.2)
 |.dZ v D E=>(D6 I).any λM=>(cH M.1).any λJ=>A.dst v J&&!(fo M.2.1)&&gW y A (.E D M.2.1)&&x (.Ss E M.2.2)
 |.lG q B D E=>(D6 I).any λM=>(mI M.1).any λm=>(xc A [q,B] m).any λU=>(kn M.2.1).any λK=>(cH K.1).any λJ=>(l1 K.2.1).any λY=>Qd (J=("enumerate":Qc))&&A.bi "enumerate" (.ty "enumerate")&&notStar Y&&gW y A (.E D Y)&&x (.Ss E M.2.2)
 |.CO K E=>(JX I).any λM=>gW y A (.T K M.1)&&x (.Ss E M.2)
 |.ret D=>(Hm I).any λn=>gW y A (.E D n)
 |.gy D=>(Fu I).any λn=>(kn n).any λM=>(cH M.1).any λJ=>(l1 M.2.1).any λY=>xe A J&&notStar Y&&gW y A (.E D Y)
 |.oQ D v c=>(JY I).any λM=>(cH M.2.1).any λJ=>xe A J&&A.slot v M.2.2.1&&Qd (A.names.lookup M.2.2.1=S .local)&&!(nJ M.1)&&!(nJ M.2.2.2)&&gW y A (.E D M.1)&&Nf A c M.2.2.2
 |.any=>P4
noncomputable def Ht(y:Z)(x:Hp->P6)(A:Cx):Hp->P6
 |.Ss n b=>match n with
  |.nil=>b.isEmpty
  |.cons d E=>isAny d||(match b with
   |[]=>P8
   |I :: b=>x (.S d I)&&x (.Ss E b))
 |.U e i m=>match e with
  |.nil=>(match i with|.nil=>m.isEmpty|_=>P8)
  |.cons z e=>(match i with
   |.nil=>P8
   |.cons s i=>(match m with
    |[]=>P8
    |K :: m=>(w9 K).any λM=>gW y A (.E z M.1)&&gW y A (.E s M.2)&&x (.U e i m)))
 |.S n I=>sS y x A I n
noncomputable def xg(y:Z):Z->Cx->Hp->P6
 |0,_,_=>P8
 |q+1,A,K=>Ht y (xg y q A) A K
noncomputable def Good2(o:Qz)(k:Qr)(G:Qb)(h:V Qo)(P:Qo)(c:V (O Qc))(J:QB)(f:CF):Hp->Prop
 |.S n I=>SS o k G h P c J f n I
 |.Ss n b=>ve o k G h P c J f n b
 |.U e i m=>zm o k G (P :: h) P c J f e i m
theorem mJ(z:iH E c):∀{m:V P9} {b:V Qc},xc E cq m=S b->wz E.sl c cq m b:=by
 induction cq with
 |nil=>intro m b B;induction m using U5 with
  |nil=>exact sX B▸.nil
  |cons _ _=>exact nX B
 |cons v cq k=>intro m b B;induction m using U5 with
  |nil=>exact nX B
  |cons K m=>
   have B:((cH K).bind λI=>if E.dst v I then(xc E cq m).map (I :: ·) else N)=S b:=B
   refine aM (V3.mp B) λI D B=>?_
   obtain⟨q,rfl⟩:=ot (bG K) D
   by_cases a:E.dst v I=P4
   ·refine aM (VA.mp ((Qk a).symm.trans B)) λh D cQ=>?_;subst cQ;exact bT (Cx.ue z a) λe d=>.cons e d (k D)
   ·exact nX ((Qm a).symm.trans B)
theorem sU(z:iH E c)(o:vY v)(B:xe E dg=P4):QZ v QO dg=S (S (.ref (CA .bZ)))/\c.kindOf dg=S .globalImplicit/\(dg==("__debug__":Qc))=P8:=hO (Cx.nR z o (Qj B)) λb d m=>⟨d,b,bQ m⟩
theorem Hu(A:Gr v e P cv cx cw)(R:bA N (q+1) f l)(z:iH E c)(B:Nf E my i5=P4)(r:Qa):SE h a e l c E.sl (f.mark (S (.ref r))) (λU U U=>Res.bad) my i5:=
 have C:=GZ rfl
 k0 (P:=λmy=>SE h a e l c E.sl _ _ my i5) (Hq my) B λj B=>k0 (fJ i5) B λM B=>k0 (P:=λn=>SE h a e l c E.sl _ _ _ (.Call n _ [] _)) (qQ M.1) B λK B=>
 k1 (P:=λn=>SE h a e l c E.sl _ _ _ (.Call (.Attribute n _ _) _ [] _)) (bG K.1) B λo P B=>k0 (P:=λn=>SE h a e l c E.sl _ _ _ (.Call _ n [] _)) (tm M.2.1) B λn B=>
 k1 (P:=λn=>SE h a e l c E.sl _ _ _ (.Call _ [n] [] _)) (hH n) B λi P B=>k1 (P:=λn=>SE h a e l c E.sl _ _ _ (.Call _ [.Attribute n _ _] [] _)) (bG i.1) B λk P B=>C8 B λG p t L g=>by refine hO (Cx.ud z t) λb d m=>hO (Cx.ud z g) λs Y D=>?_;exact dE G▸(dE L▸SE.aU A C R.marked (SE.name b d (bQ m) (kM m)) (.cons (SE.attr A C R.marked (SE.name s Y (bQ D) (kM D)) rfl) rfl .nil) rfl p (by show 1<30;decide) λU i5 U U U=>sC i5)
theorem Hv(K:c.scope.names=E.names)(B:JZ E.names r gb s gp=P4):c.kindOf r=S .local:=jO B λG U U=>show c.scope.names.lookup r=_ from K▸Qj G
theorem D'{t:P9}{a:V Comprehension}{l:Z}(J:c.scope.kind=.function)(K:c.scope.names=E.names)(D:s=.ListComp p9 a gp re)(B:JZ E.names dg (.Name dg fu) s gp=P4):Q5 s (S (.Name dg fu)) l c=pure P4:=by
 subst D
 unfold JZ at B
 simp only[Ws,RV] at B
 refine bT B λeA b=>?_
 obtain⟨G,p⟩:=eA
 have w:c.blockKind=.function:=by unfold Qo.blockKind;exact R J rfl
 have L:c.kindOf dg=S .local:=by show c.scope.names.lookup dg=_;exact R K G
 show pure (c.blockKind==.function&&c.kindOf dg==S .local&&fu.line==re.line&&!(gp.names.any λ(d,X)=>d==dg&&(X==.local||X==.cell)))=_
 refine R w (R L ?_)
 congr 1
 exact R (Ws ..) ⟨p,b⟩
theorem mK(K:c.scope.names=E.names)(s:E.comp=P8):iH E c:=λI X B=>Cx.JV (show c.scope.names.lookup I=_ from K▸rfl) B
theorem vC(J:c.scope.kind=.function):So c=P8:=by unfold So;exact R J rfl
theorem Ea(A:Gr v e P cv cx cw)(D:vY v)(w:kU h a e N i q)(R:bA N (q+1) f (c :: o))(G:bA N q f (c :: o))(z:iH E c)(I:c.scope.kind=.function)(d:c.scope.names=E.names)
  (b:E.sl[K]? = S (S dg)) (B:gW (ng+1) E (.E ai s)=P4) (p:((Hr ai).any λU=>(vA s).any λn=>JZ E.names dg (.Name dg fu) s n.2.2.2.2.1)=P4):SS h a e o c E.sl f i (.asg K ai) (.Assign [.Name dg fu] s J):=by refine aM (QR p) λM T t=>?_;clear p;obtain rfl:=ot (Hs ai) T;refine aM (QR t) λn m L=>?_;clear T t;obtain⟨X,rfl⟩:=ot (uc s) m;have k:=fX (A:=f) (l:=c :: o) (prog:=h) (w:=a) A D w R ng;exact Oc (yu (go:=gW ng) (l:=c :: o) (A:=f) (cf:=i) (prog:=h) (w:=a) (g₀:=e) (λB=>k E c _ z B) (λB=>k _ _ _ (pH _) B) (λB=>k _ _ _ (pH _) B) z B) λC r H j x y g=>dE C▸SS.L2 G r H j x y g b (Hv d L) (dE C▸D' (t:=.Name dg fu) I d rfl L)
set_option maxHeartbeats 4000000 in
theorem yw{a0:Qo}{c:Cx}(A:Gr v e P cv cx cw)(a1:vY v)(a3:nP h a e v)(C:kU h a e N i q)(R:bA N (q+1) f (a0 :: o))(J:a0.scope.kind=.function)(hn:a0.scope.names=c.names)(hc:c.comp=P8)(y:Z) :
  ∀(H:Z) (K:Hp),xg (y+1) H c K=P4->Good2 h a e o a0 c.sl f i K:=by
 have hu:f.units+64<QG:=Fc R.units rfl;have R0:=R.less (VK _);have z:=mK hn hc;have g:=vC J;have w:∀{D I},gW (y+1) c (.E D I)=P4->SE h a e (a0 :: o) a0 c.sl f i D I:=λB=>fX A a1 C R _ c a0 _ z B;have iT:∀{D I},gW (y+1) c (.T D I)=P4->ST h a e (a0 :: o) a0 c.sl f i D I:=λB=>fX A a1 C R _ c a0 _ z B;have T:∀{j b},gW (y+1) c (.Es j b)=P4->rQ h a e (a0 :: o) a0 c.sl f i j b:=λB=>fX A a1 C R _ c a0 _ z B;intro H;induction H with
 |zero=>exact λK B=>bF B
 |succ H k=>
  intro K B
  have jS:∀{n b},xg (y+1) H c (.Ss n b)=P4->ve h a e o a0 c.sl f i n b:=λB=>k _ B
  have jU:∀{os is m},xg (y+1) H c (.U os is m)=P4->zm h a e (a0 :: o) a0 c.sl f i os is m:=λB=>k _ B
  have j1:∀{d I},xg (y+1) H c (.S d I)=P4->SS h a e o a0 c.sl f i d I:=λB=>k _ B
  have B:=B
  induction K using Hp.casesOn with
  |Ss n b=>
   induction n using jL.casesOn with
   |nil=>induction b using U5 with
    |nil=>exact ve.nil
    |cons _ _=>exact bF B
   |cons d ss=>
    rcases VS.mp B with G|G;·obtain rfl:=D9 d G;exact λa8 x a5 d a7 eo n nb=>bX nb
    ·induction b using U5 with
     |nil=>exact bF G
     |cons I b=>exact an G λp t=>.cons (j1 p) (jS t)
  |U os is m=>
   induction os using fD.casesOn with
   |nil=>induction is using fD.casesOn with
    |nil=>induction m using U5 with
     |nil=>exact zm.nil
     |cons _ _=>exact bF B
    |cons _ _=>exact bF B
   |cons o' os=>induction is using fD.casesOn with
    |nil=>exact bF B
    |cons s is=>induction m using U5 with
     |nil=>exact bF B
     |cons K m=>exact k1 (P:=λK=>zm h a e (a0 :: o) a0 c.sl f i _ _ (K :: _)) (nQ K) B λM P B=>jO B λG p t=>zm.cons (w G) (w p) (jU t)
  |S n I=>
   have B:=B
   show SS h a e o a0 c.sl f i n I
   induction n using LS.casesOn with
   |asg a4 D=>
    refine k1 (hT I) B λM P B=>?_;obtain⟨K,a2⟩:=M;refine aM (QR B) λnm e1 B=>?_;obtain⟨np,rfl⟩:=ot (bG K) e1;refine jO B λG p t=>bT (Cx.ue z G) λz1 z2=>?_;rcases VS.mp t with X|X;·exact SS.asg R (w p) z1 z2 (fR (nF X) _ _ _)
    ·exact Ea A a1 C R R0 z J hn z1 p X
   |fU D a6 a9=>exact k1 (hT I) B λM P B=>k1 (P:=λK=>SS h a e o a0 c.sl f i _ (.Assign [K] _ _)) (hH M.1) B λK P B=>jO B λG p t=>dE G▸SS.fU A R (w p) (w t)
   |fE o' s a9=>exact k1 (hT I) B λM P B=>k1 (P:=λK=>SS h a e o a0 c.sl f i _ (.Assign [K] _ _)) (nQ M.1) B λK P B=>jO B λG p t=>SS.fE hu R (w G) (w p) (w t)
   |uI r D=>exact k1 (hT I) B λM P B=>k1 (P:=λK=>SS h a e o a0 c.sl f i _ (.Assign [K] _ _)) (hS M.1) B λm P B=>aM (QR B) λb e3 B=>an B λG p=>SS.uI (R:=R0) (w p) (mJ z e3) (Ou λvs k' b9 Y=>bF ((Ql (λI=>(mI I).isNone) Y).symm.trans G))
   |iL r j=>
    refine SS.iL (k1 (P:=λI=>SS h a e o a0 c.sl f i _ I) (hT I) B λM P B=>k1 (P:=λK=>SS h a e o a0 c.sl f i _ (.Assign [K] _ _)) (hS M.1) B λm P B=>?_);refine aM (QR B) λb e4 B=>k1 (P:=λK=>SS h a e o a0 c.sl f i _ (.Assign _ K _)) (hS M.2) B λys P B=>an B λG B=>an B λp t=>aM (QR t) λsw e5 t=>?_;replace e5:=(show(λa2=>c.names.lookup a2)=a0.kindOf from hn▸rfl)▸e5;rcases VS.mp t with t|t;·exact SS.uI (R:=R0) (SE.tup (T G) (Qj p)) (mJ z e4) (tP J (e5.trans (Ql some (Xi.mp t))))
    ·exact jO t λL l X=>SS.L1 (R:=R0) (SE.tup (T G) (Qj p)) (mJ z e4) (Qj l) (Qj X) (tP J (e5.trans (Ql some (Qj L))))
   |oP os is vs=>
    exact k1 (hT I) B λM P B=>k1 (P:=λK=>SS h a e o a0 c.sl f i _ (.Assign [K] _ _)) (hS M.1) B λm P B=>k1 (P:=λK=>SS h a e o a0 c.sl f i _ (.Assign _ K _)) (hS M.2) B λys P B=>
     C8 B λG p t L l=>SS.oP hu R0 (T G) (jU p) (Qj t) (Qj L) (Qj l)
   |exp D=>exact k1 (xa I) B λM P B=>an B λG p=>SS.exp R (w p) g (fR (nF G) _ _ _)
   |ifs K a6 E=>exact k1 (Fv I) B λM P B=>jO B λG p t=>SS.ifs R (iT G) (jS p) (jS t)
   |dZ a4 D E=>exact k1 (xb I) B λM P B=>k1 (P:=λK=>SS h a e o a0 c.sl f i _ (.For K _ _ _ _)) (bG M.1) B λnm np B=>Aq B λG p t L=>by exact bT (Cx.ue z G) λz1 z2=>SS.dZ R0 (w t) z1 z2 (jS L) (nF p)
   |lG j1 j2 D E=>
    refine k1 (xb I) B λM P B=>k1 (P:=λK=>SS h a e o a0 c.sl f i _ (.For K _ _ _ _)) (hS M.1) B λm P B=>aM (QR B) λb e3 B=>?_
    refine k0 (P:=λK=>SS h a e o a0 c.sl f i _ (.For _ K _ _ _)) (fJ M.2.1) B λK B=>k1 (P:=λK=>SS h a e o a0 c.sl f i _ (.For _ (.Call K _ _ _) _ _ _)) (bG K.1) B λnm np B=>
     k0 (P:=λK=>SS h a e o a0 c.sl f i _ (.For _ (.Call _ K _ _) _ _ _)) (tm K.2.1) B λY B=>C8 B λG p t L l=>dE G▸?_
    cases mJ z e3 with
    |cons b1 b2 nn=>cases nn with
     |cons b3 b4 nn=>cases nn with
      |nil=>exact SS.lG A (Cx.qR z a1 p) R0 (w L) t b1 b2 b3 b4 (jS l)
   |CO K E=>exact k1 (Hn I) B λM P B=>an B λG p=>SS.CO R (iT G) (jS p)
   |ret D=>exact k1 (BC I) B λM P B=>SS.ret R (w B)
   |gy D=>
    exact k1 (D7 I) B λa2 P B=>k0 (P:=λK=>SS h a e o a0 c.sl f i _ (.Raise (some K) _ _)) (fJ a2) B λM B=>k1 (P:=λK=>SS h a e o a0 c.sl f i _ (.Raise (some (.Call K _ _ _)) _ _)) (bG M.1) B λnm np B=>
     k0 (P:=λK=>SS h a e o a0 c.sl f i _ (.Raise (some (.Call _ K _ _)) _ _)) (tm M.2.1) B λY B=>jO B λG p t=>by exact hO (sU z a1 G) λb1 b2 b3=>SS.gy A a3 R b1 b2 b3 p (w t)
   |oQ D a4 hl=>exact k1 (Ho I) B λM P B=>k1 (P:=λK=>SS h a e o a0 c.sl f i _ (.Try _ [.ExceptHandler (some K) _ _ _] _ _ _)) (bG M.2.1) B λnm np B=>Jp B λG p t L l X h7=>by exact hO (sU z a1 G) λb1 b2 b3=>SS.oQ A a3 R0 (w X) (Hu A R z h7) (Cx.pG p) (show a0.scope.names.lookup _=_ from hn▸Qj t) b1 b2 b3 g (fR (nF L) _ _ _) (fR (nF l) _ _ _)
   |any=>exact λa8 x a5 d a7 eo n nb=>bX nb
noncomputable def J1(H:Q1):P6:=H.params.posonlyargs.isEmpty&&H.params.kwonlyargs.isEmpty&&H.params.vararg.isNone&&H.params.kwarg.isNone&&Qd (H.params.args.map (·.arg)).Nodup
noncomputable def vD(H:Q1)(c:V (O Qc)):P6:=
 let b:=H.params.args.map (·.arg)
 let C:=(RT 0 H.scope.names []).map (·.1)
 J1 H&&(!H.scope.isCoroutine&&!H.scope.isGenerator&&Qd (H.scope.kind=.function)&&H.closure.isEmpty&&Z.beq H.globals QO&&Z.beq H.builtins TU)&&
 (b.all (λI=>Qd (H.scope.names.lookup I=S .local)||(Qd (H.scope.names.lookup I=S .cell)&&C.contains I))&&
 (c.take b.length).zipIdx.all (λM=>M.1.isNone||Qd (b[M.2]? = M.1))&&
 Qd ((c.filterMap λM=>M).Nodup)&&decide C.Nodup&&
 c.all (λM=>M.isNone||M.any λI=>(Qd (H.scope.names.lookup I≠S .cell)&&Qd (H.scope.names.lookup I≠S .free))||C.contains I))
theorem vE(w:ae.body=.stmts fh)(B:vD ae j=P4):dF ae (ae.params.args.map (·.arg)) j fh:=
 jO B λn B e=>C8 n λC M f P c=>C9 B λG p t L l X=>C8 e λa r o k h=>
  {ar:=rfl,po:=Wt.mp C,ko:=Wt.mp M,va:=Xi.mp f,ka:=Xi.mp P,nd:=Qj c,body:=w,co:=nF G,gen:=nF p,kind:=Qj t,M':=Wt.mp L,
   glob:=XA l,blt:=XA X,Na:=Qj k,IV:=sT (Qj o)
   kinds:=λI H=>(VS.mp (VD.mp a I H)).imp Qj λY=>an Y λb d=>⟨Qj b,Wv.mp d⟩
   L6:=λv I T m=>by exact Qj (K1 (VD.mp r _ (show((S I,v):O Qc×Z)∈(j.take (ae.params.args.map (·.arg)).length).zipIdx from XT.mpr ((Xn T).trans m))) Vm)
   has:=λv I T m=>by
    rcases VS.mp (K1 (VD.mp h _ (Va T)) Vm) with Y|Y;·exact an Y λb d=>m.elim (λD=>Qp D (Qj b:_≠_)) λD=>Qp D (Qj d:_≠_)
    ·exact Wv.mp Y}
set_option tactic.hygienic true in
noncomputable def K2(C:P'):P6:=by cases C;(case none=>exact P4);all_goals exact P8
noncomputable def Ng(C:P'):O P6:=vw P'.ctorIdx 3 C λB=>P'.bool.elim C B λE=>S E
noncomputable def Nh(C:P'):O (P5×QY):=vw P'.ctorIdx 4 C λB=>P'.int.elim C B λs K=>S (s,K)
noncomputable def Md(C:P'):O Qa:=vw P'.ctorIdx 10 C λB=>W9 C B λL=>S L
theorem Fw(B:K2 ag=P4):ag=.none:=by induction ag using P'.casesOn<;>first|rfl|exact bF B
theorem J2(C:P'):aZ (Ng C) λE=>C=.bool E:=ek λB=>P'.bool.elim (motive:=λC=>∀B,aZ (P'.bool.elim (motive:=λ_=>O P6) C B λE=>S E) λE=>C=.bool E) C B (λE _=>rfl) B
theorem J3(C:P'):aZ (Nh C) λM=>C=.int M.1 M.2:=ek λB=>P'.int.elim (motive:=λC=>∀B,aZ (P'.int.elim (motive:=λ_=>O (P5×QY)) C B λs K=>S (s,K)) λM=>C=.int M.1 M.2) C B (λs K _=>rfl) B
theorem Fx(C:P'):aZ (Md C) λL=>C=.ref L:=ek λB=>W9 (motive:=λC=>∀B,aZ (W9 (motive:=λ_=>O Qa) C B λL=>S L) λL=>C=.ref L) C B (λL _=>rfl) B
noncomputable def Ni(y:QX):O (Qi P'×Z):=vw QX.ctorIdx 2 y λB=>QX.seq.elim y B λL q=>S (L,q)
noncomputable def Nj(y:QX):O Q1:=vw QX.ctorIdx 7 y λB=>QX.func.elim y B λr=>S r
theorem J5(y:QX):aZ (Ni y) λM=>y=.seq M.1 M.2:=ek λB=>QX.seq.elim (motive:=λy=>∀B,aZ (QX.seq.elim (motive:=λ_=>O (Qi P'×Z)) y B λL q=>S (L,q)) λM=>y=.seq M.1 M.2) y B (λL q _=>rfl) B
theorem J6(y:QX):aZ (Nj y) λr=>y=.func r:=ek λB=>QX.func.elim (motive:=λy=>∀B,aZ (QX.func.elim (motive:=λ_=>O Q1) y B λr=>S r) λr=>y=.func r) y B (λr _=>rfl) B
noncomputable def Nk(E:Su):O (V Qn):=vw Su.ctorIdx 0 E λB=>Su.stmts.elim E B λE=>S E
theorem J7(E:Su):aZ (Nk E) λd=>E=.stmts d:=ek λB=>Su.stmts.elim (motive:=λE=>∀B,aZ (Su.stmts.elim (motive:=λ_=>O (V Qn)) E B λE=>S E) λd=>E=.stmts d) E B (λE _=>rfl) B
set_option tactic.hygienic true in
noncomputable def J8(L:Q)(C:P'):P6:=by cases L;(case none=>exact K2 C);(case bool E=>exact(Ng C).any λA=>Qd (A=E));(case int s=>exact(Nh C).any λM=>Qd (M.1=s));all_goals exact P8
theorem Eb(B:J8 m ag=P4):VR Y x b m ag:=by
 induction m using Zp with
 |none=>exact Fw B▸.none
 |bool E=>exact k0 (P:=λag=>VR Y x b _ ag) (J2 ag) B λA B=>dE B▸.bool E
 |int s=>exact k0 (P:=λag=>VR Y x b _ ag) (J3 ag) B λM B=>dE B▸.int s M.2
 |_=>exact bF B
noncomputable def Hw:V Q->V P'->P6
 |[],w=>w.isEmpty
 |L :: c,w=>w.head?.any (J8 L)&&Hw c w.tail
theorem Ec:∀{w:V P'},Hw z w=P4->bU Y x b z w:=by
 induction z with
 |nil=>exact λB=>Wt.mp B▸.nil
 |cons L z k=>intro w B;induction w using U5 with
  |nil=>exact bF B
  |cons C w=>exact an B λG p=>.cons (Eb G) (k p)
noncomputable def Fy(a:QF)(H:Q1):O (V P'):=if K2 H.defaults then S [] else(Md H.defaults).bind λU=>(a.lookup U).bind λz=>(Ni z.data).map λM=>M.1.toList
noncomputable def I5(a:QF)(L:Qa)(p:Z)(d:V Q)(c:V (O Qc))(x:Q1->V Qn->P6):P6:=(a.lookup L).any λz=>(Nj z.data).any λH=>(Nk H.body).any λA=>
 vD H c&&Qd ((H.params.args.map (·.arg)).length=p)&&codeIn a H.code H.qualname&&(Fy a H).any (Hw d)&&Qd (d.length<=p)&&Qd (p<=c.length)&&x H A
structure FnAt(w:Qr)(g₀:Qb)(a:Qa)(aY:Z)(dt:V Q)(sl:V (O Qc))(go:Q1->V Qn->P6)(fd:Q1)(o:Qs)(body:V Qn)(ds:V P'):Prop where
 get:g₀.get? a=S o
 dat:o.data=.func fd
 facts:dF fd (fd.params.args.map (·.arg)) sl body
 len:(fd.params.args.map (·.arg)).length=aY
 code:g₀.CodeRec fd.code fd.qualname
 J9:dt.length<=aY
 Ka:DJ w g₀ fd dt ds
 K3:aY<=sl.length
 ok:go fd body=P4
theorem BD(g:v.In e)(D:Fy v ae=S di):(ae.defaults=.none/\di=[])\/∃U z a q,ae.defaults=.ref U/\e.get? U=S z/\z.data=.seq a q/\a.toList=di:=by
 by_cases B:K2 ae.defaults=P4;·exact .inl ⟨Fw B,(sX ((Qk B).symm.trans D)).symm⟩
 ·exact lI ((Qm B).symm.trans D) λU T D=>hF λi=>lI D λz m D=>Ab D λM l D=>i (.inr (jN U z M.1 M.2 (ot (Fx ae.defaults) T :) (g _ _ m) (ot (J5 z.data) l :) D))
theorem qT{w:Qr}{x:Q1->V Qn->P6}(g:v.In e)(B:I5 v n pc fg j x=P4):∃H z A U,FnAt w e n pc fg j x H z A U:=hF λs=>aM (QR B) λz y G=>aM (QR G) λH q p=>aM (QR p) λA b t=>Jp t λG p t L l X a=>aM (QR L) λU D r=>s ⟨H,z,A,U,g _ _ y,(ot (J6 z.data) q :),vE (ot (J7 H.body) b :) G,Qj p,codeRec_of g t,Qj l,⟨BD g D,λi c d=>Ec r⟩,Qj X,a⟩
noncomputable def Hx(y:Z)(A:Cx)(i:Qc):V Z->fD->V Qn->P6
 |[],j,b=>(match j with|.nil=>P4|_=>P8)&&b.isEmpty
 |r :: f,j,b=>match j with
  |.nil=>P8
  |.cons D j=>match b with
   |[]=>P8
   |I :: b=>(qS I).any λM=>(j' M.1).any λK=>(cH K.1).any λn=>Qd (n=i)&&Qd (K.2=sx r)&&gW y A (.E D M.2)&&Hx y A i f j b
theorem Ed{d:Qo}{c:Cx}(A:Gr v e P cv cx cw)(o:vY v)(C:kU h a e N i q)(R:bA N (q+1) f l)(z:iH c d)
  :∀{j:fD} {b:V Qn},Hx ng c de j9 j b=P4->DL h a e l d c.sl f i de j9 j b:=by
 induction j9 with
 |nil=>intro j b B;induction j using fD.casesOn with
  |nil=>induction b using U5 with
   |nil=>exact .nil
   |cons _ _=>exact bF B
  |cons _ _=>exact bF B
 |cons r j9 k=>intro j b B;induction j using fD.casesOn with
  |nil=>exact bF B
  |cons D j=>induction b using U5 with
   |nil=>exact bF B
   |cons I b=>
    exact k1 (P:=λI=>DL h a e l d c.sl f i de _ _ (I :: _)) (hT I) B λM P B=>k1 (P:=λK=>DL h a e l d c.sl f i de _ _ (.Assign [K] _ _ :: _)) (hH M.1) B λK P B=>
     k1 (P:=λK=>DL h a e l d c.sl f i de _ _ (.Assign [.Attribute K _ _] _ _ :: _)) (bG K.1) B λn P B=>Aq B λG p t L=>dE G▸(dE p▸.cons (fX A o C R ng c d _ z t) (k L))
noncomputable def kV(r:V (O Z)):V (O Qc):=r.map (XG sx)
noncomputable def nU:V gV:=[.Thing,.Text,.Row,.Dict,.Span,.FX,.mX,.Mem]
theorem gH(A:gV)(B:A≠.bZ):A∈nU:=by induction A using gV.casesOn<;>first|decide|exact(B rfl).elim
noncomputable def BE(a:QF)(A:gV)(q:Qc)(C:O P'):P6:=Qd (Q8 a (.ref (CA A)) q=S C)
noncomputable def Hy(a:QF):P6:=nU.all (λA=>BE a A "__getattribute__" (S (.builtin "object.__getattribute__"))&&BE a A "__getattr__" N&&(cA A).all (λX=>BE a A (sx X) N)&& (Wn NS).all (λH=>match td A H with|some r=>Z.beq H 26||(Z.blt r 60&&!((cA A).contains H)&&BE a A (sx H) (S (.ref (FA r))))|none=>P4))&& (gV.bZ :: nU).all (λA=>(RD a (CA A)).any (λI=>I.hasDict)&&Sk a (.ref (CA A)))&& (Wn 60).all (λX=>Qd (Rf a (.ref (FA X))=S (.type "function"))&&Sk a (.ref (FA X)))&& (BE a .Mem (sx 26) (S (.ref 359))&&Qd (Tp a (.ref 359) "__get__"=S (S (.builtin "property.__get__")))&&Qd (takesIn a (.ref 359)=S P4)&&Qd ((recIn a 359 "property").bind V.head? = S (.ref (FA 20))))
theorem Ef(j:∀A H r,td A H=S r->H<NS/\A≠.bZ)(B:Hy v=P4):IX v:=by
 unfold Hy at B;simp only[Ws,RV,VD] at B;refine hO B λbP cQ a=>?_;obtain⟨⟨G,p⟩,t⟩:=bP;obtain⟨⟨L,l⟩,h⟩:=cQ;have C:∀A,A∈gV.bZ :: nU:=λA=>by induction A using gV.casesOn<;>decide
 refine⟨λA c=>Qj (G A (gH A c)).1.1.1,λA c=>Qj (G A (gH A c)).1.1.2,λA=>?_,λA c X H=>Qj ((G A (gH A c)).1.2 X H),λA H r D i=>?_,λX e=>?_,λA=>(p A (C A)).2,Qj L,l,h,?_⟩;·exact aM (QR (p A (C A)).1) λf D Y=>ba f D Y
 ·refine bT (j A H r D) λe n=>hF λo=>?_;have:=(G A (gH A n)).2 H (YC.mpr e);rw[D] at this;simp only[Yn,Ws,Wf] at this;rcases this with Y|⟨⟨b,d⟩,m⟩;·exact(i (XA Y)).elim
  ·refine o ?_;exact LK n (Zd.mp b) e (λq=>by replace d:=(Wv.mpr q).symm.trans d;cases d) (Qj m)
 ·exact bT (t X (YC.mpr e)) λb d=>⟨b,d⟩
 ·induction D:recIn v 359 "property" using U0 with
  |none=>exact nX (D▸a)
  |some g=>replace a:=D▸a;induction g using U5 with
   |nil=>exact nX a
   |cons I x=>exact⟨x,by refine R (show I=.ref (FA 20) from VH a) rfl⟩
noncomputable def Fz(a:QF):P6:=nU.all λA=>BE a A "__setattr__" (S (.builtin "object.__setattr__"))&&plainOver a (CA A)&&(cA A).all λX=>Qd (SM a (CA A) (sx X)=S N)
theorem BF(B:Fz v=P4):Gz v:=by have M:=λA q=>Vi.mp (VD.mp B A (gH A q));have L:=λA q=>Vi.mp (M A q).1;exact⟨λA q=>⟨Qj (L A q).1,(L A q).2⟩,λA q X H=>Qj (VD.mp (M A q).2 X H)⟩
noncomputable def FC(a:QF):P6:=BE a .bZ "__getattribute__" (S (.builtin "BaseException.__getattribute__"))&&BE a .bZ "__getattr__" N&&(cA .bZ).all (λX=>BE a .bZ (sx X) N)&&Qd (mroIn a (CA .bZ) (.type "BaseException")=S P4)&&(RD a (CA .bZ)).any (λI=>I.hasDict)
theorem BG(B:FC v=P4):y0 v:=C8 B λG p t L l=>aM (QR l) λI D Y=>⟨Qj G,Qj p,λX H=>Qj (VD.mp t X H),Qj L,I,D,Y⟩
noncomputable def FD(a:QF):P6:=BE a .bZ "__setattr__" (S (.builtin "object.__setattr__"))&&(RD a (CA .bZ)).any (λI=>kK I.mro)&&Qd (SM a (CA .bZ) (sx 76)=S N)&&qH a (CA .bZ)&&BE a .bZ "__init__" (S (.ref 36))&&Qd (Rf a (.ref 36)=S (.type "function"))
theorem BH(B:FD v=P4):zA v:=C9 B λG p t L l X=>⟨Qj G,p,Qj t,L,Qj l,Qj X⟩
noncomputable def Kb(a:QF):P6:=DX.all λM=>dU M.1&&(match M.2 with
 |.fn X=>Qd (QZ a QO M.1=S (S (.ref (FA X))))&&Z.blt X 60
 |.cls A=>Qd (QZ a QO M.1=S (S (.ref (CA A))))
 |.int s=>(match QZ a QO M.1 with|some (S (.int v _))=>Qd (v=s)|_=>P8)
 |.bi E=>Qd (QZ a QO M.1=S N)&&Qd (Ul M.1=S E.val)&&Qd (M.1≠"__name__"))
theorem Eg{z:O (O P')}(B:(match z with|some (S (.int v _))=>Qd (v=gz)|_=>P8)=P4):∃K,z=S (S (.int gz K)):=by
 induction z using U0 with
 |none=>exact bF B
 |some z=>
  induction z using U0 with
  |none=>exact bF B
  |some C=>induction C using P'.casesOn<;>first|exact bF B|exact⟨_,Ql (λv=>S (S (P'.int v _))) (Qj B)⟩
set_option tactic.hygienic true in
theorem Eh(B:Kb v=P4):vY v:=by
 intro M H;refine bT (Vi.mp (VD.mp B M H)) λG p=>⟨?_,G⟩;clear G H B;obtain⟨I,C⟩:=M;induction C using GV.casesOn with
 |fn X=>exact bT (Vi.mp p) λb d=>⟨Qj b,Zd.mp d⟩
 |cls A=>exact(Qj p:QZ v QO I=_)
 |int s=>exact Eg p
 |bi E=>exact jO p λL E A=>gZ (Qj L) (Qj E) (Qj A)
noncomputable def OC(r:dV)(H:Q1)(A:V Qn):P6:=xg 60 60 ⟨H.scope.names,P8,kV r.slots⟩ (.Ss r.body A)
noncomputable def Kc(a:QF):P6:=(Wn 60).all λX=>match su X with
 |none=>P4
 |some r=>I5 a (FA X) r.aY r.dt (kV r.slots) (OC r)
noncomputable def OD(A:gV)(H:Q1)(a:V Qn):P6:=(H.params.args.map (·.arg)).head?.any λi=>Qd (H.scope.names.lookup i=S .local)&&dU i&&Hx 60 ⟨H.scope.names,P8,kV (cF A).slots⟩ i (cA A) (cF A).vals a
noncomputable def xh(a:QF)(A:gV):O Qa:=((Q8 a (.ref (CA A)) "__init__").bind id).bind Md
theorem sV(B:xh v U=S n):Q8 v (.ref (CA U)) "__init__"=S (S (.ref n)):=lI B λC T m=>lI T λz l o=>l.trans (Ql S (o.trans (Ql S (ot (Fx C) m :))))
theorem vF{l:V G}{L:G}(B:l.head? = S L):l[0]? = S L:=by induction l using U5<;>exact B
noncomputable def Me(a:QF)(A:gV):P6:=(xh a A).any λk=>TK a (CA A)&&Qd (Rf a (.ref k)=S (.type "function"))&&I5 a k (cF A).aY (cF A).dt (kV (cF A).slots) (OD A)
noncomputable def BJ(a:QF):P6:=(nU.filter (λA=>!Qd (A=.Text))).all (Me a)
noncomputable def OE(H:Q1)(A:V Qn):P6:=(l2 (H.params.args.map (·.arg))).any λq=>(l1 A).any λI=>(qS I).any λM=>(j' M.1).any λK=>(cH K.1).any λn=>(cH M.2).any λY=>Qd (n=q.1)&&Qd (K.2=sx 76)&&Qd (Y=q.2)&&Qd (H.scope.names.lookup q.1=S .local)&&Qd (H.scope.names.lookup q.2=S .local)&&dU q.1&&dU q.2
noncomputable def Ke(a:QF):P6:=I5 a 36 2 [.none] (kV (cF .bZ).slots) OE
noncomputable def Hz(a:QF):P6:=Hy a&&Fz a&&FC a&&FD a&&Kb a&&Kc a&&BJ a&&Ke a&&Qd (Rf a (.ref (CA .bZ))=S (.type "type"))
theorem Ei{l:V (Z×Z)}(B:La fj l=S c9):(fj,c9)∈l:=by
 induction l with
 |nil=>exact nX B
 |cons P x k=>
  have B:=B
  by_cases D:(fj==P.1)=P4
  ·exact Ra.mp D▸sX ((Qk D).symm.trans B)▸.head _
  ·exact .tail _ (k ((Qm D).symm.trans B))
theorem Ej(A:gV)(H r:Z)(B:td A H=S r):H<NS/\A≠.bZ:=by
 have X:=Ei B;refine⟨?_,λD=>by rw[D] at X;exact nomatch X⟩;have:∀A,∀P∈mL A,P.1<NS:=by intro A;induction A using gV.casesOn<;>decide +kernel
 exact this A _ X
theorem BK(X:Z)(r:dV)(B:su X=S r):X<60:=(U8.mp B).1
theorem mM(l:V (O Z)):(kV l).length=l.length:=U1 _
structure Base(K:QF)(g₀:Qb)(p:Qz)(loose:V Qc)(mg mb:Qc->O P'):Prop where
 G:Gr K g₀ p loose mg mb
 ks:zA K
 go:vY K
 fns:Kc K=P4
 cls:BJ K=P4
 err:Ke K=P4
 ty:Rf K (.ref (CA .bZ))=S (.type "type")
theorem Base.of(g:v.In e)(U:TopRead P cv cx cw e)(y:oU e)(B:Hz v=P4):Base v e P cv cx cw:=by refine hF λf=>?_;unfold Hz at B;simp only[Ws,RV] at B;refine bT B λbP o=>?_;obtain⟨⟨⟨⟨⟨⟨⟨G,p⟩,t⟩,L⟩,l⟩,X⟩,a⟩,r⟩:=bP;exact f ⟨⟨Ef Ej G,g,U,y,BG t,BF p⟩,BH L,Eh l,X,a,r,o⟩
theorem Base.gy(K:Base v e P cv cx cw):nP h a e v:=by
 refine⟨K.ks,K.ty,K.G.ok.Fe .bZ,λb a4 a0 q a5 x y d f w R m s c C X=>?_⟩;refine hF λa1=>Gh (qT (w:=a) K.G.X K.err) λH z A U r=>?_;have j:=r.ok;have J:=r.facts;refine aM (QR j) λM T j=>?_;rw[ot (C7 (H.params.args.map (·.arg))) T] at J;have g:∀{A:V Qn} {p1 p2 p3 p4:Qv},dF H [M.1,M.2] (kV (cF .bZ).slots) A->A=[.Assign [.Attribute (.Name M.1 p1) (sx 76) p2] (.Name M.2 p3) p4]->H.scope.names.lookup M.1=S .local->H.scope.names.lookup M.2=S .local->dU M.1=P4->dU M.2=P4->QL (Qe h a) a0 (.call (.ref (CA .bZ)) ⟨[w],[]⟩) R d:=λJ D h8 o k a3=>DP K.G K.ks (D▸J) m r.get r.dat K.G.T.nolimit r.code r.Ka r.J9 rfl h8 o (bQ k) (bQ a3) s c C X;refine a1 ?_;suffices a2:dF H [M.1,M.2] (kV (cF .bZ).slots) A->QL (Qe h a) a0 (.call (.ref (CA .bZ)) ⟨[w],[]⟩) R d from a2 J;refine k0 (P:=λE=>dF _ _ _ E->_) (tm A) j λI B=>k1 (P:=λI=>dF _ _ _ [I]->_) (hT I) B λf p4 B=>k1 (P:=λI=>dF _ _ _ [.Assign [I] _ _]->_) (hH f.1) B λi p2 B=>
  k1 (P:=λI=>dF _ _ _ [.Assign [.Attribute I _ _] _ _]->_) (bG i.1) B λn p1 B=>k1 (P:=λI=>dF _ _ _ [.Assign [.Attribute _ _ _] I _]->_) (bG f.2) B λY p3 B=>Jp B λG p t L l h6 h7 J=>
  g (p1:=p1) (p2:=p2) (p3:=p3) (p4:=p4) J (by rw[Qj G,Qj p,Qj t]) (Qj L) (Qj l) h6 h7
theorem OF{o:O dV}{f:dV->Res bx}{P:Res bx->Prop}(t:(match (generalizing:=false) o with|none=>.bad|some L=>f L)≠Res.bad)(X:∀L,o=S L->f L≠.bad->P (f L)):P (match (generalizing:=false) o with|none=>.bad|some L=>f L):=by
 induction o using U0 with
 |none=>exact bX t
 |some L=>exact X L rfl t
theorem Nl{o:O Loc}{f:Loc->Res bx}{P:Res bx->Prop}(t:(match (generalizing:=false) o with|none=>.bad|some L=>f L)≠Res.bad)(X:∀L,o=S L->f L≠.bad->P (f L)):P (match (generalizing:=false) o with|none=>.bad|some L=>f L):=by
 induction o using U0 with
 |none=>exact bX t
 |some L=>exact X L rfl t
theorem BL{I:Res G}{r:G->Res bx}(B:I.bind r≠.bad):I≠.bad:=λM=>B (M▸rfl)
theorem vG(K:Base v e P cv cx cw)(q:Z):kU h a e N (aC q) (2*q):=by
 induction q with
 |zero=>exact⟨λb l I n L y x d w U U U U t=>bX t⟩
 |succ q CC=>
  refine⟨λb l I n L y x d w R T c C t=>?_⟩
  induction n using Key.casesOn with
  |fn X=>
   refine OF (P:=λY=>QL (Qe h a) I (.call (.ref (FA X)) ⟨w,[]⟩) (RR a e b l Y x d) d) (o:=su X) (f:=λE=>match Mine.Lake.bindArgs E.aY E.dt E.slots.length L with|none=>.bad|some l=>(aW (aC q) E.body l y).bind λ(x:Fl×Loc×AH)=>Res.ok (α:=Q×AH) ((match x.1 with|.ret C=>C|.next=>.none),x.2.2)) t λE D t=>Nl (P:=λY=>QL (Qe h a) I (.call (.ref (FA X)) ⟨w,[]⟩) (RR a e b l Y x d) d) (o:=Mine.Lake.bindArgs E.aY E.dt E.slots.length L) (f:=λl=>(aW (aC q) E.body l y).bind λ(x:Fl×Loc×AH)=>Res.ok (α:=Q×AH) ((match x.1 with|.ret C=>C|.next=>.none),x.2.2)) t λa2 m t=>?_;have J:=VD.mp K.fns X (YC.mpr (BK X E D));replace J:=D▸J;refine Gh (qT (w:=a) K.G.X J) λH z a1 ds r=>?_;exact GX r.facts R r.get r.dat K.G.T.nolimit r.code r.Ka (r.len.symm▸r.J9) (r.len.symm▸r.K3) T c C (r.len.symm▸(mM E.slots).symm▸m) (BL t) λa0=>
    yw (c:=⟨H.scope.names,P8,kV E.slots⟩) K.G K.go K.gy CC R.deeper r.facts.kind rfl rfl 59 60 _ r.ok
  |cls A=>
   have e0:aC (q+1) (.cls A) L y=if A=.bZ\/A=.Text then .bad else _:=rfl
   by_cases s:A=.bZ\/A=.Text
   ·exact Qp (e0.trans (Qk s)) t
   ·rw[e0.trans (Qm s)] at t⊢;refine Nl (P:=λY=>QL (Qe h a) I (.call (.ref (CA A)) ⟨w,[]⟩) (RR a e b l Y x d) d) (o:=Mine.Lake.bindArgs (cF A).aY (cF A).dt (cF A).slots.length (.none :: L)) (f:=λl=>qJ A (bB (aC q) (cF A).vals (l.set 0 N) y)) t λa2 m t=>hF λo=>bT (Rn.mp s) λB M=>aM (QR (VD.mp K.cls A (WY.mpr ⟨gH A B,Ql not (QJ M)⟩))) λk g J=>jO J λG p h3=>Gh (qT (w:=a) K.G.X h3) λH z a1 ds r=>aM (QR r.ok) λi en ok=>o ?_;exact jO ok λk1 f j=>DM K.G B r.facts R G (sV g) (Qj p) r.get r.dat K.G.T.nolimit r.code r.Ka (r.len.symm▸r.J9) (r.len.symm▸r.K3) (vF en) (Qj k1) (bQ f) T c C (r.len.symm▸(mM (cF A).slots).symm▸m) rfl (BL t) λa0=>
     Ed (c:=⟨H.scope.names,P8,kV (cF A).slots⟩) K.G K.go CC R.make (mK rfl rfl) j
abbrev NF:=V Q->AH->Res (Q×AH)
inductive NE|call(k:Key)(as:fD)|aU(e:LE)(m f:Z)(as:fD)
mutual
inductive HA|a(s:LS)|ifs(c:LE)(x y:qU)|exp(e:NE)|ret(e:NE)|dZ(j:Z)(e:LE)(b:qU)|tup(js:V Z)(a b:LE)(e:NE)
inductive qU|nil|cons(s:HA)(r:qU)
end
noncomputable def oY(f:CF)(m:Key->NF):NE->vX
 |.call X c=>Fi f (m X) c
 |.aU D H r c=>Fj f (m (.fn r)) D H r c
mutual
noncomputable def gS(cf:CF)(nf:Key->NF):HA->vp
 |.a s=>dK cf s
 |.ifs c x y=>Nb cf c (dG cf nf x) (dG cf nf y)
 |.exp e=>JN (oY cf nf e)
 |.ret e=>JO (oY cf nf e)
 |.dZ j e b=>JP cf e j (dG cf nf b)
 |.tup js a b e=>JQ cf js a b (oY cf nf e)
noncomputable def dG(cf:CF)(nf:Key->NF):qU->vp
 |.nil=>Hb
 |.cons s r=>JM (gS cf nf s) (dG cf nf r)
end
noncomputable def OG:Key->GV
 |.fn L=>.fn L
 |.cls L=>.cls L
noncomputable def isKey(A:Cx)(J:Qc)(X:Key):P6:=Qd (A.Hg J=S (OG X))
noncomputable def l3{j:Type}:V j->O (j×j×j)|[L,E,A]=>S (L,E,A)|_=>N
theorem Mf(I:V G):aZ (l3 I) λL=>I=[L.1,L.2.1,L.2.2]:=by rcases I with _|⟨L,_|⟨E,_|⟨A,_|⟨y,x⟩⟩⟩⟩<;>first|exact Vo|rfl
noncomputable def vH(y:Z)(A:Cx):NE->P9->P6
 |.call X c,I=>(kn I).any λM=>(cH M.1).any λJ=>isKey A J X&&gW y A (.Es c M.2.1)
 |.aU D H r c,I=>(kn I).any λM=>(ub M.1).any λK=>Qd (K.2.1=sx H)&&fQ K.1&&(K.2.2.endLine==M.2.2.line)&&Qd (M.2.1.length<30)&&gW y A (.E D K.1)&&gW y A (.Es c M.2.1)
mutual
noncomputable def kx(M:Z)(c:Cx):HA->Qn->P6
 |.a s,x=>xg M 60 c (.S s x)
 |.ifs t a b,x=>(Mc x).any λq=>gW M c (.T t q.1)&&gT M c a q.2.1&&gT M c b q.2.2
 |.exp e,x=>(nS x).any λy=>!(nJ y)&&vH M c e y
 |.ret e,x=>(Hm x).any λy=>vH M c e y
 |.dZ j e b,x=>(D6 x).any λq=>(cH q.1).any λnm=>c.dst j nm&&!(fo q.2.1)&&gW M c (.E e q.2.1)&&gT M c b q.2.2
 |.tup js a b e,x=>(qS x).any λq=>(mI q.1).any λts=>(xc c js ts).any λxs=>(mI q.2).any λys=>
   (Qd (JD (λy=>c.names.lookup y) ts ys=S (S xs))&&decide xs.Nodup&&Qd (js.length=3))&&(l3 ys).any λy=>notStar y.1&&notStar y.2.1&&notStar y.2.2&&gW M c (.E a y.1)&&gW M c (.E b y.2.1)&&vH M c e y.2.2
noncomputable def gT(M:Z)(c:Cx):qU->V Qn->P6
 |.nil,xs=>xs.isEmpty
 |.cons s r,xs=>match xs with
  |[]=>P8
  |x :: xs=>kx M c s x&&gT M c r xs
end
theorem BM(z:iH E c)(o:vY v)(B:isKey E dg jb=P4):QZ v QO dg=S (S (.ref (hB jb)))/\c.kindOf dg=S .globalImplicit/\(dg==("__debug__":Qc))=P8/\∀r,jb=.fn r->r<60:=by
 refine hO (Cx.nR z o (Qj B)) λb d m=>?_;clear z o B;induction jb using Key.casesOn with
 |fn L=>exact uO d.1 b (bQ m) (λr M=>Key.fn.inj M▸d.2)
 |cls L=>exact uO d b (bQ m) (λr M=>nomatch M)
variable{ic:Key->NF}{rz:NF}
theorem BN(A:Gr v e P cv cx cw)(g:vY v)(C:kU h a e N i q)(Y:∀X,sN h a e q X (ic X))(R:bA N (q+1) f (c :: o))(y:Z)(z:iH E c){D:NE}(B:vH (y+1) E D ao=P4):qN h a e (c :: o) c E.sl f (oY i ic D) ao:=by
 induction D using NE.casesOn with
 |call X j=>exact k0 (fJ ao) B λM B=>k1 (P:=λn=>qN h a e (c :: o) c E.sl f _ (.Call n _ [] _)) (bG M.1) B λJ P B=>an B λG p=>by exact uE (BM z g G) λb d m w=>qN.call A (Y X) R w (fX A g C R _ E c _ z p) b d m
 |aU D H r j=>
  exact k0 (fJ ao) B λM B=>k0 (P:=λn=>qN h a e (c :: o) c E.sl f _ (.Call n _ [] _)) (qQ M.1) B λK B=>C9 B λG p t L l k=>
   dE G▸qN.aU A (Y (.fn r)) R (fX A g C R _ E c _ z l) (fX A g C R _ E c _ z k) p t (Qj L)
theorem Ek(A:Gr v e P cv cx cw)(a0:vY v)(a2:nP h a e v)(C:kU h a e N i q)(Y:∀X,sN h a e q X (ic X))(R:bA N (q+1) f (c :: o))(J:c.scope.kind=.function)(U:c.scope.names=E.names)(s:E.comp=P8)(y:Z) :
  (∀(d:HA) (I:Qn),kx (y+1) E d I=P4->jE h a e o c E.sl f (gS i ic d) I)/\∀(d:qU) (b:V Qn),gT (y+1) E d b=P4->rE h a e o c E.sl f (dG i ic d) b:=by
 have z:=mK U s;have w:∀{D I},gW (y+1) E (.E D I)=P4->SE h a e (c :: o) c E.sl f i D I:=λB=>fX A a0 C R _ E c _ z B;have g:∀{D I},vH (y+1) E D I=P4->qN h a e (c :: o) c E.sl f (oY i ic D) I:=λB=>BN A a0 C Y R y z B;have R0:=R.less (VK q);have ha:∀(d:LS) (I:Qn),kx (y+1) E (.a d) I=P4->jE h a e o c E.sl f (gS i ic (.a d)) I:=λd I B=>jE.KY ((λB=>yw A a0 a2 C R J U s y 60 _ B) B);have hi:∀(K:LE) (L T:qU),(∀b,gT (y+1) E L b=P4->rE h a e o c E.sl f (dG i ic L) b)->(∀b,gT (y+1) E T b=P4->rE h a e o c E.sl f (dG i ic T) b)->∀(I:Qn),kx (y+1) E (.ifs K L T) I=P4->jE h a e o c E.sl f (gS i ic (.ifs K L T)) I:=λK L T ia ib I B=>k1 (P:=λI=>jE h a e o c E.sl f _ I) (Fv I) B λM P B=>jO B λG p t=>jE.ifs ((λB=>fX A a0 C R _ E c _ z B) G) (ia _ p) (ib _ t);have H:∀(D:NE) (I:Qn),kx (y+1) E (.exp D) I=P4->jE h a e o c E.sl f (gS i ic (.exp D)) I:=λD I B=>k1 (P:=λI=>jE h a e o c E.sl f _ I) (xa I) B λM P B=>an B λG p=>jE.exp (g p) (vC J) (fR (nF G) _ _ _);have hr:∀(D:NE) (I:Qn),kx (y+1) E (.ret D) I=P4->jE h a e o c E.sl f (gS i ic (.ret D)) I:=λD I B=>k1 (P:=λI=>jE h a e o c E.sl f _ I) (BC I) B λM P B=>jE.ret (g B);have hf:∀(a1:Z) (D:LE) (T:qU),(∀b,gT (y+1) E T b=P4->rE h a e o c E.sl f (dG i ic T) b)->∀(I:Qn),kx (y+1) E (.dZ a1 D T) I=P4->jE h a e o c E.sl f (gS i ic (.dZ a1 D T)) I:=λa1 D T ib I B=>k1 (P:=λI=>jE h a e o c E.sl f _ I) (xb I) B λM P B=>k1 (P:=λK=>jE h a e o c E.sl f _ (.For K _ _ _ _)) (bG M.1) B λnm np B=>Aq B λG p t h4=>by exact bT (Cx.ue z G) λz1 z2=>jE.dZ R0 (w t) z1 z2 (ib _ h4) (nF p)
 have ht:∀(r:V Z) (L T:LE) (D:NE) (I:Qn),kx (y+1) E (.tup r L T D) I=P4->jE h a e o c E.sl f (gS i ic (.tup r L T D)) I:=λr L T D I B=>by refine k1 (P:=λI=>jE h a e o c E.sl f _ I) (hT I) B λM P B=>k1 (P:=λK=>jE h a e o c E.sl f _ (.Assign [K] _ _)) (hS M.1) B λm P B=>aM (QR B) λb e4 B=>k1 (P:=λK=>jE h a e o c E.sl f _ (.Assign _ K _)) (hS M.2) B λys P B=>an B λG B=>jO G λG p t=>?_;rw[(show(λn=>E.names.lookup n)=c.kindOf from U▸rfl)] at G;have h8:=Qj G;revert h8;exact k0 (P:=λys=>JD c.kindOf m ys=_->jE h a e o c E.sl f _ (.Assign _ (.Tuple ys _ _) _)) (Mf ys) B λn B h8=>C9 B λk1 k2 j k l k6=>jE.tup R0 (w k) (w l) (g k6) k1 k2 j (mJ z e4) (Qj p) (Qj t) (tP J h8)
 have U:∀(b:V Qn),gT (y+1) E .nil b=P4->rE h a e o c E.sl f (dG i ic .nil) b:=λb B=>Wt.mp (show b.isEmpty=P4 from B)▸.nil;have s:∀(d:HA) (x:qU),(∀I,kx (y+1) E d I=P4->jE h a e o c E.sl f (gS i ic d) I)->(∀b,gT (y+1) E x b=P4->rE h a e o c E.sl f (dG i ic x) b)->∀(b:V Qn),gT (y+1) E (.cons d x) b=P4->rE h a e o c E.sl f (dG i ic (.cons d x)) b:=λd x i1 i2 b B=>by
  induction b using U5 with
  |nil=>exact bF B
  |cons I b=>exact an B λG p=>.cons (i1 I G) (i2 b p)
 exact⟨λd=>HA.rec (motive_1:=λd=>∀(I:Qn),kx (y+1) E d I=P4->jE h a e o c E.sl f (gS i ic d) I) (motive_2:=λd=>∀(b:V Qn),gT (y+1) E d b=P4->rE h a e o c E.sl f (dG i ic d) b) ha hi H hr hf ht U s d,λd=>qU.rec (motive_1:=λd=>∀(I:Qn),kx (y+1) E d I=P4->jE h a e o c E.sl f (gS i ic d) I) (motive_2:=λd=>∀(b:V Qn),gT (y+1) E d b=P4->rE h a e o c E.sl f (dG i ic d) b) ha hi H hr hf ht U s d⟩
theorem BO{g:Qo}{c:Cx}(A:Gr v e P cv cx cw)(j:vY v)(m:nP h a e v)(C:kU h a e N i q)(Y:∀X,sN h a e q X (ic X))(R:bA N (q+1) f (g :: o))(J:g.scope.kind=.function)(K:g.scope.names=c.names)(s:c.comp=P8)(y:Z)(d:qU)(b:V Qn)(B:gT (y+1) c d b=P4):rE h a e o g c.sl f (dG i ic d) b:=(Ek A j m C Y R J K s y).2 d b B
noncomputable def aH:jL->Z->LS
 |.cons d _,0=>d
 |.cons _ x,q+1=>aH x q
 |.nil,_=>.any
set_option tactic.hygienic true in
noncomputable def fx(d:LS):jL:=by cases d;(case ifs A L E=>exact L);all_goals exact .nil
set_option tactic.hygienic true in
noncomputable def dM(d:LS):jL:=by cases d;(case ifs A L E=>exact E);all_goals exact .nil
set_option tactic.hygienic true in
noncomputable def eH(d:LS):LE:=by cases d;(case ifs A L E=>exact A);all_goals exact .oO
set_option tactic.hygienic true in
noncomputable def bodyOf(d:LS):jL:=by cases d;(case dZ I D E=>exact E);all_goals exact .nil
set_option tactic.hygienic true in
noncomputable def xj(d:LS):LE:=by cases d;(case dZ I D E=>exact D);all_goals exact .oO
set_option tactic.hygienic true in
noncomputable def CW(d:LS):LE:=by cases d;(case exp D=>exact D);(case ret D=>exact D);all_goals exact .oO
set_option tactic.hygienic true in
noncomputable def oZ(D:LE):fD:=by cases D;(case call r c=>exact c);(case aU D H c=>exact c);all_goals exact .nil
set_option tactic.hygienic true in
noncomputable def BP(D:LE):LE:=by cases D;(case aU D H c=>exact D);all_goals exact .oO
set_option tactic.hygienic true in
noncomputable def K4(j:fD):LE:=by cases j;(case cons D x=>exact D);all_goals exact .oO
set_option tactic.hygienic true in
noncomputable def K5(j:fD):fD:=by cases j;(case cons D x=>exact x);all_goals exact .nil
set_option tactic.hygienic true in
noncomputable def El(d:LS):LE×LE×LE:=by cases d;(case iL b j=>exact(K4 j,K4 (K5 j),K4 (K5 (K5 j))));all_goals exact(.oO,.oO,.oO)
inductive NV|a(e:LE)|rF(e:LE)
noncomputable def HB(f:CF):NV->vX
 |.a D=>aO f D
 |.rF D=>Fo f D
noncomputable def Kf(y:Z)(A:Cx)(I:P9):NV->P6
 |.a D=>gW y A (.E D I)
 |.rF D=>(kn I).any λi=>(cH i.1).any λJ=>(l1 i.2.1).any λY=>Qd (J=("bytearray":Qc))&&A.bi "bytearray" (.ty "bytearray")&&notStar Y&&gW y A (.E D Y)
noncomputable def BQ(y:Z)(A:Cx)(i:Qc):V Z->V NV->V Qn->P6
 |[],j,b=>j.isEmpty&&b.isEmpty
 |r :: f,j,b=>j.head?.any λD=>b.head?.any λI=>(qS I).any λM=>(j' M.1).any λK=>(cH K.1).any λn=>Qd (n=i)&&Qd (K.2=sx r)&&Kf y A M.2 D&&BQ y A i f j.tail b.tail
noncomputable def BR:V NV:=[.a (.var 1),.rF (.var 2),.a (.var 3),.a (.var 4)]
noncomputable def uh(f:CF):NF:=λc y=>match Mine.Lake.bindArgs (cF .Text).aY (cF .Text).dt (cF .Text).slots.length (.none :: c) with
 |none=>.bad
 |some l=>(KZ (BR.map (HB f)) (l.set 0 N) y).bind λx=>.ok (.obj .Text x.1,x.2)
noncomputable def CX(r:dV)(E:vp):NF:=λc y=>match Mine.Lake.bindArgs r.aY r.dt r.slots.length c with
 |none=>.bad
 |some l=>(E l y).bind λx=>.ok ((match x.1 with|.ret C=>C|.next=>.none),x.2.2)
noncomputable def only(X:Key)(m:NF):Key->NF:=λr=>if r=X then m else λU U=>.bad
noncomputable def gE:CF:=aC 10
noncomputable def Kg:qU:=.cons (.a (aH E'.body 0)) (.cons (.ret (.call (.cls .Text) (oZ (CW (aH E'.body 1))))) .nil)
noncomputable def Kh:NF:=CX E' (dG gE (only (.cls .Text) (uh gE)) Kg)
noncomputable def Ki:qU:=.cons (.a (aH C1.body 0)) (.cons (.ret (.aU (BP (CW (aH C1.body 1))) 35 25 (oZ (CW (aH C1.body 1))))) .nil)
noncomputable def nV:NF:=CX C1 (dG gE (only (.fn 25) Kh) Ki)
noncomputable def yx:LS:=aH (dM (aH jG.body 2)) 0
noncomputable def Kj:qU:=.cons (.a (aH jG.body 0)) (.cons (.a (aH jG.body 1)) (.cons (.ifs (eH (aH jG.body 2)) (.cons (.a (aH (fx (aH jG.body 2)) 0)) (.cons (.a (aH (fx (aH jG.body 2)) 1)) .nil)) (.cons (.ifs (eH yx) (.cons (.a (aH (fx yx) 0)) .nil) (.cons (.tup [4,5,6] (El (aH (dM yx) 0)).1 (El (aH (dM yx) 0)).2.1 (.aU (BP (El (aH (dM yx) 0)).2.2) 63 24 (oZ (El (aH (dM yx) 0)).2.2))) .nil)) .nil)) (.cons (.a (aH jG.body 3)) (.cons (.a (aH jG.body 4)) (.cons (.a (aH jG.body 5)) .nil)))))
noncomputable def nW:NF:=CX jG (dG gE (only (.fn 24) nV) Kj)
noncomputable def sh:LS:=aH rK.body 1
noncomputable def qV:LS:=aH (bodyOf sh) 2
noncomputable def BS:qU:=.cons (.a (aH (bodyOf sh) 0)) (.cons (.a (aH (bodyOf sh) 1)) (.cons (.ifs (eH qV) (.cons (.exp (.call (.fn 52) (oZ (CW (aH (fx qV) 0))))) .nil) (.cons (.a (aH (dM qV) 0)) .nil)) (.cons (.a (aH (bodyOf sh) 3)) .nil)))
noncomputable def Kk:qU:=.cons (.a (aH rK.body 0)) (.cons (.dZ 2 (xj sh) BS) (.cons (.a (aH rK.body 2)) .nil))
noncomputable def Kl:NF:=CX rK (dG gE (only (.fn 52) nW) Kk)
noncomputable def Km(k:V P5):Res (Q×AH):=Kl [.lst (k.map .int)] {}
noncomputable def goN(r:dV)(E:qU)(H:Q1)(A:V Qn):P6:=gT 60 ⟨H.scope.names,P8,kV r.slots⟩ E A
noncomputable def Em(a:QF)(X:Z)(r:dV)(E:qU):P6:=I5 a (FA X) r.aY r.dt (kV r.slots) (goN r E)
noncomputable def OH(H:Q1)(A:V Qn):P6:=(H.params.args.map (·.arg)).head?.any λi=>Qd (H.scope.names.lookup i=S .local)&&dU i&&BQ 60 ⟨H.scope.names,P8,kV (cF .Text).slots⟩ i (cA .Text) BR A
noncomputable def FE(a:QF):P6:=(xh a .Text).any λk=>TK a (CA .Text)&&Qd (Rf a (.ref k)=S (.type "function"))&&I5 a k (cF .Text).aY (cF .Text).dt (kV (cF .Text).slots) OH
noncomputable def sW(a:QF):P6:=Hz a&&FE a&&Em a 25 E' Kg&&Em a 24 C1 Ki&&Em a 52 jG Kj&&Em a 59 rK Kk&&(a.lookup RC).isSome
structure qW(K:QF)(g₀:Qb)(p:Qz)(loose:V Qc)(mg mb:Qc->O P'):Prop extends Base K g₀ p loose mg mb where
 text:FE K=P4
 KO:Em K 25 E' Kg=P4
 Jk:Em K 24 C1 Ki=P4
 OI:Em K 52 jG Kj=P4
 OJ:Em K 59 rK Kk=P4
theorem qW.of(g:v.In e)(U:TopRead P cv cx cw e)(B:sW v=P4):qW v e P cv cx cw:=by refine hF λf=>?_;unfold sW at B;simp only[Ws] at B;refine bT B λbP a=>?_;obtain⟨⟨⟨⟨⟨G,p⟩,t⟩,L⟩,l⟩,X⟩:=bP;refine eK (Xo.mp a) λz y=>?_;refine f ?_;exact⟨Base.of g U ⟨z,g _ _ y⟩ G,p,t,L,l,X⟩
theorem sN.less(U:sN h a e q jb rz)(B:q<=bj):sN h a e bj jb rz:=λb l J L y x d w R=>U b l J L y x d w (R.less B)
theorem sN.only(U:sN h a e q jb rz):∀r,sN h a e q r (only jb rz r):=λr=>by
 by_cases D:r=jb;·refine R D ?_;rw[Mine.Lake.only];refine R (Qk rfl) ?_;exact U
 ·rw[Mine.Lake.only];refine R (Qm D) ?_;intro b l J L y x d w _ _ _ _ M Y;cases Y
theorem BU{k:Qr}{D:NV}(A:Gr v e P cv cx cw)(o:vY v)(C:kU h k e N i q)(R:bA N (q+1) f l)(z:iH E c)(B:Kf ng E ao D=P4):qN h k e l c E.sl f (HB i D) ao:=by
 induction D using NV.casesOn with
 |a D=>exact qN.KY (fX A o C R ng E c _ z B)
 |rF D=>
  exact k0 (fJ ao) B λb B=>k1 (P:=λn=>qN h k e l c E.sl f _ (.Call n _ [] _)) (bG b.1) B λJ P B=>k0 (P:=λn=>qN h k e l c E.sl f _ (.Call _ n [] _)) (tm b.2.1) B λY B=>Aq B λG p t L=>
   dE G▸qN.rF A (Cx.qR z o p) (fX A o C R ng E c _ z L) t
theorem BW{d:Qo}{c:Cx}(A:Gr v e P cv cx cw)(o:vY v)(C:kU h a e N i q)(R:bA N (q+1) f l)(y:Z)(z:iH c d):∀{j:V NV} {b:V Qn},BQ y c de j9 j b=P4->ua h a e l d c.sl f de j9 (j.map (HB i)) b:=by
 induction j9 with
 |nil=>exact λB=>an B λG p=>Wt.mp G▸Wt.mp p▸.nil
 |cons r j9 k=>
  intro j b B
  induction j using U5 with
  |nil=>exact bF B
  |cons D j=>induction b using U5 with
   |nil=>exact bF B
   |cons I b=>
    exact k1 (P:=λI=>ua h a e l d c.sl f de _ _ (I :: _)) (hT I) B λM P B=>k1 (P:=λK=>ua h a e l d c.sl f de _ _ (.Assign [K] _ _ :: _)) (hH M.1) B λK P B=>
     k1 (P:=λK=>ua h a e l d c.sl f de _ _ (.Assign [.Attribute K _ _] _ _ :: _)) (bG K.1) B λn P B=>Aq B λG p t L=>dE G▸(dE p▸.cons (BU A o C R z t) (k L))
theorem En(K:qW v e P cv cx cw):sN h a e 22 (.cls .Text) (uh gE):=by
 intro b Y a0 L y M d w R s B I q D;refine hF λC=>?_;unfold uh at D;refine oA (Mine.Lake.bindArgs (cF .Text).aY (cF .Text).dt (cF .Text).slots.length (.none :: L)) (λm=>?_) (λT m=>?_);·replace D:=m▸D;cases D
 ·replace D:=m▸D;refine aM (cG D) λcQ l o=>?_;clear D;obtain⟨n,X⟩:=cQ;obtain rfl:=KR o;refine aM (QR K.text) λk g J=>?_;refine jO J λG p t=>?_;refine Gh (qT (w:=a) K.G.X t) λH z A U r=>?_;refine aM (QR r.ok) λi E ok=>?_;refine C ?_;exact jO ok λk1 f j=>Bq K.G (by decide) r.facts R rfl G (sV g) (Qj p) r.get r.dat K.G.T.nolimit r.code r.Ka (r.len.symm▸r.J9) (r.len.symm▸r.K3) (vF E) (Qj k1) (bQ f) s B I (r.len.symm▸(mM (cF .Text).slots).symm▸m) rfl l λx=>
   BW (c:=⟨H.scope.names,P8,kV (cF .Text).slots⟩) K.G K.go (vG K.toBase 10) R.make 60 (mK rfl rfl) j
theorem ui{m:Z}(K:qW v e P cv cx cw){f:dV}{E:qU}{j:Key->NF}(B:Em v H f E=P4)(Y:∀H,sN h a e (20+m) H (j H)):sN h a e (20+m+2) (.fn H) (CX f (dG gE j E)):=by
 intro b l J L y x d w R s I C q D;refine hF λt=>?_;unfold CX at D;refine oA (Mine.Lake.bindArgs f.aY f.dt f.slots.length L) (λi=>?_) (λg i=>?_);·replace D:=i▸D;cases D
 ·replace D:=i▸D;refine aM (cG D) λeA G o=>?_;obtain⟨k,T,X⟩:=eA;obtain rfl:=KR o;refine Gh (qT (w:=a) K.G.X B) λp z A U r=>?_;refine t ?_;refine DS r.facts R r.get r.dat K.G.T.nolimit r.code r.Ka (r.len.symm▸r.J9) (r.len.symm▸r.K3) s I C (r.len.symm▸(mM f.slots).symm▸i) G λM=>?_;exact BO (c:=⟨p.scope.names,P8,kV f.slots⟩) K.G K.go K.gy (⟨λb l J n L y x d w R=>(vG K.toBase 10).run b l J n L y x d w (R.less (Vu 20 m))⟩) Y R.deeper r.facts.kind rfl rfl 59 E A r.ok
theorem HC(K:qW v e P cv cx cw):sN h a e 30 (.fn 59) Kl:=by exact ui (m:=8) K K.OJ (sN.only (ui (m:=6) K K.OI (sN.only (ui (m:=4) K K.Jk (sN.only (ui (m:=2) K K.KO (sN.only (En K))))))))
end
section
open PySem PySem.W PySem.Calls PyProof.Rows
section
open PySem.SeqAt
noncomputable def yy:Ctx:=⟨.builtin "claim.caller" {},N,N,[],N⟩
theorem zG:Nd yy Ta:=⟨caller_in,by decide +kernel,λM H=>by cases H⟩
theorem xk:bA N 30 Ta []:=⟨rfl,rfl,by decide +kernel,by decide +kernel⟩
theorem HD{prog:Qz}{w:Qr}{t:Qt Fin}{d:Qh}{R:Q9->Qh->Prop}(Y:d.asleep)
  (B:eV (Qe prog w) Ta t (λp m=>∃r,p=.done r/\R (.ok r) m/\UX m.gens=P8) (λD m=>R (.error D) m/\UX m.gens=P8) d) :
  ∃q j m i,schedN (Sw Rj) prog w q (.single d ⟨t,.builtin "claim.caller" {},default,[]⟩)=.halted (outcomeOf j) i/\PySem.runN (Sw Rj) prog w q d ⟨t,.builtin "claim.caller" {},default,[]⟩=.halted (outcomeOf j) i/\i.forget=m.forget/\R j m:=
 wp_halts_full (M:=Qe prog w) (R:=R) (c:=.builtin "claim.caller" {}) Y (WI _ _ _ (λU U U n=>by obtain⟨r,rfl,n⟩:=n;exact n) (λU U U n=>n) _ _ (B yy default zG))
end
section
open PySem.SeqAt
abbrev LR:OpenRow:=PySem.Challenge.rw_nt0500_01.row
theorem Eo{R:WRecords}:∀{U:V RI},Tb.hasItems R U .int=P4->∃i:V P5,U=i.map .int:=by
 intro U;induction U with
 |nil=>exact λ_=>⟨[],rfl⟩
 |cons y U k=>intro B;refine bT (Vi.mp (show(Tb.has R y .int&&Tb.hasItems R U .int)=P4 from B)) λG p=>eK (k p) λi M=>?_;clear B p k;subst M;refine hF λJ=>?_;induction y using RI.casesOn<;>first|exact J ⟨_ :: i,rfl⟩|exact bF G
variable{b:Qr}{c:O P'}{e:Qb}{d:V RI}{f:V Qc}{a:Qz}
theorem zH{B:SP}{x:cS}:∀{i:V P5} {w:V P'},WellAll b.params e w (i.map .int)->bU b.params B x (i.map .int) w:=by
 intro i;induction i with
 |nil=>intro w n;cases n;exact .nil
 |cons s i a=>intro w n;refine rL (UY n) λC I M L E=>eK (P'.isInt_shape ((encInt LR.prog b).is L).1) λK D=>?_;clear n L;subst M D;exact .cons (.int _ _) (a E)
theorem HE{i:Rb}{C:P'}{y:RI}(I:Well i e C y):(match y with|.list b=>∃L w,C=.ref L/\e.get? L=S {cls:=.type "list",data:=.seq w.toArray}/\WellAll i e w b|_=>Qw):=by induction I using W.Well.casesOn<;>first|exact Vo|exact⟨_,_,rfl,by assumption,by assumption⟩
theorem zI:((LR.name,GV.fn 59):Qc×GV)∈DX:=oK (by decide +kernel)
theorem HF{R:WRecords}{t:WTm}{D:WCtx}{E:P6}(C:t.value R D=S (.bool E))(B:t.holds R D=P4):E=P4:=by
 unfold WTm.holds at B;rw[C] at B;induction E using U6 with
 |false=>exact bF B
 |true=>rfl
set_option tactic.hygienic true in
theorem BX(B:LR.toRowW.claim.pre d=P4):∃k:V P5,d=[.list (k.map .int)]/\k.length<=63:=by
 refine hF λf=>bT (pre_splitW B) λG p=>rL (hasAllW_cons G) λy g cQ a L=>?_;subst cQ;induction g using U5 with
 |cons _ _=>exact bF L
 |nil=>
  induction y using RI.casesOn with
  |list U=>
   refine eK (Eo (R:=LR.records) ((P6.or_false ..).symm.trans (show(Tb.hasItems LR.records U Tb.int||P8)=P4 from a))) λk eA=>?_;subst eA;refine f ⟨k,rfl,?_⟩;have X:(!Qd ((63:P5)<((k.map RI.int).length:Z)))=P4:=HF (t:=WTm.not (.lt (.lit (.int 63)) (.len (.arg 0)))) rfl (holds_andW p).1;rw[U1] at X;refine z9 (Qd ((63:P5)<(k.length:Z))) (λq=>?_) (λq=>?_);·exact Wb.mp (WU.mp (Ux q))
   ·rw[q] at X;exact bF X
  |_=>exact bF a
theorem BY{q:Qz}{XP:(Qc->O P')->Qb->Prop}{h G:Qh}{M mb:Qc->O P'}(a0:∀k:V P5,k.length<=63->∃y,Km k=.ok (.bool P4,y))
  (A:Ground q f LR.records XP b h M mb G.heap) (l:∃a:QF,a.In G.heap/\sW a=P4)  {w:V P'} {c:V Qa} (a1:LR.toRowW.claim.pre d=P4) (x:Laid LR.records b h G d w c) :
  ∃r,M LR.name=S r/\codeN (Qe LR.prog b) Ta (.call r ⟨w,[]⟩) (λj m=>(∃C,j=.ok (.ret C))/\GoodWG LR.toRowW.claim (classAt h.heap) (ExcName.means h.heap) d G j m) G:=by
 refine hF λi=>aM (BX a1) λk eZ hl=>?_;subst eZ;refine aM l λa g hK=>?_;have K:qW a G.heap q _ M mb:=qW.of g (topRead_of A.T) hK;refine eK (a0 k hl) λy D=>rL (UY x.well) λC I q L E=>rL (HE L) λp e q2 o Y=>?_;clear L;subst q q2;cases E;refine i ⟨.ref (FA 59),?_,gP (HC K [] [] Ta [.lst (k.map .int)] {} {} G _ xk ?_ ⟨λD H=>by cases H⟩ (.cons (.lst _ _ _ 0 ⟨o,?_,?_⟩ ?_) .nil) _ D) λj m n=>?_⟩;·exact mg_of K.G.X K.G.T.g ((K.go _ zI).1.1)
 ·exact⟨λE z D=>⟨D,by show E∉[];exact VT⟩,.nil,(λL H=>by cases H),(λL H=>by cases H),⟨rfl,rfl,rfl,rfl,(λX w L D=>by exact nX D),(λX w L D=>by exact nX D),(λX w L D=>by exact nX D),λX P q D=>by exact nX D⟩⟩
 ·show _∉[];exact VT
 ·exact VT
 ·exact zH Y
 ·rcases j with a2|(C|_|_|_)<;>try exact n.elim
  refine hF λs=>eM n λa' v J T o1 v1=>?_;cases T;cases v1;refine rC o1.eq λh' B g6=>?_;subst g6;refine s ⟨⟨_,rfl⟩,.inl ⟨.bool P4,.bool P4,[],rfl,λt=>rfl,.bool P4,?_,λU=>⟨.nil,λL H=>by cases H⟩⟩,OldK.of_keep λE z D=>(o1.inv.keep E z D).1,rfl,.of_eq x.gens⟩;refine Vi.mpr ⟨rfl,?_⟩;show(WTm.eq .res (.lit (.bool P4))).holds _ _=P4;dsimp only[WTm.holds,WTm.value];rw[show W.same (RI.bool P4) (RI.bool P4)=P4 from by simp[W.same]]
end
noncomputable def pJ(t:RA->O QM)(P:Qz)(k:Qr)(n:Z)(a:O P'):Z->Rz->Thread->O Rz
 |0,_,_=>N
 |q+1,d,K=>match TL K with
  |true=>S d
  |false=>match stepOk n a K with
   |false=>N
   |true=>match stepT (Sw t) P k d K with
    |some (m,y)=>pJ t P k n a q m y
    |none=>N
variable{b:Qr}{c:O P'}{e:Qb}{d:V RI}{f:V Qc}{a:Qz}
theorem xl{t:RA->O QM}{n:Z}:∀{q:Z} {d m:Rz} {K:Thread},pJ t a b n c q d K=S m->Sx t a b n c q d.abs K=S m.abs:=by
 intro q;induction q with
 |zero=>intro _ _ _ B;cases B
 |succ q f=>
  intro d m K B
  replace B:(match TL K with
   |true=>S d
   |false=>match stepOk n c K with
    |false=>N
    |true=>match stepT (Sw t) a b d K with
     |some (m,y)=>pJ t a b n c q m y
     |none=>N)=S m:=B
  show(match TL K with
   |true=>S d.abs
   |false=>match stepOk n c K with
    |false=>N
    |true=>match step (Sw t) a b d.abs K with
     |.go m y=>Sx t a b n c q m y
     |.halt _ _=>N)=_
  induction D:TL K using U6 with
  |true=>rw[D] at B;cases B;rfl
  |false=>
   rw[D] at B
   induction e:stepOk n c K using U6 with
   |false=>rw[e] at B;cases B
   |true=>
    rw[e] at B
    induction l:stepT (Sw t) a b d K using U0 with
    |none=>rw[l] at B;cases B
    |some M=>obtain⟨o,U⟩:=M;rw[l] at B;dsimp only at B⊢;rw[stepT_spec l];exact f B
noncomputable def treeOf:V Qs->Z->BT->BT
 |[],_,U=>U
 |z :: x,q,U=>treeOf x (q+1) (U.ins q z)
noncomputable def BZ(i:Rb):BT:=treeOf (Rp i).objs.toList 0 .nil
noncomputable def OK:V Z:=[3,1,593,592,72,93,114,147,168,312,333,52,36,359,20,21,29,35,38,39,51,62,68,69,71,89,90,92,110,111,113,131,132,138,139,143,144,146,164,165,167,178,179,180,186,187,193,194,195,201,202,203,209,210,216,217,223,224,230,231,237,238,244,245,251,252,258,259,265,266,272,273,279,280,286,287,293,294,302,308,309,311,329,330,332,350,351,357,358,365,366,372,373,379,380,386,387,393,394,400,401,407,408,410,411,428,429,435,436,442,443,449,450,456,457,463,464,470,471,477,478,484,485,491,492,494,495,505,511,512,518,519,525,526,532,533,539,540,546,547,553,554,560,561,567,568,574,575,576,582,583,589,590,601,602,608,609,613,614,620,621,625,626,632,633,637,638,642,643,649,650,656,657]
noncomputable def B0(d:Rz):QF:=(OK.filter λL=>Z.blt L d.n).filterMap λL=>((d.tree.get L).bind alive).map λz=>(L,z)
set_option tactic.hygienic true in
theorem uj{f:Z->O Qs}{L:Z}{z:Qs}:∀{l:V Z},(l.filterMap λL=>(f L).map λz=>(L,z)).lookup L=S z->L∈l/\f L=S z:=by
 intro l;induction l with
 |nil=>intro B;cases B
 |cons I l b=>
  intro B
  rw[WQ] at B
  induction D:f I using U0 with
  |none=>rw[D] at B;obtain⟨G,p⟩:=b B;exact⟨.tail _ G,p⟩
  |some i=>
   rw[D] at B;change Xd L ((I,i) :: _)=S z at B;rw[VX] at B;split at B;·rename_i M;obtain rfl:=Ra.mp M;cases B;exact⟨.head _,D⟩
   ·obtain⟨G,p⟩:=b B;exact⟨.tail _ G,p⟩
theorem B1(d:Rz):(B0 d).In d.abs.heap:=λL z D=>by
 obtain⟨G,p⟩:=uj (f:=λL=>(d.tree.get L).bind alive) D;induction o:d.tree.get L using U0 with
 |none=>rw[o] at p;cases p
 |some i=>rw[o] at p;exact(abs_get (Zd.mp (WY.mp G).2) o).trans p
abbrev PR:Qz:=PySem.Challenge.pw_nt0500_01
noncomputable def lF:Qz:={PR with main:={PR.main with body:=PR.main.body.drop 49}}
noncomputable def kA:V Qc:=(["_wall","GRAIN","PostError","PsError","READ_ONLY","UNLIMITED","Thing","Text","Row","DictBody","Span","integer"]:V Qc)++(["name","null","of_string","of_row","of_dict","is_number","in_millionths","is_in_array","body_of","is_local","access_of","can_read"]:V Qc)++(["octets_of_span","thing_octets","key_of","key_thing","ITEM_COST","ENTRY_COST","MOST_COST","Limits","VmSave","BodyMaker","BodyChanger","Memory"]:V Qc)++(["memory_check_many","memory_put_back","_law_made","_law_thing","_law_changed","_law_restored","_law_saved","_law_is_so","_law_refused"]:V Qc)
noncomputable def OL(i:Rb)(e:Sa):Rz:=⟨BZ i,11,{},Xc [],TM,TN,e⟩
theorem zJ:(λi=>absHeap (BZ i) 11 {})=λi=>Rp i:=rfl
noncomputable def topG(P:Qz)(k:Qr)(d:Rz):O Rz:=pJ RW P k 11 (S (.ref 6)) 4900 d (Tc P)
noncomputable def lookG(P M:Qz)(l:V Qc)(h:Qb)(d:Rz):=(TO (R9 P.main.body) h d.abs.heap&&TP P d.abs.heap&&TQ d.abs&&TR h d.abs.heap,openSeen M l (R9 P.main.body) (λU=>P4) P4 d.abs)
noncomputable def goodG(M:Qz)(l:V Qc):=TS M l
set_option maxHeartbeats 0 in
lay_quick Mine.Lake.topG Mine.Lake.lookG Mine.Lake.goodG
set_option maxHeartbeats 0 in
theorem HG:(λ(k:Qr) (e:Sa)=>(PySem.W.Fast.tw13822506690625674060 PR k (OL k.params e)).map λd=>(PySem.W.Fast.tw4248594712607919379 PR lF kA (Rp k.params) d,sW (B0 d)))=λU U=>S ((P4,PySem.W.Fast.tw11905219005740949937 lF kA),P4):=by kernel_rfl
theorem Ep(k:Qr)(e:Sa):∃d:Rz,Sx RW PR k 11 (S (.ref 6)) 4900 ⟨Rp k.params,Xc [],TM,TN,e⟩ (Tc PR)=S d.abs/\lookG PR lF kA (Rp k.params) d=(P4,TS lF kA)/\sW (B0 d)=P4:=by refine hF λf=>?_;have D:=RX (RX HG k) e;rw[<-PySem.W.Fast.te13822506690625674060,<-PySem.W.Fast.te4248594712607919379,<-PySem.W.Fast.te11905219005740949937] at D;obtain⟨d,G,p⟩:=VA.mp D;refine f ⟨d,?_,(QU.mk.inj p).1,(QU.mk.inj p).2⟩;have:=xl G;rw[<-this];show _=Sx RW PR k 11 (S (.ref 6)) 4900 ⟨absHeap (BZ k.params) 11 {},Xc [],TM,TN,e⟩ (Tc PR);rw[RX zJ k.params]
noncomputable def YH(B:Qb):Prop:=∃a:QF,a.In B/\sW a=P4
theorem Er{M:Qz}{i:Z}{h:Rb->Qb}{j:Drawn}{l:Z}{p:Z}
  (o:∀k:Qr,(fencedOpening RW a k i).map (λd=>(d.heap,d.gens,d.drawn,d.toks))=S (h k.params,Xc [],j,l))
  (s:(λk:Qr=>((h k.params).isNs QO&&(Xc []:Qi GenState).size==0,(h k.params).objs.size,(h k.params).nsMap QO "__annotations__"))=λU=>(P4,p,c))
  (g:∀(k:Qr) (e:Sa),∃d:Qh,Sx RW a k p c i ⟨h k.params,Xc [],j,l,e⟩ (Tc a)=S d/\(TO (R9 a.main.body) (h k.params) d.heap&&TP a d.heap&&TQ d&&TR (h k.params) d.heap)=P4/\openSeen M f (R9 a.main.body) (λU=>P4) P4 d=TS M f/\YH d.heap) :
  LeftO a M f (λU=>P4) (λd=>YH d.heap) (λU=>Qw) i:=λk=>by
 obtain⟨⟨B,G,y,X,e⟩,D,T⟩:=VA.mp (o k);obtain⟨rfl,rfl,rfl,rfl⟩:B=h k.params/\G=Xc []/\y=j/\X=l:=by simpa using T
 obtain⟨b,q,m⟩:_/\_/\_:=by simpa only[QU.mk.injEq] using RX s k
 obtain⟨d,x,l1,l2,n⟩:=g k e;have K:topFrom RW a k i ⟨h k.params,Xc [],y,X,e⟩=S d:=by unfold topFrom;dsimp only;rw[b,q,m,x];show(match TO (R9 a.main.body) (h k.params) d.heap&&TP a d.heap&&TQ d&&TR (h k.params) d.heap with|true=>_|false=>_)=_;rw[l1]
 unfold openEnds;rw[D];show(topFrom RW a k i _).map _=_;rw[K];exact Ql S (QU.ext l2 (eq_true n))
theorem zK:(λk:Qr=>((Rp k.params).isNs QO&&(Xc []:Qi GenState).size==0,(Rp k.params).objs.size,(Rp k.params).nsMap QO "__annotations__"))=λU=>(P4,11,S (.ref 6)):=by kernel_rfl
theorem Et:opening PR=plainProg PR.main.scope.names:=by kernel_rfl
theorem B2(d:Qh):fenceModules? PR d=S d:=rfl
theorem HH(k:Qr)(e:Sa):∃d:Qh,Sx RW PR k 11 (S (.ref 6)) 4900 ⟨Rp k.params,Xc [],TM,TN,e⟩ (Tc PR)=S d/\(TO (R9 PR.main.body) (Rp k.params) d.heap&&TP PR d.heap&&TQ d&&TR (Rp k.params) d.heap)=P4/\openSeen lF kA (R9 PR.main.body) (λU=>P4) P4 d=TS lF kA/\YH d.heap:=by refine hF λi=>?_;obtain⟨d,x,l,n⟩:=Ep k e;obtain⟨l1,l2⟩:=QU.mk.inj l;exact i ⟨d.abs,x,l1,l2,_,B1 d,n⟩
theorem Kn:LeftO PR lF kA (λU=>P4) (λd=>YH d.heap) (λU=>Qw) 4900:=Er (boot_open Et (by decide) B2) zK HH
end
section
open Mine.Lake.AV renaming casesOn->Zp
open Mine.Lake.Res renaming casesOn->Zq
open Mine.Lake renaming AV->Q
set_option genCtorIdx true in
inductive Kq|row|dict|text
 deriving R'
open Mine.Lake.Kq renaming casesOn->Zr
structure Bd where
 k:Kq
 num:Z
 g:P6
 lv:Z
 d:Z
 a:Z
structure Ct where
 df:V P5
 en:V (Z×P5)
 acc:P5
 most:P5
inductive Un|item(at_:Z)(v:P5)|most(m:P5)|acc(a:P5)|ent(w:Z)(o:O P5)|drop(w:Z)(v:P5)(ks:V Z)
noncomputable def cU{a:Type}(k:Z):V (Z×a)->O a
 |[]=>N
 |P :: x=>if P.1=k then S P.2 else cU k x
noncomputable def fH{a:Type}(k:Z)(C:a):V (Z×a)->V (Z×a)
 |[]=>[(k,C)]
 |P :: x=>if P.1=k then(P.1,C) :: x else P :: fH k C x
noncomputable def lN{a:Type}(k:Z):V (Z×a)->V (Z×a)
 |[]=>[]
 |P :: x=>if P.1=k then x else P :: lN k x
variable{t ak:Type}{X:Z->Q}{i:Z}{bj:P5}{ap bh K aq ah bx:Z}{g5 fh fi:O Q}{g:CF}{ae:Key->NF}{r:V Bd}{p:Z->Bd}{z:Z->Ct}{f cn ft:Loc}{a U:AH}{g8:O Q}{n:V Q}{j s:AH}{cz cj bg ag bf du:Q}{au:AH}{A dm gb bq bp aw:LE}{bz dv fy fv ew:fD}{l:Q}{ai:V Q}{aa:Z}{y bu C fj db:Q}{b bc:Bd}{d bm:Ct}{az:Un}{m:Z->Z}{af cg fe:P5}{ax:V Z}{bn:V Q}{dw:Q}{P:V Q}{cu:Res (Q×AH)}{J cv:Res (Fl×Loc×AH)}{ec:LE}{gg:LO}{gh:V Z}{o q x v da:Z}{fm:Key}{w:P6}{ca gj:qU}{et:NE}{bk:jL}{E:Src}{cy:jL}{dz:Z->Q->Loc->AH->Res (Fl×Loc×AH)}{gu:Loc->AH->Res (Fl×Loc×AH)}{fu:Q->AH->Res (O Q×AH)}{T G:Z}{di:Z->Kq}{am:P5}{Y bw:Z}{cx:AH}{ff:Z}{cm:V Z}{dy:jL}{fq:LS}{gn:jL}{ao ay:P5}{fc:O Q}{dg c9:V Q}{cw:P6}{gw:V (Q×Q)}{gz:gV×V Q}{i5:V P5}{gp:Kq}{g4:Z}{fg dh:AH}{g9:Loc}{be:V Q}{gr gq:Q}
theorem mN{P:Z×t}{x:V (Z×t)}:cU i (P :: x)=if P.1=i then S P.2 else cU i x:=rfl
theorem vI{C:t}{P:Z×t}{x:V (Z×t)}:fH i C (P :: x)=if P.1=i then(P.1,C) :: x else P :: fH i C x:=rfl
theorem FF{P:Z×t}{x:V (Z×t)}:lN i (P :: x)=if P.1=i then x else P :: lN i x:=rfl
noncomputable def jI:Un->Ct->Ct
 |.item s C,A=>{A with df:=A.df.set s C}
 |.most H,A=>{A with most:=H}
 |.acc L,A=>{A with acc:=L}
 |.ent k N,A=>{A with en:=lN k A.en}
 |.ent k (S C),A=>{A with en:=fH k C A.en}
 |.drop k C e,A=>{A with en:=e.map λX=>(X,if X=k then C else(cU X A.en).getD 0)}
noncomputable def B3(X:Kq):Un->Ct->Prop
 |.item s _,A=>X=.row/\s<A.df.length
 |.most H,_=>X=.dict/\H=2
 |.acc _,_=>X=.dict
 |.ent k _,A=>X=.dict/\(cU k A.en).isSome=P4
 |.drop k _ e,A=>X=.dict/\e.Nodup/\(∀v∈e,v≠k->(cU v A.en).isSome=P4)/\e.length<=3
noncomputable def upd{j:Type}(r:Z->j)(q:Z)(C:j):Z->j:=λs=>if s=q then C else r s
theorem bO{r:Z->ak}{C:ak}:upd r q C q=C:=Qk rfl
theorem dD{r:Z->ak}{C:ak}(B:v≠q):upd r q C v=r v:=Qm B
set_option tactic.hygienic true in
theorem vJ{r:Z->ak}{C:ak}:upd (upd r q C) q (r q)=r:=by
 funext s;unfold upd;split;·rename_i B;rw[B]
 ·rfl
theorem vK{r:Z->ak}{C i:ak}(B:q≠x):upd (upd r q C) x i=upd (upd r x i) q C:=by
 funext s;unfold upd;by_cases G:s=q;·refine R G ?_;simp[B]
 ·simp[G]
noncomputable abbrev Jo:=V (Z×Un)
noncomputable def oM(a:Z->Ct):Jo->Z->Ct
 |[]=>a
 |(q,i) :: x=>oM (upd a q (jI i (a q))) x
noncomputable def uF(T:Z->Kq)(a:Z->Ct):Jo->Prop
 |[]=>Qw
 |(q,i) :: x=>B3 (T q) i (a q)/\uF T (upd a q (jI i (a q))) x
variable{H aj:Jo}
theorem Eu:∀{a:Z->Ct} {M:Jo},oM a (aj++M)=oM (oM a aj) M:=by
 induction aj with
 |nil=>exact rfl
 |cons M aj k=>exact k
theorem uk:∀{a:Z->Ct} {M:Jo},uF di a (aj++M)↔uF di a aj/\uF di (oM a aj) M:=by
 induction aj with
 |nil=>exact⟨λB=>⟨trivial,B⟩,λB=>B.2⟩
 |cons M aj k=>exact⟨λB=>⟨⟨B.1,(k.mp B.2).1⟩,(k.mp B.2).2⟩,λB=>⟨B.1.1,k.mpr ⟨B.1.2,B.2⟩⟩⟩
theorem yz:∀{a:Z->Ct},(∀M∈aj,M.1≠q)->oM (upd a q d) aj=upd (oM a aj) q d:=by
 induction aj with
 |nil=>exact λ_=>rfl
 |cons M aj k=>intro a B;have i:=B _ (.head _);show oM (upd (upd a q d) M.1 (jI M.2 (upd a q d M.1))) aj=_;refine R (dD i) ?_;refine R (vK (Wd i)) ?_;exact k λM e=>B M (.tail _ e)
theorem yA:∀{a:Z->Ct},(∀M∈aj,M.1≠q)->uF di a aj->uF di (upd a q d) aj:=by
 induction aj with
 |nil=>exact λ_ _=>trivial
 |cons M aj k=>intro a B X;have i:=B _ (.head _);show B3 _ _ (upd a q d M.1)/\uF di (upd (upd a q d) M.1 (jI M.2 (upd a q d M.1))) aj;refine R (dD i) ?_;refine R (vK (Wd i)) ?_;exact⟨X.1,k (λM e=>B M (.tail _ e)) X.2⟩
theorem HI:∀{a:Z->Ct},(∀M∈aj,M.1≠q)->oM a aj q=a q:=by
 induction aj with
 |nil=>exact λ_=>rfl
 |cons M aj k=>exact λB=>(k λM e=>B M (.tail _ e)).trans (dD (Wd (B _ (.head _))))
theorem um{C:t}:∀{l:V (Z×t)},cU v (fH i C l)=if v=i then S C else cU v l:=by
 intro l;induction l with
 |nil=>
  show(if i=v then S C else N)=_
  by_cases B:i=v
  ·exact R B rfl
  ·refine(Qm B).trans ?_;exact R (Qm (Wd B)) rfl
 |cons P x b=>
  refine R vI ?_;by_cases B:P.1=i
  ·refine R (Qk B) ?_;show(if P.1=v then S C else cU v x)=if v=i then S C else if P.1=v then S P.2 else cU v x;by_cases p:v=i;·exact R (Qk p) ((Qk (B.trans p.symm)))
   ·refine R (Qm p) ?_;refine(Qm (λD=>p (D.symm.trans B))).trans ?_;rw[Qm (λD=>p (D.symm.trans B))]
  ·refine R (Qm B) ?_;show(if P.1=v then S P.2 else cU v (fH i C x))=if v=i then S C else if P.1=v then S P.2 else cU v x;refine R b ?_;by_cases p:P.1=v;·rw[Qk p,Qk p,Qm (λD=>B (p.trans D))]
   ·rw[Qm p,Qm p]
theorem B4{C z:t}:∀{l:V (Z×t)},cU i l=S z->fH i z (fH i C l)=l:=by
 intro l;induction l with
 |nil=>intro B;exact nX B
 |cons P x b=>
  intro B;rw[mN] at B;show fH i z (if P.1=i then(P.1,C) :: x else P :: fH i C x)=_;by_cases D:P.1=i;·rw[Qk D] at B;refine R (Qk D) ?_;refine(Qk D).trans ?_;rw[<-VH B]
  ·rw[Qm D] at B;refine R (Qm D) ?_;refine(Qm D).trans ?_;refine R (b B) rfl
theorem kN{C:t}{l:V (Z×t)}:cU i l=N->fH i C l=l++[(i,C)]:=by
 induction l with
 |nil=>exact λ_=>rfl
 |cons P x k=>
  intro B;by_cases D:P.1=i;·exact nX (B.symm.trans (Qk D))
  ·exact(Qm D).trans (Ql _ (k ((Qm D).symm.trans B)))
theorem B5{C:t}{l:V (Z×t)}:cU i l=N->lN i (fH i C l)=l:=by
 induction l with
 |nil=>exact λ_=>Qk rfl
 |cons P x k=>
  intro B;by_cases D:P.1=i;·exact nX (B.symm.trans (Qk D))
  ·refine R vI ?_;refine R (Qm D) ?_;refine FF.trans ?_;refine(Qm D).trans ?_;refine R (k ((Qm D).symm.trans B)) rfl
theorem uo{C:t}{l:V (Z×t)}(B:(cU i l).isSome=P4):(fH i C l).length=l.length:=by
 induction l with
 |nil=>cases B
 |cons P x k=>
  rw[mN] at B;refine R vI ?_;by_cases M:P.1=i;·exact R (Qk M) rfl
  ·rw[Qm M] at B;refine R (Qm M) ?_;refine V'.trans ?_;exact R (k B) rfl
theorem mO:∀{l:V (Z×t)},(cU i l).isSome=P4↔i∈l.map (·.1):=by
 intro l;induction l with
 |nil=>exact Qj rfl
 |cons P x b=>
  refine R mN ?_;refine R Vt ?_;rw[U4];by_cases D:P.1=i;·exact R (Qk D) ⟨λU=>.inl D.symm,λU=>rfl⟩
  ·exact R (Qm D) (b.trans ⟨.inr,λB=>B.resolve_left (Wd D)⟩)
theorem qX{l:V (Z×t)}:cU i l=N↔i∉l.map (·.1):=by rw[<-mO];induction(cU i l) using U0<;>simp
theorem iY:∀{l:V (Z×t)},(l.map (·.1)).Nodup->lN i l=l.filter λP=>Qd (P.1≠i):=by
 intro l;induction l with
 |nil=>intro _;rfl
 |cons P x b=>
  intro B;rw[Vt,Vl] at B;by_cases D:P.1=i;·refine(Qk D).trans ?_;refine R WO ?_;refine R (Qm (by simp[D])) ?_;refine(XM.mpr λM e=>?_).symm;have:M.1≠i:=λY=>B.1 (D▸Y▸Vr e);simp[this]
  ·refine(Qm D).trans ?_;refine R WO ?_;refine R (Qk (by simp[D])) ?_;refine R (b B.2) rfl
theorem yB(B:v≠i):∀{l:V (Z×t)},cU v (lN i l)=cU v l:=by
 intro l;induction l with
 |nil=>
  rfl
 |cons P x b=>
  show cU v (if P.1=i then x else P :: lN i x)=if P.1=v then S P.2 else cU v x
  by_cases D:P.1=i
  ·refine R (Qk D) ?_;rw[Qm (λY=>B (Y.symm.trans D))]
  ·refine R (Qm D) ?_;show(if P.1=v then S P.2 else cU v (lN i x))=_;refine R b rfl
theorem zL{l:V (Z×P5)}(K:(l.map (·.1)).Nodup)(B:cU i l=S am):(l.map (·.1)).map (λX=>(X,if X=i then am else(cU X (lN i l)).getD 0))=l:=by
 have n:∀{H:V (Z×P5)},(H.map (·.1)).Nodup->(∀M∈H,cU M.1 l=S M.2)->(H.map (·.1)).map (λX=>(X,if X=i then am else(cU X (lN i l)).getD 0))=H:=by
  intro H _ a;refine V8.trans ?_;conv=>rhs;rw[<-Y4 H]
  refine XN λM e=>?_;show(M.1,_)=M;by_cases D:M.1=i;·have:=a M e;rw[D,B] at this;refine R (Qk D) ?_;rw[VH this]
  ·refine R (Qm D) ?_;refine R (yB D) ?_;exact R (a M e) rfl
 refine n K λM e=>?_;clear n B;induction l with
 |nil=>cases e
 |cons P x k=>
  rw[Vt,Vl] at K;refine mN.trans ?_;rcases U4.mp e with rfl|e;·exact(Qk rfl)
  ·refine(Qm (λD:P.1=M.1=>K.1 (D▸Vr e))).trans ((k K.2 e).trans rfl)
theorem B6{C:t}{l:V (Z×t)}(B:(l.map (·.1)).Nodup):((fH i C l).map (·.1)).Nodup:=by
 refine oA (cU i l) (λD=>?_) (λz D=>?_);·refine R (kN D) ?_;refine R Vw ?_;rw[VI];refine gZ B (Qj rfl) (λL c E w=>?_);rw[Vt,YS,UZ] at w;subst w;exact λY=>qX.mp D (Y▸c)
 ·have:∀{H:V (Z×t)},(cU i H).isSome=P4->(fH i C H).map (·.1)=H.map (·.1):=by
   intro H
   induction H with
   |nil=>intro B;cases B
   |cons P x k=>
    intro B;rw[mN] at B;show(if P.1=i then(P.1,C) :: x else P :: fH i C x).map _=_;by_cases Y:P.1=i;·exact R (Qk Y) rfl
    ·rw[Qm Y] at B;refine R (Qm Y) ?_;refine Vt.trans ?_;exact R (k B) rfl
  refine R (this (by refine R D ?_;rfl)) ?_
  exact B
theorem B7{l:V (Z×t)}(B:(l.map (·.1)).Nodup):((lN i l).map (·.1)).Nodup:=R (iY B) (B.sublist (XO.map _))
noncomputable def wd(k:Z):Q:=.bH [97+k]
noncomputable def tI(C:P5):Q:=.obj .Thing [.str 1,.int C,.bool P8,.int 3]
noncomputable def tN(k:Z):Q:=.obj .Thing [.str 2,wd k,.bool P8,.int 3]
noncomputable def kW(k:Z):Q:=.tup [.str 24,wd k]
noncomputable def eN(k:Z)(C:P5):Q:=.tup [tN k,tI C]
noncomputable def lO{a:Type}(k:Z->Q)(v:Z->a->Q)(P:Z×a):Q×Q:=(k P.1,v P.1 P.2)
noncomputable def sY{a:Type}(k:Z):V (Z×a)->O Z
 |[]=>N
 |P :: x=>if P.1=k then S 0 else(sY k x).map (· + 1)
theorem yC{P:Z×t}{x:V (Z×t)}:sY i (P :: x)=if P.1=i then S 0 else(sY i x).map (· + 1):=rfl
theorem B8{v:Z->t->Q}(J:∀L E,eqT (X L) (X E)=S (Qd (L=E))):∀{l:V (Z×t)},fN (X i) (l.map (lO X v))=S (sY i l):=by
 intro l;induction l with
 |nil=>
  rfl
 |cons P x b=>
  show(match eqT (X P.1) (X i) with|some P4=>S (S 0)|some P8=>(fN (X i) (x.map (lO X v))).map (λz:O Z=>z.map (· + 1))|none=>N)=_
  refine R (J ..) (R b ?_)
  show _=S (if P.1=i then S 0 else(sY i x).map (· + 1))
  by_cases D:P.1=i
  ·refine R (Qk D) ?_;rw[Qu D]
  ·refine R (Qm D) ?_;exact R (QJ D) rfl
theorem iI{v:Z->t->Q}(J:∀L E,eqT (X L) (X E)=S (Qd (L=E)))(y:keyOk (X i)=P4){l:V (Z×t)}:fO (X i) (l.map (lO X v))=S (sY i l):=by refine(Qk y).trans ((B8 J).trans rfl)
theorem Ko{kf:Z->Q}{v:Z->t->Q}:∀{l:V (Z×t)},(sY i l).bind (λs=>((l.map (lO kf v))[s]?).map (·.2))=(cU i l).map (v i):=by
 intro l;induction l with
 |nil=>
  rfl
 |cons P x b=>
  refine(oL yC).trans (R mN ?_);by_cases D:P.1=i;·refine R (Qk D) ?_;refine R (Qk D) ?_;show S (v P.1 P.2)=S (v i P.2);rw[D]
  ·refine(oL (Qm D)).trans ?_;refine R (Qm D) ?_;refine R b.symm ?_;induction(sY i x) using U0<;>rfl
theorem pK:∀{l:V (Z×t)},sY i l=N↔cU i l=N:=by
 intro l;induction l with
 |nil=>exact⟨λU=>rfl,λU=>rfl⟩
 |cons P x b=>
  refine R yC (R mN ?_);by_cases D:P.1=i;·refine R (Qk D) ?_;refine R (Qk D) ?_;exact⟨nofun,nofun⟩
  ·refine R (Qm D) ?_;refine R (Qm D) ?_;rw[<-b];induction(sY i x) using U0<;>simp
theorem Kp{v:Z->t->Q}{C:t}:∀{l:V (Z×t)} {s:Z},sY i l=S s->(l.map (lO X v)).modify s (λD=>(D.1,v i C))=(fH i C l).map (lO X v):=by
 intro l;induction l with
 |nil=>intro _ B;exact nX B
 |cons P x b=>
  intro s B;replace B:=yC.symm.trans B;show _=(if P.1=i then(P.1,C) :: x else P :: fH i C x).map _;by_cases D:P.1=i;·rw[Qk D] at B⊢;refine sJ B ?_;exact R D.symm rfl
  ·rw[Qm D] at B⊢;refine oA (sY i x) (λp=>?_) (λa p=>?_);·exact nX (p▸B)
   ·replace B:=p▸B;refine sJ B ?_;refine(V.modify_succ_cons ..).trans ?_;refine R (b p) rfl
theorem Kr{v:Z->t->Q}:∀{l:V (Z×t)} {s:Z},sY i l=S s->(l.map (lO X v)).eraseIdx s=(lN i l).map (lO X v):=by
 intro l;induction l with
 |nil=>intro _ B;exact nX B
 |cons P x b=>
  intro s B;replace B:=yC.symm.trans B;show _=(if P.1=i then x else P :: lN i x).map _;by_cases D:P.1=i;·rw[Qk D] at B⊢;exact sJ B rfl
  ·rw[Qm D] at B⊢;refine oA (sY i x) (λp=>?_) (λa p=>?_);·exact nX (p▸B)
   ·replace B:=p▸B;refine sJ B ?_;refine V.eraseIdx_cons_succ.trans ?_;refine R (b p) rfl
theorem iZ{v:Z->t->Q}(J:∀L E,eqT (X L) (X E)=S (Qd (L=E)))(y:keyOk (X i)=P4){l:V (Z×t)}:dR (l.map (lO X v)) (X i)=S ((cU i l).map (v i)):=by unfold dR;refine R (iI J y) ?_;exact R (Ko (kf:=X)).symm rfl
theorem yD{v:Z->t->Q}{C:t}(J:∀L E,eqT (X L) (X E)=S (Qd (L=E)))(y:keyOk (X i)=P4){l:V (Z×t)}(c:l.length<1000):rG (l.map (lO X v)) (X i) (v i C)=S ((fH i C l).map (lO X v)):=by
 unfold rG;refine R (iI J y) ?_;induction D:sY i l using U0 with
 |some s=>exact Ql S (Kp D)
 |none=>refine(Qk (by refine R (U1 ..) ?_;exact Qu c)).trans ?_;exact R (kN (pK.mp D)) (R Vw rfl)
theorem yE{v:Z->t->Q}(J:∀L E,eqT (X L) (X E)=S (Qd (L=E)))(y:keyOk (X i)=P4){l:V (Z×t)}(I:(cU i l).isSome=P4):yN (l.map (lO X v)) (X i)=S ((lN i l).map (lO X v)):=by
 unfold yN;refine R (iI J y) ?_;induction D:sY i l using U0 with
 |some s=>exact Ql S (Kr D)
 |none=>replace I:=(pK.mp D)▸I;cases I
theorem xm:(([97+Y]:V Z)==[97+bw])=Qd (Y=bw):=by
 by_cases D:Y=bw;·subst D;simp
 ·refine R (QJ D) ?_;simp[D]
theorem oN(L E:Z):eqT (kW L) (kW E)=S (Qd (L=E)):=by show S (P4&&((([97+L]:V Z)==[97+E])&&P4))=_;refine R xm ?_;refine R (P6.and_true ..) rfl
theorem HJ(L E:Z):eqT (.int L) (.int E)=S (Qd (L=E)):=by
 show S (Qd ((L:P5)=(E:P5)))=_;by_cases D:L=E;·subst D;simp
 ·refine R (QJ D) ?_;refine R (QJ (mt X5.mp D)) rfl
noncomputable abbrev ent:Z×P5->Q×Q:=lO kW eN
noncomputable abbrev uG:=P5×P6×Z
noncomputable def Nm(_:Z)(C:uG):Q:=.tup [.int C.1,.bool C.2.1,.int C.2.2]
noncomputable def kI(q:Z):Q:=.int q
noncomputable abbrev pM:Z×uG->Q×Q:=lO kI Nm
noncomputable def bv(E:Bd):Q:=match E.k with
 |.row=>.obj .Row [.int E.num,.aE E.a,.bool E.g,.int E.lv]
 |.text=>.obj .Text [.int E.num,.fV E.a,.bool E.g,.int E.lv]
 |.dict=>.aA E.a
noncomputable def kS:Kq->Q|.row=>.str 39|.dict=>.str 8|.text=>.str 36
noncomputable def dO(X:Kq)(A:Ct):Q:=match X with
 |.dict=>.lst (A.en.map λP=>.tup [wd P.1,.int P.2])
 |_=>.lst (A.df.map .int)
noncomputable def eF(E:Bd)(A:Ct):V (Q×Q):=[(.str 14,bv E),(.str 9,kS E.k),(.str 59,.bool E.g),(.str 26,.int E.lv),(.str 60,dO E.k A),(.str 16,.int A.acc)]
noncomputable def gU(E:Bd)(A:Ct)(D:Z):V Q:=[.int E.num,.int A.most,.bool E.g,.int E.lv,.int A.acc,.ab D]
noncomputable def MB(y:AH)(j:Z->Z)(E:Bd)(A:Ct):Prop:=match E.k with
 |.row=>y.L[E.a]? = S (A.df.map tI)
 |.text=>y.B[E.a]? = S A.df
 |.dict=>y.I[E.a]? = S (.Dict,gU E A (j E.num))/\y.D[j E.num]? = S (A.en.map ent)
structure Sv where
 num:Z
 many:Z
 used:P5
 kb:V Bd
 kc:Z->Ct
noncomputable def fK(d:Sv):Q:=.obj .mX [.int d.num,.int d.many,.int d.used,.none]
noncomputable def mP(d:Sv):Q:=.tup [.int d.num,.lst (d.kb.map λE=>.tup [dO E.k (d.kc E.num),.int (d.kc E.num).acc])]
structure MG where
 g:P6
 ks:Z
 fr:Q
 u:P5
 ug:P5
 lb:Z
 ls:Z
noncomputable def lP:Q:=.obj .FX [.int 500,.int 20,.int 250,.int 15,.int 31,.int 65535,.int 65535,.int 65535,.int 127,.int 1500,.int 11,.int 15,.int 600,.int 16777216]
noncomputable def cR(a:MG):V Q:=[lP,.bool a.g,.aE a.ks,.aE 1,.ab 0,a.fr,.int a.u,.int a.ug,.int a.lb,.int a.ls]
theorem Mg(B:f[o]? = S (S l)):aO g (.var o) f a=.ok (l,a):=by refine lH.trans (R B rfl)
theorem Nn(B:aO g A f a=.ok (l,j))(p:aG g j l o=.ok (y,s)):aO g (.attr A o) f a=.ok (y,s):=by exact kE.trans ((bL B).trans p)
theorem Np(B:aO g gb f a=.ok (l,j))(J:keyOf l=S fm)(p:bB g bz f j=.ok (P,s))(t:g fm P s=.ok (y,au)):aO g (.call gb bz) f a=.ok (y,au):=by refine te.trans ?_;refine(bL B).trans ?_;show(match keyOf l with|some X=>_|none=>_)=_;exact R J ((bL p).trans t)
theorem xB{K:BI}(B:bB g bz f a=.ok (P,j))(p:bK j K P=S (l,s)):aO g (.bC K bz) f a=.ok (l,s):=by refine lS.trans ?_;refine(bL B).trans ?_;show Res.of (bK j K P)=_;exact R p rfl
theorem Pw(B:aO g A f a=.ok (l,j))(n:aK j l x=S (.own o))(p:bB g bz f j=.ok (P,s))(t:g (.fn o) (l :: P) s=.ok (y,au)):aO g (.aU A x bz) f a=.ok (y,au):=by refine pe.trans ?_;refine(bL B).trans ?_;show(match aK j l x with|some (.own r)=>_|some .bR=>_|none=>_)=_;exact R n ((bL p).trans t)
theorem OM{H1:AH}{v:Q}(B:aO g A f a=.ok (v,H1))(n:aK H1 v x=S .bR)(p:bB g bz f H1=.ok (P,s))(t:jB s v x P=S (y,au)):aO g (.aU A x bz) f a=.ok (y,au):=by refine pe.trans ?_;refine(bL B).trans ?_;show(match aK H1 v x with|some (.own r)=>_|some .bR=>_|none=>_)=_;refine R n ?_;refine(bL p).trans ?_;show Res.of (jB s v x P)=_;exact R t rfl
theorem Mh(B:aO g A f a=.ok (l,j))(p:aO g dm f j=.ok (y,s))(t:aR s l y=S C):aO g (.sub A dm) f a=.ok (C,s):=by refine Ai.trans ?_;refine(bL B).trans ?_;refine(bL p).trans ?_;show(match aR s l y with|some l=>_|none=>_)=_;refine R t rfl
theorem ON(B:bB g dv f a=.ok (P,j)):aO g (.tup dv) f a=.ok (.tup P,j):=by exact pR.trans ((bL B).trans rfl)
theorem OO(B:bB g dv f a=.ok (P,j)):aO g (.lst dv) f a=.ok (.lst P,j):=by exact v7.trans ((bL B).trans rfl)
theorem OP{z:E7}(B:aO g bp f a=.ok (l,j))(p:aO g aw f j=.ok (y,s))(t:cK z l y=S C):aO g (.bin z bp aw) f a=.ok (C,s):=by refine Al.trans ?_;refine(bL B).trans ?_;refine(bL p).trans ?_;show(match cK z l y with|some l=>_|none=>_)=_;refine R t rfl
theorem OQ{z:FY}(B:aO g bp f a=.ok (l,j))(p:aO g aw f j=.ok (y,s))(t:cW s z l y=S w):aO g (.cmp z bp aw) f a=.ok (.bool w,s):=by refine v9.trans ?_;refine(bL B).trans ?_;refine(bL p).trans ?_;show(match cW s z l y with|some l=>_|none=>_)=_;refine R t rfl
noncomputable def HK(f:CF)(K:P6)(E:LE)(l:Loc)(y:AH):Res (Q×AH):=bif K then aO f E l y else .ok (.bool P8,y)
noncomputable def Mi(f:CF)(K:P6)(E:LE)(l:Loc)(y:AH):Res (Q×AH):=bif K then .ok (.bool P4,y) else aO f E l y
noncomputable def HL(f:CF)(K:P6)(L E:LE)(l:Loc)(y:AH):Res (Q×AH):=bif K then aO f L l y else aO f E l y
theorem OR(B:aO g bp f a=.ok (.bool w,j))(p:HK g w aw f j=cu):aO g (.and bp aw) f a=cu:=by refine wa.trans ?_;refine(bL B).trans ?_;induction w using U6<;>exact p
theorem Px(B:aO g bp f a=.ok (.bool w,j))(p:Mi g w aw f j=cu):aO g (.or bp aw) f a=cu:=by refine Am.trans ?_;refine(bL B).trans ?_;induction w using U6<;>exact p
theorem aT(B:w=P4)(p:aO g aw f a=cu):HK g w aw f a=cu:=by subst B;exact p
theorem aF(B:w=P8):HK g w aw f a=.ok (.bool P8,a):=by subst B;rfl
theorem oT(B:w=P4):Mi g w aw f a=.ok (.bool P4,a):=by subst B;rfl
theorem oF(B:w=P8)(p:aO g aw f a=cu):Mi g w aw f a=cu:=by subst B;exact p
theorem OS(B:aO g bq f a=.ok (.bool w,j))(p:HL g w bp aw f j=cu):aO g (.ite bq bp aw) f a=cu:=by refine wc.trans ?_;refine(bL B).trans ?_;induction w using U6<;>exact p
theorem iT(B:w=P4)(p:aO g bp f a=cu):HL g w bp aw f a=cu:=by subst B;exact p
theorem iF(B:w=P8)(p:aO g aw f a=cu):HL g w bp aw f a=cu:=by subst B;exact p
theorem nT(B:w=P8):(!w)=P4:=by subst B;rfl
theorem Py(B:w=P4):(!w)=P8:=by subst B;rfl
theorem OT:aO g .emp f a=.ok (.aE a.L.length,{a with L:=a.L++[[]]}):=rfl
theorem OU{h b:LO}{P M:O Q}(B:aO g A f a=.ok (l,j))(p:CR g h f j=.ok (P,s))(t:CR g b f s=.ok (M,au))(L:eU au l P M=S (y,cx)):aO g (.uC A h b) f a=.ok (y,cx):=by refine Aj.trans ?_;refine(bL B).trans ?_;refine(bL p).trans ?_;refine(bL t).trans ?_;show Res.of (eU au l P M)=_;exact R L rfl
theorem Pz:CR g .no f a=.ok (N,a):=rfl
theorem PA(B:aO g A f a=.ok (l,j)):CR g (.so A) f a=.ok (S l,j):=by exact Fb.trans ((bL B).trans rfl)
theorem OV:aO g .oO f a=.ok (.none,a):=rfl
theorem OW:aO g (.uB w) f a=.ok (.bool w,a):=rfl
theorem OX:aO g (.int af) f a=.ok (.int af,a):=rfl
theorem Mj:aO g (.str o) f a=.ok (.str o,a):=rfl
theorem OY{E:V Z}:aO g (.bH E) f a=.ok (.bH E,a):=rfl
theorem PB:aO g (.gf o) f a=.ok (.fn o,a):=rfl
theorem PC{U:gV}:aO g (.gc U) f a=.ok (.cls U,a):=rfl
theorem PD:aO g (.gi o af) f a=.ok (.int af,a):=rfl
theorem OZ(B:aO g bp f a=.ok (.bool w,j)):aO g (.not bp) f a=.ok (.bool (!w),j):=by exact wb.trans ((bL B).trans rfl)
theorem O0(B:aO g bp f a=.ok (.int af,j)):aO g (.neg bp) f a=.ok (.int (-af),j):=by exact An.trans ((bL B).trans rfl)
theorem Nq(B:bB g ew f a=.ok (P,j))(p:aO g dm f j=.ok (l,s))(t:jM cm P l s=.ok (y,au)):aO g (.pick cm ew dm) f a=.ok (y,au):=by refine tf.trans ?_;refine(bL B).trans ?_;show(aO g dm f j).bind _=_;exact(bL p).trans t
theorem Mk{us:V Q}(B:bB g ew f a=.ok (us,j))(J:cm.length=us.length):aO g (.xE cm ew) f a=.ok (.ab j.D.length,{j with D:=j.D++[(cm.map Q.str).zip us]}):=by exact Ak.trans ((bL B).trans (Qk J))
theorem Ks:bB g .nil f a=.ok ([],a):=rfl
theorem FG{H1:AH}{v:Q}(B:aO g A f a=.ok (v,H1))(p:bB g dv f H1=.ok (P,s)):bB g (.cons A dv) f a=.ok (v :: P,s):=by refine hW.trans ?_;refine(bL B).trans ?_;show(bB g dv f H1).bind _=_;exact(bL p).trans rfl
theorem O1(B:aO g A f a=.ok (l,j)):dK g (.asg o A) f a=.ok (.next,f.set o (S l),j):=by exact th.trans ((bL B).trans rfl)
theorem Nr(B:aO g aw f a=.ok (l,j))(p:aO g A f j=.ok (y,s))(t:eO s y o l=S au):dK g (.fU A o aw) f a=.ok (.next,f,au):=by refine xH.trans ?_;refine(bL B).trans ?_;refine(bL p).trans ?_;show(match eO s y o l with|some v=>_|none=>_)=_;refine R t rfl
theorem Nt(B:aO g aw f a=.ok (l,j))(p:aO g A f j=.ok (y,s))(L:aO g dm f s=.ok (C,au))(t:ei au y C l=S cx):dK g (.fE A dm aw) f a=.ok (.next,f,cx):=by refine xI.trans ?_;refine(bL B).trans ?_;refine(bL p).trans ?_;refine(bL L).trans ?_;show(match ei au y C l with|some v=>_|none=>_)=_;refine R t rfl
theorem Ml(B:aO g A f a=.ok (l,j)):dK g (.exp A) f a=.ok (.next,f,j):=by exact we.trans ((bL B).trans rfl)
theorem O2(B:aO g A f a=.ok (l,j)):dK g (.ret A) f a=.ok (.ret l,f,j):=by exact Ap.trans ((bL B).trans rfl)
theorem Nu(B:aO g A f a=.ok (l,j)):dK g (.gy A) f a=.exc l j:=by exact xO.trans ((bL B).trans rfl)
theorem O3(B:aO g A f a=.ok (.tup P,j))(p:dW f cm P=S cn):dK g (.uI cm A) f a=.ok (.next,cn,j):=by refine ti.trans ?_;refine(bL B).trans ?_;show(match dW f cm P with|some cn=>_|none=>_)=_;refine R p rfl
theorem Nv(B:bB g dv f a=.ok (P,j))(p:dW f cm P=S cn):dK g (.iL cm dv) f a=.ok (.next,cn,j):=by refine xJ.trans ?_;refine(bL B).trans ?_;show(match dW f cm P with|some cn=>_|none=>_)=_;refine R p rfl
noncomputable def Mm(f:CF)(K:P6)(P M:jL)(l:Loc)(y:AH):Res (Fl×Loc×AH):=bif K then aW f P l y else aW f M l y
noncomputable def Ew(f:CF)(P:jL)(g:Res (Fl×Loc×AH)):Res (Fl×Loc×AH):=g.bind λM=>match M.1 with
  |.next=>aW f P M.2.1 M.2.2
  |.ret C=>.ok (.ret C,M.2.1,M.2.2)
theorem K6{t:P6}(B:aO g bq f a=.ok (.bool t,j))(p:Mm g t cy dy f j=J):dK g (.ifs bq cy dy) f a=J:=by refine wg.trans ?_;refine(bL B).trans ?_;induction t using U6<;>exact p
theorem fT(B:w=P4)(p:aW g cy f a=J):Mm g w cy dy f a=J:=by subst B;exact p
theorem fF(B:w=P8)(p:aW g dy f a=J):Mm g w cy dy f a=J:=by subst B;exact p
theorem O4:aW g .nil f a=.ok (.next,f,a):=rfl
theorem Ex(B:dK g fq f a=cv)(p:Ew g cy cv=J):aW g (.cons fq cy) f a=J:=by exact gJ.trans ((bL B).trans p)
theorem Nw(B:aW g cy f a=J):Ew g cy (.ok (.next,f,a))=J:=B
theorem O5:Ew g cy (.ok (.ret l,f,a))=.ok (.ret l,f,a):=rfl
theorem O6:Ew g cy (.exc l a)=.exc l a:=rfl
theorem O7{P A:Prop}(B:P->A)(X:(P->A)->A):A:=X B
theorem FH{b:V ak}(B:b.drop v=[]):b[v]? = N:=VG (V.drop_eq_nil_iff.mp B)
theorem FI{b x:V ak}{I:ak}(B:b.drop v=I :: x):b[v]? = S I:=V.head?_drop.symm.trans (Ql V.head? B)
theorem FJ{b x:V ak}{I:ak}(B:b.drop v=I :: x):b.drop (v+1)=x:=V.tail_drop.symm.trans (Ql V.tail B)
theorem PE(B:Qd (ao=ay)=w):cW a .eq (.int ao) (.int ay)=S w:=Ql S B
theorem PF(B:Qd (ao<ay)=w):cW a .lt (.int ao) (.int ay)=S w:=Ql S B
theorem PG(B:Qd (ao<=ay)=w):cW a .le (.int ao) (.int ay)=S w:=Ql S B
theorem PH(B:Qd (ay<ao)=w):cW a .gt (.int ao) (.int ay)=S w:=Ql S B
theorem PI(B:Qd (ay<=ao)=w):cW a .ge (.int ao) (.int ay)=S w:=Ql S B
theorem PJ{L E A:ak}(B:L=E)(p:E=A):L=A:=B.trans p
theorem PK(B:isNone l=S w):cW a .oa l .none=S (!w):=Ql (XG (!·)) B
theorem PL(B:isNone l=S w):cW a .is l .none=S w:=B
noncomputable def K7(f:Z->Q->Loc->AH->Res (Fl×Loc×AH))(d:Src)(q s:Z)(g:Res (Fl×Loc×AH)):Res (Fl×Loc×AH):=g.bind λx=>match x.1 with
 |.next=>cM f d q (s+1) x.2.1 x.2.2
 |.ret I=>.ok (.ret I,x.2.1,x.2.2)
theorem HM(B:E.at v a=S N):cM dz E (q+1) v f a=.ok (.next,f,a):=by show(match E.at v a with|none=>_|some N=>_|some (S C)=>_)=_;refine R B rfl
theorem Ae{X:Res (Fl×Loc×AH)}(B:E.at v a=S (S l))(p:dz v l f a=X)(t:K7 dz E q v X=J):cM dz E (q+1) v f a=J:=by show(match E.at v a with|none=>_|some N=>_|some (S l)=>_)=_;exact R B ((bL p).trans t)
theorem B9(B:cM dz E q (v+1) f a=J):K7 dz E q v (.ok (.next,f,a))=J:=B
theorem O8:K7 dz E q v (.ok (.ret l,f,a))=.ok (.ret l,f,a):=rfl
theorem PM:K7 dz E q v (.exc l a)=.exc l a:=rfl
theorem O9(B:aO g bq f a=.ok (.bool P8,j)):jC (λf a=>(aO g bq f a).bind λx=>match truthy x.1 with|some K=>.ok (K,x.2)|none=>.bad) gu (q+1) f a=.ok (.next,f,j):=LD.trans (R B rfl)
theorem O'(B:aO g bq f a=.ok (.bool P4,j))(p:gu f j=.ok (.next,ft,s))(t:jC (λf a=>(aO g bq f a).bind λx=>match truthy x.1 with|some K=>.ok (K,x.2)|none=>.bad) gu q ft s=J):jC (λf a=>(aO g bq f a).bind λx=>match truthy x.1 with|some K=>.ok (K,x.2)|none=>.bad) gu (q+1) f a=J:=LD.trans (R B ((bL p).trans t))
noncomputable def eE(f:CF)(I:Z)(E:jL):Z->Q->Loc->AH->Res (Fl×Loc×AH):=λ_ C l y=>aW f E (l.set I (S C)) y
noncomputable def dJ(f:CF)(v I:Z)(E:jL):Z->Q->Loc->AH->Res (Fl×Loc×AH):=λX C l y=>aW f E ((l.set v (S (.int X))).set I (S C)) y
theorem PN(B:aW g bk (f.set T (S l)) a=cv):eE g T bk v l f a=cv:=B
theorem PO(B:aW g bk ((f.set da (S (.int v))).set T (S l)) a=cv):dJ g da T bk v l f a=cv:=B
theorem Pa(B:aO g A f a=.ok (l,j))(p:srcOf j l=S (E,q))(t:cM (eE g T bk) E (q+1) 0 f j=J):dK g (.dZ T A bk) f a=J:=by refine xM.trans ?_;refine(bL B).trans ?_;show(match srcOf j l with|none=>_|some E=>_)=_;exact R p t
theorem Nx(B:aO g A f a=.ok (l,j))(p:srcOf j l=S (E,q))(t:cM (dJ g da T bk) E (q+1) 0 f j=J):dK g (.lG da T A bk) f a=J:=by refine xN.trans ?_;refine(bL B).trans ?_;show(match srcOf j l with|none=>_|some E=>_)=_;exact R p t
theorem Pb(B:E.at v a=S N):bW fu E (q+1) v a=.ok ([],a):=by show(match E.at v a with|none=>_|some N=>_|some (S C)=>_)=_;refine R B rfl
noncomputable def oC(z:O Q)(n:V Q):V Q:=z.elim n (· :: n)
theorem Pc(B:E.at v a=S (S l))(G:fu l a=.ok (fc,j))(p:bW fu E q (v+1) j=.ok (P,s)):bW fu E (q+1) v a=.ok (oC fc P,s):=by show(match E.at v a with|none=>_|some N=>_|some (S l)=>_)=_;refine R B ?_;show(fu l a).bind _=_;refine(bL G).trans ?_;show(bW fu E q (v+1) j).bind _=_;refine(bL p).trans ?_;induction fc using U0<;>rfl
theorem Ny{b:LE}(B:aO g b f a=.ok (l,j))(p:srcOf j l=S (E,q))(t:bW (bD g ec gh gg f) E (q+1) 0 j=.ok (P,s)):aO g (.comp ec gh b gg) f a=.ok (.lst P,s):=by refine xG.trans ?_;refine(bL B).trans ?_;show(match srcOf j l with|none=>_|some E=>_)=_;exact R p ((bL t).trans rfl)
noncomputable def Mn(f:CF)(i:LE)(K:P6)(l:Loc)(y:AH):Res (O Q×AH):=bif K then(aO f i l y).bind λI=>.ok (S I.1,I.2) else .ok (N,y)
theorem PQ(B:w=P4)(p:aO g ec f a=.ok (y,j)):Mn g ec w f a=.ok (S y,j):=by subst B;show(aO g ec f a).bind _=_;exact(bL p).trans rfl
theorem PS(B:w=P8):Mn g ec w f a=.ok (N,a):=by subst B;rfl
theorem PT(B:gY f gh l=S ft)(G:CS g gg ft a=.ok (w,j))(p:Mn g ec w ft j=.ok (fc,s)):bD g ec gh gg f l a=.ok (fc,s):=by
 show(match gY f gh l with|none=>_|some b=>_)=_;refine R B ?_;show((CS g gg ft a).bind _).xF=_;refine R G ?_;clear B G;induction w using U6;·exact Ql Res.xF p
 ·exact Ql Res.xF p
theorem PU:CS g .no f a=.ok (P4,a):=rfl
theorem PV(B:aO g A f a=.ok (.bool w,j)):CS g (.so A) f a=.ok (w,j):=by exact Jj.trans ((bL B).trans rfl)
theorem Nz(B:aO g A f a=.ok (l,j))(p:ow j l=.ok (y,s)):aO g (.vals A T) f a=.ok (y,s):=by exact pk.trans ((bL B).trans p)
theorem Mo(B:aO g gb f a=.ok (l,j))(J:keyOf l=S fm)(p:bB g bz f j=.ok (P,s))(t:g fm P s=.exc y au):aO g (.call gb bz) f a=.exc y au:=by refine te.trans ?_;refine(bL B).trans ?_;show(match keyOf l with|some X=>_|none=>_)=_;exact R J ((bL p).trans t)
theorem Pd(B:aO g A f a=.ok (l,j))(n:aK j l x=S (.own o))(p:bB g bz f j=.ok (P,s))(t:g (.fn o) (l :: P) s=.exc y au):aO g (.aU A x bz) f a=.exc y au:=by refine pe.trans ?_;refine(bL B).trans ?_;show(match aK j l x with|some (.own r)=>_|some .bR=>_|none=>_)=_;exact R n ((bL p).trans t)
theorem NA(B:bB g ew f a=.ok (P,j))(p:yO g fy fv P f j=J):dK g (.oP fy fv ew) f a=J:=by exact xK.trans ((bL B).trans p)
theorem Pe:yO g .nil .nil [] f a=.ok (.next,f,a):=rfl
theorem NB{z:LE}(B:aO g z f a=.ok (l,j))(p:aO g dm f j=.ok (y,s))(t:ei s l y C=S au)(L:yO g fy fv P f au=J):yO g (.cons z fy) (.cons dm fv) (C :: P) f a=J:=by refine(bL B).trans ?_;refine(bL p).trans ?_;show(match ei s l y C with|some v=>_|none=>_)=_;exact R t L
theorem NC(B:aO g A f a=.exc y j):dK g (.exp A) f a=.exc y j:=by exact we.trans ((bL B).trans rfl)
theorem ND(B:aO g A f a=.exc y j):dK g (.asg o A) f a=.exc y j:=by exact th.trans ((bL B).trans rfl)
theorem Pf(B:aO g A f a=.ok (l,j)):dK g (.oQ A T bq) f a=.ok (.next,f,j):=by refine tj.trans (R B rfl)
theorem NG(B:aO g A f a=.exc y j)(p:aO (λ_ _ _=>Res.bad) bq (f.set T (S (.exc y))) j=.ok (l,s)):dK g (.oQ A T bq) f a=.ok (.next,(f.set T (S (.exc y))).set T N,s):=by refine tj.trans ?_;refine R B ?_;show(Res.xF (aO _ bq _ j)).bind _=_;exact R p rfl
noncomputable def Mp(f:CF)(m:Key->NF)(P:qU)(g:Res (Fl×Loc×AH)):Res (Fl×Loc×AH):=g.bind λM=>match M.1 with
 |.next=>dG f m P M.2.1 M.2.2
 |.ret C=>.ok (.ret C,M.2.1,M.2.2)
theorem PW:dG g ae .nil f a=.ok (.next,f,a):=rfl
theorem vZ{X:Res (Fl×Loc×AH)}{d:HA}(B:gS g ae d f a=X)(p:Mp g ae ca X=J):dG g ae (.cons d ca) f a=J:=(bL B).trans p
theorem NH(B:dG g ae ca f a=J):Mp g ae ca (.ok (.next,f,a))=J:=B
theorem Pg:Mp g ae ca (.ok (.ret l,f,a))=.ok (.ret l,f,a):=rfl
theorem I6{b:LS}(B:dK g b f a=J):gS g ae (.a b) f a=J:=B
noncomputable def HN(f:CF)(m:Key->NF)(K:P6)(P M:qU)(l:Loc)(y:AH):Res (Fl×Loc×AH):=bif K then dG f m P l y else dG f m M l y
theorem Kt(B:aO g bq f a=.ok (.bool w,j))(p:HN g ae w ca gj f j=J):gS g ae (.ifs bq ca gj) f a=J:=by show((aO g bq f a).bind _).bind _=_;refine R B ?_;induction w using U6<;>exact p
theorem Ph(B:w=P4)(p:dG g ae ca f a=J):HN g ae w ca gj f a=J:=by subst B;exact p
theorem Pj(B:w=P8)(p:dG g ae gj f a=J):HN g ae w ca gj f a=J:=by subst B;exact p
theorem PX(B:oY g ae et f a=.ok (l,j)):gS g ae (.exp et) f a=.ok (.next,f,j):=by show(oY g ae et f a).bind _=_;exact(bL B).trans rfl
theorem PY(B:oY g ae et f a=.ok (l,j)):gS g ae (.ret et) f a=.ok (.ret l,f,j):=by show(oY g ae et f a).bind _=_;exact(bL B).trans rfl
theorem PZ{r:V Z}(B:aO g bp f a=.ok (C,j))(p:aO g aw f j=.ok (db,s))(t:oY g ae et f s=.ok (dw,au))(L:dW f r [C,db,dw]=S cn):gS g ae (.tup r bp aw et) f a=.ok (.next,cn,au):=by refine(bL B).trans ?_;refine(bL p).trans ?_;refine(bL t).trans ?_;show(match dW f r [C,db,dw] with|some cn=>_|none=>_)=_;refine R L rfl
theorem Pk(B:aO g A f a=.ok (l,j))(p:srcOf j l=S (E,q))(t:cM (λ_ l f a=>dG g ae ca (f.set da (S l)) a) E (q+1) 0 f j=J):gS g ae (.dZ da A ca) f a=J:=by refine(bL B).trans ?_;show(match srcOf j l with|none=>_|some E=>_)=_;exact R p t
theorem P0(B:bB g bz f a=.ok (P,j))(p:ae fm P j=.ok (l,s)):oY g ae (.call fm bz) f a=.ok (l,s):=by show(bB g bz f a).bind _=_;exact(bL B).trans p
theorem P1(B:aO g A f a=.ok (l,j))(n:aK j l x=S (.own o))(p:bB g bz f j=.ok (P,s))(t:ae (.fn o) (l :: P) s=.ok (y,au)):oY g ae (.aU A x o bz) f a=.ok (y,au):=by refine(bL B).trans ?_;show(match aK j l x with|some (.own r)=>_|_=>_)=_;exact R n ((Qk rfl).trans ((bL p).trans t))
local macro_rules
 | `(tactic| walk_at $s) => do
  let w (x : String) : Lean.MacroM (Lean.TSyntax `tactic) := match x with
   | "=" => `(tactic| with_unfolding_all exact rfl)
   | "as" => `(tactic| assumption)
   | "ua" => `(tactic| with_unfolding_all assumption)
   | "fa" => `(tactic| (focus (apply_assumption only [*]; done)))
   | _ => `(tactic| walk_at $(Lean.Syntax.mkStrLit x))
  let [_, r] := "
fm= as| fa| ua
bt= as| =|nT bt|Py bt
lf= as|PE as|PF as|PG as|PH as|PI as| =|PK as|PL as| ua
at= as| fa|aS =| ua
xl=Ks|FG xe xl
xo=Pz|PA xe
an=aT bt xe|aF bt
or=oF bt xe|oT bt
it=iT bt xe|iF bt xe
xe=Mg va|Nn xe at|Mj|OX|OQ xe xe lf|Mh xe xe lf|Pw xe fm xl fm|OM xe lf xl lf|Np xe va xl fm|xB xl lf|OP xe xe lf|OZ xe|OR xe an|Px xe or|OS xe it|ON xl|OO xl|PB|PC|PD|OV|OW|OY|OT|OU xe xo xo lf|Nq xl xe lf|Mk xl =|O0 xe|Ny xe lf cg|Nz xe fm| fm
va= =| as
cg=Pb =|Pc = cs cg
cs=PT = xc ck
xc=PU|PV xe
ck=PQ bt xe|PS bt
fo=HM =|Ae = fb fk
fb=PN zz|PO zz
fk=O8|PM|B9 fo
xx=Pd xe fm xl fm|Mo xe = xl fm
nl=PW|vZ n1 nk
nk=Pg|NH nl
n1=I6 xs|Kt xe ni|PX ne|PY ne|PZ xe xe ne =
ni=Ph bt nl|Pj bt nl
ne=P0 xl fm|P1 xe fm xl fm
if=fT bt zz|fF bt zz
xs= as|O1 xe|K6 xe if|Pl xe zz|Ml xe|O2 xe|Nr xe xe lf|Nt xe xe xe lf|Nu xe|O3 xe =|Nv xl =|Pa xe lf fo|Nx xe lf fo|NC xx|ND xx|Pf xe|NG xx xe|NA xl uu
uu=Pe|NB xe xe lf uu
zk=O5|O6|Nw zz
zz=O4|Ex xs zk
z1= zz| xs| xe| xl| nl| n1| cs
ev=P2 zz =|PJ z1 =
".splitOn ("\n" ++ s.getString ++ "=") | Lean.Macro.throwUnsupported
  let t <- (((r.splitOn "\n").headD "").splitOn "|").toArray.mapM λd => do
   let r :: l := d.splitOn " " | Lean.Macro.throwUnsupported
   let t <- l.toArray.mapM w
   if r == "" then return t[0]! else
   if l == [] then `(tactic| exact $(Lean.mkIdent (`Mine.Lake ++ Lean.Name.mkSimple r))) else
   `(tactic| (apply $(Lean.mkIdent (`Mine.Lake ++ Lean.Name.mkSimple r)); ($[$t:tactic];*)))
  `(tactic| with_reducible first $[| $t:tactic]*)
theorem aN{f:dV}(l:Loc)(J:su o=S f)(w:bindArgs f.aY f.dt f.slots.length dg=S l) :
  aC (q+1) (.fn o) dg a=(aW (aC q) f.body l a).bind λx=>.ok ((match x.1 with|.ret C=>C|.next=>.none),x.2.2):=by
 show(match su o with|none=>_|some f=>_)=_
 refine R J ?_
 show(match bindArgs f.aY f.dt f.slots.length dg with|none=>_|some f=>_)=_
 refine R w ?_
 try rfl
noncomputable def Ku(g:Res (Fl×Loc×AH)):Res (Q×AH):=g.bind λx=>.ok ((match x.1 with|.ret C=>C|.next=>.none),x.2.2)
theorem P2{R:Res (Q×AH)}(B:aW g cy f a=cv)(p:Ku cv=R):((aW g cy f a).bind λx=>.ok ((match x.1 with|.ret C=>C|.next=>.none),x.2.2))=R:=by exact(bL B).trans p
theorem xn{r:dV}{E:qU}{R:Res (Q×AH)}(l:Loc)(w:bindArgs r.aY r.dt r.slots.length dg=S l)(B:dG g ae E l a=cv)(p:Ku cv=R):CX r (dG g ae E) dg a=R:=by show(match bindArgs r.aY r.dt r.slots.length dg with|none=>_|some r=>_)=_;refine Mine.Lake.R w ?_;refine(bL B).trans ?_;induction cv using Zq<;>exact p
theorem fM(B:o+1<=x):∃q,x=q+1/\o<=q:=(ba (x - 1) ((Z.sub_add_cancel (U9 (V4 1 o) B)).symm) (Z.le_sub_one_of_lt B))
structure GM(H:AH)(μ:MG)(svs:V Sv)(J:V Q)(md:V (Z×uG)):Prop where
 i:H.I[0]? = S (.Mem,cR μ)
 s:H.L[μ.ks]? = S (svs.map fK)
 j:H.L[1]? = S J
 m:H.D[0]? = S (md.map pM)
 n:μ.ks≠1
 sl:svs.length<16
 jl:J.length<99
 ml:md.length<99
variable{e:MG}{h:V Sv}{k:V (Z×uG)}{bo:Sv}{de:uG}
theorem GM.at(B:GM a e h n k)(D:((jA .Mem Y).bind λs=>(cR e)[s]?)=S l):aG g a (.aA 0) Y=.ok (l,a):=by
 have:eG a (.aA 0) Y=S l:=by exact(oL B.i).trans D
 unfold aG;refine R this rfl
theorem aS(B:eG a C Y=S l):aG g a C Y=.ok (l,a):=by unfold aG;refine R B rfl
theorem GM.rc(B:GM a e h n k){x:Recv}(D:(if Y=26 then N else(td .Mem Y).map Recv.own)=S x):aK a (.aA 0) Y=S x:=by show(match a.I[0]? with|some (A,_)=>_|none=>_)=_;exact R B.i D
theorem mQ(B:a.L[o]? = S c9)(c:c9.length<1000):bK a .len [.aE o]=S (.int c9.length,a):=(oL B).trans (Qk (Qu c))
theorem HO(A:GM a e h n k)(i:1<=x):aC x (.fn 20) [.aA 0] a=.ok (.int h.length,a):=by refine aM (fM i) λc bP U=>R bP ?_;have r:∀b,aG b a (.aA 0) 25=.ok (.aE e.ks,a):=λb=>A.at rfl;have t:=mQ A.s (by refine R (U1 ..) ?_;have:=A.sl;exact n1 this rfl);rw[U1] at t;refine(aN (f:=Lg) [S (.aA 0)] rfl rfl).trans ?_;delta Lg;walk_at "ev"
theorem uq(A:GM a e h n k)(i:1<=x):aG (aC x) a (.aA 0) 26=.ok (.int h.length,a):=by
 have:eG a (.aA 0) 26=N:=by exact(oL A.i).trans rfl
 unfold aG;refine R this ?_;show(match a.I[0]? with|some (.Mem,_)=>_|_=>_)=_;refine R A.i ?_;exact R (HO A i) rfl
theorem qY{m:Z}(A:GM a e h n k)(i:2<=m){c:Z}(G:eG a C 15=S (.bool cw))(p:eG a C 26=S (.int c)):aC m (.fn 28) [.aA 0,C] a=.ok (.bool (!cw&&Qd (c<h.length)),a):=by
 refine aM (fM i) λd cQ K=>R cQ ?_;have r:=uq A K;have t:∀b,aG b a C 15=.ok (.bool cw,a):=λb=>aS G;have j:∀b,aG b a C 26=.ok (.int c,a):=λb=>aS p;have x:cW a .lt (.int c) (.int h.length)=S (Qd (c<h.length)):=by show S (Qd ((c:P5)<(h.length:P5)))=_;simp
 refine(aN (f:=Lm) [S (.aA 0),S C] rfl rfl).trans ?_;delta Lm;induction cw using U6<;>walk_at "ev"
theorem kO{A:gV}(l:Loc)(s:¬(A=.bZ\/A=.Text))(w:bindArgs (cF A).aY (cF A).dt (cF A).slots.length (.none :: dg)=S l) :
  aC (q+1) (.cls A) dg a=(bB (aC q) (cF A).vals (l.set 0 N) a).bind λx=>if hV A then .ok (.obj A x.1,x.2) else .ok (.aA x.2.I.length,{x.2 with I:=x.2.I++[(A,x.1)]}):=by refine(Qm s).trans (R w rfl)
theorem B'{H:AH}{a:Z}{x:Q}{y:Q}(i:1<=a):aC a (.cls .Thing) [x,y] H=.ok (.obj .Thing [x,y,.bool P8,.int 3],H):=by refine aM (fM i) λb bP U=>R bP ?_;refine(kO [S .none,S x,S y,S (.bool P8),S (.int 3)] (by decide) rfl).trans ?_;rfl
theorem HP{H:AH}{a:Z}{x:Q}{y:Q}{z:Q}(i:1<=a):aC a (.cls .Thing) [x,y,z] H=.ok (.obj .Thing [x,y,z,.int 3],H):=by refine aM (fM i) λb cQ U=>R cQ ?_;refine(kO [S .none,S x,S y,S z,S (.int 3)] (by decide) rfl).trans ?_;rfl
theorem HQ(i:1<=x):aC x (.cls .Thing) [C,db,dw,y] a=.ok (.obj .Thing [C,db,dw,y],a):=by refine aM (fM i) λb eA U=>R eA ?_;refine(kO [S .none,S C,S db,S dw,S y] (by decide) rfl).trans ?_;rfl
theorem Kv(i:1<=x):aC x (.cls .Span) [C,db,dw] a=.ok (.obj .Span [C,db,dw],a):=by refine aM (fM i) λb eZ U=>R eZ ?_;refine(kO [S .none,S C,S db,S dw] (by decide) rfl).trans ?_;rfl
theorem Ca(i:2<=x):aC x (.fn 3) [.int af] a=.ok (tI af,a):=by refine aM (fM i) λb g6 K=>R g6 ?_;have L:=B' (H:=a) (x:=.str 1) (y:=.int af) K;refine(aN (f:=f3) [S (.int af)] rfl rfl).trans ?_;delta f3;walk_at "ev"
theorem Kw(b:2<=x):aC x (.fn 4) [wd i] a=.ok (tN i,a):=by refine aM (fM b) λc lR K=>R lR ?_;have L:=HP (H:=a) (x:=.str 2) (y:=wd i) (z:=.bool P8) K;refine(aN (f:=f4) [S (wd i),S (.bool P8)] rfl rfl).trans ?_;delta f4;walk_at "ev"
noncomputable def eI(E:Bd)(A:Ct):Q:=match E.k with
 |.row=>.obj .Thing [.str 7,.obj .Span [bv E,.int 0,.int A.df.length],.bool P8,.int 3]
 |.text=>.obj .Thing [.str 5,.obj .Span [bv E,.int 0,.int A.df.length],.bool P8,.int 3]
 |.dict=>.obj .Thing [.str 8,bv E,.bool P8,.int 3]
theorem jF(B:MB a m b d):eG a (bv b) 15=S (.bool b.g)/\eG a (bv b) 26=S (.int b.lv)/\eG a (bv b) 23=S (.int b.num):=by
 unfold MB bv at *;induction D:b.k using Zr<;>rw[D] at B<;>dsimp only at B;·exact gZ rfl rfl rfl
 ·have Y:∀L,eG a (.aA b.a) L=(jA .Dict L).bind λs=>(gU b d (m b.num))[s]?:=λL=>by
   exact(oL B.1).trans rfl
  refine R (Y ..) ?_;refine R (Y ..) ?_;exact R (Y ..) (gZ rfl rfl rfl)
 ·exact gZ rfl rfl rfl
theorem Cb{H:AH}{b:Z}{x:Q}(i:1<=b){k:Z}(B:eG H x 9=S (.str k)):aC b (.fn 11) [x] H=.ok (.bool (k==7||k==13),H):=by refine aM (fM i) λc m3 U=>R m3 ?_;have L:∀a,aG a H x 9=.ok (.str k,H):=λa=>aS B;refine(aN (f:=Lc) [S x] rfl rfl).trans ?_;delta Lc;induction D:k==7 using U6<;>walk_at "ev"
theorem Cc(i:2<=x)(B:eG a C 9=S (.str o))(c:(o==8)=P8)(l:(o==5)=P8)(d:(o==7)=P8)(k:(o==13)=P8):aC x (.fn 12) [C] a=.ok (.none,a):=by refine aM (fM i) λe pU K=>?_;subst pU;have L:∀b,aG b a C 9=.ok (.str o,a):=λb=>aS B;have E:=Cb K B;rw[d,k] at E;refine(aN (f:=I') [S C] rfl rfl).trans ?_;delta I';walk_at "ev"
theorem vL{H:AH}{m:Z}{b:Bd}{c:Ct}(i:2<=m):aC m (.fn 12) [eI b c] H=.ok (bv b,H):=by
 refine aM (fM i) λd wi K=>?_;clear i;subst wi;refine(aN (f:=I') [S (eI b c)] rfl rfl).trans ?_;delta I';have h:=Cb (x:=eI b c) (H:=H) K (k:=match b.k with|.row=>7|.text=>5|.dict=>8) (by unfold eI;induction b.k using Zr<;>rfl);have L:∀a,aG a H (eI b c) 9=.ok (.str (match b.k with|.row=>7|.text=>5|.dict=>8),H):=λa=>aS (by unfold eI;induction b.k using Zr<;>rfl);induction D:b.k using Zr with
 |dict=>rw[D] at L h;have t:∀a,aG a H (eI b c) 11=.ok (bv b,H):=λa=>aS (by unfold eI;exact R D rfl);walk_at "ev"
 |row=>rw[D] at L h;have t:∀a,aG a H (eI b c) 11=.ok (.obj .Span [bv b,.int 0,.int c.df.length],H):=λa=>aS (by unfold eI;exact R D rfl);have j:∀a,aG a H (.obj .Span [bv b,.int 0,.int c.df.length]) 14=.ok (bv b,H):=λa=>aS rfl;walk_at "ev"
 |text=>rw[D] at L h;have t:∀a,aG a H (eI b c) 11=.ok (.obj .Span [bv b,.int 0,.int c.df.length],H):=λa=>aS (by unfold eI;exact R D rfl);have j:∀a,aG a H (.obj .Span [bv b,.int 0,.int c.df.length]) 14=.ok (bv b,H):=λa=>aS rfl;walk_at "ev"
theorem yF:isNone (bv b)=S P8:=by unfold bv;induction b.k using Zr<;>rfl
theorem vM(i:3<=x){k:Z}(B:eG a C 9=S (.str k))(c:(k==8)=P8)(l:(k==5)=P8)(d:(k==7)=P8)(b:(k==13)=P8):aC x (.fn 13) [C] a=.ok (.bool P8,a):=by refine aM (fM i) λe lJ K=>?_;subst lJ;have L:=Cc K B c l d b;have y:isNone .none=S P4:=rfl;refine(aN (f:=Ja) [S C,N] rfl rfl).trans ?_;delta Ja;walk_at "ev"
theorem Cd(i:3<=x)(B:MB a m b d):aC x (.fn 13) [eI b bm] a=.ok (.bool (!b.g),a):=by refine aM (fM i) λe pW K=>?_;clear i;subst pW;have L:=vL (b:=b) (c:=bm) (H:=a) K;have y:∀c,aG c a (bv b) 15=.ok (.bool b.g,a):=λc=>aS (jF B).1;have D:=@yF b;refine(aN (f:=Ja) [S (eI b bm),N] rfl rfl).trans ?_;delta Ja;walk_at "ev"
set_option genCtorIdx true in
inductive Ad|L(n:Z)|D(n:Z)|I(n:Z)|B(n:Z)
theorem Ad.L.inj(B:Ad.L Y=.L bw):Y=bw:=by cases B;rfl
theorem Ad.D.inj(B:Ad.D Y=.D bw):Y=bw:=by cases B;rfl
theorem Ad.I.inj(B:Ad.I Y=.I bw):Y=bw:=by cases B;rfl
structure Fr(P:Ad->Prop)(H H':AH):Prop where
 L:∀k v,¬P (.L k)->H.L[k]? = S v->H'.L[k]? = S v
 D:∀k v,¬P (.D k)->H.D[k]? = S v->H'.D[k]? = S v
 I:∀k v,¬P (.I k)->H.I[k]? = S v->H'.I[k]? = S v
 B:∀k v,¬P (.B k)->H.B[k]? = S v->H'.B[k]? = S v
noncomputable def wL(y:AH)(I:Z)(C:V Q):AH:={y with L:=y.L.set I C}
noncomputable def wD(y:AH)(I:Z)(C:V (Q×Q)):AH:={y with D:=y.D.set I C}
noncomputable def wI(y:AH)(I:Z)(C:gV×V Q):AH:={y with I:=y.I.set I C}
noncomputable def wB(y:AH)(I:Z)(C:V P5):AH:={y with B:=y.B.set I C}
noncomputable def aL(y:AH)(v:V Q):AH:={y with L:=y.L++[v]}
noncomputable def aD(y:AH)(C:V (Q×Q)):AH:={y with D:=y.D++[C]}
noncomputable def aI(y:AH)(C:gV×V Q):AH:={y with I:=y.I++[C]}
noncomputable def aB(y:AH)(C:V P5):AH:={y with B:=y.B++[C]}
theorem cJ{l:V ak}{C:ak}{i:ak}(B:l[T]? = S i):(l.set T C)[T]? = S C:=(Wm (U8.mp B).1)
theorem fA{l:V ak}{n:Z}{C:ak}{i:ak}(q:n≠T)(B:l[n]? = S i):(l.set T C)[n]? = S i:=by refine(Vv (Wd q)).trans ?_;exact B
theorem fB{l:V ak}{C:ak}{i:ak}(B:l[T]? = S i):(l++[C])[T]? = S i:=by refine(Wi (U8.mp B).1).trans ?_;exact B
theorem eR{l:V ak}{C:ak}:(l++[C])[l.length]? = S C:=XU ..
theorem bY{l:V ak}{i:ak}(B:l[T]? = S i):T<l.length:=(U8.mp B).1
variable{cq:Ad->Prop}{dq:Ad}
theorem Fr.refl:Fr cq a a:=⟨λU U U B=>B,λU U U B=>B,λU U U B=>B,λU U U B=>B⟩
theorem Fr.trans{H':AH}(L:Fr cq a H')(E:Fr cq H' s):Fr cq a s:=⟨λX C q B=>E.L X C q (L.L X C q B),λX C q B=>E.D X C q (L.D X C q B),λX C q B=>E.I X C q (L.I X C q B),λX C q B=>E.B X C q (L.B X C q B)⟩
theorem Fr.mono{b:Ad->Prop}(L:Fr cq a U)(B:∀Y,cq Y->b Y):Fr b a U:=⟨λX C q=>L.L X C λP=>q (B _ P),λX C q=>L.D X C λP=>q (B _ P),λX C q=>L.I X C λP=>q (B _ P),λX C q=>L.B X C λP=>q (B _ P)⟩
theorem Fr.wL{C:V Q}(P:cq (.L T)):Fr cq a (wL a T C):=⟨λX U q B=>fA (λD=>q (D▸P)) B,λU U U B=>B,λU U U B=>B,λU U U B=>B⟩
theorem Fr.wD{P:Ad->Prop}(b:P (.D T)):Fr P a (wD a T gw):=⟨λU U U B=>B,λX U q B=>fA (λD=>q (D▸b)) B,λU U U B=>B,λU U U B=>B⟩
theorem Fr.wI(P:cq (.I T)):Fr cq a (wI a T gz):=⟨λU U U B=>B,λU U U B=>B,λX U q B=>fA (λD=>q (D▸P)) B,λU U U B=>B⟩
theorem Fr.wB(P:cq (.B T)):Fr cq a (wB a T i5):=⟨λU U U B=>B,λU U U B=>B,λU U U B=>B,λX U q B=>fA (λD=>q (D▸P)) B⟩
theorem Fr.aL{P:Ad->Prop}{v:V Q}:Fr P a (aL a v):=⟨λU U U B=>fB B,λU U U B=>B,λU U U B=>B,λU U U B=>B⟩
theorem Fr.aD:Fr cq a (aD a gw):=⟨λU U U B=>B,λU U U B=>fB B,λU U U B=>B,λU U U B=>B⟩
theorem Fr.aI:Fr cq a (aI a gz):=⟨λU U U B=>B,λU U U B=>B,λU U U B=>fB B,λU U U B=>B⟩
theorem Fr.aB:Fr cq a (aB a i5):=⟨λU U U B=>B,λU U U B=>B,λU U U B=>B,λU U U B=>fB B⟩
noncomputable def Gl:Ad->Prop:=λY=>Y=.I 0\/Y=.D 0\/Y=.L 1
noncomputable def gs(j:Z->Z)(E:Bd):Ad->Prop:=λY=>match E.k with
 |.row=>Y=.L E.a
 |.text=>Y=.B E.a
 |.dict=>Y=.I E.a\/Y=.D (j E.num)
theorem MB.fr{P:Ad->Prop}(B:MB a m b d)(r:Fr P a U)(q:∀Y,gs m b Y->¬P Y):MB U m b d:=by
 unfold MB gs at *;induction D:b.k using Zr<;>rw[D] at B<;>rw[D] at q;·exact r.L _ _ (q _ rfl) B
 ·exact⟨r.I _ _ (q _ (.inl rfl)) B.1,r.D _ _ (q _ (.inr rfl)) B.2⟩
 ·exact r.B _ _ (q _ rfl) B
theorem GM.wI{Ey:MG}(B:GM a e h n k)(D:Ey.ks=e.ks):GM (wI a 0 (.Mem,cR Ey)) Ey h n k:=⟨cJ B.i,D▸B.s,B.j,B.m,D▸B.n,B.sl,B.jl,B.ml⟩
theorem GM.wD{md':V (Z×uG)}(B:GM a e h n k)(l:md'.length<99):GM (wD a 0 (md'.map pM)) e h n md':=⟨B.i,B.s,B.j,cJ B.m,B.n,B.sl,B.jl,l⟩
theorem GM.wJ{J':V Q}(B:GM a e h n k)(l:J'.length<99):GM (wL a 1 J') e h J' k:=⟨B.i,fA B.n B.s,cJ B.j,B.m,B.n,B.sl,l,B.ml⟩
theorem GM.fr{P:Ad->Prop}(B:GM a e h n k)(r:Fr P a U)(n1:¬P (.I 0))(n2:¬P (.D 0))(n3:¬P (.L 1))(n4:¬P (.L e.ks)):GM U e h n k:=⟨r.I _ _ n1 B.i,r.L _ _ n4 B.s,r.L _ _ n3 B.j,r.D _ _ n2 B.m,B.n,B.sl,B.jl,B.ml⟩
theorem GM.eO(B:GM a e h n k)(D:jA .Mem Y=S v)(g:v<10)(b:MG)(P:(cR e).set v l=cR b):eO a (.aA 0) Y l=S (Mine.Lake.wI a 0 (.Mem,cR b)):=by refine(oL B.i).trans ((oL D).trans ?_);exact(Qk ⟨g,rfl⟩).trans (R P rfl)
theorem HR{H:AH}{w:Z}(i:1<=x):aC x (.fn 17) [tN w] H=.ok (wd w,H):=by refine aM (fM i) λb bP U=>R bP ?_;have L:∀a,aG a H (tN w) 9=.ok (.str 2,H):=λa=>aS rfl;have t:∀a,aG a H (tN w) 11=.ok (wd w,H):=λa=>aS rfl;refine(aN (f:=Ld) [S (tN w)] rfl rfl).trans ?_;delta Ld;walk_at "ev"
theorem xo{H:AH}{m:Z}{w:Z}(i:2<=m):aC m (.fn 18) [tN w] H=.ok (kW w,H):=by refine aM (fM i) λb cQ K=>R cQ ?_;have L:∀a,aG a H (tN w) 9=.ok (.str 2,H):=λa=>aS rfl;have t:=HR (H:=H) (w:=w) K;refine(aN (f:=Le) [S (tN w)] rfl rfl).trans ?_;delta Le;walk_at "ev"
theorem Ce{H:AH}{m:Z}{w:Z}(i:1<=m):aC m (.fn 19) [tN w] H=.ok (tN w,H):=by refine aM (fM i) λb eA K=>?_;subst eA;have L:∀a,aG a H (tN w) 9=.ok (.str 2,H):=λa=>aS rfl;refine(aN (f:=Lf) [S (tN w)] rfl rfl).trans ?_;delta Lf;walk_at "ev"
theorem xp(i:3<=x):aC x (.fn 13) [tI af] a=.ok (.bool P8,a):=vM (k:=1) i rfl rfl rfl rfl rfl
theorem HS(b:3<=x):aC x (.fn 13) [tN i] a=.ok (.bool P8,a):=vM (k:=2) b rfl rfl rfl rfl rfl
theorem ur{H:AH}{m:Z}{y:Q}(i:4<=m){l:P6}(B:eG H C 15=S (.bool cw))(c:∀m,3<=m->aC m (.fn 13) [y] H=.ok (.bool l,H)):aC m (.fn 29) [.aA 0,C,y] H=if cw&&l then .exc (.bH [105,110,118,97,108,105,100,97,99,99,101,115,115]) H else .ok (.none,H):=by refine aM (fM i) λb eZ K=>?_;clear i;subst eZ;have L:∀a,aG a H C 15=.ok (.bool cw,H):=λa=>aS B;have t:=c b K;clear B c;refine(aN (f:=Ln) [S (.aA 0),S C,S y] rfl rfl).trans ?_;delta Ln;induction cw using U6<;>induction l using U6<;>walk_at "ev"
theorem xq(i:1<=x){X:P5}(H:0<=ao)(G:ao<=X):aC x (.fn 50) [.int ao,.int X] a=.ok (.none,a):=by refine aM (fM i) λb g6 K=>R g6 ?_;have r:Qd (ao<0)=P8:=QJ (WU.mpr (by assumption));have t:=QJ (WU.mpr (by assumption));refine(aN (f:=Lw) [S (.int ao),S (.int X)] rfl rfl).trans ?_;delta Lw;walk_at "ev"
theorem uu{m:Z}(A:GM a e h n k)(i:2<=m):aC m (.fn 21) [.aA 0] a=.ok (.int (if e.g then 0 else h.length:Z),a):=by refine aM (fM i) λc lR K=>?_;clear i;subst lR;have r:=uq A K;have t:∀b,aG b a (.aA 0) 15=.ok (.bool e.g,a):=λb=>A.at rfl;refine(aN (f:=Lh) [S (.aA 0)] rfl rfl).trans ?_;delta Lh;induction I:e.g using U6<;>walk_at "ev"
theorem Cf{m:Z}(A:GM a e h n k)(i:1<=m)(B:e.u+e.ug+af<=16777216):aC m (.fn 23) [.aA 0,.int af] a=.ok (.none,a):=by refine aM (fM i) λc m3 K=>?_;subst m3;have r:∀b,aG b a (.aA 0) 29=.ok (.int e.u,a):=λb=>A.at rfl;have t:∀b,aG b a (.aA 0) 28=.ok (.int e.ug,a):=λb=>A.at rfl;have j:∀b,aG b a (.aA 0) 33=.ok (lP,a):=λb=>A.at rfl;have x:∀b,aG b a lP 34=.ok (.int 16777216,a):=λb=>aS rfl;have y:=QJ (WU.mpr B);refine(aN (f:=Lj) [S (.aA 0),S (.int af)] rfl rfl).trans ?_;delta Lj;walk_at "ev"
theorem qZ(L E:Z):eqT (kI L) (kI E)=S (Qd (L=E)):=HJ L E
theorem xr{y:V (Z×uG)}(B:a.D[0]? = S (y.map pM)){k:Z}{i:P5}{g:P6}{l:Z}(c:y.length<1000):ei a (.ab 0) (.int k) (.tup [.int i,.bool g,.int l])=S (wD a 0 ((fH k (i,g,l) y).map pM)):=by refine(oL B).trans ?_;show(rG (y.map pM) (kI k) (Nm k (i,g,l))).map _=_;exact R (yD qZ rfl c) rfl
theorem xt{m:Z}(A:GM a e h n k)(hm:3<=m)(B:e.u+e.ug+af<=16777216)(J:cU (e.lb+1) k=N)(c:k.length<98)(w:ap=if e.g then 0 else h.length):∃H',aC m (.fn 22) [.aA 0,.int af] a=.ok (.int (e.lb+1:Z),H')/\
  GM H' {e with lb:=e.lb+1,u:=if e.g then e.u else e.u+af,ug:=if e.g then e.ug+af else e.ug} h n (k++[(e.lb+1,(af,e.g,ap))])/\Fr Gl a H':=by
 obtain⟨o,ks,C,i,U,Y,d⟩:=e;dsimp only at *;refine aM (fM hm) λa9 pU K=>?_;clear hm;subst pU;have b1:=Cf (m:=a9) A (n4 K rfl) B;have X:aK a (.aA 0) 32=S (.own 23):=A.rc rfl;have a1:∀M,aG M a (.aA 0) 27=.ok (.int Y,a):=λM=>A.at rfl;have G:eO a (.aA 0) 27 (.int (Y+1))=S (wI a 0 (.Mem,cR ⟨o,ks,C,i,U,Y+1,d⟩)):=A.eO rfl (by decide) _ rfl;have D:=A.wI (Ey:=⟨o,ks,C,i,U,Y+1,d⟩) rfl;have g:Fr Gl a (wI a 0 (.Mem,cR ⟨o,ks,C,i,U,Y+1,d⟩)):=Fr.wI (.inl rfl);generalize wI a 0 (.Mem,cR ⟨o,ks,C,i,U,Y+1,d⟩)=z at G D g;have t:∀M,aG M z (.aA 0) 27=.ok (.int (Y+1:Z),z):=λM=>D.at rfl;have j:∀M,aG M z (.aA 0) 15=.ok (.bool o,z):=λM=>D.at rfl;have x:∀M,aG M z (.aA 0) 30=.ok (.ab 0,z):=λM=>D.at rfl;have H:aK z (.aA 0) 31=S (.own 21):=D.rc rfl;have b2:=uu D K;rw[<-w] at b2;have s2:=xr D.m (k:=Y+1) (i:=af) (g:=o) (l:=ap) (n1 c rfl);replace s2:=(kN J)▸s2;have E:=D.wD (md':=k++[(Y+1,(af,o,ap))]) (R U7 (Xz c));have b:Fr Gl z (wD z 0 ((k++[(Y+1,(af,o,ap))]).map pM)):=Fr.wD (.inr (.inl rfl));generalize wD z 0 ((k++[(Y+1,(af,o,ap))]).map pM)=s at s2 E b;have y:∀M,aG M s (.aA 0) 15=.ok (.bool o,s):=λM=>E.at rfl;have a6:∀M,aG M s (.aA 0) 28=.ok (.int U,s):=λM=>E.at rfl;have a7:∀M,aG M s (.aA 0) 29=.ok (.int i,s):=λM=>E.at rfl;have r:=g.trans b;refine R (aN (f:=Li) [S (.aA 0),S (.int af)] rfl rfl) ?_;delta Li;obtain⟨I,a0,L,T,e2⟩:∃I a0:P5,eO s (.aA 0) (if o then 28 else 29) (if o then .int (U+af) else .int (i+af))=S (wI s 0 (.Mem,cR ⟨o,ks,C,I,a0,Y+1,d⟩))/\(if o then i else i+af)=I/\(if o then U+af else U)=a0:=by
  clear a9 K b1 X a1 G t j x H b2 s2 y a6 a7;induction o using U6;·exact uK (i+af) U (E.eO rfl (by decide) _ rfl) rfl rfl
  ·exact uK i (U+af) (E.eO rfl (by decide) _ rfl) rfl rfl
 refine R T (R e2 ?_);have G3:=E.wI (Ey:=⟨o,ks,C,I,a0,Y+1,d⟩) rfl;have p:Fr Gl s (wI s 0 (.Mem,cR ⟨o,ks,C,I,a0,Y+1,d⟩)):=Fr.wI (.inl rfl);generalize wI s 0 (.Mem,cR ⟨o,ks,C,I,a0,Y+1,d⟩)=v at L p G3;have P:∀M,aG M v (.aA 0) 27=.ok (.int (Y+1:Z),v):=λM=>G3.at rfl;refine mU v ?_ G3 (r.trans p);clear r g b p A D E G3 B J c w T e2;induction o using U6<;>simp only[SV,Rl,reduceCtorEq] at L<;>walk_at "ev"
noncomputable def has(y:AH):Ad->Prop
 |.L q=>q<y.L.length
 |.D q=>q<y.D.length
 |.I q=>q<y.I.length
 |.B q=>q<y.B.length
structure K8(H H':AH)(μ:MG)(svs:V Sv)(J:V Q)(md:V (Z×uG))(cost:P5)(bl:Z)(b:Bd)(c:Ct)(e:Z):Prop where
 G:GM H' {μ with lb:=μ.lb+1,u:=if μ.g then μ.u else μ.u+cost,ug:=if μ.g then μ.ug+cost else μ.ug} svs J (md++[(μ.lb+1,(cost,μ.g,bl))])
 F:Fr Gl H H'
 M:MB H' (λε=>e) b c
 n:b.num=μ.lb+1
 g:b.g=μ.g
 lv:b.lv=bl
 f:∀z,gs (λε=>e) b z->¬has H z
 w:∀z,gs (λε=>e) b z->has H' z
theorem Fr.has{P:Ad->Prop}(r:Fr P a U){z:Ad}(q:¬P z)(b:has a z):Mine.Lake.has U z:=by
 induction z using Ad.casesOn with
 |L X=>exact bY (r.L X _ q (U3 b))
 |D X=>exact bY (r.D X _ q (U3 b))
 |I X=>exact bY (r.I X _ q (U3 b))
 |B X=>exact bY (r.B X _ q (U3 b))
theorem Ez(A:GM a e h n k):(∀C,GM (aL a C) e h n k)/\(∀C,GM (aD a C) e h n k)/\(∀C,GM (aI a C) e h n k)/\∀C,GM (aB a C) e h n k:=(uO (λC=>⟨A.i,fB A.s,fB A.j,A.m,A.n,A.sl,A.jl,A.ml⟩) (λC=>⟨A.i,A.s,A.j,fB A.m,A.n,A.sl,A.jl,A.ml⟩) (λC=>⟨fB A.i,A.s,A.j,A.m,A.n,A.sl,A.jl,A.ml⟩) (λC=>⟨A.i,A.s,A.j,A.m,A.n,A.sl,A.jl,A.ml⟩))
theorem Cg{H:AH}{v:Q}{x:Q}{y:Q}{z:Q}{u:Q}{i:P5}{m:Z}(a:1<=m):aC m (.cls .Row) [x,.lst [y,z,u],v,.int i] H=.ok (.obj .Row [x,.aE H.L.length,v,.int i],aL H [y,z,u]):=by refine aM (fM a) λb bP U=>R bP ?_;rfl
theorem zM{H:AH}{v:Q}{x:Q}{y:Q}{i:P5}{m:Z}(a:1<=m):aC m (.cls .Dict) [x,y,v,.int i] H=.ok (.aA H.I.length,aI (aD H []) (.Dict,[x,y,v,.int i,.int 3,.ab H.D.length])):=by refine aM (fM a) λb cQ U=>R cQ ?_;rfl
theorem HT{md:V (Z×uG)}{m:Z}{i:P5}{j:P5}{k:P5}(A:GM a e h n md)(hm:4<=m)(B:e.u+e.ug+24<=16777216)(J:cU (e.lb+1) md=N)(c:md.length<98)(w:ap=if e.g then 0 else h.length):∃H' L,(∀a0,K8 a H' e h n md 24 ap ⟨.row,e.lb+1,e.g,ap,a0,L⟩ ⟨[i,j,k],[],3,0⟩ 0)/\
  aC m (.fn 26) [.aA 0,.lst [tI i,tI j,tI k]] a=.ok (bv ⟨.row,e.lb+1,e.g,ap,0,L⟩,H'):=by
 refine aM (fM hm) λM eA K=>R eA (rB (xt (m:=M) A K B J c w) λz T D g=>?_);have e2:∀i,aC M (.fn 13) [tI i] a=.ok (.bool P8,a):=λi=>xp K;have l:aC M (.fn 50) [.int 3,.int 65535] a=.ok (.none,a):=xq (n4 K rfl) (Vg _) (Vg _);have o:=uu D (m:=M) (n4 K rfl);rw[<-w] at o;have U:=Cg (m:=M) (H:=z) (x:=.int (e.lb+1:Z)) (y:=tI i) (z:=tI j) (u:=tI k) (v:=.bool e.g) (i:=(ap:Z)) (n4 K rfl);refine eP (aL z [tI i,tI j,tI k]) z.L.length (λa0=>⟨(Ez D).1 _,g.trans Fr.aL,eR,rfl,rfl,rfl,λY hz=>?_,λY hz=>?_⟩) ?_
 ·obtain rfl:Y=.L z.L.length:=hz;intro q;by_cases P:Gl (.L z.L.length)
  ·rcases P with P|P|P;·cases P
   ·cases P
   ·exact Wc (bY D.j) (Ad.L.inj P)
  ·exact Vk _ (g.has P q)
 ·obtain rfl:Y=.L z.L.length:=hz;show _<(z.L++[_]).length;exact R U7 (VU _)
 have X:aK a (.aA 0) 37=S (.own 22):=A.rc rfl;have H:aK z (.aA 0) 31=S (.own 21):=D.rc rfl;have r:∀s,aG s a (.aA 0) 33=.ok (lP,a):=λs=>A.at rfl;have t:∀s,aG s a lP 39=.ok (.int 65535,a):=λs=>aS rfl;have a3:∀s,aG s a (.aA 0) 15=.ok (.bool e.g,a):=λs=>A.at rfl;have a4:∀s,aG s z (.aA 0) 15=.ok (.bool e.g,z):=λs=>D.at rfl;have d:bK a .jK [.lst [tI i,tI j,tI k]]=S (.bool P8,a):=rfl;have C:bK a .len [.lst [tI i,tI j,tI k]]=S (.int 3,a):=rfl;have p:cK .mul (.int 8) (.int 3)=S (.int 24):=rfl;have b:srcOf a (.lst [tI i,tI j,tI k])=S (.eW [tI i,tI j,tI k],3):=rfl;refine(aN (f:=Lk) [S (.aA 0),S (.lst [tI i,tI j,tI k]),N] rfl rfl).trans ?_;delta Lk;have a5:=e2 i;have G:=e2 j;have E:=e2 k;induction I:e.g using U6<;>rw[I] at U a3 a4<;>walk_at "ev"
theorem HU{m:Z}(A:GM a e h n k)(G:4<=m)(B:e.u+e.ug+32<=16777216)(J:cU (e.lb+1) k=N)(c:k.length<98)(w:ap=if e.g then 0 else h.length):∃s L E,(∀C,K8 a s e h n k 32 ap ⟨.dict,e.lb+1,e.g,ap,C,L⟩ ⟨[],[],3,2⟩ E)/\
  aC m (.fn 27) [.aA 0,.int 2] a=.ok (bv ⟨.dict,e.lb+1,e.g,ap,0,L⟩,s):=by
 refine aM (fM G) λd eZ K=>R eZ (rB (xt (m:=d) A K B J c w) λz T D g=>?_);have l:aC d (.fn 50) [.int 2,.int 65535] a=.ok (.none,a):=xq (n4 K rfl) (Vg _) (Vg _);have o:=uu D (m:=d) (n4 K rfl);rw[<-w] at o;have U:=zM (m:=d) (H:=z) (x:=.int (e.lb+1:Z)) (y:=.int 2) (v:=.bool e.g) (i:=(ap:Z)) (n4 K rfl);refine C4 (aI (aD z []) (.Dict,[.int (e.lb+1:Z),.int 2,.bool e.g,.int ap,.int 3,.ab z.D.length])) z.I.length z.D.length (λC=>⟨(Ez ((Ez D).2.1 _)).2.2.1 _,(g.trans Fr.aD).trans Fr.aI,⟨eR,eR⟩,rfl,rfl,rfl,λY j=>?_,λY j=>?_⟩) ?_
 ·rcases j with rfl|rfl<;>intro q
  ·by_cases P:Gl (.I z.I.length)
   ·rcases P with P|P|P;·exact Wc (bY D.i) (Ad.I.inj P)
    ·cases P
    ·cases P
   ·exact Vk _ (g.has P q)
  ·by_cases P:Gl (.D z.D.length)
   ·rcases P with P|P|P;·cases P
    ·exact Wc (bY D.m) (Ad.D.inj P)
    ·cases P
   ·exact Vk _ (g.has P q)
 ·rcases j with rfl|rfl;·show _<(z.I++[_]).length;exact R U7 (VU _)
  ·show _<(z.D++[_]).length;exact R U7 (VU _)
 have X:aK a (.aA 0) 37=S (.own 22):=A.rc rfl;have H:aK z (.aA 0) 31=S (.own 21):=D.rc rfl;have r:∀b,aG b a (.aA 0) 33=.ok (lP,a):=λb=>A.at rfl;have t:∀b,aG b a lP 0=.ok (.int 65535,a):=λb=>aS rfl;have I:∀b,aG b z (.aA 0) 15=.ok (.bool e.g,z):=λb=>D.at rfl;have p:cK .mul (.int 16) (.int 2)=S (.int 32):=rfl;refine(aN (f:=Ll) [S (.aA 0),S (.int 2)] rfl rfl).trans ?_;delta Ll;walk_at "ev"
theorem HV(A:GM a e h n k)(B:e.u+e.ug+2<=16777216)(J:cU (e.lb+1) k=N)(c:k.length<98)(w:ap=if e.g then 0 else h.length):∃v L,(∀y,K8 a v e h n k 2 ap ⟨.text,e.lb+1,e.g,ap,y,L⟩ ⟨[0,0],[],3,0⟩ 0)/\
  nV [.aA 0,.int 2] a=.ok (bv ⟨.text,e.lb+1,e.g,ap,0,L⟩,v):=by
 refine rB (xt (m:=10) A (by decide) B J c w) λz T D g=>?_;have l:aC 10 (.fn 50) [.int 2,.int 65535] a=.ok (.none,a):=xq (Yd _) (Vg _) (Vg _);have o:=uu D (m:=10) (V4 _ _);replace o:=w.symm▸o;refine eP (aB z [0,0]) z.B.length (λy=>⟨(Ez D).2.2.2 _,g.trans Fr.aB,eR,rfl,rfl,rfl,λY j=>?_,λY j=>?_⟩) ?_;·obtain rfl:Y=.B z.B.length:=j;intro M;exact Vk _ (g.has (by rintro(P|P|P)<;>cases P) M)
 ·obtain rfl:Y=.B z.B.length:=j;show _<(z.B++[_]).length;exact R U7 (VU _)
 have X:aK a (.aA 0) 37=S (.own 22):=A.rc rfl;have H:aK z (.aA 0) 31=S (.own 21):=D.rc rfl;have C:aK a (.aA 0) 35=S (.own 25):=A.rc rfl;have r:∀f,aG f a (.aA 0) 33=.ok (lP,a):=λf=>A.at rfl;have t:∀f,aG f a lP 36=.ok (.int 65535,a):=λf=>aS rfl;have x:∀f,aG f z (.aA 0) 15=.ok (.bool e.g,z):=λf=>D.at rfl;have d:bK a .bytes [.int 2]=S (.bH [0,0],a):=rfl;have i:bK a .len [.bH [0,0]]=S (.int 2,a):=rfl;have b:only (.cls .Text) (uh gE) (.cls .Text) [.int (e.lb+1:Z),.bH [0,0],.bool e.g,.int ap] z=.ok (bv ⟨.text,e.lb+1,e.g,ap,0,z.B.length⟩,aB z [0,0]):=rfl;have KO:Kh [.aA 0,.bH [0,0]] a=.ok (bv ⟨.text,e.lb+1,e.g,ap,0,z.B.length⟩,aB z [0,0]):=by show CX E' (dG gE _ Kg) _ _=_;dsimp only[Kg,E',aH,oZ,CW];apply xn [S (.aA 0),S (.bH [0,0])] rfl;walk_at "nl";rfl
 show CX C1 (dG gE _ Ki) _ _=_;dsimp only[Ki,C1,aH,oZ,CW,BP];apply xn [S (.aA 0),S (.int 2)] rfl;walk_at "nl";rfl
noncomputable def wV(c k:Z)(g:Q):V (Q×Q):=[(.str 64,.aA 0),(.str 58,.aE c),(.str 25,.aE k),(.str 70,g)]
structure LW(H:AH)(kb jJ:Z)(gone:Q)(ds:V Z)(sv:V Q):Prop where
 w:H.D[1]? = S (wV kb jJ gone)
 b:H.L[kb]? = S (ds.map .ab)
 s:H.L[jJ]? = S sv
 n1:kb≠1
 n2:jJ≠1
 n3:kb≠jJ
 bl:ds.length<99
 sl:sv.length<99
noncomputable def EA(c:Z):Ad->Prop:=λY=>Gl Y\/Y=.L c
theorem LW.fr{P:Ad->Prop}(X:LW a K aq bu ax bn)(r:Fr P a U)(I:¬P (.D 1))(n1:¬P (.L K))(n2:¬P (.L aq)):LW U K aq bu ax bn:=⟨r.D _ _ I X.w,r.L _ _ n1 X.b,r.L _ _ n2 X.s,X.n1,X.n2,X.n3,X.bl,X.sl⟩
theorem FK(B:o≠1):¬Gl (.L o):=λP=>by
 rcases P with P|P|P;·cases P
 ·cases P
 ·exact B (Ad.L.inj P)
theorem CY(B:o≠0):¬Gl (.D o):=λP=>by
 rcases P with P|P|P;·cases P
 ·exact B (Ad.D.inj P)
 ·cases P
theorem LW.gl(X:LW a K aq bu ax bn)(r:Fr Gl a U):LW U K aq bu ax bn:=X.fr r (CY (by decide)) (FK X.n1) (FK X.n2)
theorem vN{j:V (Q×Q)}(B:a.D[o]? = S j)(D:(dR j C).bind id=S l):aR a (.ab o) C=S l:=(oL B).trans D
theorem LW.sub{v:Q}{x:Q}(X:LW a K aq bu ax bn)(D:(dR (wV K aq bu) x).bind id=S v):aR a (.ab 1) x=S v:=vN X.w D
theorem hL{x:Q}(B:a.L[o]? = S c9)(c:c9.length<1000):jB a (.aE o) 44 [x]=S (.none,wL a o (c9++[x])):=(oL B).trans (Qk (Qu c))
theorem yG(A:GM a e h n k)(o:P6):eO a (.aA 0) 15 (.bool o)=S (wI a 0 (.Mem,cR {e with g:=o}))/\GM (wI a 0 (.Mem,cR {e with g:=o})) {e with g:=o} h n k/\Fr Gl a (wI a 0 (.Mem,cR {e with g:=o})):=(gZ (A.eO rfl (by decide) _ rfl) (A.wI rfl) (Fr.wI (.inl rfl)))
theorem zN{way:Q}{b:Bd}{rest:P5}(m:Key->NF)(A:GM a e h n k)(H:e.ks≠K)(X:LW a K aq bu ax bn)(y:MB a (λU=>ah) b d)(J:∀Y,gs (λU=>ah) b Y->¬EA K Y)(q:b.d=a.D.length)(t:d.acc=3)
  (I:b.g=Qd (rest.fmod 4=3)) (a5:b.lv=if b.g then 0 else bn.length) (c:ax.length<98) :
  ∃H' l',dG gE m (.cons (.a (aH jG.body 3)) (.cons (.a (aH jG.body 4)) (.cons (.a (aH jG.body 5)) .nil))) [S (.ab 1),S way,S (.int rest),S (.aA 0),S (kS b.k),S (dO b.k d),S (bv b),x',y'] a=.ok (.next,l',H')/\
   GM H' {e with g:=P8} h n k/\LW H' K aq bu (ax++[b.d]) bn/\MB H' (λU=>ah) b d/\H'.D[b.d]? = S (eF b d)/\Fr (EA K) a H':=by
 have g:Fr (EA K) a (aD a (eF b d)):=Fr.aD;have G1:=(Ez A).2.1 (eF b d);have W1:LW (aD a (eF b d)) K aq bu ax bn:=X.fr (P:=λU=>QC) Fr.aD id id id;have i:(aD a (eF b d)).D[b.d]? = S (eF b d):=by exact R q eR
 have a1:aR a (.ab 1) (.str 25)=S (.aE aq):=X.sub rfl;have a2:aR a (.ab 1) (.str 58)=S (.aE K):=X.sub rfl;have a3:=mQ X.s (by have:=X.sl;exact n1 this rfl);have T:({a with D:=a.D++[[(.str 14,bv b),(.str 9,kS b.k),(.str 59,.bool b.g),(.str 26,.int b.lv),(.str 60,dO b.k d),(.str 16,.int 3)]]}:AH)=aD a (eF b d):=by unfold eF;exact R t rfl
 have d1:Q.ab a.D.length=.ab b.d:=by rw[q]
 generalize aD a (eF b d)=z at g G1 W1 i T;have a4:=hL (x:=.ab b.d) W1.b (by refine R (U1 ..) ?_;have:=W1.bl;exact n1 c rfl);have F2:Fr (EA K) z (wL z K (ax.map .ab++[.ab b.d])):=Fr.wL (.inr rfl);have E:GM (wL z K (ax.map .ab++[.ab b.d])) e h n k:=G1.fr (P:=λY=>Y=.L K) (Fr.wL rfl) nofun nofun (λa0=>X.n1 (Ad.L.inj a0).symm) (λa0=>H (Ad.L.inj a0));have f:LW (wL z K (ax.map .ab++[.ab b.d])) K aq bu (ax++[b.d]) bn:=⟨W1.w,by refine R Vw ?_;exact cJ W1.b,fA (Wd W1.n3) W1.s,W1.n1,W1.n2,W1.n3,by refine R U7 ?_;exact Xz c,W1.sl⟩;have C:(wL z K (ax.map .ab++[.ab b.d])).D[b.d]? = S (eF b d):=i;generalize wL z K (ax.map .ab++[.ab b.d])=s at a4 F2 E f C;refine hO (yG E P8) λL D p=>?_;have r:Fr (EA K) a (wI s 0 (.Mem,cR {e with g:=P8})):=(g.trans F2).trans (p.mono λU a0=>Yg a0);have w:=f.gl p;have B:(wI s 0 (.Mem,cR {e with g:=P8})).D[b.d]? = S (eF b d):=C;generalize wI s 0 (.Mem,cR {e with g:=P8})=H3 at L D p r w B;refine N5 H3 [S (.ab 1),S way,S (.int rest),S (.aA 0),S (kS b.k),S (dO b.k d),S (bv b),S (.int b.lv),y'] ?_ D w (y.fr r J) B r;have m4:cK .mod (.int rest) (.int 4)=S (.int (rest.fmod 4)):=rfl;have M:aK z (.aE K) 44=S .bR:=rfl;have G:Q.int b.lv=if b.g then .int 0 else .int bn.length:=by rw[a5];induction b.g using U6<;>rfl
 have I:=I.symm;clear r g F2 p A G1 E D X W1 f w i C B y J t c H a5 q;have j:dK gE (aH jG.body 3) [S (.ab 1),S way,S (.int rest),S (.aA 0),S (kS b.k),S (dO b.k d),S (bv b),x',y'] a=.ok (.next,[S (.ab 1),S way,S (.int rest),S (.aA 0),S (kS b.k),S (dO b.k d),S (bv b),S (.int b.lv),y'],a):=by dsimp only[jG,aH];rw[G];generalize b.g=o at *;clear T;induction o using U6<;>walk_at "ev"
 have k4:dK gE (aH jG.body 4) [S (.ab 1),S way,S (.int rest),S (.aA 0),S (kS b.k),S (dO b.k d),S (bv b),S (.int b.lv),y'] a=.ok (.next,[S (.ab 1),S way,S (.int rest),S (.aA 0),S (kS b.k),S (dO b.k d),S (bv b),S (.int b.lv),y'],s):=by
  refine Ml (OM (v:=.aE K) (H1:=a) ?_ (rfl) (FG (v:=.ab b.d) (H1:=z) ((Mk (us:=[bv b,kS b.k,.bool b.g,.int b.lv,dO b.k d,.int 3]) ?_ rfl).trans (Ql Res.ok (QU.ext d1 T))) Ks) a4);·walk_at "xe"
  ·walk_at "xl"
 have l:dK gE (aH jG.body 5) [S (.ab 1),S way,S (.int rest),S (.aA 0),S (kS b.k),S (dO b.k d),S (bv b),S (.int b.lv),y'] s=.ok (.next,[S (.ab 1),S way,S (.int rest),S (.aA 0),S (kS b.k),S (dO b.k d),S (bv b),S (.int b.lv),y'],H3):=by dsimp only[jG,aH];walk_at "ev"
 exact vZ j (vZ k4 (vZ l rfl))
structure yH(H H':AH)(μ:MG)(svs:V Sv)(J:V Q)(md:V (Z×uG))(kb jJ:Z)(gone:Q)(ds:V Z)(sv:V Q)(b:Bd)(c:Ct)(e:Z)(cost:P5):Prop where
 G:GM H' {μ with g:=P8,lb:=μ.lb+1,u:=if b.g then μ.u else μ.u+cost,ug:=if b.g then μ.ug+cost else μ.ug} svs J (md++[(μ.lb+1,(cost,b.g,b.lv))])
 W:LW H' kb jJ gone (ds++[b.d]) sv
 M:MB H' (λε=>e) b c
 D:H'.D[b.d]? = S (eF b c)
 F:Fr (EA kb) H H'
 n:b.num=μ.lb+1
 lv:b.lv=if b.g then 0 else svs.length
 fd:¬has H (.D b.d)
 fp:∀z,gs (λε=>e) b z->¬has H z
 ne:b.k=.dict->e≠b.d
 en:c.en=[]
 acc:c.acc=3
 il:b.k=.row->c.df.length=3
 it:b.k=.text->c.df.length=2
 dk:b.k=.dict->c.df=[]/\c.most=2
 co:cost<=32
theorem zO{b:V Q}{n:Z}(A:GM a e h b k)(w:a.L[K]? = S bn)(B:¬has a dq):¬EA K dq:=λP=>by
 rcases P with(rfl|rfl|rfl)|rfl;·exact B (bY A.i)
 ·exact B (bY A.m)
 ·exact B (bY A.j)
 ·exact B (bY w)
theorem q5{y:AH}{b:Bd}{rest:P5}{way:P5}{nf:Key->NF}{a:O Q}{b':O Q}(A:GM y e h n k)(X:LW y K aq bu ax bn)(H:e.ks≠K)(m:bn.length=h.length)(c:ax.length<98)(I:e.g=Qd (rest.fmod 4=3))
  (i:∀r,K8 y U e h n k cg ap {b with d:=r} d ah) (w:ap=if e.g then 0 else h.length) (t:d.acc=3) (B:d.en=[]) (o:b.k=.row->d.df.length=3) (G:b.k=.text->d.df.length=2) (q:b.k=.dict->d.df=[]/\d.most=2) (g:cg<=32) :
  ∃s p r,dG gE nf (.cons (.a (aH jG.body 3)) (.cons (.a (aH jG.body 4)) (.cons (.a (aH jG.body 5)) .nil))) [S (.ab 1),S (.int way),S (.int rest),S (.aA 0),S (kS b.k),S (dO b.k d),S (bv b),a,b'] U=.ok (.next,p,s)/\
   yH y s e h n k K aq bu ax bn {b with d:=r} d ah cg:=by
 have i:=i U.D.length;have J:∀Y,gs (λD=>ah) {b with d:=U.D.length} Y->¬EA K Y:=λY j=>zO (n:=0) A X.b (i.f Y j);refine Oe (zN (b:={b with d:=U.D.length}) (way:=.int way) (rest:=rest) (x':=a) (y':=b') nf i.G H (X.gl i.F) i.M J rfl t (i.g.trans I) (by refine i.lv.trans ?_;refine w.trans (R i.g (R m rfl))) c) λs p T E f l C z=>?_;refine C4 s p U.D.length T ⟨?_,f,l,C,(i.F.mono λD P=>Yg P).trans z,i.n,by refine i.lv.trans ?_;refine w.trans ?_;refine R i.g rfl,λP=>?_,i.f,λM x=>?_,B,t,o,G,q,g⟩;·have v:=i.g;refine R v ?_;refine R (i.lv) ?_;exact E
 ·by_cases M:Gl (.D U.D.length)
  ·rcases M with M|M|M;·cases M
   ·exact Wc (bY i.G.m) (Ad.D.inj M)
   ·cases M
  ·exact Vk _ (i.F.has M P)
 ·have:=i.w (.D ah) (by show(match b.k with|.row=>_|.text=>_|.dict=>_);exact R (show b.k=.dict from M) (.inr rfl));exact Qp (show ah<U.D.length from this) (R (show ah=U.D.length from x) (Vk _))
theorem HW{rest:P5}{way:P5}(A:GM a e h n k)(a0:LW a K aq bu ax bn)(H:e.ks≠K)(a8:bn.length=h.length)(c:ax.length<98)(a7:k.length<98)(J:cU (e.lb+1) k=N)(B:e.u+e.ug+32<=16777216) :
  ∃s E a5 a3 t,nW [.ab 1,.int way,.int rest] a=.ok (.none,s)/\yH a s e h n k K aq bu ax bn E a5 a3 t:=by
 refine hF λf=>?_;have m4:cK .mod (.int rest) (.int 4)=S (.int (rest.fmod 4)):=rfl;have C:cK .mod (.int rest) (.int 7)=S (.int (rest.fmod 7)):=rfl;have r:aR a (.ab 1) (.str 64)=S (.aA 0):=a0.sub rfl;refine hO (yG A (Qd (rest.fmod 4=3))) λs1 D g=>?_;have d:=a0.gl g;have P:∀Y,has a Y->has (wI a 0 (.Mem,cR {e with g:=Qd (rest.fmod 4=3)})) Y:=λY a4=>by induction Y using Ad.casesOn<;>first|exact a4|exact WJ a4 (Wg ..).symm
 generalize wI a 0 (.Mem,cR {e with g:=Qd (rest.fmod 4=3)})=z at s1 D g d P;have L:gS gE (only (.fn 24) nV) (.a (aH jG.body 0)) [S (.ab 1),S (.int way),S (.int rest),N,N,N,N,N,N] a=.ok (.next,[S (.ab 1),S (.int way),S (.int rest),S (.aA 0),N,N,N,N,N],a):=by dsimp only[jG,aH];clear A D g a0 d;walk_at "ev"
 have q:gS gE (only (.fn 24) nV) (.a (aH jG.body 1)) [S (.ab 1),S (.int way),S (.int rest),S (.aA 0),N,N,N,N,N] a=.ok (.next,[S (.ab 1),S (.int way),S (.int rest),S (.aA 0),N,N,N,N,N],z):=by dsimp only[jG,aH];clear A D g a0 d;walk_at "ev"
 obtain⟨b,w⟩:∃b:Z,b=if Qd (rest.fmod 4=3) then 0 else h.length:=⟨_,rfl⟩;have p:∀{l':Loc} {s:AH},(dG gE (only (.fn 24) nV) (.cons (.ifs (eH (aH jG.body 2)) (.cons (.a (aH (fx (aH jG.body 2)) 0)) (.cons (.a (aH (fx (aH jG.body 2)) 1)) .nil))
  (.cons (.ifs (eH yx) (.cons (.a (aH (fx yx) 0)) .nil) (.cons (.tup [4,5,6] (El (aH (dM yx) 0)).1 (El (aH (dM yx) 0)).2.1 (.aU (BP (El (aH (dM yx) 0)).2.2) 63 24 (oZ (El (aH (dM yx) 0)).2.2))) .nil)) .nil)) (.cons (.a (aH jG.body 3)) (.cons (.a (aH jG.body 4)) (.cons (.a (aH jG.body 5)) .nil)))) [S (.ab 1),S (.int way),S (.int rest),S (.aA 0),N,N,N,N,N] z=.ok (.next,l',s))->nW [.ab 1,.int way,.int rest] a=.ok (.none,s):=λ{l' s} Y=>by
  show(dG gE (only (.fn 24) nV) Kj [S (.ab 1),S (.int way),S (.int rest),N,N,N,N,N,N] a).bind _=_
  have:dG gE (only (.fn 24) nV) Kj [S (.ab 1),S (.int way),S (.int rest),N,N,N,N,N,N] a=.ok (.next,l',s):=by exact vZ L (vZ q Y)
  rw[this];rfl
 have a2:∀{v:AH} {E:Bd} {a5:Ct} {a3:Z} {t:P5},yH z v {e with g:=Qd (rest.fmod 4=3)} h n k K aq bu ax bn E a5 a3 t->yH a v e h n k K aq bu ax bn E a5 a3 t:=λy=>
  ⟨y.G,y.W,y.M,y.D,(g.mono λU a4=>Yg a4).trans y.F,y.n,y.lv,λM=>y.fd (P _ M),λY hz M=>y.fp Y hz (P _ M),y.ne,y.en,y.acc,y.il,y.it,y.dk,y.co⟩
 have e0:dG gE (only (.fn 24) nV) .nil=Hb:=rfl;by_cases G:way<2;·refine cN (HT (m:=10) (i:=rest.fmod 7) (j:=5) (k:=5) D (by decide) (o8 B (by decide)) J a7 w) λs T i e2=>?_;have l:∀a6 a,aC 10 (.fn 3) [.int a6] a=.ok (tI a6,a):=λa6 a=>Ca (by decide);refine Aa (q5 (way:=way) (rest:=rest) (nf:=only (.fn 24) nV) (b:=⟨.row,e.lb+1,Qd (rest.fmod 4=3),b,0,T⟩) (a:=N) (b':=N) D d H a8 c rfl i w rfl rfl (λU=>rfl) nofun nofun (Vg _)) λv l' a9 o MB=>?_;refine f ⟨v,_,_,_,_,p (l':=l') ?_,a2 MB⟩;have c4:srcOf z (.lst [.int (rest.fmod 7),.int 5,.int 5])=S (.eW [.int (rest.fmod 7),.int 5,.int 5],3):=rfl;have r1:aK z (.aA 0) 61=S (.own 26):=D.rc rfl;have I:=Qu G;refine vZ (X:=.ok (.next,[S (.ab 1),S (.int way),S (.int rest),S (.aA 0),S (kS .row),S (dO .row ⟨[rest.fmod 7,5,5],[],3,0⟩),S (bv ⟨.row,e.lb+1,Qd (rest.fmod 4=3),b,0,T⟩),N,N],s)) ?_ o;dsimp only[jG,aH,eH,fx];have c1:=l (rest.fmod 7) z;have b9:=l 5 z;clear o MB i A D g a0 d L q p a2 P G;walk_at "ev"
 ·by_cases x:way=2;·refine Aa (HU (m:=10) D (by decide) B J a7 w) λs T a3 i e2=>?_;refine Aa (q5 (way:=way) (rest:=rest) (nf:=only (.fn 24) nV) (b:=⟨.dict,e.lb+1,Qd (rest.fmod 4=3),b,0,T⟩) (a:=N) (b':=N) D d H a8 c rfl i w rfl rfl nofun nofun (λU=>⟨rfl,rfl⟩) (Ys _)) λv l' a9 o MB=>?_;refine f ⟨v,_,_,_,_,p (l':=l') ?_,a2 MB⟩;have r1:aK z (.aA 0) 62=S (.own 27):=D.rc rfl;have I:=QJ G;have d2:=Qu x;refine vZ (X:=.ok (.next,[S (.ab 1),S (.int way),S (.int rest),S (.aA 0),S (kS .dict),S (dO .dict ⟨[],[],3,2⟩),S (bv ⟨.dict,e.lb+1,Qd (rest.fmod 4=3),b,0,T⟩),N,N],s)) ?_ o;dsimp only[jG,yx,aH,eH,fx,dM];clear o MB i A D g a0 d L q p a2 P x G;walk_at "ev"
  ·refine cN (HV D (o8 B (by decide)) J a7 w) λs T i e2=>?_;refine Aa (q5 (way:=way) (rest:=rest) (nf:=only (.fn 24) nV) (b:=⟨.text,e.lb+1,Qd (rest.fmod 4=3),b,0,T⟩) (a:=N) (b':=N) D d H a8 c rfl i w rfl rfl nofun (λU=>rfl) nofun (Vg _)) λv l' a9 o MB=>?_;refine f ⟨v,_,_,_,_,p (l':=l') ?_,a2 MB⟩;have r1:aK z (.aA 0) 63=S (.own 24):=D.rc rfl;have I:=QJ G;have d2:=QJ x;refine vZ (X:=.ok (.next,[S (.ab 1),S (.int way),S (.int rest),S (.aA 0),S (kS .text),S (dO .text ⟨[0,0],[],3,0⟩),S (bv ⟨.text,e.lb+1,Qd (rest.fmod 4=3),b,0,T⟩),N,N],s)) ?_ o;dsimp only[jG,yx,aH,eH,fx,dM,El,K4,K5,BP,oZ];have e2:=(RX (RX (show only (.fn 24) nV (.fn 24)=nV from Qk rfl) _) _).trans e2;clear o MB i A D g a0 d L q p a2 P x G;walk_at "ev"
theorem c0:((0:Z):P5)=0:=rfl
noncomputable def aV(E:Bd):Un->Q
 |.item s C=>.tup [.str 45,bv E,.int s,tI C]
 |.most H=>.tup [.str 47,bv E,.int H]
 |.acc L=>.tup [.str 16,bv E,.int L]
 |.ent k N=>.tup [.str 49,bv E,kW k,.none]
 |.ent k (S C)=>.tup [.str 49,bv E,kW k,eN k C]
 |.drop k C e=>.tup [.str 52,bv E,kW k,eN k C,.lst (e.map kW)]
noncomputable def Ci(j:Z->Z)(E:Bd):Ad->Prop:=λY=>Gl Y\/gs j E Y
noncomputable def cZ(s:V Sv)(E:Bd):P6:=!E.g&&Qd (E.lv<s.length)
noncomputable def jw(el:P6)(y:AH)(b:V Q)(x:Q):AH:=if el then wL y 1 (b++[x]) else y
theorem Pl{y:LE}{L:jL}{D:P6}(A:aO g y f a=.ok (.bool D,a))(K:aW g L f a=.ok (.next,f,wL a 1 (n++[C]))):dK g (.ifs y L .nil) f a=.ok (.next,f,jw D a n C):=by
 refine wg.trans ?_;refine(bL A).trans ?_;induction D using U6;·rfl
 ·exact K
noncomputable def jn(H:P6)(b:V Q)(I:Q):V Q:=if H then b++[I] else b
structure Sp(μ:MG)(es:Z->Z)(b:Bd):Prop where
 g:∀z,gs es b z->¬Gl z
 k:∀z,gs es b z->z≠.L μ.ks
theorem GM.jw{x:Q}{el:P6}(A:GM a e h n k)(E:n.length<98):GM (jw el a n x) e h (jn el n x) k/\Fr Gl a (Mine.Lake.jw el a n x):=by
 induction el using U6;·exact⟨A,Fr.refl⟩
 ·exact⟨A.wJ (R U7 (Xz E)),Fr.wL (.inr (.inr rfl))⟩
theorem Sp.fr(B:Sp e m b)(r:Fr Gl a U)(y:MB a m b d):MB U m b d:=y.fr r B.g
theorem Sp.gm(B:Sp e m b)(r:Fr (gs m b) a U)(A:GM a e h n k):GM U e h n k:=A.fr r (λP=>B.g _ P (.inl rfl)) (λP=>B.g _ P (.inr (.inl rfl))) (λP=>B.g _ P (.inr (.inr rfl))) λP=>B.k _ P rfl
theorem FL(J:b.k=.row)(y:MB a m b d){l:V P5}:MB (wL a b.a (l.map tI)) m b {d with df:=l}/\Fr (gs m b) a (wL a b.a (l.map tI)):=by unfold MB gs at *;rw[J] at y;refine R J ?_;exact⟨cJ y,Fr.wL rfl⟩
theorem yI(J:b.k=.dict)(y:MB a m b d){c':Ct}(B:c'.en=d.en):MB (wI a b.a (.Dict,gU b c' (m b.num))) m b c'/\Fr (gs m b) a (wI a b.a (.Dict,gU b c' (m b.num))):=by unfold MB gs at *;rw[J] at y;refine R J ?_;exact⟨⟨cJ y.1,by refine R B ?_;exact y.2⟩,Fr.wI (.inl rfl)⟩
theorem yJ(J:b.k=.dict)(y:MB a m b d){l:V (Z×P5)}:MB (wD a (m b.num) (l.map ent)) m b {d with en:=l}/\Fr (gs m b) a (wD a (m b.num) (l.map ent)):=by unfold MB gs at *;rw[J] at y;refine R J ?_;exact⟨⟨y.1,cJ y.2⟩,Fr.wD (.inr rfl)⟩
theorem HX(J:b.k=.text)(y:MB a m b d){l:V P5}:MB (wB a b.a l) m b {d with df:=l}/\Fr (gs m b) a (wB a b.a l):=by unfold MB gs at *;rw[J] at y;refine R J ?_;exact⟨cJ y,Fr.wB rfl⟩
theorem fI(J:b.k=.dict)(y:MB a m b d){r:Z}(D:((jA .Dict r).bind λs=>(gU b d (m b.num))[s]?)=S l):aG g a (bv b) r=.ok (l,a):=by refine aS ?_;unfold MB at y;unfold bv;rw[J] at y;refine R J ?_;exact(oL y.1).trans D
theorem pN{v:Q}(J:b.k=.dict)(y:MB a m b d){f i:Z}(D:jA .Dict f=S i)(g:i<6)(o:Ct)(P:(gU b d (m b.num)).set i v=gU b o (m b.num)):eO a (bv b) f v=S (wI a b.a (.Dict,gU b o (m b.num))):=by unfold MB at y;unfold bv;rw[J] at y;refine R J ?_;refine(oL y.1).trans ((oL D).trans ?_);exact(Qk ⟨g,rfl⟩).trans (R P rfl)
theorem HY{m:Z}{j:Z->Z}{i:P5}(h:1<=m)(J:b.k=.text)(y:MB a j b d){p:Z}(n:p<d.df.length)(e:d.df.length<1000)(g:0<=i)(H:i<256):aC m (.fn 32) [.aA 0,bv b,.int p,.int i] a=.ok (.none,wB a b.a (d.df.set p i)):=by
 refine aM (fM h) λl bP K=>R bP ?_;have M:a.B[b.a]? = S d.df:=by unfold MB at y;replace y:=J▸y;exact y
 have D:bv b=.obj .Text [.int b.num,.fV b.a,.bool b.g,.int b.lv]:=by unfold bv;rw[J]
 have L:∀c,aG c a (bv b) 4=.ok (.fV b.a,a):=λc=>aS (R D rfl);have k:ei a (.fV b.a) (.int p) (.int i)=S (wB a b.a (d.df.set p i)):=by refine(oL M).trans ?_;refine(Qk ⟨by exact Vg _,by exact Vj.mpr n,g,H,Qu e⟩).trans ?_;rfl
 refine(aN (f:=Lo) [S (.aA 0),S (bv b),S (.int p),S (.int i)] rfl rfl).trans ?_;delta Lo;walk_at "ev"
theorem HZ{m:Z}{j:Z->Z}{i:P5}(A:GM a e h n k)(E:n.length<98)(B:Sp e j b)(s:3<=m)(J:b.k=.dict)(y:MB a j b d)(L:i<=d.acc):∃o,aC m (.fn 37) [.aA 0,bv b,.int i] a=.ok (.none,o)/\
  GM o e h (jn (cZ h b) n (aV b (.acc d.acc))) k/\MB o j b {d with acc:=i}/\Fr (Ci j b) a o:=by refine hF λC=>aM (fM s) λM cQ K=>?_;clear s;subst cQ;refine hO (jF y) λb1 b2 b3=>?_;have T:=qY A K b1 b2;have X:aK a (.aA 0) 42=S (.own 28):=A.rc rfl;have r:∀c,aG c a (bv b) 16=.ok (.int d.acc,a):=λc=>fI J y rfl;have t:∀c,aG c a (.aA 0) 43=.ok (.aE 1,a):=λc=>A.at rfl;have I:=QJ (WU.mpr L);have w:=hL (x:=aV b (.acc d.acc)) A.j (n1 E rfl);refine bT (A.jw (el:=cZ h b) (x:=aV b (.acc d.acc)) E) λD g=>?_;have p:=B.fr g y;have G:=pN J p (f:=16) (i:=4) (v:=.int i) rfl (by decide) {d with acc:=i} rfl;refine bT (yI J p (c':={d with acc:=i}) rfl) λl z=>C (CT _ ?_ (B.gm z D) l ((g.mono λU=>.inl).trans (z.mono λU=>.inr)));have H:aK a (.aE 1) 44=S .bR:=rfl;refine(aN (f:=Lp) [S (.aA 0),S (bv b),S (.int i)] rfl rfl).trans ?_;delta Lp;walk_at "ev"
theorem H6{m:Z}{es:Z->Z}{i:P5}(A:GM a e h n k)(E:n.length<98)(B:Sp e es b)(hm:6<=m)(J:b.k=.row)(Y:MB a es b d){p:Z}(P:p<d.df.length)(h2:d.df.length<1000)(H:∀m,3<=m->∀a,aC m (.fn 13) [tI i] a=.ok (.bool P8,a)):∃v z,d.df[p]? = S z/\aC m (.fn 30) [.aA 0,bv b,.int p,tI i] a=.ok (.none,v)/\
  GM v e h (jn (cZ h b) n (aV b (.item p z))) k/\MB v es b {d with df:=d.df.set p i}/\Fr (Ci es b) a v:=by
 refine hF λs=>aM (fM hm) λa7 eA K=>?_;clear hm;subst eA;refine aM (fM K) λX eZ a0=>?_;clear K;subst eZ;refine hO (jF Y) λb1 b2 b3=>?_;have T:=qY A (m:=X) (n4 a0 rfl) b1 b2;have e2:=ur (m:=X) (H:=a) (y:=tI i) a0 b1 (l:=false) λm a3=>H m a3 a;have r1:aK a (.aA 0) 42=S (.own 28):=A.rc rfl;have C:aK a (.aA 0) 46=S (.own 29):=A.rc rfl;have r4:aK a (.aA 0) 41=S (.own 31):=A.rc rfl;have a4:bv b=.obj .Row [.int b.num,.aE b.a,.bool b.g,.int b.lv]:=by unfold bv;rw[J]
 have r:∀x a,aG x a (bv b) 6=.ok (.aE b.a,a):=λx a=>aS (R a4 rfl);have t:∀x,aG x a (.aA 0) 43=.ok (.aE 1,a):=λx=>A.at rfl;have M:a.L[b.a]? = S (d.df.map tI):=by unfold MB at Y;rw[J] at Y;exact Y
 have L:aR a (.aE b.a) (.int p)=S (tI d.df[p]):=by show(a.L[b.a]?).bind _=_;rw[M];show(place p (d.df.map tI).length).bind _=_;unfold place;rw[Qk (Vg _),Qk (by rw[U1];exact⟨Vj.mpr P,Wb.mpr (uD (Ve P h2) rfl)⟩)];show(d.df.map tI)[p]? = _;rw[Vb,U3 P];rfl
 have w:=hL (x:=aV b (.item p d.df[p])) A.j (n1 E rfl);refine bT (A.jw (el:=cZ h b) (x:=aV b (.item p d.df[p])) E) λD g=>?_;have j:=B.fr g Y;refine bT (FL J j (l:=d.df.set p i)) λM2 F2=>?_;have G:ei (jw (cZ h b) a n (aV b (.item p d.df[p]))) (.aE b.a) (.int p) (tI i)=S (wL (jw (cZ h b) a n (aV b (.item p d.df[p]))) b.a ((d.df.set p i).map tI)):=by
  have c:(jw (cZ h b) a n (aV b (.item p d.df[p]))).L[b.a]? = S (d.df.map tI):=by unfold MB at j;rw[J] at j;exact j
  show((jw _ a n _).L[b.a]?).bind _=_;rw[c];show(if 0<=(p:P5)/\(p:P5)<((d.df.map tI).length:P5)/\sm (d.df.map tI).length=P4 then _ else N)=_;rw[Qk ⟨by exact Vg _,by rw[U1];exact Vj.mpr P,by rw[U1];exact Qu h2⟩,YR];rfl
 refine s (IU _ (d.df[p]) (U3 P) ?_ (B.gm F2 D) M2 ((g.mono λU=>.inl).trans (F2.mono λU=>.inr)));have r2:aK a (.aE 1) 44=S .bR:=rfl;have q2:srcOf a (.lst [tI i])=S (.eW [tI i],1):=rfl;rw[aN (f:=Jb) [S (.aA 0),S (bv b),S (.int p),S (tI i)] rfl rfl];delta Jb;have o:aC (X+1) (.fn 31) [.aA 0,bv b,.int p,.lst [tI i]] a=.ok (.none,wL (jw (cZ h b) a n (aV b (.item p d.df[p]))) b.a ((d.df.set p i).map tI)):=by rw[aN (f:=Jc) [S (.aA 0),S (bv b),S (.int p),S (.lst [tI i]),N,N] rfl rfl];delta Jc;have a6:=λx=>r x a;have a5:=λx=>r x (jw (cZ h b) a n (aV b (.item p d.df[p])));have p0:cK .add (.int p) (.int (0:Z))=S (.int p):=Ql (λI=>S (Q.int I)) (P5.add_zero _);replace e2:=e2.trans (Qm (λq=>Vm ((XR _).symm.trans q)));walk_at "ev"
 walk_at "ev"
theorem uv{l:V (Z×t)}:(sY i l).isSome=(cU i l).isSome:=by
 induction B:sY i l using U0 with
 |none=>refine R (pK.mp B) ?_;rfl
 |some s=>induction p:cU i l using U0 with
  |none=>exact nX ((pK.mpr p)▸B)
  |some z=>rfl
theorem eS(J:b.k=.dict)(y:MB a m b d):a.D[m b.num]? = S (d.en.map ent):=by unfold MB at y;replace y:=J▸y;exact y.2
theorem uw{w:Z}(B:a.D[ah]? = S (d.en.map ent)):cW a .in (kW w) (.ab ah)=S (cU w d.en).isSome/\cW a .uH (kW w) (.ab ah)=S (!(cU w d.en).isSome):=by
 have:IQ a (kW w) (.ab ah)=S (cU w d.en).isSome:=by refine(oL B).trans ?_;show(fO (kW w) (d.en.map ent)).map (·.isSome)=_;exact R (iI oN rfl) (R uv.symm rfl)
 exact⟨this,by show(IQ a (kW w) (.ab ah)).map _=_;refine R this ?_;rfl⟩
theorem ux{w:Z}{c:Ct}(B:a.D[ah]? = S (c.en.map ent))(o:cU w c.en=S am):aR a (.ab ah) (kW w)=S (eN w am):=by refine vN B ?_;exact(oL (iZ oN rfl)).trans (R o rfl)
theorem uy{w:Z}{c:Ct}{i:P5}(B:a.D[ah]? = S (c.en.map ent))(b:c.en.length<1000):ei a (.ab ah) (kW w) (eN w i)=S (wD a ah ((fH w i c.en).map ent)):=by refine(oL B).trans ?_;show(rG (c.en.map ent) (kW w) (eN w i)).map _=_;exact R (yD oN rfl b) rfl
theorem yK(B:a.D[ah]? = S (d.en.map ent))(o:cU i d.en=S am)(c:d.en.length<1000):jB a (.ab ah) 51 [kW i]=S (eN i am,wD a ah ((lN i d.en).map ent)):=by refine(oL B).trans ?_;refine(Qk (by refine R (U1 ..) ?_;exact Qu c)).trans ?_;refine R (iZ oN rfl) (R o ?_);refine R (yE oN rfl (by refine R o ?_;rfl)) ?_;rfl
theorem EB{w:Z}(B:a.D[ah]? = S (d.en.map ent)):jB a (.ab ah) 48 [kW w]=S (((cU w d.en).map (eN w)).getD .none,a):=by refine(oL B).trans ?_;show(dR (d.en.map ent) (kW w)).map _=_;exact R (iZ oN rfl) rfl
theorem Cj(B:a.D[ah]? = S (d.en.map ent))(c:d.en.length<1000):bK a .list [.ab ah]=S (.lst ((d.en.map (·.1)).map kW),a):=by refine(oL B).trans ?_;refine(Qk (by refine R (U1 ..) ?_;exact Qu c)).trans ?_;exact R V8 (R V8 rfl)
theorem EC(B:a.D[ah]? = S (d.en.map ent))(c:d.en.length<1000):bK a .len [.ab ah]=S (.int d.en.length,a):=by refine(oL B).trans ?_;refine(Qk (by refine R (U1 ..) ?_;exact Qu c)).trans ?_;refine R (U1 ..) rfl
theorem H9{m:Z}{j:Z->Z}(g:3<=m)(J:b.k=.dict)(y:MB a j b d)(K:cU i d.en=N):aC m (.fn 36) [.aA 0,bv b,tN i] a=.ok (.none,a):=by refine aM (fM g) λh bP c=>R bP ?_;have T:=xo (H:=a) (w:=i) c;have r:∀e,aG e a (bv b) 0=.ok (.ab (j b.num),a):=λe=>fI J y rfl;have L:=(uw (w:=i) (eS J y)).1;rw[K] at L;refine(aN (f:=Jd) [S (.aA 0),S (bv b),S (tN i),N] rfl rfl).trans ?_;delta Jd;walk_at "ev"
theorem Ia{m:Z}{j:Z->Z}(A:GM a e h n k)(E:n.length<98)(B:Sp e j b)(M:3<=m)(J:b.k=.dict)(y:MB a j b d)(G:cU i d.en=S am)(c:d.en.length<1000):∃v,aC m (.fn 36) [.aA 0,bv b,tN i] a=.ok (.none,v)/\
  GM v e h (jn (cZ h b) n (aV b (.drop i am (d.en.map (·.1))))) k/\MB v j b {d with en:=lN i d.en}/\Fr (Ci j b) a v:=by refine hF λs=>aM (fM M) λa0 cQ K=>?_;clear M;subst cQ;refine hO (jF y) λb1 b2 b3=>?_;have Y:=qY A K b1 b2;have T:=xo (H:=a) (w:=i) K;have X:aK a (.aA 0) 42=S (.own 28):=A.rc rfl;have r:∀p,aG p a (bv b) 0=.ok (.ab (j b.num),a):=λp=>fI J y rfl;have t:∀p,aG p a (.aA 0) 43=.ok (.aE 1,a):=λp=>A.at rfl;have L:=(uw (w:=i) (eS J y)).1;rw[G] at L;have q2:=ux (eS J y) G;have q3:=Cj (eS J y) c;have w:=hL (x:=aV b (.drop i am (d.en.map (·.1)))) A.j (n1 E rfl);refine bT (A.jw (el:=cZ h b) (x:=aV b (.drop i am (d.en.map (·.1)))) E) λD g=>?_;have z:=B.fr g y;have a3:∀p,aG p (jw (cZ h b) a n (aV b (.drop i am (d.en.map (·.1))))) (bv b) 0=.ok (.ab (j b.num),(jw (cZ h b) a n (aV b (.drop i am (d.en.map (·.1)))))):=λp=>fI J z rfl;have o:=yK (eS J z) G c;refine bT (yJ J z (l:=lN i d.en)) λP I=>s (CT _ ?_ (B.gm I D) P ((g.mono λU=>.inl).trans (I.mono λU=>.inr)));have H:aK a (.aE 1) 44=S .bR:=rfl;have C:∀a,aK a (.ab (j b.num)) 51=S .bR:=λU=>rfl;refine(aN (f:=Jd) [S (.aA 0),S (bv b),S (tN i),N] rfl rfl).trans ?_;delta Jd;walk_at "ev"
theorem Ib{m:Z}{j:Z->Z}(A:GM a e h n k)(hj:n.length<98)(B:Sp e j b)(hm:3<=m)(J:b.k=.dict)(y:MB a j b d)(p:d.most=2)(a0:cU b.num k=S (cg,b.g,b.lv))(c9:e.u+e.ug+96<=16777216) :
  ∃H',aC m (.fn 34) [.aA 0,bv b] a=.ok (.none,H')/\
  GM H' {e with u:=if b.g then e.u else e.u+96,ug:=if b.g then e.ug+96 else e.ug} h (jn (cZ h b) n (aV b (.most 2))) (fH b.num (cg+96,b.g,b.lv) k)/\MB H' j b {d with most:=8}/\Fr (Ci j b) a H':=by
 refine hF λC=>aM (fM hm) λb9 eA K=>?_;clear hm;subst eA;refine hO (jF y) λb1 b2 b3=>?_;have r1:aK a (.aA 0) 32=S (.own 23):=A.rc rfl;have r:∀Y,aG Y a (bv b) 47=.ok (.int 2,a):=λY=>fI J y (by rw[<-p];rfl);have a2:∀Y,aG Y a (.aA 0) 33=.ok (lP,a):=λY=>A.at rfl;have a3:∀Y,aG Y a lP 0=.ok (.int 65535,a):=λY=>aS rfl;have a4:∀Y,aG Y a (bv b) 23=.ok (.int b.num,a):=λY=>aS b3;have a5:∀Y,aG Y a (.aA 0) 30=.ok (.ab 0,a):=λY=>A.at rfl;have a6:∀Y,aG Y a (bv b) 15=.ok (.bool b.g,a):=λY=>aS b1;have a7:∀Y,aG Y a (bv b) 26=.ok (.int b.lv,a):=λY=>aS b2;have c1:cK .mul (.int 2) (.int 2)=S (.int 4):=rfl;have c2:bK a .max [.int 4,.int 8]=S (.int 8,a):=rfl;have c3:bK a .min [.int 8,.int 65535]=S (.int 8,a):=rfl;have c4:Qd ((8:P5)<=2)=P8:=rfl;have c5:cK .mul (.int 16) (.int (8 - 2))=S (.int 96):=rfl;have e1:=Cf (m:=b9) A (n4 K rfl) c9;have c6:cW a .in (.int b.num) (.ab 0)=S P4:=by show(a.D[0]?).bind _=_;rw[A.m];show(fO (kI b.num) (k.map pM)).map (·.isSome)=_;rw[iI qZ rfl];show S ((sY b.num k).isSome)=_;rw[uv,a0];rfl
 have c7:aR a (.ab 0) (.int b.num)=S (.tup [.int cg,.bool b.g,.int b.lv]):=by refine vN A.m ?_;show(dR (k.map pM) (kI b.num)).bind id=_;rw[iZ qZ rfl,a0];rfl
 have c8:aR a (.tup [.int cg,.bool b.g,.int b.lv]) (.int 0)=S (.int cg):=rfl;have G:=xr A.m (k:=b.num) (i:=cg+96) (g:=b.g) (l:=b.lv) (by have:=A.ml;exact n1 this rfl);have t:(fH b.num (cg+96,b.g,b.lv) k).length=k.length:=uo (by rw[a0];rfl);have D:=A.wD (md':=fH b.num (cg+96,b.g,b.lv) k) (by rw[t];exact A.ml);have g:Fr Gl a (wD a 0 ((fH b.num (cg+96,b.g,b.lv) k).map pM)):=Fr.wD (.inr (.inl rfl));have M1:=B.fr g y;generalize wD a 0 ((fH b.num (cg+96,b.g,b.lv) k).map pM)=z at G D g M1;refine hO (jF M1) λd1 M X=>?_;have P:∀Y,aG Y z (bv b) 15=.ok (.bool b.g,z):=λY=>aS d1;have a9:∀Y,aG Y z (.aA 0) 28=.ok (.int e.ug,z):=λY=>D.at rfl;have d0:∀Y,aG Y z (.aA 0) 29=.ok (.int e.u,z):=λY=>D.at rfl;obtain⟨I,U,L,e3,e2⟩:∃I U:P5,eO z (.aA 0) (if b.g then 28 else 29) (if b.g then .int (e.ug+96) else .int (e.u+96))=S (wI z 0 (.Mem,cR {e with u:=I,ug:=U}))/\(if b.g then e.u else e.u+96)=I/\(if b.g then e.ug+96 else e.ug)=U:=by
  induction b.g using U6;·exact uK (e.u+96) e.ug (D.eO rfl (by decide) _ rfl) rfl rfl
  ·exact uK e.u (e.ug+96) (D.eO rfl (by decide) _ rfl) rfl rfl
 refine C ?_;rw[e3,e2];have E:=D.wI (Ey:={e with u:=I,ug:=U}) rfl;have F2:Fr Gl z (wI z 0 (.Mem,cR {e with u:=I,ug:=U})):=Fr.wI (.inl rfl);have M2:=B.fr F2 M1;generalize wI z 0 (.Mem,cR {e with u:=I,ug:=U})=s at L F2 E M2;refine hO (jF M2) λd4 d5 d6=>?_;have e4:=qY E K d4 d5;have r4:aK s (.aA 0) 42=S (.own 28):=E.rc rfl;have d7:∀Y,aG Y s (.aA 0) 43=.ok (.aE 1,s):=λY=>E.at rfl;have d8:∀Y,aG Y s (bv b) 47=.ok (.int 2,s):=λY=>fI J M2 (by rw[<-p];rfl);have m1:=hL (x:=aV b (.most 2)) E.j (n1 hj rfl);refine bT (E.jw (el:=cZ h b) (x:=aV b (.most 2)) hj) λG3 F3=>?_;have w:=B.fr F3 M2;have T:=pN J w (f:=47) (i:=1) (v:=.int 8) rfl (by decide) {d with most:=8} rfl;refine bT (yI J w (c':={d with most:=8}) rfl) λM4 F4=>?_;have S':Sp {e with u:=I,ug:=U} j b:=⟨B.g,B.k⟩;have G4:=S'.gm F4 G3;refine CT _ ?_ G4 M4 ((((g.trans F2).trans F3).mono λε=>.inl).trans (F4.mono λε=>.inr));have H:aK s (.aE 1) 44=S .bR:=rfl;rw[aN (f:=IS) [S (.aA 0),S (bv b),N,N,N] rfl rfl];delta IS;change aC b9 _ _ _=.ok (.bool (cZ h b),s) at e4;clear A D E G3 G4 y M1 M2 w M4 g F2 F3 F4 B S' b1 b2 b3 J d1 M X d4 d5 d6 e3 e2 a0 t p c9;have ch:∀l:Loc,l=((([S (.aA 0),S (bv b),N,N,N].set 2 (S (.int 8))).set 3 (S (.int 96))).set 4 (S (.int cg)))->dK (aC b9) (aH IS.body 6) l z=.ok (.next,l,s):=by intro l c;have v0:l[0]? = S (S (.aA 0)):=c▸rfl;have v1:l[1]? = S (S (bv b)):=c▸rfl;have v3:l[3]? = S (S (.int 96)):=c▸rfl;dsimp only[IS,aH];generalize b.g=o at *;induction o using U6<;>simp only[SV,Rl,V5] at L<;>walk_at "ev"
 replace ch:=ch _ rfl;dsimp only[IS,aH] at ch;walk_at "ev"
noncomputable def vO:V LS->jL->jL
 |[],E=>E
 |d :: x,E=>.cons d (vO x E)
theorem xu:∀{xs:V LS} {l:Loc} {y:AH},aW g (vO xs .nil) l y=.ok (.next,cn,U)->aW g (vO xs bk) l y=aW g bk cn U:=by
 intro xs;induction xs with
 |nil=>intro l y B;have B:=B;cases B;rfl
 |cons d x b=>
  intro l y B
  replace B:=gJ.symm.trans B
  refine gJ.trans ?_
  induction D:dK g d l y using Zq with
  |ok M=>
   rw[D] at B
   obtain⟨r,l2,s⟩:=M
   induction r using Fl.casesOn with
   |next=>exact b B
   |ret C=>cases B
  |exc K y=>replace B:=D▸B;cases B
  |bad=>replace B:=D▸B;cases B
theorem Ic{J:V Q}{x:Q}{el:P6}:(jn el J x).length<=J.length+1:=by
 unfold jn;split;·exact R U7 (VB _)
 ·exact VK _
theorem yL{M:V Q}{n:Z}{w:Z}{i:P5}(A:GM a e h M k)(E:M.length<98)(B:Sp e m b)(hm:2<=n)(J:b.k=.dict)(y:MB a m b d)(c:d.en.length<999):∃v,aW (aC n) (.cons (aH rH.body 4) (.cons (aH rH.body 5) (.cons (aH rH.body 6) .nil))) [S (.aA 0),S (bv b),S (tN w),S (tI i),S (kW w),N] a=.ok (.next,[S (.aA 0),S (bv b),S (tN w),S (tI i),S (kW w),S (tN w)],v)/\
  GM v e h (jn (cZ h b) M (aV b (.ent w (cU w d.en)))) k/\MB v m b {d with en:=fH w i d.en}/\Fr (Ci m b) a v:=by
 refine hO (jF y) λb1 b2 b3=>?_;have e0:=qY A hm b1 b2;have X:aK a (.aA 0) 42=S (.own 28):=A.rc rfl;have r:∀f,aG f a (bv b) 0=.ok (.ab (m b.num),a):=λf=>fI J y rfl;have t:∀f,aG f a (.aA 0) 43=.ok (.aE 1,a):=λf=>A.at rfl;have L:=EB (w:=w) (eS J y);have T:=hL (x:=aV b (.ent w (cU w d.en))) A.j (n1 E rfl);refine bT (A.jw (el:=cZ h b) (x:=aV b (.ent w (cU w d.en))) E) λD g=>?_;have j:=B.fr g y;have P:∀f,aG f (jw (cZ h b) a M (aV b (.ent w (cU w d.en)))) (bv b) 0=.ok (.ab (m b.num),(jw (cZ h b) a M (aV b (.ent w (cU w d.en))))):=λf=>fI J j rfl;have q:=(uw (w:=w) (eS J j)).1;have s:∀z,cU w d.en=S z->aR (jw (cZ h b) a M (aV b (.ent w (cU w d.en)))) (.ab (m b.num)) (kW w)=S (eN w z):=λz a0=>ux (eS J j) a0;have o:=uy (w:=w) (i:=i) (eS J j) (n1 c rfl);have K:=Ce (m:=n) (H:=jw (cZ h b) a M (aV b (.ent w (cU w d.en)))) (w:=w) (n4 hm rfl);have p:∀z a,aR a (eN w z) (.int 0)=S (tN w):=λU U=>rfl;have G:Q.tup [tN w,tI i]=eN w i:=rfl;refine bT (yJ J j (l:=fH w i d.en)) λM2 Y=>CT _ ?_ (B.gm Y D) M2 ((g.mono λU=>.inl).trans (Y.mono λU=>.inr));have H:aK a (.aE 1) 44=S .bR:=rfl;have C:∀a,aK a (.ab (m b.num)) 48=S .bR:=λU=>rfl;dsimp only[rH,aH];induction I:cU w d.en using U0 with
 |none=>rw[I] at L T P q o K;walk_at "ev"
 |some z=>
  have s:=s z I
  rw[I] at L T P q s o
  walk_at "ev"
noncomputable def Af(k:Z)(A:Ct):P6:=!(cU k A.en).isSome&&Qd (A.most<=A.en.length)
noncomputable def Mq(o:P6)(E:Bd)(a:MG):MG:=if o then{a with u:=if E.g then a.u else a.u+96,ug:=if E.g then a.ug+96 else a.ug} else a
theorem Ie{m:Z}{w:Z}{j:Z->Z}{i:P5}(A:GM a e h n k)(E:n.length<97)(a3:Sp e j b)(hm:6<=m)(J:b.k=.dict)(a0:MB a j b d)(hl:d.en.length<999)(p:Af w d=P4->d.most=2)(g:cU b.num k=S (cg,b.g,b.lv))(B:e.u+e.ug+96<=16777216) :
  ∃v,aC m (.fn 35) [.aA 0,bv b,tN w,tI i] a=.ok (.none,v)/\
  GM v (Mq (Af w d) b e) h (jn (cZ h b) (if Af w d then jn (cZ h b) n (aV b (.most 2)) else n) (aV b (.ent w (cU w d.en)))) (if Af w d then fH b.num (cg+96,b.g,b.lv) k else k)/\MB v j b {d with en:=fH w i d.en,most:=if Af w d then 8 else d.most}/\Fr (Ci j b) a v:=by
 refine aM (fM hm) λM bP K=>?_;subst bP;refine hO (jF a0) λb1 b2 b3=>?_;have T:=xo (m:=M) (H:=a) (w:=w) (n4 K rfl);have e2:=ur (m:=M) (H:=a) (y:=tI i) (n4 K rfl) b1 (l:=false) λm B=>xp B;have e3:=ur (m:=M) (H:=a) (y:=tN w) (n4 K rfl) b1 (l:=false) λm B=>HS B;rw[XR,Qm (by decide)] at e2 e3;have o:=Ce (m:=M) (H:=a) (w:=w) (n4 K rfl);have X:aK a (.aA 0) 46=S (.own 29):=A.rc rfl;have H:aK a (.aA 0) 50=S (.own 34):=A.rc rfl;have r:∀f,aG f a (bv b) 0=.ok (.ab (j b.num),a):=λf=>fI J a0 rfl;have t:∀f,aG f a (bv b) 47=.ok (.int d.most,a):=λf=>fI J a0 rfl;have L:=(uw (w:=w) (eS J a0)).2;have q2:=EC (eS J a0) (n1 hl rfl);have go:∀z,aW (aC M) (.cons (aH rH.body 0) (.cons (aH rH.body 1) (.cons (aH rH.body 2) (.cons (aH rH.body 3) .nil)))) [S (.aA 0),S (bv b),S (tN w),S (tI i),N,N] a=.ok (.next,[S (.aA 0),S (bv b),S (tN w),S (tI i),S (kW w),N],z)->
   ∀s,aW (aC M) (.cons (aH rH.body 4) (.cons (aH rH.body 5) (.cons (aH rH.body 6) .nil))) [S (.aA 0),S (bv b),S (tN w),S (tI i),S (kW w),N] z=.ok (.next,[S (.aA 0),S (bv b),S (tN w),S (tI i),S (kW w),S (tN w)],s)->aC (M+1) (.fn 35) [.aA 0,bv b,tN w,tI i] a=.ok (.none,s):=λz G s p=>by
  change (aW (aC M) (vO [aH rH.body 0,aH rH.body 1,aH rH.body 2,aH rH.body 3] (.cons (aH rH.body 4) (.cons (aH rH.body 5) (.cons (aH rH.body 6) .nil)))) _ a).bind _=_
  exact R (xu G) (R p rfl)
 induction I:Af w d using U6 with
 |false=>
  refine Ar (yL (n:=M) (w:=w) (i:=i) A (n1 E rfl) a3 (n4 K rfl) J a0 hl) λs x1 c x3 x4=>?_;refine CT s (go a ?_ s x1) c x3 x4;dsimp only[rH,aH];unfold Af at I;refine z9 ((cU w d.en).isSome) (λP=>?_) (λP=>?_)<;>rw[P] at I L;·rw[Zf,P6.true_and] at I;walk_at "ev"
  ·walk_at "ev"
 |true=>refine Ar (Ib (m:=M) A (n1 E rfl) a3 (n4 K rfl) J a0 (p I) g B) λz y1 Y D y4=>?_;have S':Sp {e with u:=if b.g then e.u else e.u+96,ug:=if b.g then e.ug+96 else e.ug} j b:=⟨a3.g,a3.k⟩;refine Ar (yL (n:=M) (w:=w) (i:=i) Y (by have:=Ic (el:=cZ h b) (J:=n) (x:=aV b (.most 2));exact n2 (U9 this E) rfl) S' (n4 K rfl) J D hl) λs x1 c x3 x4=>?_;refine CT s (go z ?_ s x1) c x3 (y4.trans x4);dsimp only[rH,aH];refine bT (Vi.mp I) λC U=>?_;walk_at "ev"
noncomputable def gX(M:P5):V Sv->O Z
 |[]=>N
 |d :: x=>if(d.num:P5)=M then S 0 else(gX M x).map (· + 1)
theorem Ig{x:V Sv}:gX fe (bo :: x)=if(bo.num:P5)=fe then S 0 else(gX fe x).map (· + 1):=rfl
noncomputable def xv:O Z->Q|none=>.none|some P=>.int P
theorem uz{cf:CF}{i x:Z}{e:LE}{l:Loc}{H H1:AH}{v:Q}{R:Res (Fl×Loc×AH)}(G:aO cf e l H=.ok (v,H1))(p:srcOf H1 v=S (E,q))(t:cM (λX v l H=>aW cf bk ((l.set i (S (.int X))).set x (S v)) H) E (q+1) 0 l H1=R):dK cf (.lG i x e bk) l H=R:=by refine(bL G).trans ?_;dsimp only[Res.bind];rw[p];exact t
theorem kP{cf:CF}{x:Z}{e:LE}{l:Loc}{H1:AH}{v:Q}{R:Res (Fl×Loc×AH)}(G:aO cf e l a=.ok (v,H1))(p:srcOf H1 v=S (E,q))(t:cM (λU v l a=>aW cf bk (l.set x (S v)) a) E (q+1) 0 l H1=R):dK cf (.dZ x e bk) l a=R:=by refine(bL G).trans ?_;dsimp only[Res.bind];rw[p];exact t
theorem aX{s:LS}{l':Loc}{H':AH}(B:dK g s f a=.ok (.next,l',H')):aW g (.cons s gn) f a=aW g gn l' H':=by exact gJ.trans ((bL B).trans rfl)
theorem Ck(B:dK g fq f a=.ok (.ret l,cn,U)):aW g (.cons fq gn) f a=.ok (.ret l,cn,U):=by exact gJ.trans ((bL B).trans rfl)
theorem Cm{x:Z}{l:Loc}{v:Q}(B:l[x]? = S (S v))(p:aG g a v Y=.ok (y,a)):aO g (.attr (.var x) Y) l a=.ok (y,a):=by refine kE.trans ((bL lH).trans (R B ?_));exact p
theorem Cn{cf:CF}{q:P5}(K:a.L[bh]? = S (h.map fK)):∀(x:V Sv) (s:Z) (L E:O Q),h.drop s=x->∃p,cM (λc C l a=>aW cf (.cons (.ifs (.cmp .eq (.attr (.var 3) 23) (.var 1)) (.cons (.ret (.var 2)) .nil) .nil) .nil) ((l.set 2 (S (.int c))).set 3 (S C)) a) (.pQ bh) (x.length+1) s [S (.aA 0),S (.int q),L,E] a =
  .ok ((match gX q x with|some P=>.ret (.int (s+P:Z))|none=>.next),p,a):=by
 intro x;induction x with
 |nil=>
  intro s L E B;refine⟨[S (.aA 0),S (.int q),L,E],?_⟩;refine KL.trans ?_;have D:Src.at (.pQ bh) s a=S N:=by show(a.L[bh]?).map _=_;refine R K ?_;show S ((h.map fK)[s]?)=_;refine R Vb ?_;exact R (FH B) rfl
  exact R D rfl
 |cons d x b=>
  intro s L E B;have D:Src.at (.pQ bh) s a=S (S (fK d)):=by show(a.L[bh]?).map _=_;refine R K ?_;show S ((h.map fK)[s]?)=_;refine R Vb ?_;exact R (FI B) rfl
  have r:∀cf,aG cf a (fK d) 23=.ok (.int d.num,a):=λcf=>aS rfl;refine R Ig ?_;by_cases o:(d.num:P5)=q
  ·have G:=Qu o;refine R (Qk o) ⟨[S (.aA 0),S (.int q),S (.int s),S (fK d)],?_⟩;apply Ae D;·walk_at "z1"
   ·exact O8
  ·have G:=QJ o
   refine R (Qm o) (eK (b (s+1) (S (.int s)) (S (fK d)) (FJ B)) λp k=>⟨p,?_⟩)
   refine(Ae D (X:=.ok (.next,[S (.aA 0),S (.int q),S (.int s),S (fK d)],a)) (by show aW cf _ [S (.aA 0),S (.int q),S (.int s),S (fK d)] a=_;walk_at "ev") (B9 k)).trans ?_
   cases gX q x with
   |none=>rfl
   |some P=>show Res.ok (Fl.ret (.int ((s+1+P:Z):P5)),p,a)=.ok (Fl.ret (.int ((s+(P+1):Z):P5)),p,a);refine R (show s+1+P=s+(P+1) by exact WV ..) rfl
theorem xw{m:Z}{q:P5}(A:GM a e h n k)(c:1<=m):aC m (.fn 39) [.aA 0,.int q] a=.ok (xv (gX q h),a):=by
 refine aM (fM c) λd bP K=>R bP ?_;have t:srcOf a (.aE e.ks)=S (.pQ e.ks,h.length):=by refine(oL A.s).trans ?_;refine(Qk (by refine R (U1 ..) ?_;exact Qu (by have:=A.sl;exact n1 this rfl))).trans ?_;rw[U1]
 refine eK (Cn (cf:=aC d) (q:=q) A.s h 0 N N rfl) λp D=>?_;have T:=uz (i:=2) (x:=3) (Cm (x:=0) (l:=[S (.aA 0),S (.int q),N,N]) rfl ((show∀b,aG b a (.aA 0) 25=.ok (.aE e.ks,a) from λb=>A.at rfl) _)) t D;refine(aN (f:=MI) [S (.aA 0),S (.int q),N,N] rfl rfl).trans ?_;induction B:gX q h using U0 with
 |none=>rw[B] at T;exact(bL (aX T)).trans rfl
 |some P=>rw[B] at T;dsimp only at T;rw[W7] at T;exact(bL (Ck T)).trans rfl
theorem xx{m:Z}{q:P5}(A:GM a e h n k)(i:2<=m):aC m (.fn 42) [.aA 0,.int q] a=match gX q h with|some P=>.ok (.int P,a)|none=>.exc (.bH [105,110,118,97,108,105,100,114,101,115,116,111,114,101]) a:=by
 refine aM (fM i) λb cQ K=>R cQ ?_;have X:aK a (.aA 0) 54=S (.own 39):=A.rc rfl;have D:=xw (q:=q) A K;refine(aN (f:=Ls) [S (.aA 0),S (.int q),N] rfl rfl).trans ?_;delta Ls;induction B:gX q h using U0 with
 |none=>replace D:=B▸D;clear B;have i1:isNone .none=S P4:=rfl;walk_at "ev"
 |some P=>rw[B] at D;clear B;have i1:isNone (.int P)=S P8:=rfl;walk_at "ev"
theorem Ih{m:Z}{q:P5}(A:GM a e h n k)(i:2<=m):aC m (.fn 40) [.aA 0,.int q] a=.ok (.bool (gX q h).isSome,a):=by
 refine aM (fM i) λb eA K=>R eA ?_;have X:aK a (.aA 0) 54=S (.own 39):=A.rc rfl;have D:=xw (q:=q) A K;refine(aN (f:=Lr) [S (.aA 0),S (.int q)] rfl rfl).trans ?_;delta Lr;induction B:gX q h using U0 with
 |none=>replace D:=B▸D;clear B;have i1:isNone .none=S P4:=rfl;walk_at "ev"
 |some P=>rw[B] at D;clear B;have i1:isNone (.int P)=S P8:=rfl;walk_at "ev"
theorem Ii{m:Z}{c':Ct}{v:Z->Z}{q:P5}(A:GM a e h n k)(i:4<=m)(y:MB a v b d)(p:gX q h=S aa):aC m (.fn 43) [.aA 0,.int q,eI b c'] a=.ok (.bool (!b.g&&Qd (aa<b.lv)),a):=by
 refine aM (fM i) λl eZ K=>R eZ (hO (jF y) λb1 b2 b3=>?_);have T:=vL (m:=l) (b:=b) (c:=c') (H:=a) (n4 K rfl);have s:=xx (q:=q) (m:=l) A (n4 K rfl);rw[p] at s;have X:aK a (.aA 0) 55=S (.own 42):=A.rc rfl;have r:∀c,aG c a (eI b c') 9=.ok (.str (match b.k with|.row=>7|.text=>5|.dict=>8),a):=λc=>aS (by unfold eI;induction b.k using Zr<;>rfl);have k1:((match b.k with|.row=>7|.text=>5|.dict=>8:Z)==21)=P8:=by induction b.k using Zr<;>rfl
 have t:∀c,aG c a (bv b) 15=.ok (.bool b.g,a):=λc=>aS b1;have j:∀c,aG c a (bv b) 26=.ok (.int b.lv,a):=λc=>aS b2;have i1:=@yF b;have I:cW a .gt (.int b.lv) (.int aa)=S (Qd (aa<b.lv)):=Ql S (SG.mpr Vj);refine(aN (f:=Lu) [S (.aA 0),S (.int q),S (eI b c'),N,N,N,N,N] rfl rfl).trans ?_;delta Lu;clear A y b1 b2 b3 p;generalize (match b.k with|.row=>7|.text=>5|.dict=>8:Z)=g at *;generalize b.g=o at *;induction o using U6<;>walk_at "ev"
theorem Ij{m:Z}(A:GM a e h n k)(i:2<=m):aC m (.fn 46) [.aA 0] a=.ok (.tup [.int h.length,.int (e.u+e.ug),.int 16777216],a):=by refine aM (fM i) λc g6 K=>?_;subst g6;have L:=uq A K;have r:∀b,aG b a (.aA 0) 29=.ok (.int e.u,a):=λb=>A.at rfl;have t:∀b,aG b a (.aA 0) 28=.ok (.int e.ug,a):=λb=>A.at rfl;have j:∀b,aG b a (.aA 0) 33=.ok (lP,a):=λb=>A.at rfl;have x:∀b,aG b a lP 34=.ok (.int 16777216,a):=λb=>aS rfl;refine(aN (f:=Lv) [S (.aA 0)] rfl rfl).trans ?_;delta Lv;walk_at "ev"
theorem Co{H:AH}{x:Q}{y:Q}{z:Q}{u:Q}{m:Z}(i:1<=m):aC m (.cls .mX) [x,y,z,u] H=.ok (.obj .mX [x,y,z,u],H):=by refine aM (fM i) λa lR U=>R lR ?_;rfl
theorem Ik{m:Z}(A:GM a e h n k)(i:2<=m)(P:h.length<15)(c:V Bd)(d:Z->Ct):∃v,aC m (.fn 38) [.aA 0] a=.ok (.int (e.ls+1:Z),v)/\
  GM v {e with ls:=e.ls+1} (h++[⟨e.ls+1,n.length,e.u,c,d⟩]) n k/\Fr (λY=>Gl Y\/Y=.L e.ks) a v:=by refine aM (fM i) λo m3 K=>?_;clear i;subst m3;have L:=uq A K;have r:∀l,aG l a (.aA 0) 53=.ok (.int e.ls,a):=λl=>A.at rfl;have j:∀l,aG l a (.aA 0) 33=.ok (lP,a):=λl=>A.at rfl;have C:∀l,aG l a lP 25=.ok (.int 15,a):=λl=>aS rfl;have I:Qd ((15:P5)<=h.length)=P8:=QJ (mt Wb.mp (Xp.mpr P));have G:eO a (.aA 0) 53 (.int (e.ls+1))=S (wI a 0 (.Mem,cR {e with ls:=e.ls+1})):=A.eO rfl (by decide) _ rfl;have D:=A.wI (Ey:={e with ls:=e.ls+1}) rfl;have g:Fr Gl a (wI a 0 (.Mem,cR {e with ls:=e.ls+1})):=Fr.wI (.inl rfl);generalize wI a 0 (.Mem,cR {e with ls:=e.ls+1})=z at G D g;have B:∀l,aG l z (.aA 0) 25=.ok (.aE e.ks,z):=λl=>D.at rfl;have J:∀l,aG l z (.aA 0) 53=.ok (.int (e.ls+1:Z),z):=λl=>D.at rfl;have H:∀l,aG l z (.aA 0) 43=.ok (.aE 1,z):=λl=>D.at rfl;have t:∀l,aG l z (.aA 0) 29=.ok (.int e.u,z):=λl=>D.at rfl;have l1:=mQ D.j (by have:=D.jl;exact n1 this rfl);have n1:=Co (m:=o) (H:=z) (x:=.int (e.ls+1:Z)) (y:=.int n.length) (z:=.int e.u) (u:=.none) K;have w:=hL (x:=.obj .mX [.int (e.ls+1:Z),.int n.length,.int e.u,.none]) D.s (by refine R (U1 ..) ?_;have:=D.sl;exact n3 P rfl);have E:GM (wL z e.ks (h.map fK++[.obj .mX [.int (e.ls+1:Z),.int n.length,.int e.u,.none]])) {e with ls:=e.ls+1} (h++[⟨e.ls+1,n.length,e.u,c,d⟩]) n k:=⟨D.i,by refine R Vw ?_;exact cJ D.s,fA (Wd D.n) D.j,D.m,D.n,by refine R U7 ?_;exact Xz P,D.jl,D.ml⟩;have b:Fr (λY=>Gl Y\/Y=.L e.ks) z (wL z e.ks (h.map fK++[.obj .mX [.int (e.ls+1:Z),.int n.length,.int e.u,.none]])):=Fr.wL (.inr rfl);generalize wL z e.ks (h.map fK++[.obj .mX [.int (e.ls+1:Z),.int n.length,.int e.u,.none]])=s at w E b;have p:∀l,aG l s (.aA 0) 53=.ok (.int (e.ls+1:Z),s):=λl=>E.at rfl;refine mU s ?_ E ((g.mono λU=>.inl).trans b);have X:aK z (.aE e.ks) 44=S .bR:=rfl;refine(aN (f:=Lq) [S (.aA 0),S .none] rfl rfl).trans ?_;delta Lq;walk_at "ev"
theorem yM{g:Z->Z}(y:MB a m b d)(B:g b.num=m b.num):MB a g b d:=by
 unfold MB at *;induction D:b.k using Zr<;>rw[D] at y<;>dsimp only at y;·exact y
 ·exact R B y
 ·exact y
theorem Il:cW a .eq (kW Y) (kW bw)=S (Qd (Y=bw)):=by show eqT (kW Y) (kW bw)=_;exact oN Y bw
theorem zP{cf:CF}{w:Z}{b:Bd}{o:P5}{P:V (Z×P5)}:∀(e:V Z) (s:Z) (A:V (Z×P5)) (z:AH) (y:Z) (l:O Q) (j:V Z),j.drop s=e->z.D[y]? = S (A.map ent)->y≠ah->z.D[ah]? = S (P.map ent)->(∀h:AH,h.I=z.I->aG cf h (bv b) 0=.ok (.ab ah,h))->e.Nodup->(∀v∈e,cU v A=N)->(∀v∈e,v≠w->(cU v P).isSome=P4)->A.length+e.length<99->
  ∃h p,cM (λU C a3 a0=>aW cf (.cons (.fE (.var 3) (.var 4) (.ite (.cmp .eq (.var 4) (.sub (.var 0) (.int 2))) (.sub (.var 0) (.int 3)) (.sub (.attr (.var 2) 0) (.var 4)))) .nil) (a3.set 4 (S C)) a0) (.eW (j.map kW)) (e.length+1) s [S (.tup [.str 52,bv b,kW w,eN w o,.lst (j.map kW)]),S (.str 52),S (bv b),S (.ab y),l] z =
   .ok (.next,[S (.tup [.str 52,bv b,kW w,eN w o,.lst (j.map kW)]),S (.str 52),S (bv b),S (.ab y),p],h)/\h.L=z.L/\h.B=z.B/\h.I=z.I/\h.D=z.D.set y ((A++e.map λX=>(X,if X=w then o else(cU X P).getD 0)).map ent):=by
 intro e;induction e with
 |nil=>
  intro s A z y l j x q K G t k n hs hl;refine IU z l ?_ rfl rfl rfl ?_;·refine HM (show S ((j.map kW)[s]?)=_ from ?_);refine R Vb ?_;exact R (FH x) rfl
  ·refine R YS ?_;refine R (VQ ..) ?_;have:=U8.mp q;refine R this.2.symm ?_;rw[YD]
 |cons v e a2=>
  intro s A z y l j x q K G t k n hs hl;refine hF λf=>?_;rw[Vl] at k;have D:=FJ x;have T:Src.at (.eW (j.map kW)) s z=S (S (kW v)):=by show S ((j.map kW)[s]?)=_;refine R Vb ?_;exact R (FI x) rfl
  have a:∃C,(if v=w then o else(cU v P).getD 0)=C/\(v≠w->cU v P=S C)/\(v=w->C=o):=by
   refine mU _ rfl (λB=>?_) (λB=>Qk B)
   refine R (Qm B) ?_
   have:=hs v (.head _) B
   induction a1:cU v P using U0 with
   |none=>replace this:=a1▸this;cases this
   |some i=>rfl
  refine rB a λC r v2 d=>?_;have s1:ei z (.ab y) (kW v) (eN v C)=S (wD z y ((A++[(v,C)]).map ent)):=by have:=uy (c:=⟨[],A,0,0⟩) (w:=v) (i:=C) q (n1 (Ve (Vu ..) hl) rfl);rw[kN (n v (.head _))] at this;exact this
  have r1:aR z (.tup [.str 52,bv b,kW w,eN w o,.lst (j.map kW)]) (.int 2)=S (kW w):=rfl;have H:aR z (.tup [.str 52,bv b,kW w,eN w o,.lst (j.map kW)]) (.int 3)=S (eN w o):=rfl;have r3:cW z .eq (kW v) (kW w)=S (Qd (v=w)):=Il;have E:=t z rfl;have I:aW cf (.cons (.fE (.var 3) (.var 4) (.ite (.cmp .eq (.var 4) (.sub (.var 0) (.int 2))) (.sub (.var 0) (.int 3)) (.sub (.attr (.var 2) 0) (.var 4)))) .nil) [S (.tup [.str 52,bv b,kW w,eN w o,.lst (j.map kW)]),S (.str 52),S (bv b),S (.ab y),S (kW v)] z=.ok (.next,[S (.tup [.str 52,bv b,kW w,eN w o,.lst (j.map kW)]),S (.str 52),S (bv b),S (.ab y),S (kW v)],wD z y ((A++[(v,C)]).map ent)):=by
   by_cases g:v=w
   ·have M:=Qu g;have d:=d g;refine R d.symm ?_;have m:eN v C=eN w C:=by rw[g]
    rw[m] at s1;walk_at "ev"
   ·have M:=QJ g;have L:=ux (c:=⟨[],P,0,0⟩) (w:=v) G (v2 g);replace r3:=M▸r3;walk_at "ev"
  obtain⟨h,p,f1,f2,f3,f4,f5⟩:=a2 (s+1) (A++[(v,C)]) (wD z y ((A++[(v,C)]).map ent)) y (S (kW v)) j D (cJ q) K (fA (Wd K) G) t k.2 (λX J=>by refine R (kN (n v (.head _))).symm ?_;rw[um,Qm (λY:X=v=>k.1 (Y▸J))];exact n X (.tail _ J)) (λX J=>hs X (.tail _ J)) (by rw[U7];exact Jk hl);refine f (IU h p ?_ f2 f3 f4 ?_);·exact Ae T I (B9 f1)
  ·rw[f5,Vt,r];show(z.D.set y _).set y _=_;rw[Wk,VJ];rfl
theorem Im{m:Z}{j:Z->Z}(hm:1<=m)(y:MB a j b d)(ok:B3 b.k az d)(hl:d.df.length<1000)(H:d.en.length<50):∃v T,aC m (.fn 51) [aV b az] a=.ok (.none,v)/\MB v (upd j b.num T) b (jI az d)/\Fr (gs j b) a v/\(T=j b.num\/T=a.D.length):=by
 refine aM (fM hm) λa0 bP hn=>R bP ?_;have go:∀k,a.D[0]? = a.D[0]?/\∀v,aW (aC a0) Ah.body [S (aV b az),N,N,N,N] a=.ok (.next,k,v)->aC (a0+1) (.fn 51) [aV b az] a=.ok (.none,v):=λk=>⟨rfl,λv B=>by rw[aN (f:=Ah) [S (aV b az),N,N,N,N] rfl rfl,B];rfl⟩;have K:∀{v:AH} {o:Ct},MB v j b o->MB v (upd j b.num (j b.num)) b o:=λy=>yM y bO;induction az using Un.casesOn with
 |item P z=>
  refine hF λw=>bT ok λJ n=>bT (FL J y (l:=d.df.set P z)) λM2 h=>w (uL _ (j b.num) ((go [S (aV b (.item P z)),S (.str 45),S (bv b),N,N]).2 _ ?_) (K M2) h (.inl rfl));have a6:bv b=.obj .Row [.int b.num,.aE b.a,.bool b.g,.int b.lv]:=by unfold bv;rw[J]
  have r:∀cf a,aG cf a (bv b) 6=.ok (.aE b.a,a):=λcf a=>aS (by rw[a6];rfl);have M:a.L[b.a]? = S (d.df.map tI):=by unfold MB at y;rw[J] at y;exact y
  have G:ei a (.aE b.a) (.int P) (tI z)=S (wL a b.a ((d.df.set P z).map tI)):=by show(a.L[b.a]?).bind _=_;rw[M];show(if 0<=(P:P5)/\(P:P5)<((d.df.map tI).length:P5)/\sm (d.df.map tI).length=P4 then _ else N)=_;rw[Qk ⟨by exact Vg _,by rw[U1];exact Vj.mpr n,by rw[U1];exact Qu hl⟩,YR];rfl
  have E:aR a (aV b (.item P z)) (.int 0)=S (.str 45):=rfl;have L:aR a (aV b (.item P z)) (.int 1)=S (bv b):=rfl;have q2:aR a (aV b (.item P z)) (.int 2)=S (.int P):=rfl;have s:aR a (aV b (.item P z)) (.int 3)=S (tI z):=rfl;have a7:=λcf=>r cf a;simp only[Ah];walk_at "ev"
 |most P=>
  have G:=pN ok.1 y (f:=47) (i:=1) (v:=.int P) rfl (by decide) {d with most:=P} rfl
  refine bT (yI ok.1 y (c':={d with most:=P}) rfl) λM2 h=>uL _ (j b.num) ((go [S (aV b (.most P)),S (.str 47),S (bv b),N,N]).2 _ ?_) (K M2) h (.inl rfl)
  have E:aR a (aV b (.most P)) (.int 0)=S (.str 47):=rfl
  have L:aR a (aV b (.most P)) (.int 1)=S (bv b):=rfl
  have q2:aR a (aV b (.most P)) (.int 2)=S (.int P):=rfl
  simp only[Ah]
  clear y M2 h ok go K
  walk_at "ev"
 |acc P=>
  have G:=pN ok y (f:=16) (i:=4) (v:=.int P) rfl (by decide) {d with acc:=P} rfl
  refine bT (yI ok y (c':={d with acc:=P}) rfl) λM2 h=>uL _ (j b.num) ((go [S (aV b (.acc P)),S (.str 16),S (bv b),N,N]).2 _ ?_) (K M2) h (.inl rfl)
  have E:aR a (aV b (.acc P)) (.int 0)=S (.str 16):=rfl
  have L:aR a (aV b (.acc P)) (.int 1)=S (bv b):=rfl
  have q2:aR a (aV b (.acc P)) (.int 2)=S (.int P):=rfl
  simp only[Ah]
  clear y M2 h ok go K
  walk_at "ev"
 |ent k z=>
  refine bT ok λJ I=>?_
  have r:∀cf,aG cf a (bv b) 0=.ok (.ab (j b.num),a):=λcf=>fI J y rfl
  induction z using U0 with
  |none=>refine eK (Xo.mp I) λz ho=>bT (yJ J y (l:=lN k d.en)) λM2 h=>?_;have p1:=yK (eS J y) ho (n1 H rfl);refine uL _ (j b.num) ((go [S (aV b (.ent k N)),S (.str 49),S (bv b),N,N]).2 _ ?_) (K M2) h (.inl rfl);have E:aR a (aV b (.ent k N)) (.int 0)=S (.str 49):=rfl;have L:aR a (aV b (.ent k N)) (.int 1)=S (bv b):=rfl;have q2:aR a (aV b (.ent k N)) (.int 2)=S (kW k):=rfl;have s:aR a (aV b (.ent k N)) (.int 3)=S .none:=rfl;have i1:isNone .none=S P4:=rfl;have r1:aK a (.ab (j b.num)) 51=S .bR:=rfl;simp only[Ah];clear y M2 h J go K I;walk_at "ev"
  |some C=>refine hF λa5=>bT (yJ J y (l:=fH k C d.en)) λM2 h=>?_;have p1:=uy (w:=k) (i:=C) (eS J y) (n1 H rfl);refine a5 (uL _ (j b.num) ((go [S (aV b (.ent k (S C))),S (.str 49),S (bv b),N,N]).2 _ ?_) (K M2) h (.inl rfl));have E:aR a (aV b (.ent k (S C))) (.int 0)=S (.str 49):=rfl;have L:aR a (aV b (.ent k (S C))) (.int 1)=S (bv b):=rfl;have q2:aR a (aV b (.ent k (S C))) (.int 2)=S (kW k):=rfl;have s:aR a (aV b (.ent k (S C))) (.int 3)=S (eN k C):=rfl;have i1:isNone (eN k C)=S P8:=rfl;simp only[Ah];clear y M2 h J go K I;walk_at "ev"
 |drop k C e=>
  refine uE ok λJ A hs g=>?_;have D:(aD a []).D[a.D.length]? = S (([]:V (Z×P5)).map ent):=eR;have a4:=eS J y;have M:a.I[b.a]? = S (.Dict,gU b d (j b.num)):=by unfold MB at y;rw[J] at y;exact y.1
  have a2:bv b=.aA b.a:=by unfold bv;rw[J]
  have a3:∀cf (v:AH),v.I=(aD a []).I->aG cf v (bv b) 0=.ok (.ab (j b.num),v):=λcf v Y=>aS (by rw[a2];show(v.I[b.a]?).bind _=_;rw[Y];show(a.I[b.a]?).bind _=_;rw[M];rfl);refine KQ (zP (cf:=aC a0) (w:=k) (o:=C) (b:=b) e 0 [] (aD a []) a.D.length N e rfl D (λY=>by have:=bY a4;exact Qp (Y.symm▸this) (Vk _)) (fB a4) (a3 _) A (λa8 U=>rfl) hs (n2 (U9 (Vq (W7 _)) g) rfl)) λH1 p f1 f2 f3 f4 f5=>?_;have G:eO H1 (bv b) 0 (.ab a.D.length)=S (wI H1 b.a (.Dict,gU b d a.D.length)):=by rw[a2];show(H1.I[b.a]?).bind _=_;rw[show H1.I[b.a]? = S (.Dict,gU b d (j b.num)) by rw[f4];exact M];rfl
  have M1:H1.I[b.a]? = S (.Dict,gU b d (j b.num)):=by rw[f4];exact M
  have D1:H1.D[a.D.length]? = S ((e.map λX=>(X,if X=k then C else(cU X d.en).getD 0)).map ent):=by rw[f5];exact cJ D
  refine uL (wI H1 b.a (.Dict,gU b d a.D.length)) a.D.length ((go [S (aV b (.drop k C e)),S (.str 52),S (bv b),S (.ab a.D.length),p]).2 _ ?_) ?_ ?_ (.inr rfl)
  ·have E:aR a (aV b (.drop k C e)) (.int 0)=S (.str 52):=rfl;have L:aR a (aV b (.drop k C e)) (.int 1)=S (bv b):=rfl;have q4:∀a,aO (aC a0) (.sub (.var 0) (.int 4)) [S (aV b (.drop k C e)),S (.str 52),S (bv b),S (.ab a.D.length),N] a=.ok (.lst (e.map kW),a):=λU=>rfl;have s4:srcOf (aD a []) (.lst (e.map kW))=S (.eW (e.map kW),e.length):=by show(if sm (e.map kW).length=P4 then _ else N)=_;rw[Qk (by rw[U1];exact Qu (n2 g rfl)),U1]
   have c:=kP (x:=4) (l:=[S (aV b (.drop k C e)),S (.str 52),S (bv b),S (.ab a.D.length),N]) (show aO (aC a0) (.sub (.var 0) (.int 4)) _ (aD a [])=.ok (.lst (e.map kW),aD a []) from rfl) s4 f1;show aW _ (.cons (aH Ah.body 0) (.cons (aH Ah.body 1) .nil)) _ a=_;rw[aX (l':=[S (aV b (.drop k C e)),S (.str 52),S (bv b),N,N]) (H':=a) (by dsimp only[Ah,aH];clear f1 f2 f3 f4 f5 G M1 D1 c y go K a3 a2;walk_at "ev")];have br:aW (aC a0) (.cons (.asg 3 (.xE [] .nil)) (.cons (.dZ 4 (.sub (.var 0) (.int 4)) (.cons (.fE (.var 3) (.var 4) (.ite (.cmp .eq (.var 4) (.sub (.var 0) (.int 2))) (.sub (.var 0) (.int 3)) (.sub (.attr (.var 2) 0) (.var 4)))) .nil)) (.cons (.fU (.var 2) 0 (.var 3)) .nil))) [S (aV b (.drop k C e)),S (.str 52),S (bv b),N,N] a=.ok (.next,[S (aV b (.drop k C e)),S (.str 52),S (bv b),S (.ab a.D.length),p],wI H1 b.a (.Dict,gU b d a.D.length)):=by rw[aX (l':=[S (aV b (.drop k C e)),S (.str 52),S (bv b),S (.ab a.D.length),N]) (H':=aD a []) rfl,aX c];clear f1 f2 f3 f4 f5 M1 D1 c y go K a3 a2;unfold aV;walk_at "ev"
   exact Ex (K6 (t:=false) rfl (fF rfl (Ex (K6 (t:=false) rfl (fF rfl (Ex (K6 (t:=false) rfl (fF rfl (Ex (K6 (t:=true) rfl (fT rfl br)) rfl))) rfl))) rfl))) rfl
  ·have:(jI (.drop k C e) d).en=e.map λX=>(X,if X=k then C else(cU X d.en).getD 0):=rfl;unfold MB;rw[J];refine⟨?_,?_⟩;·rw[bO];exact cJ M1
   ·rw[bO];exact D1
  ·refine(Fr.trans (H':=H1) ⟨λX C U B=>?_,λX C nk B=>?_,λX C U B=>?_,λX C U B=>?_⟩ (Fr.wI (by unfold gs;rw[J];exact .inl rfl)));·rw[f2];exact B
   ·rw[f5];exact fA (λY=>by have:=bY B;exact Qp (Y.symm▸this) (Vk _)) (fB B)
   ·rw[f4];exact B
   ·rw[f3];exact B
structure Sep(X:Ad->Prop)(es:Z->Z)(bs:V Bd):Prop where
 x:∀b∈bs,∀z,gs es b z->¬X z
 d:∀b∈bs,∀b'∈bs,b.num≠b'.num->∀z,gs es b z->¬gs es b' z
noncomputable def Cp(A:Ct):Prop:=A.df.length<=3/\A.en.length<=3
noncomputable def enc(b:Z->Bd)(P:Z×Un):Q:=aV (b P.1) P.2
theorem ED{l:V (Z×t)}:(lN i l).length<=l.length:=by
 induction l with
 |nil=>exact VB _
 |cons P x k=>
  refine R FF ?_;by_cases M:P.1=i;·exact R (Qk M) (VK _)
  ·exact R (Qm M) (Y1 k)
theorem Cq(B:Cp d)(j:B3 gp az d):Cp (jI az d):=by
 induction az using Un.casesOn with
 |item s C=>exact⟨by show(d.df.set s C).length<=3;refine R Wg ?_;exact B.1,B.2⟩
 |most H=>exact B
 |acc L=>exact B
 |ent k z=>induction z using U0 with
  |none=>exact⟨B.1,U9 ED B.2⟩
  |some C=>exact⟨B.1,by show(fH k C d.en).length<=3;refine R (uo j.2) ?_;exact B.2⟩
 |drop k C e=>exact⟨B.1,by show(V.map _ e).length<=3;refine R (U1 ..) ?_;exact j.2.2.2⟩
theorem GM.has(A:GM a e h n k){z:Ad}(B:Gl z\/z=.L e.ks):has a z:=by
 rcases B with(rfl|rfl|rfl)|rfl;·exact bY A.i
 ·exact bY A.m
 ·exact bY A.j
 ·exact bY A.s
theorem MB.has(y:MB a m b d){z:Ad}(B:gs m b z):Mine.Lake.has a z:=by
 unfold MB gs at *;induction D:b.k using Zr<;>rw[D] at y<;>simp only[D] at B;·subst B;exact bY y
 ·rcases B with rfl|rfl;·exact bY y.1
  ·exact bY y.2
 ·subst B;exact bY y
theorem EG(H:g4=m b.num\/g4=bh)(B:gs (upd m b.num g4) b dq):gs m b dq\/dq=.D bh:=by
 unfold gs at *;induction D:b.k using Zr<;>simp only[D] at B⊢;·exact .inl B
 ·rcases B with B|B;·exact .inl (.inl B)
  ·rw[bO] at B;rcases H with M|M;·exact .inl (.inr (M▸B))
   ·exact .inr (M▸B)
 ·exact .inl B
theorem pO(K:b.num≠q):gs (upd m q g4) b dq↔gs m b dq:=by unfold gs;rw[dD K]
noncomputable abbrev Mr:jL:=.cons (.exp (.aU (.var 4) 44 (.cons (.aU (.attr (.var 0) 43) 51 .nil) .nil))) (.cons (.exp (.call (.gf 51) (.cons (.sub (.var 4) (.neg (.int 1))) .nil))) .nil)
noncomputable abbrev Ms:LE:=.cmp .gt (.bC .len (.cons (.attr (.var 0) 43) .nil)) (.attr (.var 3) 19)
theorem Io{g:Ad->Prop}{m:Z}{un:Z}(hm:1<=m)(c:∀Y,Gl Y\/Y=.L e.ks->g Y)(d:Sv)(G:Jo)(P:d.many=G.length)(c7:∀E∈r,∀b'∈r,E.num=b'.num->E=b')(x1 x2:O Q)(I:Loc):∀(A:Jo) (y:AH) (es:Z->Z) (a:Z->Ct) (U:V Q) (a4:Z),
  GM y e h (((A++G).map (enc p)).reverse) k->(∀E∈r,MB y es E (a E.num))->(∀E∈r,Cp (a E.num))->Sep g es r->(∀Y,g Y->has y Y)->(∀M∈A,p M.1∈r/\(p M.1).num=M.1)->uF (λq=>(p q).k) a A->
  y.L[un]? = S U->¬g (.L un)->(∀E∈r,¬gs es E (.L un))->A.length+U.length<98->A.length<a4->
  ∃v d8,jC (λd4 y=>(aO (aC m) Ms d4 y).bind λd5=>match truthy d5.1 with|some e2=>.ok (e2,d5.2)|none=>.bad) (λd4 y=>aW (aC m) Mr d4 y) a4 (S (.aA 0) :: x1 :: x2 :: S (fK d) :: S (.aE un) :: I) y=.ok (.next,S (.aA 0) :: x1 :: x2 :: S (fK d) :: S (.aE un) :: I,v)/\
   GM v e h ((G.map (enc p)).reverse) k/\(∀E∈r,MB v d8 E (oM a A E.num))/\(∀E∈r,Cp (oM a A E.num))/\Sep g d8 r/\(∀Y,g Y->has v Y)/\v.L[un]? = S (U++A.map (enc p))/\Fr (λY=>¬g Y\/Gl Y) y v:=by
 intro A;induction A with
 |nil=>
  intro y es a U a4 a3 MM sm a0 hh hq ok hu nu nf hl J
  induction a4 using Vn with
  |zero=>exact Qp J (XE _)
  |succ a4=>refine MT y es ?_ a3 MM sm a0 hh (by refine R YS ?_;refine R (VQ ..) ?_;exact hu) Fr.refl;have a1:∀f,aG f y (.aA 0) 43=.ok (.aE 1,y):=λf=>a3.at rfl;have l1:=mQ a3.j (by have:=a3.jl;exact n1 this rfl);rw[VM,U1,Xj] at l1;have t:∀f,aG f y (fK d) 19=.ok (.int d.many,y):=λf=>aS rfl;have d1:=QJ (mt Vj.mp (Wo.mpr (Vq P.symm)));refine O9 ?_;walk_at "xe"
 |cons q_ A e0=>
  obtain⟨q,i⟩:=q_
  intro y es a U a4 a3 MM sm a0 hh hq ok hu nu nf hl J
  induction a4 using Vn with
  |zero=>exact Qp J (XE _)
  |succ a4=>
   refine bT (hq _ (.head _)) λw K=>?_;dsimp only at w K;generalize b9:p q=E at w K;have c2:B3 E.k i (a E.num):=by rw[<-b9];refine R (show(p q).num=q by rw[b9];exact K) ?_;exact ok.1
   have eJ:((((q,i) :: A)++G).map (enc p)).reverse=((A++G).map (enc p)).reverse++[aV E i]:=by rw[Y9,Vt,Xu];show _++[aV (p q) i]=_;rw[b9]
   have L:((A++G).map (enc p)).reverse.length<98:=by have:=a3.jl;rw[eJ,U7] at this;exact uD this rfl
   have Gj:=a3.j;replace Gj:=eJ▸Gj;have p1:jB y (.aE 1) 51 []=S (aV E i,wL y 1 ((A++G).map (enc p)).reverse):=by show(y.L[1]?).bind _=_;rw[Gj];show(if Mine.Lake.sm (((A++G).map (enc p)).reverse++[aV E i]).length=P4 then _ else N)=_;rw[Qk (by rw[U7];exact Qu (n2 L rfl)),V.getLast?_concat,V.dropLast_concat];rfl
   have a1:∀f,aG f y (.aA 0) 43=.ok (.aE 1,y):=λf=>a3.at rfl;have l1:=mQ Gj (by rw[U7];exact n2 L rfl);have t:∀f,aG f y (fK d) 19=.ok (.int d.many,y):=λf=>aS rfl;have d1:Qd ((d.many:P5)<(((A++G).map (enc p)).reverse++[aV E i]).length)=P4:=Qu (by rw[U7,VM,U1,U7];exact YM (P5.le_of_eq (Ql Z.cast P)) (Vj.mpr (Y1 (V4 ..))));have G1:=a3.wJ (J':=((A++G).map (enc p)).reverse) (n1 L rfl);have F1:Fr Gl y (wL y 1 ((A++G).map (enc p)).reverse):=Fr.wL (.inr (.inr rfl));have c1:un≠1:=λY=>nu (by rw[Y];exact c _ (.inl (.inr (.inr rfl))));have a8:(wL y 1 ((A++G).map (enc p)).reverse).L[un]? = S U:=fA c1 hu;have c3:=λY j=>by
    by_cases o:Gl Y;·exact G1.has (.inl o)
    ·exact F1.has o (hh Y j)
   have c4:=λE w=>(MM E w).fr F1 λY j o=>a0.x E w Y j (c Y (.inl o));generalize wL y 1 ((A++G).map (enc p)).reverse=z at p1 G1 F1 a8 c3 c4;have p2:=hL (x:=aV E i) a8 (n1 (Ve (V4 ..) hl) rfl);have b:Fr (λY=>Y=.L un) z (wL z un (U++[aV E i])):=Fr.wL rfl;have nX:∀Y,g Y->Y≠.L un:=λY j M=>nu (M▸j);have G2:GM (wL z un (U++[aV E i])) e h ((A++G).map (enc p)).reverse k:=G1.fr b (nX _ (c _ (.inl (.inl rfl)))) (nX _ (c _ (.inl (.inr (.inl rfl))))) (nX _ (c _ (.inl (.inr (.inr rfl))))) (nX _ (c _ (.inr rfl)));have a7:(wL z un (U++[aV E i])).L[un]? = S (U++[aV E i]):=cJ a8;have a9:∀Y,g Y->Mine.Lake.has (wL z un (U++[aV E i])) Y:=λY j=>b.has (nX Y j) (c3 Y j);have a6:∀C∈r,MB (wL z un (U++[aV E i])) es C (a C.num):=λC d7=>(c4 C d7).fr b λY j (o:Y=.L un)=>nf C d7 (o▸j);generalize wL z un (U++[aV E i])=s at p2 b G2 a7 a9 a6;have q1:aR s (.aE un) (.int (-1))=S (aV E i):=by show(s.L[un]?).bind _=_;rw[a7];show(place (-1) (U++[aV E i]).length).bind _=_;rw[show place (-1) (U++[aV E i]).length=S U.length by unfold place;rw[U7];rfl];show(U++[aV E i])[U.length]? = _;exact eR
   refine yQ (Im (m:=m) hm (a6 E w) c2 (by have:=(sm E w).1;exact n2 this rfl) (by have:=(sm E w).2;exact n2 this rfl)) λH3 T f1 M3 F3 H=>?_;have a5:∀Y,g Y->¬gs es E Y:=λY j M=>a0.x E w Y M j;have G3:=G2.fr F3 (a5 _ (c _ (.inl (.inl rfl)))) (a5 _ (c _ (.inl (.inr (.inl rfl))))) (a5 _ (c _ (.inl (.inr (.inr rfl))))) (a5 _ (c _ (.inr rfl)));have c9:∀Y,g Y->Mine.Lake.has H3 Y:=λY j=>F3.has (a5 Y j) (a9 Y j);have D:∀C∈r,C≠E->C.num≠E.num:=λC n ne M=>ne (c7 _ n _ w M);have X:∀Y,gs (upd es E.num T) E Y->gs es E Y\/Y=.D s.D.length:=λY j=>EG H j;have nw:¬Mine.Lake.has s (.D s.D.length):=λM=>Vk _ M;have d2:∀C∈r,MB H3 (upd es E.num T) C (upd a q (jI i (a q)) C.num):=λC n=>by
    by_cases M:C=E;·rw[M,K,bO,<-K];exact M3
    ·have:=D _ n M;rw[dD (by rw[<-K];exact this)];refine yM ((a6 _ n).fr F3 λY j=>a0.d _ n _ w this Y j) (dD this)
   have d3:∀C∈r,Cp (upd a q (jI i (a q)) C.num):=λC n=>by
    by_cases M:C=E;·rw[M,K,bO,<-K];exact Cq (sm E w) c2
    ·rw[dD (by rw[<-K];exact D _ n M)];exact sm _ n
   have S3:Sep g (upd es E.num T) r:=⟨λC n Y j hx=>by
     clear K f1 M3 H a1 l1 t d1 eJ L Gj p1 c1 a8 p2 a7 q1;by_cases M:C=E
     ·subst M;rcases X Y j with B|B;·exact a0.x _ w Y B hx
      ·exact nw (B▸a9 Y hx)
     ·exact a0.x _ n Y ((pO (D _ n M)).mp j) hx,λC n d6 l ne Y j c6=>by
     have al:∀c5∈r,c5≠E->gs (upd es E.num T) c5 Y->gs es c5 Y/\Mine.Lake.has s Y:=λc5 d9 M j=>by have:=(pO (D _ d9 M)).mp j;exact⟨this,(a6 _ d9).has this⟩
     clear K f1 M3 H a1 l1 t d1 eJ L Gj p1 c1 a8 p2 a7 q1;by_cases q2:C=E
     ·by_cases q3:d6=E;·exact ne (by rw[q2];refine R q3 rfl)
      ·refine bT (al _ l q3 c6) λk1 k2=>?_;subst q2;rcases X Y j with B|B;·exact a0.d _ n _ l ne Y B k1
       ·exact nw (B▸k2)
     ·refine bT (al _ n q2 j) λk1 k2=>?_;by_cases q3:d6=E
      ·subst q3;rcases X Y c6 with B|B;·exact a0.d _ n _ l ne Y k1 B
       ·exact nw (B▸k2)
      ·exact a0.d _ n _ l ne Y k1 (al _ l q3 c6).1⟩
   have d0:∀C∈r,¬gs (upd es E.num T) C (.L un):=λC n j=>by
    clear K f1 M3 H a1 l1 t d1 eJ L Gj p1 c1 a8 p2 a7 q1 nw;by_cases M:C=E
    ·subst M;rcases X _ j with B|B;·exact nf _ w B
     ·cases B
    ·exact nf _ n ((pO (D _ n M)).mp j)
   have c8:uF (λq=>(p q).k) (upd a q (jI i (a q))) A:=ok.2;refine MX (e0 H3 (upd es E.num T) (upd a q (jI i (a q))) (U++[aV E i]) a4 G3 d2 d3 S3 c9 (λM e3=>hq M (.tail _ e3)) c8 (F3.L _ _ (nf E w) a7) nu d0 (by rw[U7];exact KO hl) (by rw[V'] at J;exact WZ J)) λH4 e1 w1 w2 w3 w4 w5 w6 w7 w8=>?_;refine MT H4 e1 ?_ w2 w3 w4 w5 w6 ?_ ?_
   ·have r1:aK y (.aE un) 44=S .bR:=rfl;have r2:aK y (.aE 1) 51=S .bR:=rfl;have t1:aO (aC m) Ms (S (.aA 0) :: x1 :: x2 :: S (fK d) :: S (.aE un) :: I) y=.ok (.bool P4,y):=by clear w1 w2 w3 w4 w5 w6 w7 w8 S3 d2 a6 c4 MM sm d3 nf d0 F1 b F3 a3 G1 G2 G3 ok c8 c2 hh c3 a9 c9 hq c P c7 X D nX a5 a0;walk_at "xe"
    have t2:aW (aC m) Mr (S (.aA 0) :: x1 :: x2 :: S (fK d) :: S (.aE un) :: I) y=.ok (.next,S (.aA 0) :: x1 :: x2 :: S (fK d) :: S (.aE un) :: I,H3):=by clear w1 w2 w3 w4 w5 w6 w7 w8 S3 d2 a6 c4 MM sm d3 nf d0 F1 b F3 a3 G1 G2 G3 ok c8 c2 hh c3 a9 c9 hq c P c7 X D nX a5 a0 t1;walk_at "ev"
    exact O' t1 t2 w1
   ·rw[w7,VJ];show _=S (U++([aV (p q) i]++_));rw[b9]
   ·exact(((F1.mono λε o=>XW o).trans (b.mono λY (o:Y=.L un)=>Yg (o▸nu))).trans (F3.mono λY j=>Yg (a0.x E w Y j))).trans w8
noncomputable def vP(P:Z×uG):Z×P6×Z:=(P.1,P.2.2)
noncomputable def sZ(place:Z)(P:Z×uG):P6:=P.2.2.1||Qd (P.2.2.2<=place)
theorem Cr{c0 d:P5}{l:Z}:∀{y:V (Z×uG)},cU o y=S (c0,cw,l)->(fH o (d,cw,l) y).map vP=y.map vP:=by
 intro y;induction y with
 |nil=>intro B;exact nX B
 |cons P x b=>
  intro B;rw[mN] at B;refine R vI ?_;by_cases M:P.1=o;·rw[Qk M] at B;refine R (Qk M) ?_;show(P.1,cw,l) :: _=(P.1,P.2.2) :: _;rw[VH B]
  ·rw[Qm M] at B;refine R (Qm M) ?_;refine Vt.trans ?_;refine R (b B) rfl
theorem EH{C:t}:∀{L x:V (Z×t)},o∉L.map (·.1)->lN o (L++(o,C) :: x)=L++x:=by
 intro L;induction L with
 |nil=>intro x _;exact(Qk rfl).trans rfl
 |cons P L b=>intro x B;rw[Vt,U4,Rn] at B;refine(Qm (Wd B.1)).trans ?_;exact R (b B.2) rfl
theorem EI{C:t}:∀{L x:V (Z×t)},o∉L.map (·.1)->cU o (L++(o,C) :: x)=S C:=by
 intro L;induction L with
 |nil=>intro x _;exact(Qk rfl)
 |cons P L b=>intro x B;rw[Vt,U4,Rn] at B;exact(Qm (Wd B.1)).trans (b B.2)
theorem Cs(B:a.D[0]? = S (k.map pM))(J:cU o k=S de):aR a (.ab 0) (.int o)=S (.tup [.int de.1,.bool de.2.1,.int de.2.2]):=by refine vN B ?_;exact(oL (iZ qZ rfl)).trans (R J rfl)
theorem Ip(B:a.D[0]? = S (k.map pM))(J:cU o k=S de)(c:k.length<1000):jB a (.ab 0) 51 [.int o]=S (.tup [.int de.1,.bool de.2.1,.int de.2.2],wD a 0 ((lN o k).map pM)):=by refine(oL B).trans ?_;refine(Qk (by refine R (U1 ..) ?_;exact Qu c)).trans ?_;refine R (iZ qZ rfl) (R J ?_);refine R (yE qZ rfl (by refine R J ?_;rfl)) ?_;rfl
noncomputable abbrev Mt:jL:=.cons (.uI [6,7,8] (.sub (.attr (.var 0) 30) (.var 5))) (.cons (.ifs (.and (.not (.var 7)) (.cmp .gt (.var 8) (.var 2))) (.cons (.exp (.aU (.attr (.var 0) 30) 51 (.cons (.var 5) .nil))) (.cons (.exp (.aU (.attr (.var 0) 57) 44 (.cons (.var 5) .nil))) .nil)) .nil) .nil)
theorem FN(L E:Z):Qd ((E:P5)<(L:P5)) = !Qd (L<=E):=by exact R decide_not.symm (SG.mpr (Vj.trans Xp.symm))
theorem EJ{μ:MG}{cf:CF}{fa:Z}{place:Z}(hf:μ.fr=.aE fa)(f1:fa≠1)(f2:fa≠μ.ks)(e:V Z)(x1 j p:O Q):∀(a0 z:V (Z×uG)) (s:Z) (y:AH) (k:V Q) (L H y7 y8:O Q),e.drop s=a0.map (·.1)->GM y μ h n (z++a0)->((z++a0).map (·.1)).Nodup->y.L[fa]? = S k->k.length+a0.length<900->
  ∃v l',cM (λU a8 l y=>aW cf Mt (l.set 5 (S a8)) y) (.eW (e.map kI)) (a0.length+1) s [S (.aA 0),x1,S (.int place),j,p,L,H,y7,y8] y=.ok (.next,S (.aA 0) :: x1 :: S (.int place) :: j :: p :: l',v)/\
   GM v μ h n (z++a0.filter (sZ place))/\Fr (λY=>Y=.D 0\/Y=.L fa) y v/\l'.length=4:=by
 intro a0;induction a0 with
 |nil=>
  intro z s y k L H y7 y8 J A nd K hl;refine uL y [L,H,y7,y8] ?_ A Fr.refl rfl;have:Src.at (.eW (e.map kI)) s y=S N:=by show S ((e.map kI)[s]?)=_;refine R Vb ?_;exact R (FH J) rfl
  exact HM this
 |cons a a0 a5=>
  obtain⟨X,a6⟩:=a;intro z s y k L H y7 y8 J A nd K hl;have hi:e[s]? = S X:=FI J;have i:=FJ J;have T:Src.at (.eW (e.map kI)) s y=S (S (.int X)):=by show S ((e.map kI)[s]?)=_;rw[Vb,hi];rfl
  have a3:=λY=>by rw[Vw,Vt,VI] at nd;exact nd.2.2 X Y X (.head _) rfl
  obtain⟨d,o,c⟩:=a6;have gk:cU X (z++(X,d,o,c) :: a0)=S (d,o,c):=EI a3;have q1:=Cs A.m gk;have r:∀cf,aG cf y (.aA 0) 30=.ok (.ab 0,y):=λcf=>A.at rfl;have t:=A.ml;have d1:Qd ((place:P5)<(c:P5)) = !Qd (c<=place):=by
   by_cases B:c<=place;·rw[Qu B,QJ (mt Vj.mp (Wo.mpr B))];rfl
   ·rw[QJ B,Qu (Vj.mpr (Xp.mp B))];rfl
  refine z9 (sZ place (X,d,o,c)) (λq=>?_) (λq=>?_)
  ·have C:=Ip A.m gk (n1 t rfl);rw[EH a3] at C;have D:=A.wD (md':=z++a0) (by rw[U7];rw[U7,V'] at t;exact uD t rfl);have g:Fr (λY=>Y=.D 0\/Y=.L fa) y (wD y 0 ((z++a0).map pM)):=Fr.wD (.inl rfl);have w:(wD y 0 ((z++a0).map pM)).L[fa]? = S k:=K;generalize wD y 0 ((z++a0).map pM)=H1 at C D g w;have a2:∀cf,aG cf H1 (.aA 0) 57=.ok (.aE fa,H1):=λcf=>by rw[<-hf];exact D.at rfl
   have M:=hL (x:=.int X) w (n1 (Ve (Vu ..) hl) rfl);have b:Fr (λY=>Y=.D 0\/Y=.L fa) H1 (wL H1 fa (k++[.int X])):=Fr.wL (.inr rfl);have E:GM (wL H1 fa (k++[.int X])) μ h n (z++a0):=D.fr (P:=λY=>Y=.L fa) (Fr.wL rfl) nofun nofun (λY=>f1 (Ad.L.inj Y).symm) (λY=>f2 (Ad.L.inj Y).symm);have f:(wL H1 fa (k++[.int X])).L[fa]? = S (k++[.int X]):=cJ w;generalize wL H1 fa (k++[.int X])=H2 at M b E f;refine hF λa7=>?_;obtain⟨v,l',m,G,w3,w4⟩:=a5 z (s+1) H2 (k++[.int X]) (S (.int X)) (S (.int d)) (S (.bool o)) (S (.int c)) i E (by refine nd.sublist ?_;rw[Vw,Vw];exact V.Sublist.append_left (V.sublist_cons_self _ _) _) f (by rw[U7];exact Jk hl);refine a7 ?_;refine uL v l' ?_ (by rw[WO,q];exact G) ((g.trans b).trans w3) w4;have I:aW cf Mt [S (.aA 0),x1,S (.int place),j,p,S (.int X),H,y7,y8] y=.ok (.next,[S (.aA 0),x1,S (.int place),j,p,S (.int X),S (.int d),S (.bool o),S (.int c)],H2):=by unfold sZ at q;have r1:aK y (.ab 0) 51=S .bR:=rfl;have r2:aK H1 (.aE fa) 44=S .bR:=rfl;clear m G w3 w4 J i hi a3 gk K hl nd t hf f1 f2 A D E g b w f;dsimp only at q1 q C;have d1:cW y .gt (.int c) (.int place)=S (!Qd (c<=place)):=Ql S (FN ..);generalize Qd (c<=place)=a4 at *;induction o using U6<;>induction a4 using U6<;>first|exact Qp q (by decide)|(clear q;walk_at "ev")
   exact Ae T I (B9 m)
  ·refine yQ (a5 (z++[(X,d,o,c)]) (s+1) y k (S (.int X)) (S (.int d)) (S (.bool o)) (S (.int c)) i (by rw[VJ];exact A) (by rw[VJ];exact nd) K (by rw[V'] at hl;exact uD hl rfl)) λv l' m G w3 w4=>?_;refine uL v l' ?_ (by rw[WO,q,Qk rfl];rw[VJ] at G;exact G) w3 w4;have I:aW cf Mt [S (.aA 0),x1,S (.int place),j,p,S (.int X),H,y7,y8] y=.ok (.next,[S (.aA 0),x1,S (.int place),j,p,S (.int X),S (.int d),S (.bool o),S (.int c)],y):=by unfold sZ at q;clear m G w3 w4 J i hi a3 gk K hl nd t hf f1 f2 A;dsimp only at q1 q;have d1:cW y .gt (.int c) (.int place)=S (!Qd (c<=place)):=Ql S (FN ..);generalize Qd (c<=place)=a4 at *;induction o using U6<;>induction a4 using U6<;>first|exact Qp q (by decide)|(clear q;walk_at "ev")
   exact Ae T I (B9 m)
noncomputable abbrev K9:jL:=.cons (.ifs (.and (.cmp .eq (.sub (.var 2) (.int 0)) (.str 47)) (.cmp .in (.attr (.sub (.var 2) (.int 1)) 23) (.attr (.var 0) 30))) (.cons (.uI [3,4,5] (.sub (.attr (.var 0) 30) (.attr (.sub (.var 2) (.int 1)) 23))) (.cons (.fE (.attr (.var 0) 30) (.attr (.sub (.var 2) (.int 1)) 23) (.tup (.cons (.bin .mul (.gi 40 16) (.sub (.var 2) (.int 2))) (.cons (.var 4) (.cons (.var 5) .nil))))) .nil)) .nil) .nil
theorem Iq(B:(cU q k).isSome=P4):(fH q de k).length=k.length:=uo B
theorem Cu{cf:CF}(b9:∀E∈r,¬gs m E (.D 0))(j:Jo)(d:O Q):∀(a3:Jo) (s:Z) (y:AH) (f:V (Z×uG)) (y2 D B L:O Q),j.drop s=a3->GM y e h n f->y.L[bx]? = S (j.map (enc p))->(∀E∈r,MB y m E (z E.num))->(∀M∈a3,p M.1∈r/\∀H,M.2=.most H->H=2)->
  ∃v l' U,cM (λε c4 l y=>aW cf K9 (l.set 2 (S c4)) y) (.pQ bx) (a3.length+1) s [S (.aA 0),d,y2,D,B,L] y=.ok (.next,l',v)/\GM v e h n U/\U.map vP=f.map vP/\Fr (λY=>Y=.D 0) y v:=by
 intro a3;induction a3 with
 |nil=>
  intro s y f y2 D B L J A K b hq;refine CU y [S (.aA 0),d,y2,D,B,L] f ?_ A rfl Fr.refl;have:Src.at (.pQ bx) s y=S N:=by show(y.L[bx]?).map _=_;refine R K ?_;show S ((j.map (enc p))[s]?)=_;refine R Vb ?_;exact R (FH J) rfl
  exact HM this
 |cons q_ a3 a8=>
  obtain⟨q,i⟩:=q_
  intro s y f y2 D B L J A K b hq
  have hi:=FI J
  have a5:=FJ J
  have T:Src.at (.pQ bx) s y=S (S (aV (p q) i)):=by show(y.L[bx]?).map _=_;refine R K ?_;show S ((j.map (enc p))[s]?)=_;refine R Vb ?_;exact R hi rfl
  refine bT (hq _ (.head _)) λw h2=>?_
  dsimp only at w h2
  refine O7 (P:=∃X,aR y (aV (p q) i) (.int 0)=S (.str X)/\(X==47)=P8) (λa0=>?_) λa6=>?_
  ·refine hF λc7=>aM a0 λX q0 q1=>Gg (a8 (s+1) y f (S (aV (p q) i)) D B L a5 A K b (λM a0=>hq M (.tail _ a0))) λv l' U w1 G x w4=>c7 (CU v l' U ?_ G x w4);have a7:aW cf K9 [S (.aA 0),d,S (aV (p q) i),D,B,L] y=.ok (.next,[S (.aA 0),d,S (aV (p q) i),D,B,L],y):=by walk_at "ev"
   exact Ae T a7 (B9 w1)
  induction i using Un.casesOn with
  |item a4 c3=>exact a6 (ba 45 rfl rfl)
  |acc a4=>exact a6 (ba 16 rfl rfl)
  |ent k c3=>induction c3 using U0<;>exact a6 (ba 49 rfl rfl)
  |drop k c4 ks=>exact a6 (ba 52 rfl rfl)
  |most a4=>
   clear a6;obtain rfl:=h2 a4 rfl;refine hO (jF (b _ w)) λε ε b3=>?_;have a1:∀cf,aG cf y (bv (p q)) 23=.ok (.int (p q).num,y):=λcf=>aS b3;have a2:∀cf,aG cf y (.aA 0) 30=.ok (.ab 0,y):=λcf=>A.at rfl;have q0:aR y (aV (p q) (.most 2)) (.int 0)=S (.str 47):=rfl;have q1:aR y (aV (p q) (.most 2)) (.int 1)=S (bv (p q)):=rfl;have q2:aR y (aV (p q) (.most 2)) (.int 2)=S (.int 2):=rfl;have c5:cK .mul (.int 16) (.int 2)=S (.int 32):=rfl;have a:cW y .in (.int (p q).num) (.ab 0)=S (cU (p q).num f).isSome:=by refine(oL A.m).trans ?_;show(fO (kI (p q).num) (f.map pM)).map (·.isSome)=_;refine R (iI qZ rfl) ?_;show S ((sY (p q).num f).isSome)=_;rw[uv]
   refine oA (cU (p q).num f) (λI=>?_) (λa4 I=>?_)
   ·refine Gg (a8 (s+1) y f (S (aV (p q) (.most 2))) D B L a5 A K b (λM a0=>hq M (.tail _ a0))) λv l' U w1 G x w4=>CU v l' U ?_ G x w4;replace a:=I▸a;unfold YG at a;have a7:aW cf K9 [S (.aA 0),d,S (aV (p q) (.most 2)),D,B,L] y=.ok (.next,[S (.aA 0),d,S (aV (p q) (.most 2)),D,B,L],y):=by clear w1 G x w4 J a5 hi K b hq w h2 A b9 I b3;walk_at "ev"
    exact Ae T a7 (B9 w1)
   ·obtain⟨cc,o,c⟩:=a4;have q3:=Cs A.m I;have t:=A.ml;have s1:=xr A.m (k:=(p q).num) (i:=32) (g:=o) (l:=c) (n1 t rfl);have G1:=A.wD (md':=fH (p q).num (32,o,c) f) (by refine R (Iq (by refine R I ?_;rfl)) ?_;exact t);have g:Fr (λY=>Y=.D 0) y (wD y 0 ((fH (p q).num (32,o,c) f).map pM)):=Fr.wD rfl;have a9:(wD y 0 ((fH (p q).num (32,o,c) f).map pM)).L[bx]? = S (j.map (enc p)):=K;have c1:∀C∈r,MB (wD y 0 ((fH (p q).num (32,o,c) f).map pM)) m C (z C.num):=λC c2=>(b _ c2).fr g λY hz (X:Y=.D 0)=>b9 _ c2 (X▸hz);generalize wD y 0 ((fH (p q).num (32,o,c) f).map pM)=H1 at s1 G1 g a9 c1;refine Gg (a8 (s+1) H1 (fH (p q).num (32,o,c) f) (S (aV (p q) (.most 2))) (S (.int cc)) (S (.bool o)) (S (.int c)) a5 G1 a9 c1 (λM a0=>hq M (.tail _ a0))) λv l' U w1 G x w4=>CU v l' U ?_ G (x.trans (Cr I)) (g.trans w4);replace a:=I▸a;unfold YG at a;have a7:aW cf K9 [S (.aA 0),d,S (aV (p q) (.most 2)),D,B,L] y=.ok (.next,[S (.aA 0),d,S (aV (p q) (.most 2)),S (.int cc),S (.bool o),S (.int c)],H1):=by clear w1 G x w4 J a5 hi K b hq w h2 A b9 I b3 G1 g a9 c1 t;dsimp only at q3;walk_at "ev"
    exact Ae T a7 (B9 w1)
theorem Ir{m:Z}{es:Z->Z}{bd:Z->Bd}{cs:Z->Ct}(A:GM a e h n k)(i:1<=m)(d:∀E∈r,¬gs es E (.D 0))(j:Jo)(c:j.length<500)(K:a.L[bx]? = S (j.map (enc bd)))(b:∀E∈r,MB a es E (cs E.num))(s:∀q∈j,bd q.1∈r/\∀m,q.2=.most m->m=2) :
  ∃v U,aC m (.fn 45) [.aA 0,.aE bx] a=.ok (.none,v)/\GM v e h n U/\U.map vP=k.map vP/\Fr (λY=>Y=.D 0) a v:=by
 refine aM (fM i) λg bP y=>R bP (Gg (Cu (cf:=aC g) d j (S (.aE bx)) j 0 a k N N N N rfl A K b s) λv p U w G o P=>?_);have t:srcOf a (.aE bx)=S (.pQ bx,j.length):=by refine(oL K).trans ?_;refine(Qk (by refine R (U1 ..) ?_;exact Qu (n1 c rfl))).trans ?_;rw[U1]
 refine uL v U ?_ G o P;have T:=kP (cf:=aC g) (x:=2) (e:=.var 1) (l:=[S (.aA 0),S (.aE bx),N,N,N,N]) (show aO _ _ _ a=.ok (.aE bx,a) from rfl) t w;refine(aN (f:=MJ) [S (.aA 0),S (.aE bx),N,N,N,N] rfl rfl).trans ?_;exact(bL (aX T)).trans rfl
theorem Cv:cut c9 N (S (aa:P5))=c9.take aa:=by show V.drop 0 (V.take (WS aa) c9)=_;refine V.drop_zero.trans ?_;refine R (W0 ..) rfl
theorem EK{lo g:O Q}{l B:O P5}(G:tc lo=S l)(p:tc g=S B):eU a (.aE o) lo g=(a.L[o]?).bind λw=>if sm w.length then S (.aE a.L.length,{a with L:=a.L++[cut w l B]}) else N:=by unfold eU;refine R G (R p rfl)
theorem vQ{place:Z}(n:place<1000):tc (S (.int place))=S (S (place:P5)):=by unfold tc;exact Qk ⟨by exact Vg _,WT (show(place:P5)<1000 by exact Vj.mpr n) (by decide)⟩
theorem FO{place:Z}(B:a.L[o]? = S c9)(c:c9.length<1000)(n:place<1000):eU a (.aE o) N (S (.int place))=S (.aE a.L.length,aL a (c9.take place)):=by refine(EK (lo:=N) rfl (vQ n)).trans ((oL B).trans ?_);exact(Qk (show sm c9.length=P4 from Qu c)).trans rfl
theorem Pm{d l1 P:Q}{I:Q×AH}{a:Loc}(j:∀g,aG g s (.aA 0) 25=.ok (.aE ff,s))(i:eU s (.aE ff) N (S P)=S I)(L:eO I.2 (.aA 0) 25 I.1=S cx):dK g (aH mT.body 4) (S (.aA 0) :: S (.int fe) :: S P :: S d :: S l1 :: a) s=.ok (.next,S (.aA 0) :: S (.int fe) :: S P :: S d :: S l1 :: a,cx):=by dsimp only[mT,aH];walk_at "ev"
theorem EL{R:Res (Fl×Loc×AH)}(B:jC (λf a=>(aO g bq f a).bind λx=>match truthy x.1 with|some K=>.ok (K,x.2)|none=>.bad) (λf a=>aW g bk f a) 100 f a=R):dK g (.CO bq bk) f a=R:=Ao.trans B
theorem Mu:(k.map pM).map (·.1)=(k.map (·.1)).map kI:=by exact V8.trans (R V8 rfl)
theorem Iu(r:aK fg (.aA 0) 56=S (.own 45))(a:aC q (.fn 45) [.aA 0,.aE bx] fg=.ok (.none,dh)):dK (aC q) (aH mT.body 7) (S (.aA 0) :: g5 :: g8 :: fh :: S (.aE bx) :: g9) fg=.ok (.next,S (.aA 0) :: g5 :: g8 :: fh :: S (.aE bx) :: g9,dh):=by dsimp only[mT,aH];walk_at "ev"
theorem Iw{a:AH}(P:∀f,aG f dh (fK bo) 29=.ok (.int bo.used,dh))(g:eO dh (.aA 0) 29 (.int bo.used)=S a):dK (aC q) (aH mT.body 8) (S (.aA 0) :: g5 :: g8 :: S (fK bo) :: fi :: g9) dh=.ok (.next,S (.aA 0) :: g5 :: g8 :: S (fK bo) :: fi :: g9,a):=by dsimp only[mT,aH];walk_at "ev"
theorem Iy{X:Ad->Prop}{m:Z}{place:Z}{es:Z->Z}{q:P5}(hm:3<=m){pre suf:Jo}{s:Sv}(A:GM a e h (((pre++suf).map (enc p)).reverse) k)(hp:gX q h=S place)(hs:h[place]? = S s)(b9:s.many=suf.length)(c:∀Y,Gl Y\/Y=.L e.ks->X Y)(a6:∀E∈r,∀y∈r,E.num=y.num->E=y)
  (MM:∀E∈r,MB a es E (z E.num)) (a9:∀E∈r,Cp (z E.num)) (B:Sep X es r) (hh:∀Y,X Y->has a Y) (hq:∀a4∈pre,p a4.1∈r/\(p a4.1).num=a4.1) (a8:∀a4∈pre,∀m,a4.2=.most m->m=2) (ok:uF (λa3=>(p a3).k) z pre) (nd:(k.map (·.1)).Nodup) (a5:pre.length<98) :
  ∃v g c4 a0 e2 e5,aC m (.fn 44) [.aA 0,.int q] a=.ok (e5,v)/\GM v {e with ks:=a0,fr:=e2,u:=s.used} (h.take place) ((suf.map (enc p)).reverse) c4/\c4.map vP=(k.filter (sZ place)).map vP/\
   (∀E∈r,MB v g E (oM z pre E.num))/\(∀E∈r,Cp (oM z pre E.num))/\Sep (λY=>X Y\/Y=.L a0) g r/\(∀Y,X Y->has v Y)/\¬has a (.L a0)/\Fr (λY=>¬X Y\/Gl Y) a v:=by
 refine aM (fM hm) λa3 bP K=>R bP ?_;have hJ:pre.length+suf.length<99:=by have:=A.jl;rw[VM,U1,U7] at this;exact this
 have T:=xx (q:=q) (m:=a3) A K;rw[hp] at T;have r1:aK a (.aA 0) 55=S (.own 42):=A.rc rfl;have a1:∀cf,aG cf a (.aA 0) 25=.ok (.aE e.ks,a):=λcf=>A.at rfl;have pl:=(U8.mp hs).1;have sl:=A.sl;have q1:aR a (.aE e.ks) (.int place)=S (fK s):=by show(a.L[e.ks]?).bind _=_;refine(oL A.s).trans ?_;show(Mine.Lake.place place (h.map fK).length).bind _=_;refine(oL (show Mine.Lake.place place (h.map fK).length=S place by refine(Qk (Vg _)).trans ?_;refine(Qk (by refine R (U1 ..) ?_;exact⟨Vj.mpr pl,Wb.mpr (uD (Ve pl sl) rfl)⟩)).trans ?_;rfl)).trans ?_;show(h.map fK)[place]? = _;refine Vb.trans ?_;exact R hs rfl
 have k0:dK (aC a3) (aH mT.body 0) [S (.aA 0),S (.int q),N,N,N,N,N,N,N] a=.ok (.next,[S (.aA 0),S (.int q),S (.int place),N,N,N,N,N,N],a):=by dsimp only[mT,aH];clear A c a6 MM a9 B hh hq a8 ok nd hp hs b9;walk_at "ev"
 have k1:dK (aC a3) (aH mT.body 1) [S (.aA 0),S (.int q),S (.int place),N,N,N,N,N,N] a=.ok (.next,[S (.aA 0),S (.int q),S (.int place),S (fK s),N,N,N,N,N],a):=by dsimp only[mT,aH];clear A c a6 MM a9 B hh hq a8 ok nd hp hs b9;walk_at "ev"
 have e6:=bY A.s;refine MX (Io (un:=a.L.length) (m:=a3) (n4 K rfl) c s suf b9 a6 (S (.int q)) (S (.int place)) [N,N,N,N] pre (aL a []) es z [] 100 ((Ez A).1 _) (λE w=>(MM E w).fr (P:=λU=>QC) Fr.aL λU U=>id) a9 B (λY j=>Fr.has (P:=λU=>QC) Fr.aL id (hh Y j)) hq ok eR (λa7=>Vk _ (hh _ a7)) (λE w j=>by have:=(MM E w).has j;exact Vk _ this) (by simp only[V.length_nil];exact a5) (n1 a5 rfl)) λH2 i w1 G2 l c8 S2 d0 d F2=>?_;rw[Xj] at d;have e0:eU H2 (.aE e.ks) N (S (.int place))=S (.aE H2.L.length,aL H2 ((h.take place).map fK)):=by have:=FO (place:=place) G2.s (R (U1 ..) (n1 sl rfl)) (uD (Ve pl sl) rfl);refine this.trans ?_;rw[X0]
 have c1:=bY d;have d8:=λY=>Z.lt_asymm (show a.L.length<H2.L.length from c1) (show H2.L.length<a.L.length from Y);have D:GM (aL H2 ((h.take place).map fK)) e h ((suf.map (enc p)).reverse) k:=(Ez G2).1 _;have L:eO (aL H2 ((h.take place).map fK)) (.aA 0) 25 (.aE H2.L.length)=S (wI (aL H2 ((h.take place).map fK)) 0 (.Mem,cR {e with ks:=H2.L.length})):=D.eO rfl (by decide) _ rfl;have G4:GM (wI (aL H2 ((h.take place).map fK)) 0 (.Mem,cR {e with ks:=H2.L.length})) {e with ks:=H2.L.length} (h.take place) ((suf.map (enc p)).reverse) k:=⟨cJ D.i,eR,D.j,D.m,λY=>Wc (YP (bY A.j) (show a.L.length<H2.L.length from c1)) Y,by refine R Wa ?_;exact Ve (Xa ..) sl,D.jl,D.ml⟩;have J:Fr Gl H2 (wI (aL H2 ((h.take place).map fK)) 0 (.Mem,cR {e with ks:=H2.L.length})):=Fr.aL.trans (Fr.wI (.inl rfl));have c3:(wI (aL H2 ((h.take place).map fK)) 0 (.Mem,cR {e with ks:=H2.L.length})).L[a.L.length]? = S (pre.map (enc p)):=fB d;have k4:∀I,dK (aC a3) (aH mT.body 4) (S (.aA 0) :: S (.int q) :: S (.int place) :: S (fK s) :: S (.aE a.L.length) :: I) H2=.ok (.next,S (.aA 0) :: S (.int q) :: S (.int place) :: S (fK s) :: S (.aE a.L.length) :: I,wI (aL H2 ((h.take place).map fK)) 0 (.Mem,cR {e with ks:=H2.L.length})):=λI=>by exact Pm (λcf=>G2.at rfl) e0 L
 have M4:∀E∈r,MB (wI (aL H2 ((h.take place).map fK)) 0 (.Mem,cR {e with ks:=H2.L.length})) i E (oM z pre E.num):=λE w=>(l E w).fr J λY j o=>S2.x E w Y j (c Y (.inl o));have c2:∀Y,X Y->has (wI (aL H2 ((h.take place).map fK)) 0 (.Mem,cR {e with ks:=H2.L.length})) Y:=λY j=>by
  by_cases o:Gl Y;·exact G4.has (.inl o)
  ·exact J.has o (d0 Y j)
 have C:has (wI (aL H2 ((h.take place).map fK)) 0 (.Mem,cR {e with ks:=H2.L.length})) (.L H2.L.length):=G4.has (.inr rfl);generalize c6:H2.L.length=a0 at *;generalize wI (aL H2 ((h.take place).map fK)) 0 (.Mem,cR {e with ks:=a0})=n at *;have G5:GM (aL n []) {e with ks:=a0} (h.take place) ((suf.map (enc p)).reverse) k:=(Ez G4).1 _;have s5:eO (aL n []) (.aA 0) 57 (.aE n.L.length)=S (wI (aL n []) 0 (.Mem,cR {e with ks:=a0,fr:=.aE n.L.length})):=G5.eO rfl (by decide) _ rfl;have G6:=G5.wI (Ey:={e with ks:=a0,fr:=.aE n.L.length}) rfl;have F6:Fr Gl n (wI (aL n []) 0 (.Mem,cR {e with ks:=a0,fr:=.aE n.L.length})):=Fr.aL.trans (Fr.wI (.inl rfl));have c5:(wI (aL n []) 0 (.Mem,cR {e with ks:=a0,fr:=.aE n.L.length})).L[n.L.length]? = S []:=eR;have d1:(wI (aL n []) 0 (.Mem,cR {e with ks:=a0,fr:=.aE n.L.length})).L[a.L.length]? = S (pre.map (enc p)):=fB c3;have k5:∀I,dK (aC a3) (aH mT.body 5) (S (.aA 0) :: S (.int q) :: S (.int place) :: S (fK s) :: S (.aE a.L.length) :: I) n=.ok (.next,S (.aA 0) :: S (.int q) :: S (.int place) :: S (fK s) :: S (.aE a.L.length) :: I,wI (aL n []) 0 (.Mem,cR {e with ks:=a0,fr:=.aE n.L.length})):=λI=>by change (match eO (aL n []) (.aA 0) 57 (.aE n.L.length) with|some v=>Res.ok (Fl.next,_,v)|none=>.bad)=_;rw[s5]
 have M6:∀E∈r,MB (wI (aL n []) 0 (.Mem,cR {e with ks:=a0,fr:=.aE n.L.length})) i E (oM z pre E.num):=λE w=>(M4 E w).fr F6 λY j o=>S2.x E w Y j (c Y (.inl o));have d5:∀Y,X Y->has (wI (aL n []) 0 (.Mem,cR {e with ks:=a0,fr:=.aE n.L.length})) Y:=λY j=>by
  by_cases o:Gl Y;·exact G6.has (.inl o)
  ·exact F6.has o (c2 Y j)
 have c7:n.L.length≠1:=λY=>by have:=bY G4.j;exact Qp (Y.symm▸this) (Vk _)
 have c9:n.L.length≠a0:=λY=>by have:=show a0<n.L.length from C;exact Qp (Y.symm▸this) (Vk _)
 have d3:∀E∈r,¬gs i E (.L n.L.length):=λE w j=>Vk _ ((M4 E w).has j);have d7:¬X (.L n.L.length):=λj=>Vk _ (c2 _ j);have e3:a.L.length≠n.L.length:=λY=>by have:=bY c3;exact Qp (Y.symm▸this) (Vk _)
 generalize n.L.length=fa at *;generalize wI (aL n []) 0 (.Mem,cR {e with ks:=a0,fr:=.aE fa})=b at *;refine yQ (EJ (place:=place) (cf:=aC a3) (μ:={e with ks:=a0,fr:=.aE fa}) rfl c7 c9 (k.map (·.1)) (S (.int q)) (S (fK s)) (S (.aE a.L.length)) k [] 0 b [] N N N N rfl G6 nd c5 (n1 (Ve (Vq (W7 _)) A.ml) rfl)) λH7 l7 w7 G7 F7 e7=>?_;rw[Xj] at G7;have n7:∀Y,X Y->¬(Y=.L fa):=λY j a2=>d7 (a2▸j);have M:=λE w=>(M6 E w).fr F7 λY j o=>by
  rcases o with o|o;·exact S2.x E w Y j (c Y (.inl (.inr (.inl o))))
  ·exact d3 E w (o▸j)
 have d4:∀Y,X Y->has H7 Y:=λY j=>by
  by_cases o:Gl Y;·exact G7.has (.inl o)
  ·exact F7.has (λa2=>a2.elim (λa2=>o (.inr (.inl a2))) (n7 Y j)) (d5 Y j)
 have k6:dK (aC a3) (aH mT.body 6) [S (.aA 0),S (.int q),S (.int place),S (fK s),S (.aE a.L.length),N,N,N,N] b=.ok (.next,S (.aA 0) :: S (.int q) :: S (.int place) :: S (fK s) :: S (.aE a.L.length) :: l7,H7):=by
  have ml:=G6.ml;have b6:bK b .list [.ab 0]=S (.lst ((k.map (·.1)).map kI),b):=by show(b.D[0]?).bind _=_;refine(oL G6.m).trans ?_;show(if Mine.Lake.sm (k.map pM).length=P4 then _ else N)=_;rw[Qk (by rw[U1];exact Qu (n1 ml rfl)),Mu]
  have s6:srcOf b (.lst ((k.map (·.1)).map kI))=S (.eW ((k.map (·.1)).map kI),k.length):=by show(if Mine.Lake.sm ((k.map (·.1)).map kI).length=P4 then _ else N)=_;rw[Qk (by rw[U1,U1];exact Qu (n1 ml rfl)),U1,U1]
  have ee:aO (aC a3) (.bC .list (.cons (.attr (.var 0) 30) .nil)) [S (.aA 0),S (.int q),S (.int place),S (fK s),S (.aE a.L.length),N,N,N,N] b=.ok (.lst ((k.map (·.1)).map kI),b):=by exact xB (FG (Cm (x:=0) (v:=.aA 0) rfl ((λcf=>G6.at rfl) _)) Ks) b6
  exact kP ee s6 w7
 refine yQ (Ir (m:=a3) (es:=i) (cs:=λa3=>oM z pre a3) (bd:=p) G7 (n4 K rfl) (λE w j=>S2.x E w _ j (c _ (.inl (.inr (.inl rfl))))) pre (n1 a5 rfl) (show H7.L[a.L.length]? = S (pre.map (enc p)) from F7.L _ _ (λa2=>a2.elim (λa2=>nomatch a2) λa2=>e3 (Ad.L.inj a2)) d1) M (λa4 hp=>⟨(hq a4 hp).1,a8 a4 hp⟩)) λG d2 e8 G8 d9 F8=>?_;have e4:∀Y,X Y->has G Y:=λY j=>by
  by_cases o:Gl Y;·exact G8.has (.inl o)
  ·exact F8.has (λa2=>o (.inr (.inl a2))) (d4 Y j)
 have s8:eO G (.aA 0) 29 (.int s.used)=S (wI G 0 (.Mem,cR {e with ks:=a0,fr:=.aE fa,u:=s.used})):=G8.eO rfl (by decide) _ rfl;have G9:=G8.wI (Ey:={e with ks:=a0,fr:=.aE fa,u:=s.used}) rfl;have t:Fr Gl G (wI G 0 (.Mem,cR {e with ks:=a0,fr:=.aE fa,u:=s.used})):=Fr.wI (.inl rfl);have M9:∀E∈r,MB (wI G 0 (.Mem,cR {e with ks:=a0,fr:=.aE fa,u:=s.used})) i E (oM z pre E.num):=λE w=>((λE w=>(M E w).fr F8 λY j (o:Y=.D 0)=>S2.x E w Y j (c Y (.inl (.inr (.inl o))))) E w).fr t λY j o=>S2.x E w Y j (c Y (.inl o));have d6:∀Y,X Y->has (wI G 0 (.Mem,cR {e with ks:=a0,fr:=.aE fa,u:=s.used})) Y:=λY j=>by
  by_cases o:Gl Y;·exact G9.has (.inl o)
  ·exact t.has o (e4 Y j)
 have hf:∀E∈r,¬gs i E (.L a0):=λE w j=>by have:=(l E w).has j;rw[<-c6] at this;exact Vk _ this
 have xD:∀Y,Y=.D 0->Gl Y:=λY a7=>.inr (.inl a7);refine⟨_,i,d2,a0,.aE fa,.aE a.L.length,?_,G9,d9,M9,c8,⟨λE w Y j H=>H.elim (S2.x E w Y j) λa2=>hf E w (a2▸j),S2.d⟩,d6,d8,?_⟩
 ·have r7:aK H7 (.aA 0) 56=S (.own 45):=G7.rc rfl;have k7:dK (aC a3) (aH mT.body 7) (S (.aA 0) :: S (.int q) :: S (.int place) :: S (fK s) :: S (.aE a.L.length) :: l7) H7=.ok (.next,S (.aA 0) :: S (.int q) :: S (.int place) :: S (fK s) :: S (.aE a.L.length) :: l7,G):=by exact Iu r7 e8
  have k8:dK (aC a3) (aH mT.body 8) (S (.aA 0) :: S (.int q) :: S (.int place) :: S (fK s) :: S (.aE a.L.length) :: l7) G=.ok (.next,S (.aA 0) :: S (.int q) :: S (.int place) :: S (fK s) :: S (.aE a.L.length) :: l7,wI G 0 (.Mem,cR {e with ks:=a0,fr:=.aE fa,u:=s.used})):=by exact Iw (λcf=>aS rfl) s8
  rw[aN (f:=mT) [S (.aA 0),S (.int q),N,N,N,N,N,N,N] rfl rfl];show(aW _ (.cons (aH mT.body 0) (.cons (aH mT.body 1) (.cons (aH mT.body 2) (.cons (.CO Ms Mr) (.cons (aH mT.body 4) (.cons (aH mT.body 5) (.cons (aH mT.body 6) (.cons (aH mT.body 7) (.cons (aH mT.body 8) (.cons (.ret (.var 4)) .nil)))))))))) _ a).bind _=_;rw[aX k0,aX k1,aX (show dK (aC a3) (aH mT.body 2) [S (.aA 0),S (.int q),S (.int place),S (fK s),N,N,N,N,N] a=.ok (.next,[S (.aA 0),S (.int q),S (.int place),S (fK s),S (.aE a.L.length),N,N,N,N],aL a []) from rfl),aX (EL w1),aX (k4 _),aX (k5 _),aX k6,aX k7,aX k8];rfl
 ·refine((((((Fr.aL (v:=[])).trans F2).trans (J.mono λU=>XW)).trans (F6.mono λU=>XW)).trans (F7.mono λY a2=>?_)).trans (F8.mono λY a2=>XW (xD Y a2))).trans (t.mono λU=>XW);rcases a2 with a2|a2;·exact XW (xD Y a2)
  ·exact Yg λj=>n7 Y j a2
theorem Pn{L:P6}:cW a .ne (.bool L) (.bool L)=S P8:=by show S (!(L==L))=_;exact R (Si ..) rfl
theorem zQ{f:Q->AH->Res (O Q×AH)}{o:Q->O Q}(P:∀s,E.at s a=S be[s]?):∀(x:V Q) (s:Z),be.drop s=x->(∀I∈x,f I a=.ok (o I,a))->bW f E (x.length+1) s a=.ok (x.filterMap o,a):=by
 intro x;induction x with
 |nil=>intro s B _;exact Pb ((P _).trans (Ql S (FH B)))
 |cons I x b=>intro s B H;refine(Pc ((P _).trans (Ql S (FI B))) (H I (.head _)) (b (s+1) (FJ B) λn J=>H n (.tail _ J))).trans (R WQ ?_);induction(o I) using U0<;>rfl
theorem jf{cf:CF}{elt it:LE}{ts:V Z}{cond:LO}{l:Loc}{H:AH}{v:Q}{g:Q->O Q}(G:aO cf it l H=.ok (v,j))(p:srcOf j v=S (E,be.length))(P:∀s,E.at s j=S be[s]?)
  (a:∀I∈be,bD cf elt ts cond l I j=.ok (g I,j)):aO cf (.comp elt ts it cond) l H=.ok (.lst (be.filterMap g),j):=by refine(bL G).trans ?_;dsimp only[Res.bind];refine R p ((bL (zQ P be 0 rfl a)).trans rfl)
theorem q7(B:a.L[o]? = S be)(c:be.length<1000):srcOf a (.aE o)=S (.pQ o,be.length)/\∀s,(Src.pQ o).at s a=S be[s]?:=by
 refine⟨?_,λs=>?_⟩;·exact(oL B).trans (Qk (show sm be.length=P4 from Qu c))
 ·show(a.L[o]?).map _=_;exact R B rfl
theorem vR{H:AH}{xs:V Q}(c:xs.length<1000):srcOf H (.lst xs)=S (.eW xs,xs.length)/\∀s,(Src.eW xs).at s H=S xs[s]?:=⟨Qk (show sm xs.length=P4 from Qu c),λU=>rfl⟩
theorem zR:∀{l:V Q},(∀I∈l,eqT I I=S P4)->v5 l l=S P4:=by
 intro l;induction l with
 |nil=>intro _;rfl
 |cons I l b=>intro B;show(match eqT I I,v5 l l with|some I,S n=>S (I&&n)|_,_=>N)=_;refine R (B I (.head _)) ?_;exact R (b λn J=>B n (.tail _ J)) rfl
theorem ri(B:∀I∈ai,eqT I I=S P4):cW a .eq (.lst ai) (.lst ai)=S P4/\cW a .ne (.lst ai) (.lst ai)=S P8:=by
 have:CQ a (.lst ai) (.lst ai)=S P4:=by exact(Qk rfl).trans ((zR B))
 exact⟨this,by show(CQ a (.lst ai) (.lst ai)).map _=_;refine R this ?_;rfl⟩
theorem zS{j:V (Z×P5)}(A:(j.map (·.1)).Nodup):∀{l:V (Z×P5)},(∀P∈l,P∈j)->kX (j.map ent) (l.map ent)=S (l.map λP=>eN P.1 P.2):=by
 intro l;induction l with
 |nil=>intro _;rfl
 |cons P l b=>
  intro B;have o:cU P.1 j=S P.2:=by
   have n:∀{H:V (Z×P5)},(H.map (·.1)).Nodup->P∈H->cU P.1 H=S P.2:=by
    intro H
    induction H with
    |nil=>intro _ B;cases B
    |cons M x k=>
     intro A B;rw[Vt,Vl] at A;rcases U4.mp B with rfl|B;·exact(Qk rfl)
     ·exact(Qm (λD:M.1=P.1=>A.1 (D▸Vr B))).trans ((k A.2 B))
   exact n A (B P (.head _))
  show(match (dR (j.map ent) (kW P.1)).bind id,kX (j.map ent) (l.map ent) with|some C,S w=>S (C :: w)|_,_=>N)=_;refine R (iZ oN rfl) ?_;refine R o ?_;exact R (b λM e=>B M (.tail _ e)) rfl
theorem ld{X:Q}(E:a.D[bh]? = S (eF b d))(D:(dR (eF b d) X).bind id=S l):aR a (.ab bh) X=S l:=vN E D
theorem Kx(B:a.B[bh]? = S ll)(c:ll.length<1000):bK a .len [.fV bh]=S (.int ll.length,a):=(oL B).trans (Qk (Qu c))
theorem Cw{m:Z}{b:Bd}{c:Ct}{l:Z->Z}(i:3<=m)(E:a.D[b.d]? = S (eF b bm))(y:MB a l b c)(t:c.df.length<=3):aC m (.fn 53) [.ab b.d] a=.ok (eI b c,a):=by
 refine aM (fM i) λe bP K=>?_;clear i;subst bP;refine aM (fM K) λe cQ H=>?_;clear K;subst cQ;have r:aR a (.ab b.d) (.str 9)=S (kS b.k):=ld E rfl;have o:aR a (.ab b.d) (.str 14)=S (bv b):=ld E rfl;have T:∀I n,aC e (.cls .Thing) [I,n,.bool P8,.int 3] a=.ok (.obj .Thing [I,n,.bool P8,.int 3],a):=λI n=>HQ H;have U:∀I n,aC e (.cls .Thing) [I,n] a=.ok (.obj .Thing [I,n,.bool P8,.int 3],a):=λI n=>B' H;have L:∀I n Y,aC e (.cls .Span) [I,n,Y] a=.ok (.obj .Span [I,n,Y],a):=λI n Y=>Kv H;have p:jM [39,8,36] [.fn 7,.fn 8,.fn 6] (kS b.k) a=.ok (.fn (match b.k with|.row=>7|.dict=>8|.text=>6),a):=by induction b.k using Zr<;>rfl
 have x:aC (e+1) (.fn (match b.k with|.row=>7|.dict=>8|.text=>6)) [bv b] a=.ok (eI b c,a):=by
  induction J:b.k using Zr with
  |row=>
   have M:a.L[b.a]? = S (c.df.map tI):=by unfold MB at y;rw[J] at y;exact y
   have l1:=mQ M (R (U1 ..) (n2 t rfl))
   rw[U1] at l1
   have j:∀d,aG d a (bv b) 6=.ok (.aE b.a,a):=λd=>aS (by unfold bv;exact R J rfl)
   have D:eI b c=.obj .Thing [.str 7,.obj .Span [bv b,.int 0,.int c.df.length],.bool P8,.int 3]:=by unfold eI;rw[J]
   refine(aN (f:=f7) [S (bv b),S (.bool P8),S (.int 3)] rfl rfl).trans ?_;rw[f7];refine R D ?_
   walk_at "ev"
  |text=>
   have M:a.B[b.a]? = S c.df:=by unfold MB at y;rw[J] at y;exact y
   have l1:=Kx M (n2 t rfl)
   have j:∀d,aG d a (bv b) 4=.ok (.fV b.a,a):=λd=>aS (by unfold bv;exact R J rfl)
   have D:eI b c=.obj .Thing [.str 5,.obj .Span [bv b,.int 0,.int c.df.length],.bool P8,.int 3]:=by unfold eI;rw[J]
   refine(aN (f:=f6) [S (bv b),S (.bool P8),S (.int 3)] rfl rfl).trans ?_;rw[f6];refine R D ?_
   walk_at "ev"
  |dict=>
   have D:eI b c=.obj .Thing [.str 8,bv b,.bool P8,.int 3]:=by unfold eI;rw[J]
   refine(aN (f:=f8) [S (bv b)] rfl rfl).trans ?_;rw[f8,D]
   walk_at "ev"
 refine(aN (f:=Lx) [S (.ab b.d)] rfl rfl).trans ?_;delta Lx;have k:(match b.k with|.row=>7|.dict=>8|.text=>6:Z)<60:=by induction b.k using Zr<;>decide
 generalize (match b.k with|.row=>7|.dict=>8|.text=>6:Z)=h at *;have g:keyOf (.fn h)=S (.fn h):=Qk k;walk_at "ev"
theorem rA{step:Z->AV->Loc->AH->Res (Fl×Loc×AH)}{Q:Loc->Prop}(P:∀s,E.at s a=S be[s]?)(H:∀s I l,be[s]? = S I->Q l->∃p,step s I l a=.ok (.next,p,a)/\Q p):∀(x:V AV) (s:Z) (l:Loc),be.drop s=x->Q l->∃p,cM step E (x.length+1) s l a=.ok (.next,p,a)/\Q p:=by
 intro x;induction x with
 |nil=>intro s l B M;exact ba l (HM ((P _).trans (Ql S (FH B)))) M
 |cons I x b=>intro s l B M;have g:=FI B;refine aM (H s I l g M) λl1 T L=>aM (b (s+1) l1 (FJ B) L) λl2 m q=>ba l2 ?_ q;exact Ae ((P _).trans (Ql S g)) T (B9 m)
theorem si{x:Z}(B:f[x]? = S (S l))(p:aR a l (.str o)=S y):aO g (.sub (.var x) (.str o)) f a=.ok (y,a):=Mh (Mg B) Mj p
theorem mR:∀{s:Z} {d:Sv},(h.map (·.num)).Nodup->h[s]? = S d->gX d.num h=S s:=by
 induction h with
 |nil=>exact λ_ B=>nX B
 |cons K x k=>
  intro s d A B
  induction s using Vn with
  |zero=>exact Qk (Ql (λd=>(Sv.num d:P5)) (sX B))
  |succ s=>replace A:=Vl.mp A;have B:=B;have:K.num≠d.num:=λD=>A.1 (by show K.num∈_;refine R D ?_;exact Vr (f:=λd:Sv=>d.num) (Va B));refine(Qm (λD=>this (X5.mp D))).trans ?_;exact R (k A.2 B) rfl
noncomputable abbrev Iz:jL:=.cons (.ifs (.cmp .ne (.aU (.sub (.var 0) (.str 64)) 74 (.cons (.sub (.var 5) (.int 0)) (.cons (.call (.gf 53) (.cons (.var 1) .nil)) .nil))) (.and (.not (.sub (.var 1) (.str 59))) (.cmp .gt (.sub (.var 1) (.str 26)) (.var 4)))) (.cons (.ret (.uB P8)) .nil) .nil) .nil
theorem zT(A:GM a e h n k)(X:LW a K aq bu ax (h.map mP))(i:4<=q)(E:a.D[b.d]? = S (eF b bm))(y:MB a m b d)(t:d.df.length<=3)(U:(h.map (·.num)).Nodup)(c j B L:O AV)(z:Loc) :
  ∃w v,dK (aC q) (.lG 4 5 (.sub (.var 0) (.str 25)) Iz) (S (.ab 1) :: S (.ab b.d) :: c :: j :: B :: L :: z) a=.ok (.next,S (.ab 1) :: S (.ab b.d) :: c :: j :: w :: v :: z,a):=by refine hF λf=>?_;refine bT (q7 X.s (by have:=X.sl;exact n1 this rfl)) λG Y=>?_;have r:aR a (.ab 1) (.str 64)=S (.aA 0):=X.sub rfl;have a2:aR a (.ab b.d) (.str 59)=S (.bool b.g):=ld E rfl;have a3:aR a (.ab b.d) (.str 26)=S (.int b.lv):=ld E rfl;have T:=Cw (m:=q) (n4 i rfl) E y t;have r1:aK a (.aA 0) 74=S (.own 43):=A.rc rfl;obtain⟨p,D,⟨w,v,rfl⟩⟩:=rA (step:=λM C l a=>aW (aC q) Iz ((l.set 4 (S (.int M))).set 5 (S C)) a) (Q:=λl=>∃w v,l=S (.ab 1) :: S (.ab b.d) :: c :: j :: w :: v :: z) Y (λs a0 l g J=>by refine rC J λw v bP=>R bP ?_;rw[Vb,VA] at g;refine aM g λH P cQ=>R cQ.symm ⟨_,?_,S (.int s),S (mP H),rfl⟩;have e2:=Ii (m:=q) (c':=d) A i y (mR U P);have x:aR a (mP H) (.int 0)=S (.int H.num):=rfl;have I:cW a .gt (.int b.lv) (.int s)=S (Qd (s<b.lv)):=Ql S (SG.mpr Vj);generalize b.g=o at *;have nb:cW a .ne (.bool (!P8&&Qd (s<b.lv))) (.bool (Qd (s<b.lv)))=S P8:=Pn;induction o using U6<;>walk_at "ev") _ 0 _ rfl (z8 B L rfl);exact f (z8 w v (uz (v:=.aE aq) (H1:=a) (si rfl (X.sub rfl)) G D))
theorem Cy{n:Z}(y:MB a m b d)(E:a.D[b.d]? = S (eF b d))(i:1<=n)(t:Cp d)(A:(d.en.map (·.1)).Nodup)(h x3 p L k c z x9 T:O Q) :
  dK (aC n) (.ifs (.cmp .eq (.sub (.var 1) (.str 9)) (.str 39)) (.cons (.asg 3 (.comp (.attr (.var 8) 11) [8] (.attr (.var 2) 6) .no)) .nil) (.cons (.ifs (.cmp .eq (.sub (.var 1) (.str 9)) (.str 36)) (.cons (.asg 3 (.bC .list (.cons (.attr (.var 2) 4) .nil))) .nil) (.cons (.asg 3 (.comp (.tup (.cons (.attr (.var 9) 11) (.cons (.attr (.var 10) 11) .nil))) [9,10] (.aU (.var 2) 75 .nil) .no)) .nil)) .nil))
   [h,S (.ab b.d),S (bv b),x3,p,L,k,c,z,x9,T] a=.ok (.next,[h,S (.ab b.d),S (bv b),S (dO b.k d),p,L,k,c,z,x9,T],a):=by
 have r:aR a (.ab b.d) (.str 9)=S (kS b.k):=ld E rfl;refine bT t λK a2=>?_;induction J:b.k using Zr with
 |row=>
  have M:a.L[b.a]? = S (d.df.map tI):=by unfold MB at y;rw[J] at y;exact y
  refine bT (q7 M (by refine R (U1 ..) ?_;exact n2 K rfl)) λG o=>?_
  have j:∀cf,aG cf a (bv b) 6=.ok (.aE b.a,a):=λcf=>aS (by unfold bv;exact R J rfl)
  have v:=jf (cf:=aC n) (elt:=.attr (.var 8) 11) (ts:=[8]) (cond:=.no) (l:=[h,S (.ab b.d),S (bv b),x3,p,L,k,c,z,x9,T]) (g:=λC:Q=>match C with|AV.obj .Thing [_,a0,_,_]=>S a0|_=>N) (Cm (x:=2) rfl (j _)) G o λI H=>by refine aM (VF.mp H) λs hi eA=>R eA.symm ?_;rfl
  have D:(d.df.map tI).filterMap (λC:Q=>match C with|AV.obj .Thing [_,a0,_,_]=>S a0|_=>N)=d.df.map .int:=by exact Ww.trans (R Wx.symm rfl)
  rw[D] at v
  rw[J] at r
  generalize (LE.comp (.attr (.var 8) 11) [8] (.attr (.var 2) 6) .no)=ce at *
  walk_at "ev"
 |text=>
  have M:a.B[b.a]? = S d.df:=by unfold MB at y;rw[J] at y;exact y
  have j:∀cf,aG cf a (bv b) 4=.ok (.fV b.a,a):=λcf=>aS (by unfold bv;rw[J];rfl)
  have x:bK a .list [.fV b.a]=S (.lst (d.df.map .int),a):=by show(a.B[b.a]?).bind _=_;rw[M];exact Qk (show sm d.df.length=P4 from Qu (n2 K rfl))
  replace r:=J▸r
  walk_at "ev"
 |dict=>
  refine aM (fM i) λX eZ U=>R eZ ?_;have hE:=eS J y;have j:∀cf,aG cf a (bv b) 0=.ok (.ab (m b.num),a):=λcf=>fI J y rfl;have e:ow a (.ab (m b.num))=.ok (.lst (d.en.map λP=>eN P.1 P.2),a):=by show(match a.D[m b.num]? with|some m=>if sm m.length then(match kX m m with|some w=>Res.ok (Q.lst w,a)|none=>.bad) else .bad|none=>.bad)=_;rw[hE];dsimp only;rw[Qk (show sm _=P4 from Qu (by rw[U1];exact n2 a2 rfl)),zS A λP B=>B]
  have a6:aC (X+1) (.fn 2) [bv b] a=.ok (.lst (d.en.map λP=>eN P.1 P.2),a):=by rw[aN (f:=f2) [S (bv b),N] rfl rfl];delta f2;walk_at "ev"
  have r1:aK a (bv b) 75=S (.own 2):=by
   have M:a.I[b.a]? = S (.Dict,gU b d (m b.num)):=by unfold MB at y;replace y:=J▸y;exact y.1
   unfold bv;rw[J];show(match a.I[b.a]? with|some (d,_)=>_|none=>_)=_;rw[M];rfl
  have a5:aO (aC (X+1)) (.aU (.var 2) 75 .nil) [h,S (.ab b.d),S (bv b),x3,p,L,k,c,z,x9,T] a=.ok (.lst (d.en.map λP=>eN P.1 P.2),a):=by clear y E hE K a2 A J e j r;walk_at "ev"
  refine bT (vR (H:=a) (xs:=d.en.map λP=>eN P.1 P.2) (by rw[U1];exact n2 a2 rfl)) λG o=>?_;have v:=jf (cf:=aC (X+1)) (elt:=.tup (.cons (.attr (.var 9) 11) (.cons (.attr (.var 10) 11) .nil))) (ts:=[9,10]) (cond:=.no) (g:=λC:Q=>match C with|AV.tup [Q.obj .Thing [_,a0,_,_],Q.obj .Thing [_,Y,_,_]]=>S (Q.tup [a0,Y])|_=>N) a5 G o λI H=>by refine aM (VF.mp H) λs hi g6=>?_;clear H hi;subst g6;rfl
  have D:(d.en.map λP=>eN P.1 P.2).filterMap (λC:Q=>match C with|AV.tup [Q.obj .Thing [_,a0,_,_],Q.obj .Thing [_,Y,_,_]]=>S (Q.tup [a0,Y])|_=>N)=d.en.map λP=>.tup [wd P.1,.int P.2]:=by rw[Ww,<-Wx];rfl
  rw[D] at v;rw[J] at r;unfold kS at r;show _=Res.ok (Fl.next,[h,S (.ab b.d),S (bv b),S (.lst (d.en.map λP=>.tup [wd P.1,.int P.2])),p,L,k,c,z,x9,T],a);generalize (LE.comp (.tup (.cons (.attr (.var 9) 11) (.cons (.attr (.var 10) 11) .nil))) [9,10] (.aU (.var 2) 75 .nil) .no)=ce at *;clear y E hE G o j K a2 A D J e a6 r1 a5;walk_at "ev"
theorem EM{H:AH}{k:Kq}{c:Ct}:cW H .ne (dO k c) (dO k c)=S P8:=by
 have r:cW H .ne (.lst (c.df.map .int)) (.lst (c.df.map .int))=S P8:=(ri λI a=>by refine aM (VF.mp a) λs U lR=>R lR.symm ?_;show S (Qd (s=s))=_;refine R (Qu rfl) rfl).2;induction k using Zr with
 |row=>exact r
 |text=>exact r
 |dict=>exact(ri λI a=>by refine aM (VF.mp a) λP U m3=>?_;clear a r;subst m3;show S ((([97+P.1]:V Z)==[97+P.1])&&(Qd (P.2=P.2)&&P4))=_;refine R (Si ..) ?_;exact R (Qu rfl) rfl).2
noncomputable abbrev IA:jL:=.cons (.asg 2 (.sub (.var 1) (.str 14))) (.cons (.ifs (.cmp .eq (.sub (.var 1) (.str 9)) (.str 39)) (.cons (.asg 3 (.comp (.attr (.var 8) 11) [8] (.attr (.var 2) 6) .no)) .nil) (.cons (.ifs (.cmp .eq (.sub (.var 1) (.str 9)) (.str 36)) (.cons (.asg 3 (.bC .list (.cons (.attr (.var 2) 4) .nil))) .nil) (.cons (.asg 3 (.comp (.tup (.cons (.attr (.var 9) 11) (.cons (.attr (.var 10) 11) .nil))) [9,10] (.aU (.var 2) 75 .nil) .no)) .nil)) .nil)) (.cons (.ifs (.or (.cmp .ne (.var 3) (.sub (.var 1) (.str 60))) (.and (.cmp .eq (.sub (.var 1) (.str 9)) (.str 8)) (.cmp .ne (.attr (.var 2) 16) (.sub (.var 1) (.str 16))))) (.cons (.ret (.uB P8)) .nil) .nil) (.cons (.lG 4 5 (.sub (.var 0) (.str 25)) Iz) .nil)))
theorem EN(D:GM a e h n k)(X:LW a K aq bu ax (h.map mP))(i:4<=q)(E:a.D[b.d]? = S (eF b d))(y:MB a m b d)(t:Cp d)(A:(h.map (·.num)).Nodup)(g:(d.en.map (·.1)).Nodup)(M j p L C c z B T:O Q) :
  ∃U P w v,aW (aC q) IA [S (.ab 1),S (.ab b.d),M,j,p,L,C,c,z,B,T] a=.ok (.next,[S (.ab 1),S (.ab b.d),U,P,w,v,C,c,z,B,T],a):=by
 refine rC (zT D X i E y t.1 A (S (bv b)) (S (dO b.k d)) p L [C,c,z,B,T]) λw v o=>?_;have G:=Cy y E (n:=q) (n4 i rfl) t g (S (.ab 1)) j p L C c z B T;have r:aR a (.ab b.d) (.str 9)=S (kS b.k):=ld E rfl;have a2:aR a (.ab b.d) (.str 14)=S (bv b):=ld E rfl;have H:aR a (.ab b.d) (.str 60)=S (dO b.k d):=ld E rfl;have x:aR a (.ab b.d) (.str 16)=S (.int d.acc):=ld E rfl;have i1:=EM (H:=a) (k:=b.k) (c:=d);refine⟨S (bv b),S (dO b.k d),w,v,?_⟩;refine(aX (s:=.asg 2 (.sub (.var 1) (.str 14))) (l':=[S (.ab 1),S (.ab b.d),S (bv b),j,p,L,C,c,z,B,T]) (H':=a) (by clear D X E y t A g o G;walk_at "ev")).trans ?_;refine(aX G).trans ?_;have l:dK (aC q) (.ifs (.or (.cmp .ne (.var 3) (.sub (.var 1) (.str 60))) (.and (.cmp .eq (.sub (.var 1) (.str 9)) (.str 8)) (.cmp .ne (.attr (.var 2) 16) (.sub (.var 1) (.str 16))))) (.cons (.ret (.uB P8)) .nil) .nil) [S (.ab 1),S (.ab b.d),S (bv b),S (dO b.k d),p,L,C,c,z,B,T] a=.ok (.next,[S (.ab 1),S (.ab b.d),S (bv b),S (dO b.k d),p,L,C,c,z,B,T],a):=by
  induction J:b.k using Zr with
  |dict=>
   have Y:∀f,aG f a (bv b) 16=.ok (.int d.acc,a):=λf=>fI J y rfl
   have I:Qd (d.acc=d.acc)=P4:=Qu rfl
   rw[J] at r H i1
   walk_at "ev"
  |row=>rw[J] at r H i1;clear D X E y t A g o G J;walk_at "ev"
  |text=>rw[J] at r H i1;clear D X E y t A g o G J;walk_at "ev"
 exact(aX l).trans ((aX o).trans rfl)
theorem IB(i:5<=x)(A:GM a e h n k)(X:LW a K aq bu (r.map (·.d)) (h.map mP))(DD:∀E∈r,a.D[E.d]? = S (eF E (z E.num)))(b:∀E∈r,MB a m E (z E.num))(h3:∀E∈r,Cp (z E.num))(nk:∀E∈r,((z E.num).en.map (·.1)).Nodup)(nd:(h.map (·.num)).Nodup):aC x (.fn 57) [.ab 1] a=.ok (.bool P4,a):=by
 refine hF λa2=>aM (fM i) λM pU hn=>?_;clear i;subst pU;refine bT (q7 X.b (by refine R (U1 ..) ?_;have:=X.bl;exact n1 this rfl)) λG o=>?_;obtain⟨l',a0,⟨y1,Y,D,B,L,x6,c,x8,x9,T,rfl⟩⟩:=rA (step:=λε C l a=>aW (aC M) IA (l.set 1 (S C)) a) (Q:=λl=>∃y1 Y D B L x6 c x8 x9 T,l=[S (.ab 1),y1,Y,D,B,L,x6,c,x8,x9,T]) o (λs I l hi J=>by refine hF λj=>?_;obtain⟨y1,Y,D,B,L,x6,c,x8,x9,T,rfl⟩:=J;rw[V8,Vb,VA] at hi;refine aM hi λE w lJ=>?_;clear hi;subst lJ;have w:=Va w;refine Gh (EN A X hn (DD E w) (b E w) (h3 E w) nd (nk E w) Y D B L x6 c x8 x9 T) λz2 z3 z4 z5 a0=>j ?_;exact⟨_,a0,_,_,_,_,_,_,_,_,_,_,rfl⟩) _ 0 _ rfl ⟨N,N,N,N,N,N,N,N,N,N,rfl⟩;have a1:aR a (.ab 1) (.str 64)=S (.aA 0):=X.sub rfl;have a3:aR a (.ab 1) (.str 25)=S (.aE aq):=X.sub rfl;have e0:=kP (cf:=aC M) (x:=1) (e:=.sub (.var 0) (.str 58)) (l:=[S (.ab 1),N,N,N,N,N,N,N,N,N,N]) (v:=.aE K) (H1:=a) (si (x:=0) rfl (X.sub rfl)) G a0;refine a2 ((aN (f:=MK) [S (.ab 1),N,N,N,N,N,N,N,N,N,N] rfl rfl).trans ?_);show(aW _ (.cons (.dZ 1 (.sub (.var 0) (.str 58)) IA) (.cons (.asg 6 (.bC .len (.cons (.sub (.var 0) (.str 25)) .nil))) (.cons (.ret (.and (.cmp .eq (.sub (.aU (.sub (.var 0) (.str 64)) 73 .nil) (.int 0)) (.var 6)) (.cmp .eq (.comp (.aU (.sub (.var 0) (.str 64)) 54 (.cons (.sub (.var 7) (.int 0)) .nil)) [7] (.sub (.var 0) (.str 25)) .no) (.bC .hM (.cons (.var 6) .nil))))) .nil))) _ a).bind _=_;refine(bL (aX e0)).trans ?_;have sl:=X.sl;rw[U1] at sl;have l1:=mQ X.s (by rw[U1];exact n1 sl rfl);rw[U1] at l1;refine bT (q7 X.s (by rw[U1];exact n1 sl rfl)) λt U=>?_;have r1:aK a (.aA 0) 73=S (.own 46):=A.rc rfl;have r2:aK a (.aA 0) 54=S (.own 39):=A.rc rfl;have e1:=Ij (m:=M) A (n4 hn rfl);have q0:aR a (.tup [.int h.length,.int (e.u+e.ug),.int 16777216]) (.int 0)=S (.int h.length):=rfl;have v:=jf (cf:=aC M) (elt:=.aU (.sub (.var 0) (.str 64)) 54 (.cons (.sub (.var 7) (.int 0)) .nil)) (ts:=[7]) (cond:=.no) (it:=.sub (.var 0) (.str 25)) (l:=[S (.ab 1),y1,Y,D,B,L,S (.int h.length),c,x8,x9,T]) (H:=a) (v:=.aE aq) (g:=λC:AV=>match C with|AV.tup [AV.int q,_]=>S (xv (gX q h))|_=>N) (si (x:=0) rfl a3) t U λI H=>by refine aM (VF.mp H) λd P pW=>R pW.symm ?_;have q1:aR a (mP d) (.int 0)=S (.int d.num):=rfl;have e2:=xw (m:=M) (q:=d.num) A (n4 hn rfl);show bD _ _ _ _ _ _ _=Res.ok (S (xv (gX d.num h)),a);walk_at "ev"
 have ll:(h.map mP).filterMap (λC:AV=>match C with|AV.tup [AV.int q,_]=>S (xv (gX q h))|_=>N)=(Wn h.length).map λ(s:Z)=>AV.int s:=by rw[Ww];show h.filterMap (λd=>S (xv (gX d.num h)))=_;rw[show(λd:Sv=>S (xv (gX d.num h)))=S ∘ (λd=>xv (gX d.num h)) from rfl,Wx];refine V.ext_getElem (by rw[U1,U1,YZ]) λs h1 p=>?_;rw[U1] at h1;rw[Za,Za,V.getElem_range,mR nd (U3 h1)];rfl
 rw[ll] at v;have lr:bK a .hM [.int h.length]=S (.lst ((Wn h.length).map λ(s:Z)=>AV.int s),a):=Qk ⟨by exact Vg _,by exact Vj.mpr (n1 sl rfl)⟩;have a4:cW a .eq (.lst ((Wn h.length).map λ(s:Z)=>AV.int s)) (.lst ((Wn h.length).map λ(s:Z)=>AV.int s))=S P4:=(ri λI H=>by refine aM (VF.mp H) λs ε pX=>R pX.symm ?_;show S (Qd ((s:P5)=s))=_;rw[Qu rfl]).1;have d1:Qd ((h.length:P5)=h.length)=P4:=Qu rfl;generalize LE.comp (.aU (.sub (.var 0) (.str 64)) 54 (.cons (.sub (.var 7) (.int 0)) .nil)) [7] (.sub (.var 0) (.str 25)) .no=y at *;clear A X DD b h3 nk nd G o a0 e0 t U ll;generalize (Wn h.length).map (λ(s:Z)=>AV.int s)=rl at *;walk_at "ev"
structure Sg where
 μ:MG
 svs:V Sv
 jo:Jo
 md:V (Z×uG)
 kb:Z
 jJ:Z
 gone:O Z
 bs:V Bd
 es:Z->Z
 cs:Z->Ct
 bd:Z->Bd
noncomputable def iJ:O Z->Q|none=>.none|some q=>.int q
noncomputable def good(X:Kq)(A:Ct):Prop:=match X with
 |.row=>A.df.length=3/\A.en=[]
 |.text=>A.df.length=2/\A.en=[]
 |.dict=>A.df=[]/\(A.en.map (·.1)).Nodup/\(∀v∈A.en.map (·.1),v<3)/\(A.most=2\/A.most=8)
structure Mv(bs:V Bd)(bd:Z->Bd)(cs:Z->Ct)(jo:Jo)(p:Z)(s:Sv):Prop where
 pf:∃rest,bs=s.kb++rest/\(∀b∈s.kb,b.g=P8->b.lv<=p)/\∀b∈rest,b.g=P8->p<b.lv
 sp:∃pre suf,jo=pre++suf/\s.many=suf.length/\(∀b∈s.kb,b.g=P8->b.k≠.text->oM cs pre b.num=s.kc b.num)/\∀q∈suf,bd q.1∈s.kb/\(bd q.1).lv<p
 gk:∀b∈s.kb,good b.k (s.kc b.num)
structure Pu(svs:V Sv)(jo:Jo)(bs:V Bd)(cs:Z->Ct)(bd:Z->Bd):Prop where
 nn:(bs.map (·.num)).Nodup
 CZ:∀b∈bs,bd b.num=b
 gd:∀b∈bs,good b.k (cs b.num)
 lv:∀b∈bs,b.g=P8->b.lv<=svs.length
 jk:∀q∈jo,bd q.1∈bs/\(bd q.1).num=q.1/\(bd q.1).g=P8/\(bd q.1).lv<svs.length
 EO:uF (λn=>(bd n).k) cs jo
 sv:∀p s,svs[p]? = S s->Mv bs bd cs jo p s
 mm:∀(p q:Z) (s t:Sv),p<=q->svs[p]? = S s->svs[q]? = S t->s.many<=t.many
theorem Po(q:Z):∀l:V Z,l.Nodup->(∀v∈l,v<q)->l.length<=q:=by
 induction q with
 |zero=>
  intro l _ B
  induction l using U5 with
  |nil=>exact VB _
  |cons I x=>exact Qp (B I (.head _)) (XE _)
 |succ q k=>
  intro l A B;have M:=k (l.erase q) (A.erase q) λv E=>
   have h:=(V.Nodup.mem_erase_iff A).mp E
   Z.lt_of_le_of_ne (WZ (B v h.2)) h.1
  refine U9 ?_ (WE M);refine R V.length_erase ?_;split;·exact MR
  ·exact VK _
theorem Mw{l:V Z}(A:l.Nodup)(B:∀v∈l,v<3):l.length<=3:=Po 3 l A B
theorem kC(B:good gp d):Cp d/\(d.en.map (·.1)).Nodup:=by
 induction gp using Zr with
 |row=>exact⟨⟨by refine R B.1 ?_;exact VB _,by rw[B.2];exact Yr _⟩,by rw[B.2];exact WL⟩
 |text=>exact⟨⟨by refine R B.1 ?_;decide,by rw[B.2];exact Yr _⟩,by rw[B.2];exact WL⟩
 |dict=>exact⟨⟨by refine R B.1 ?_;exact Yr _,by have:=Mw B.2.1 B.2.2.1;rw[U1] at this;exact this⟩,B.2.1⟩
theorem mS(U:(r.map (·.num)).Nodup):∀E∈r,∀y∈r,E.num=y.num->E=y:=by
 induction r with
 |nil=>intro E B;cases B
 |cons I x k=>
  rw[Vt,Vl] at U;intro E w y Y D;rcases U4.mp w with rfl|G
  ·rcases U4.mp Y with rfl|Y;·rfl
   ·exact Qp (Vr (f:=λE:Bd=>E.num) Y) (R D.symm U.1)
  ·rcases U4.mp Y with rfl|Y;·exact Qp (Vr (f:=λE:Bd=>E.num) G) (R D U.1)
   ·exact k U.2 E G y Y D
theorem Cz:∀{j:Jo} {a:Z->Ct},uF di a j->∀M∈j,∀H,M.2=.most H->H=2:=by
 intro j;induction j with
 |nil=>intro _ _ M B;cases B
 |cons c x b=>
  obtain⟨q,i⟩:=c;intro a X M B;rcases U4.mp B with rfl|B;·intro H D;have:=X.1;subst D;exact this.2
  ·exact b X.2 M B
theorem Pu.cZ(B:Pu h H r z p)(w:b∈r)(I:b.g=P8)(c:b.lv<h.length)(k:jI az bm=z b.num)(j:B3 b.k az bm)(y:good b.k bm):Pu h ((b.num,az) :: H) r (upd z b.num bm) p:=by
 have cut:∀A,oM (upd z b.num bm) ((b.num,az) :: A)=oM z A:=λA=>by show oM (upd (upd z b.num bm) b.num (jI az (upd z b.num bm b.num))) A=_;refine R bO ?_;refine R k ?_;rw[vJ]
 refine⟨B.nn,B.CZ,λC n=>?_,B.lv,λM e=>?_,?_,λa d P=>?_,B.mm⟩
 ·by_cases D:C.num=b.num;·obtain rfl:=mS B.nn _ n _ w D;exact R bO y
  ·exact R (dD D) (B.gd _ n)
 ·rcases U4.mp e with rfl|e;·exact R (B.CZ _ w) (uO w rfl I c)
  ·exact B.jk _ e
 ·show B3 (p b.num).k az (upd z b.num bm b.num)/\uF _ (upd (upd z b.num bm) b.num (jI az (upd z b.num bm b.num))) H;refine R bO ?_;refine R k ?_;refine R vJ ?_;refine R (B.CZ _ w) ?_;exact⟨j,B.EO⟩
 ·refine hF λf=>?_;obtain⟨s,⟨A,G,D,m,l,o⟩,v⟩:=B.sv a d P;refine f ?_;exact⟨s,(uL ((b.num,az) :: A) G (R D rfl) m (λC n t L=>by exact R (cut ..) (l C n t L)) o),v⟩
theorem Pu.plain(B:Pu h H r z p)(w:b∈r)(I:b.g=P4\/b.k=.text\/h.length<=b.lv)(y:good b.k bm):Pu h H r (upd z b.num bm) p:=by
 have K:∀M∈H,M.1≠b.num:=λM e D=>by
  refine uE (B.jk M e) λk1 f j k=>?_;have:=B.CZ _ w;rw[D,this] at j k;rcases I with I|I|I;·replace j:=I.symm.trans j;cases j
  ·have T:∀{H:Jo} {z:Z->Ct},uF (λq=>(p q).k) z H->∀M∈H,(p M.1).k≠.text:=by
    intro H
    induction H with
    |nil=>intro _ _ M B;cases B
    |cons a0 x c=>
     obtain⟨q,i⟩:=a0;intro z X M e D;rcases U4.mp e with rfl|e;·have:=X.1;simp only[D] at this;induction i using Un.casesOn<;>first|exact nomatch this.1|exact nomatch this
     ·exact c X.2 M e D
   exact T B.EO M e (R D (R this I))
  ·exact Qp k (Wo.mpr I)
 refine⟨B.nn,B.CZ,λC n=>?_,B.lv,B.jk,yA K B.EO,λU d P=>?_,B.mm⟩
 ·by_cases D:C.num=b.num;·obtain rfl:=mS B.nn _ n _ w D;exact R bO y
  ·exact R (dD D) (B.gd _ n)
 ·refine hF λa=>?_;obtain⟨⟨g,s,J,E⟩,⟨A,G,D,m,l,o⟩,v⟩:=B.sv U d P;refine a ⟨(mU g s J E),(uL A G D m (λC n t L=>?_) o),v⟩;refine R (yz (λM e=>K M (D▸Vc _ e))) ?_;have:C.num≠b.num:=λY=>by
   have:=mS B.nn _ (s▸Vc _ n) _ w Y;clear D Y K B w y g s E;subst this;rcases I with I|I|I;·replace t:=I.symm.trans t;cases t
   ·exact L I
   ·exact Vk _ (Vh (U8.mp P).1 (U9 I (J _ n t)))
  exact(dD this).trans (l C n t L)
theorem Pu.new(B:Pu h H r z p)(w:b.num∉r.map (·.num))(a:b.g=P8->b.lv=h.length)(y:good b.k bm):Pu h H (r++[b]) (upd z b.num bm) (upd p b.num b):=by
 have i:∀C∈r,C.num≠b.num:=λC n D=>w (D▸Vr n);have K:=λM e D=>by exact hO (B.jk M e) λk1 f U=>i _ k1 (f.trans D)
 have j:∀{H:Jo} {z:Z->Ct},(∀M∈H,M.1≠b.num)->uF (λq=>(p q).k) z H->uF (λq=>(upd p b.num b q).k) z H:=by
  intro H
  induction H with
  |nil=>intros;trivial
  |cons T x k=>intro z e X;exact⟨by show B3 (upd p b.num b T.1).k _ _;refine R (dD (e _ (.head _))) ?_;exact X.1,k (λM B=>e M (.tail _ B)) X.2⟩
 refine⟨?_,λC n=>?_,λC n=>?_,λC n I=>?_,λM e=>?_,j K (yA K B.EO),λa0 d P=>?_,B.mm⟩;·refine R Vw ?_;rw[VI];refine gZ B.nn (Qj rfl) (λT Y a2 J D=>?_);rw[XX,UZ] at J;exact w (J▸D▸Y)
 ·rcases Vd.mp n with n|n;·exact(dD (i _ n)).trans (B.CZ _ n)
  ·rw[UZ] at n;exact R n bO
 ·rcases Vd.mp n with n|n;·exact R (dD (i _ n)) (B.gd _ n)
  ·rw[UZ] at n;exact R n (R bO y)
 ·rcases Vd.mp n with n|n;·exact B.lv _ n I
  ·rw[UZ] at n;subst n;exact Vq (a I)
 ·exact R (dD (K M e)) (bT (B.jk M e) λk1 f=>⟨Vc _ k1,f⟩)
 ·refine hF λc=>?_;clear j w y;obtain⟨⟨g,s,a1,E⟩,⟨A,G,D,m,l,o⟩,v⟩:=B.sv a0 d P;refine c ?_;refine⟨(mU (g++[b]) (by refine R s ?_;exact(VJ ..)) a1 (λC n I=>?_)),(uL A G D m (λC n t L=>?_) (λM e=>?_)),v⟩
  ·rcases Vd.mp n with n|n;·exact E _ n I
   ·rw[UZ] at n;subst n;exact R (a I) (((U8.mp P).1))
  ·refine R (yz (λM e=>K M (D▸Vc _ e))) ?_;refine(dD (i _ (s▸Vc _ n))).trans ?_;exact l C n t L
  ·exact R (dD (K M (D▸Vf _ e))) (o M e)
theorem Pu.save(B:Pu h H r z p)(i:bo.many=H.length)(J:bo.kb=r)(s:bo.kc=z):Pu (h++[bo]) H r z p:=by
 refine⟨B.nn,B.CZ,B.gd,λE w I=>by refine R U7 ?_;exact V2 (B.lv E w I),λM e=>?_,B.EO,λP K a=>?_,λP M K y b a g=>?_⟩;·refine uE (B.jk M e) λk1 f j k=>?_;exact uO k1 f j (R U7 (X6 k))
 ·by_cases n:P<h.length;·rw[Wi n] at a;exact B.sv P K a
  ·have:P=h.length:=by
    have:=(U8.mp a).1;rw[U7] at this;exact Yi (WZ this) (Z.le_of_not_lt n)
   subst this
   rw[Wr (VB _),YT] at a
   refine sJ a ?_
   refine⟨(mU [] (by refine R J ?_;refine R (VQ ..) rfl) (λE w I=>B.lv E (J▸w) I) (λE w=>nomatch w)),(uL [] H rfl i (λE w U U=>by refine R s ?_;rfl) (λM e=>?_)),λE w=>by refine R s ?_;exact B.gd E (J▸w)⟩
   exact uE (B.jk M e) λk1 f j k=>⟨J▸k1,k⟩
 ·have D:∀{M:Z} {K:Sv},(h++[bo])[M]? = S K->K.many<=H.length:=λ{M K} a=>by
   by_cases n:M<h.length
   ·rw[Wi n] at a;refine hF λc=>?_;obtain⟨_,⟨A,G,D,m,_⟩,_⟩:=B.sv M K a;refine c ?_;exact R m (R D (R U7 (V4 _ _)))
   ·replace a:=(Wr (Wo.mp n))▸a
    induction e:M - h.length using Vn with
    |zero=>replace a:=e▸a;exact sJ a (Vq i)
    |succ X=>rw[e] at a;exact nX a
  by_cases e:M<h.length
  ·rw[Wi e] at g;rw[Wi (Ve b e)] at a;exact B.mm P M K y b a g
  ·rw[Wr (Wo.mp e)] at g
   induction J:M - h.length using Vn with
   |zero=>rw[J] at g;cases g;exact R i (D a)
   |succ X=>rw[J] at g;simp at g
theorem Pu.restore(B:Pu h H r z p){place:Z}(hs:h[place]? = S bo){A G:Jo}(i:H=A++G)(em:bo.many=G.length)(gd:∀E∈r,E.g=P4\/E.lv<=place->good E.k (oM z A E.num)) :
  Pu (h.take place) G (r.filter λE=>E.g||Qd (E.lv<=place)) (oM z A) p:=by
 refine hF λx=>?_;have I:∀E,E∈r.filter (λE=>E.g||Qd (E.lv<=place))->E∈r/\(E.g=P4\/E.lv<=place):=λE w=>by refine bT (WY.mp w) λk1 f=>⟨k1,?_⟩;rw[Yn,RV] at f;exact f
 have t:(h.take place).length=place:=by exact Wa.trans (Yj (Wl ((U8.mp hs).1)))
 refine hF λa3=>?_;obtain⟨⟨b9,pf,J,c1⟩,⟨a8,a4,D,e2,e3,o⟩,v⟩:=B.sv place bo hs;obtain⟨rfl,rfl⟩:A=a8/\G=a4:=by have:=i.symm.trans D;exact(V.append_inj' this (em.symm.trans e2))
 have tk:∀{P:Z} {K:Sv},(h.take place)[P]? = S K->h[P]? = S K/\P<place:=λ{P K} a=>by have:=(U8.mp a).1;rw[t] at this;rw[Xn this] at a;exact⟨a,this⟩
 refine a3 (x ⟨B.nn.sublist (XO.map _),λE w=>B.CZ E (I E w).1,λE w=>gd E (I E w).1 (I E w).2,λE w T=>?_,λM e=>?_,(uk.mp (i▸B.EO)).2,λP K a=>?_,λP M K y a5 a g=>B.mm P M K y a5 (tk a).1 (tk g).1⟩)
 ·refine R t ?_;rcases(I E w).2 with Y|Y;·replace Y:=T.symm.trans Y;cases Y
  ·exact Y
 ·refine uE (B.jk M (i▸Vf _ e)) λk1 f k3 k=>?_;have l:=(o M e).2;exact uO (WY.mpr ⟨k1,by refine R (Yn ..) ?_;refine R RV ?_;exact .inr (Wl l)⟩) f k3 (R t l)
 ·refine bT (tk a) λa n=>hF λa6=>?_;obtain⟨⟨a9,q1,q,s⟩,⟨j,a1,r1,r2,C,c⟩,a7⟩:=B.sv P K a;have a0:=B.mm P place K bo (Wl n) a hs;rw[em,r2] at a0;have U:∃m,G=m++a1/\j=A++m:=by
   have X:=i.symm.trans r1;refine hF λa2=>?_;have hl:A.length<=j.length:=by have:=Ql Xw X;rw[U7,U7] at this;exact Z.le_of_add_le_add_right (U9 (WC a0 _) (Vq this))
   rw[Yb] at X;rcases X with⟨L,b,d⟩|⟨L,b,d⟩;·exact a2 (ba L d b)
   ·have:L=[]:=by
     exact XJ (o4 hl ((Ql Xw b).trans U7))
    subst this
    refine a2 ?_
    exact ba [] (by rw[Xj] at d;exact d.symm) (by rw[VQ] at b⊢;exact b.symm)
  refine aM U λm m1 m2=>a6 ⟨(mU (a9.filter λE=>E.g||Qd (E.lv<=place)) ?_ q (λE w=>s E (WY.mp w).1)),(uL m a1 m1 r2 (λE w h1 h2=>?_) c),a7⟩
  ·refine R q1 ((YU ..).trans ?_)
   congr 1
   refine XM.mpr λE w=>?_
   induction T:E.g using U6 with
   |true=>rfl
   |false=>refine(YI ..).trans ?_;refine R RV ?_;have:=q E w T;exact Wl (Ve this n)
  ·exact R Eu.symm (R m2.symm (C E w h1 h2))
noncomputable def Xs(f:Sg):Ad->Prop:=λY=>Gl Y\/Y=.L f.μ.ks\/Y=.L f.kb\/Y=.L f.jJ\/Y=.D 1\/∃E∈f.bs,Y=.D E.d
structure In(N:Z)(H:AH)(σ:Sg):Prop where
 g:σ.μ.g=P8
 G:GM H σ.μ σ.svs ((σ.jo.map (enc σ.bd)).reverse) σ.md
 W:LW H σ.kb σ.jJ (iJ σ.gone) (σ.bs.map (·.d)) (σ.svs.map mP)
 MM:∀b∈σ.bs,MB H σ.es b (σ.cs b.num)
 DD:∀b∈σ.bs,H.D[b.d]? = some (eF b (σ.cs b.num))
 S:Sep (Xs σ) σ.es σ.bs
 k1:σ.μ.ks≠σ.kb
 k2:σ.μ.ks≠σ.jJ
 d0:∀b∈σ.bs,b.d≠0
 d1:∀b∈σ.bs,b.d≠1
 dj:∀b∈σ.bs,∀b'∈σ.bs,b.d=b'.d->b=b'
 P:Pu σ.svs σ.jo σ.bs σ.cs σ.bd
 md:σ.md.map vP=σ.bs.map λb=>(b.num,b.g,b.lv)
 nl:∀b∈σ.bs,b.num<=σ.μ.lb
 sn:(σ.svs.map (·.num)).Nodup
 sl:∀s∈σ.svs,s.num<=σ.μ.ls
 go:∀n,σ.gone=some n->n∉σ.svs.map (·.num)/\n<=σ.μ.ls
 z1:σ.svs.length<=N
 z2:σ.jo.length<=2*N
 z3:σ.bs.length<=N
 z4:σ.μ.u<=200*N
 z5:σ.μ.ug<=200*N
 z6:∀s∈σ.svs,s.used<=200*N
variable{c:Sg}
theorem In.has(k:In G a c){z:Ad}(B:Xs c z):has a z:=by
 rcases B with B|B|rfl|rfl|rfl|⟨E,w,rfl⟩;·exact k.G.has (.inl B)
 ·exact k.G.has (.inr B)
 ·exact bY k.W.b
 ·exact bY k.W.s
 ·exact bY k.W.w
 ·exact bY (k.DD E w)
theorem uA(B:k.map vP=r.map λE=>(E.num,E.g,E.lv)):k.map (·.1)=r.map (·.num):=by have:=Ql (V.map QU.fst) B;rw[V8,V8] at this;exact this
theorem In.so{m:Z}(k:In G a c)(i:5<=m):aC m (.fn 57) [.ab 1] a=.ok (.bool P4,a):=IB i k.G k.W k.DD k.MM (λE w=>(kC (k.P.gd E w)).1) (λE w=>(kC (k.P.gd E w)).2) k.sn
theorem EP(B:∀M∈H,M.1≠b.num):H.map (enc (upd p b.num b))=H.map (enc p):=XN λM e=>by unfold enc;refine R (dD (B M e)) rfl
theorem ER{way:P5}{rest:P5}(k:In G a c)(M:G<=14):∃H' e,nW [.ab 1,.int way,.int rest] a=.ok (.none,H')/\In (G+1) H' e:=by
 have J:=qX.mpr (by refine R (uA k.md) ?_;intro B;refine aM (VF.mp B) λE hb D=>?_;have:=k.nl E hb;exact Qp (D.symm▸this) (Vk _));refine hF λs=>?_;have m:=k.z3;have w:=k.z4;have v:=k.z5;have ml:c.md.length=c.bs.length:=by have:=Ql Xw k.md;rw[U1,U1] at this;exact this
 obtain⟨H2,E,A,D,t,T,y⟩:=HW (way:=way) (rest:=rest) k.G k.W k.k1 (by refine(U1 ..).trans rfl) (by refine R (U1 ..) ?_;exact n2 (U9 m M) rfl) (n2 (U9 (Vq ml) (U9 m M)) rfl) J (o3 M w v (by decide));have r:E.num∉c.bs.map (·.num):=λB=>by exact aM (VF.mp B) λC hb D=>Z.not_succ_le_self _ (U9 (Vq (y.n.symm.trans D.symm)) (k.nl C hb))
 have i:∀C∈c.bs,C.num≠E.num:=λC n D=>r (D▸Vr n);have K:=λa0 hq D=>by exact hO (k.P.jk a0 hq) λk1 f U=>i _ k1 (f.trans D)
 have gd:good E.k A:=by
  induction J:E.k using Zr with
  |row=>exact⟨y.il J,y.en⟩
  |text=>exact⟨y.it J,y.en⟩
  |dict=>exact uO ((y.dk J).1) (R y.en WL) (R y.en λa1 B=>nomatch B) (.inl (y.dk J).2)
 have h:=λB=>y.fd (k.has B);have q:∀Y,gs (upd c.es E.num D) E Y↔gs (λU=>D) E Y:=λY=>by unfold gs;rw[bO]
 have z:∀C∈c.bs,∀Y,gs (upd c.es E.num D) C Y↔gs c.es C Y:=λC n Y=>pO (i C n);have b:∀Y,Xs {c with μ:={c.μ with g:=P8,lb:=c.μ.lb+1,u:=if E.g then c.μ.u else c.μ.u+t,ug:=if E.g then c.μ.ug+t else c.μ.ug},bs:=c.bs++[E]} Y->Xs c Y\/Y=.D E.d:=λY B=>by
  rcases B with B|B|B|B|B|⟨C,n,B⟩;·exact .inl (.inl B)
  ·exact .inl (.inr (.inl B))
  ·exact .inl (.inr (.inr (.inl B)))
  ·exact .inl (.inr (.inr (.inr (.inl B))))
  ·exact .inl (.inr (.inr (.inr (.inr (.inl B)))))
  ·rcases Vd.mp n with n|n;·exact .inl (.inr (.inr (.inr (.inr (.inr (ba C n B))))))
   ·rw[UZ] at n;exact R n.symm (.inr B)
 refine s ?_;refine⟨H2,⟨{c.μ with g:=P8,lb:=c.μ.lb+1,u:=if E.g then c.μ.u else c.μ.u+t,ug:=if E.g then c.μ.ug+t else c.μ.ug},c.svs,c.jo,c.md++[(c.μ.lb+1,(t,E.g,E.lv))],c.kb,c.jJ,c.gone,c.bs++[E],upd c.es E.num D,upd c.cs E.num A,upd c.bd E.num E⟩,T,⟨rfl,by refine R (EP K) ?_;exact y.G,by refine R Vw ?_;exact y.W,λC n=>?_,λC n=>?_,⟨λC n Y j H=>?_,λC n p l L Y j g=>?_⟩,k.k1,k.k2,λC n=>?_,λC n=>?_,λC n p l D=>?_,k.P.new r (λI=>by exact y.lv.trans (R I rfl)) gd,?_,λC n=>?_,k.sn,k.sl,k.go,by have:=k.z1;exact V2 this,by have:=k.z2;exact Yt this,by refine R U7 ?_;exact WE m,?_,?_,λd P=>o2 (k.z6 d P)⟩⟩
 ·rcases Vd.mp n with n|n;·dsimp only;exact R (dD (i _ n)) (yM ((k.MM _ n).fr y.F λY j o=>k.S.x _ n Y j ((show∀Y,EA c.kb Y->Xs c Y from λY B=>B.elim .inl λB=>.inr (.inr (.inl B))) Y o)) (dD (i _ n)))
  ·rw[UZ] at n;refine R n ?_;dsimp only;exact R bO (yM y.M bO)
 ·rcases Vd.mp n with n|n
  ·dsimp only;refine R (dD (i _ n)) (y.F.D _ _ (λo=>?_) (k.DD _ n));rcases o with o|o;·exact CY (k.d0 _ n) o
   ·cases o
  ·rw[UZ] at n;refine R n ?_;dsimp only;exact R bO y.D
 ·rcases Vd.mp n with n|n
  ·have j:=(z _ n Y).mp j;rcases b Y H with H|H;·exact k.S.x _ n Y j H
   ·exact y.fd (H▸(k.MM _ n).has j)
  ·rw[UZ] at n;subst n;have j:=(q Y).mp j;rcases b Y H with H|H;·exact y.fp Y j (k.has H)
   ·subst H;unfold gs at j;induction J:C.k using Zr<;>replace j:=J▸j;·cases j
    ·rcases j with j|j;·cases j
     ·exact y.ne J (Ad.D.inj j).symm
    ·cases j
 ·rcases Vd.mp n with X|X
  ·have f:=(z _ X Y).mp j;clear s J m w v ml r i K gd b M T;rcases Vd.mp l with x|x;·exact k.S.d _ X _ x L Y f ((z _ x Y).mp g)
   ·rw[UZ] at x;subst x;exact y.fp Y ((q Y).mp g) ((k.MM _ X).has f)
  ·rw[UZ] at X;subst X;clear s J m w v ml r i K gd b M T;rcases Vd.mp l with x|x;·exact y.fp Y ((q Y).mp j) ((k.MM _ x).has ((z _ x Y).mp g))
   ·rw[UZ] at x;subst x;exact L rfl
 ·rcases Vd.mp n with n|n;·exact k.d0 _ n
  ·rw[UZ] at n;refine R n ?_;exact λD=>h (R D (.inl (.inr (.inl rfl))))
 ·rcases Vd.mp n with n|n;·exact k.d1 _ n
  ·rw[UZ] at n;refine R n ?_;exact λD=>h (R D (.inr (.inr (.inr (.inr (.inl rfl))))))
 ·rcases Vd.mp n with X|X
  ·rcases Vd.mp l with x|x;·exact k.dj _ X _ x D
   ·rw[UZ] at x;subst x;exact Qp (bY (k.DD _ X)) (R D y.fd)
  ·rw[UZ] at X;subst X;rcases Vd.mp l with x|x;·exact Qp (bY (k.DD _ x)) (R D.symm y.fd)
   ·rw[UZ] at x;exact x.symm
 ·refine Vw.trans ?_;rw[Vw,k.md,<-y.n];rfl
 ·rcases Vd.mp n with n|n;·exact V2 (k.nl _ n)
  ·rw[UZ] at n;refine R n ?_;exact Vq y.n
 ·dsimp only;split<;>first|exact o2 w|exact o1 w (V7 y.co (by decide))
 ·dsimp only;split<;>first|exact o2 v|exact o1 v (V7 y.co (by decide))
theorem CB{m:Z}(k:In G a c)(M:G<=14)(hm:4<=m):∃v e,aC m (.fn 56) [.ab 1] a=.ok (.none,v)/\In (G+1) v e:=by
 refine aM (fM hm) λa3 bP K=>R bP ?_;have b:=k.z1;have z3:=k.z3;refine rB (Ik (m:=a3) k.G (n4 K rfl) (n2 (U9 b M) rfl) c.bs c.cs) λz T G1 g=>?_;have d:=k.W.fr g (λo=>o.elim (CY (by decide)) nofun) (λo=>o.elim (FK k.W.n1) λo=>k.k1 (Ad.L.inj o).symm) (λo=>o.elim (FK k.W.n2) λo=>k.k2 (Ad.L.inj o).symm);have i:∀E∈c.bs,z.D[E.d]? = S (eF E (c.cs E.num)):=λE w=>g.D _ _ (λo=>o.elim (CY (k.d0 _ w)) nofun) (k.DD _ w);have h:((c.jo.map (enc c.bd)).reverse).length=c.jo.length:=by exact VM.trans ((U1 ..))
 rw[h] at G1;have r:aR a (.ab 1) (.str 25)=S (.aE c.jJ):=k.W.sub rfl;have a2:aR a (.ab 1) (.str 64)=S (.aA 0):=k.W.sub rfl;have X:aK a (.aA 0) 72=S (.own 38):=k.G.rc rfl;refine bT (q7 d.b (by refine R (U1 ..) ?_;refine R (U1 ..) ?_;exact n2 (U9 z3 M) rfl)) λt U=>?_;have co:=jf (cf:=aC a3) (elt:=.tup (.cons (.sub (.var 1) (.str 60)) (.cons (.sub (.var 1) (.str 16)) .nil))) (ts:=[1]) (cond:=.no) (it:=.sub (.var 0) (.str 58)) (l:=[S (.ab 1),N]) (H:=z) (v:=.aE c.kb)
  (g:=λC:Q=>match C with|AV.ab y=>(match z.D[y]? with|some j=>(match (dR j (.str 60)).bind id,(dR j (.str 16)).bind id with|some I,S n=>S (Q.tup [I,n])|_,_=>N)|none=>N)|_=>N) (si (x:=0) rfl (d.sub rfl)) t U λI H=>by
  refine aM (VF.mp H) λy hd cQ=>R cQ.symm (aM (VF.mp hd) λE w eA=>?_)
  clear t U hd h r a2 X hm
  refine R eA.symm ?_
  have a4:=i E w
  have L:aR z (.ab E.d) (.str 60)=S (dO E.k (c.cs E.num)):=ld a4 rfl
  have q2:aR z (.ab E.d) (.str 16)=S (.int (c.cs E.num).acc):=ld a4 rfl
  dsimp only
  refine R a4 ?_
  walk_at "ev"
 have ll:((c.bs.map (·.d)).map Q.ab).filterMap (λC:Q=>match C with|AV.ab y=>(match z.D[y]? with|some j=>(match (dR j (.str 60)).bind id,(dR j (.str 16)).bind id with|some I,S n=>S (Q.tup [I,n])|_,_=>N)|none=>N)|_=>N)=c.bs.map λE=>Q.tup [dO E.k (c.cs E.num),.int (c.cs E.num).acc]:=by
  refine R V8 (Ww.trans (R Wx.symm ?_));have a5:∀l:V Bd,(∀E∈l,E∈c.bs)->l.filterMap ((λC:Q=>match C with|AV.ab y=>(match z.D[y]? with|some j=>(match (dR j (.str 60)).bind id,(dR j (.str 16)).bind id with|some I,S n=>S (Q.tup [I,n])|_,_=>N)|none=>N)|_=>N) ∘ (Q.ab ∘ λE:Bd=>E.d))=l.filterMap (S ∘ λE=>Q.tup [dO E.k (c.cs E.num),.int (c.cs E.num).acc]):=by
   intro l hl
   induction l with
   |nil=>rfl
   |cons E x ih=>
    have D:((λC:Q=>match C with|AV.ab y=>(match z.D[y]? with|some j=>(match (dR j (.str 60)).bind id,(dR j (.str 16)).bind id with|some I,S n=>S (Q.tup [I,n])|_,_=>N)|none=>N)|_=>N) ∘ (Q.ab ∘ λE:Bd=>E.d)) E=S (Q.tup [dO E.k (c.cs E.num),.int (c.cs E.num).acc]):=by show(match z.D[E.d]? with|some j=>(match (dR j (.str 60)).bind id,(dR j (.str 16)).bind id with|some I,S n=>S (Q.tup [I,n])|_,_=>N)|none=>N)=_;exact R (i E (hl E (.head _))) rfl
    refine(V.filterMap_cons_some D).trans ?_;exact R (ih λA s=>hl A (.tail _ s)) rfl
  exact a5 _ λE B=>B
 rw[ll] at co;have p1:=hL (x:=mP ⟨c.μ.ls+1,c.jo.length,c.μ.u,c.bs,c.cs⟩) d.s (by have:=d.sl;exact n1 this rfl);have F2:Fr (λY=>Y=.L c.jJ) z (wL z c.jJ (c.svs.map mP++[mP ⟨c.μ.ls+1,c.jo.length,c.μ.u,c.bs,c.cs⟩])):=Fr.wL rfl;have W2:LW (wL z c.jJ (c.svs.map mP++[mP ⟨c.μ.ls+1,c.jo.length,c.μ.u,c.bs,c.cs⟩])) c.kb c.jJ (iJ c.gone) (c.bs.map (·.d)) ((c.svs++([⟨c.μ.ls+1,c.jo.length,c.μ.u,c.bs,c.cs⟩]:V Sv)).map mP):=⟨d.w,fA d.n3 d.b,by refine R Vw ?_;exact cJ d.s,d.n1,d.n2,d.n3,d.bl,by refine R (U1 ..) ?_;refine R U7 ?_;exact Ve (WE b) (LF M rfl)⟩;refine eP _ {c with μ:={c.μ with ls:=c.μ.ls+1},svs:=c.svs++[⟨c.μ.ls+1,c.jo.length,c.μ.u,c.bs,c.cs⟩]} ?_ ⟨k.g,(G1.fr F2 nofun nofun (λo=>k.W.n2 (Ad.L.inj o).symm) (λo=>k.k2 (Ad.L.inj o))),W2,λE w=>((show∀E∈c.bs,MB z c.es E (c.cs E.num) from λE w=>(k.MM _ w).fr g λY hz o=>k.S.x _ w Y hz (o.elim .inl λo=>.inr (.inl o))) _ w).fr F2 λY hz (o:Y=.L c.jJ)=>k.S.x _ w Y hz (.inr (.inr (.inr (.inl o)))),λE w=>F2.D _ _ nofun (i E w),k.S,k.k1,k.k2,k.d0,k.d1,k.dj,k.P.save rfl rfl rfl,k.md,k.nl,?_,λa0 P=>?_,λa3 K=>?_,?_,by exact Yt (k.z2),by exact V2 z3,?_,?_,λa0 P=>?_⟩;·have r2:aK a (.aE c.jJ) 44=S .bR:=rfl;have lv:Q.tup [.int (c.μ.ls+1:Z),.lst (c.bs.map λE=>Q.tup [dO E.k (c.cs E.num),.int (c.cs E.num).acc])]=mP ⟨c.μ.ls+1,c.jo.length,c.μ.u,c.bs,c.cs⟩:=rfl;refine(aN (f:=Ly) [S (.ab 1),N] rfl rfl).trans ?_;delta Ly;generalize LE.comp (.tup (.cons (.sub (.var 1) (.str 60)) (.cons (.sub (.var 1) (.str 16)) .nil))) [1] (.sub (.var 0) (.str 58)) .no=ce at *;generalize mP ⟨c.μ.ls+1,c.jo.length,c.μ.u,c.bs,c.cs⟩=sv at *;generalize (Q.lst (c.bs.map λE=>Q.tup [dO E.k (c.cs E.num),.int (c.cs E.num).acc]))=p at *;rw[<-lv] at p1⊢;walk_at "ev"
 ·show((c.svs++[_]).map _).Nodup;refine R Vw ?_;rw[VI];refine gZ k.sn (Qj rfl) (λI H n J D=>?_);rw[XX,UZ] at J;refine aM (VF.mp H) λa0 P eZ=>?_;subst eZ;have:=k.sl a0 P;exact Vk _ (D▸Ve this (WJ (VU _) (J).symm))
 ·rcases Vd.mp P with P|P;·exact V2 (k.sl a0 P)
  ·rw[UZ] at P;exact R P (VB _)
 ·refine bT (k.go a3 K) λk1 k2=>⟨λB=>?_,V2 k2⟩;rw[Vw,Vd] at B;rcases B with B|B;·exact k1 B
  ·rw[XX,UZ] at B;exact Qp ((B).symm▸k2) (Vk _)
 ·show(c.svs++[_]).length<=_;exact R U7 (WE b)
 ·exact o2 k.z4
 ·exact o2 k.z5
 ·rcases Vd.mp P with P|P;·exact o2 (k.z6 a0 P)
  ·rw[UZ] at P;refine R P ?_;exact o2 k.z4
noncomputable def fY(E:Bd)(g f:Q):V (Q×Q):=[(.str 14,bv E),(.str 9,kS E.k),(.str 59,.bool E.g),(.str 26,.int E.lv),(.str 60,g),(.str 16,f)]
theorem nY:eF b d=fY b (dO b.k d) (.int d.acc):=rfl
theorem FP{v:Q}(B:a.D[bh]? = S (fY b gr gq)):ei a (.ab bh) (.str 60) v=S (wD a bh (fY b v gq)):=(oL B).trans rfl
theorem FQ{v:Q}(B:a.D[bh]? = S (fY b gr gq)):ei a (.ab bh) (.str 16) v=S (wD a bh (fY b gr v)):=(oL B).trans rfl
noncomputable def dH(place:Z)(E:Bd):P6:=E.g||Qd (E.lv<=place)
noncomputable abbrev Mx:jL:=.cons (.ifs (.or (.sub (.var 7) (.str 59)) (.cmp .le (.sub (.var 7) (.str 26)) (.var 2))) (.cons (.ifs (.and (.not (.sub (.var 7) (.str 59))) (.cmp .ne (.sub (.var 7) (.str 9)) (.str 36))) (.cons (.oP (.cons (.var 7) (.cons (.var 7) .nil)) (.cons (.str 60) (.cons (.str 16) .nil)) (.cons (.sub (.sub (.var 4) (.var 6)) (.int 0)) (.cons (.sub (.sub (.var 4) (.var 6)) (.int 1)) .nil))) .nil) .nil) (.cons (.exp (.aU (.var 5) 44 (.cons (.var 7) .nil))) .nil)) .nil) .nil
theorem ET{cf:CF}{kb:V Bd}{cs:Z->Ct}{cs':Z->Ct}{kc:Z->Ct}{kbA:Z}{kl:Z}{place:Z}{x0:O Q}{x1:O Q}{x3:O Q}(s:∀E∈r,∀b'∈r,E.d=b'.d->E=b')(A:r.Nodup)(d0:kl≠kbA)(c2:∃g,r=kb++g)(J:∀E∈r,E.g=P8->E.lv<=place->E∈kb)(a5:r.length<900)
  (B:∀E∈r,E.g=P8->E.k≠.text->E.lv<=place->cs' E.num=kc E.num) (c1:∀E∈r,E.g=P4\/E.k=.text->cs' E.num=cs E.num):∀(a0 z:V Bd) (y:AH) (H k:O Q),r=z++a0->
  y.L[kbA]? = S ((r.map (·.d)).map Q.ab)->y.L[kl]? = S (((z.filter (dH place)).map (·.d)).map Q.ab)->(∀E∈a0,y.D[E.d]? = S (eF E (cs E.num)))->
  ∃v U z7,cM (λX a7 c6 y=>aW cf Mx ((c6.set 6 (S (.int X))).set 7 (S a7)) y) (.pQ kbA) (a0.length+1) z.length [x0,x1,S (.int place),x3,S (.lst (kb.map λE=>.tup [dO E.k (kc E.num),.int (kc E.num).acc])),S (.aE kl),H,k] y =
   .ok (.next,[x0,x1,S (.int place),x3,S (.lst (kb.map λE=>.tup [dO E.k (kc E.num),.int (kc E.num).acc])),S (.aE kl),U,z7],v)/\
   v.L[kl]? = S (((r.filter (dH place)).map (·.d)).map Q.ab)/\(∀E∈a0,dH place E=P4->v.D[E.d]? = S (eF E (cs' E.num)))/\Fr (λY=>Y=.L kl\/∃E∈a0,Y=.D E.d) y v:=by
 intro a0;induction a0 with
 |nil=>
  intro z y H k D K c hD;refine CU y H k ?_ (by rw[D];exact R (VQ ..) c) (λE b9=>nomatch b9) Fr.refl;have:Src.at (.pQ kbA) z.length y=S N:=by show(y.L[kbA]?).map _=_;rw[K];show S (((r.map (·.d)).map Q.ab)[z.length]?)=_;rw[VG (by rw[U1,U1,D,VQ];exact VB _)]
  exact HM this
 |cons E a0 d5=>
  intro z y H k D K c hD;have w:E∈r:=by rw[D];exact Vf _ (.head _)
  have a4:=hD E (.head _);have T:Src.at (.pQ kbA) z.length y=S (S (.ab E.d)):=by show(y.L[kbA]?).map _=_;rw[K];show S (((r.map (·.d)).map Q.ab)[z.length]?)=_;rw[Vb,Vb,D,Wr (VB _),YT];rfl
  have m:r=(z++[E])++a0:=by rw[D,VJ];rfl
  have t:=λb9=>by rw[D,VI] at A;exact(Vl.mp A.2.1).1 b9
  have a1:aR y (.ab E.d) (.str 59)=S (.bool E.g):=ld a4 rfl;have a2:aR y (.ab E.d) (.str 26)=S (.int E.lv):=ld a4 rfl;have d1:Qd ((E.lv:P5)<=(place:P5))=Qd (E.lv<=place):=by simp
  have a6:∀M,dH place E=M->(z++[E]).filter (dH place)=z.filter (dH place)++(if M then[E] else[]):=λM hq=>by rw[YU,WO,hq];induction M using U6<;>rfl
  have a8:∀{v:AH} {a7:V (Q×Q)},v.D=y.D.set E.d a7->∀C∈a0,v.D[C.d]? = S (eF C (cs C.num)):=λ{v a7} Y C n=>by rw[Y];refine fA (λM=>t ?_) (hD C (.tail _ n));have:=s _ (by rw[D];exact Vf _ (.tail _ n)) _ w M;exact this▸n
  have p:∀{H1:AH},aW cf Mx [x0,x1,S (.int place),x3,S (.lst (kb.map λE=>.tup [dO E.k (kc E.num),.int (kc E.num).acc])),S (.aE kl),S (.int z.length),S (.ab E.d)] y=.ok (.next,[x0,x1,S (.int place),x3,S (.lst (kb.map λE=>.tup [dO E.k (kc E.num),.int (kc E.num).acc])),S (.aE kl),S (.int z.length),S (.ab E.d)],H1)->
    H1.L[kbA]? = S ((r.map (·.d)).map Q.ab)->H1.L[kl]? = S ((((z++[E]).filter (dH place)).map (·.d)).map Q.ab)->(∀E∈a0,H1.D[E.d]? = S (eF E (cs E.num)))->(dH place E=P4->H1.D[E.d]? = S (eF E (cs' E.num)))->Fr (λY=>Y=.L kl\/Y=.D E.d) y H1->
    ∃v U z7,cM (λX a7 c6 y=>aW cf Mx ((c6.set 6 (S (.int X))).set 7 (S a7)) y) (.pQ kbA) ((E :: a0).length+1) z.length [x0,x1,S (.int place),x3,S (.lst (kb.map λE=>.tup [dO E.k (kc E.num),.int (kc E.num).acc])),S (.aE kl),H,k] y =
   .ok (.next,[x0,x1,S (.int place),x3,S (.lst (kb.map λE=>.tup [dO E.k (kc E.num),.int (kc E.num).acc])),S (.aE kl),U,z7],v)/\
   v.L[kl]? = S (((r.filter (dH place)).map (·.d)).map Q.ab)/\(∀C∈E :: a0,dH place C=P4->v.D[C.d]? = S (eF C (cs' C.num)))/\Fr (λY=>Y=.L kl\/∃C∈E :: a0,Y=.D C.d) y v:=λ{H1} w1 w2 w3 w4 e w6=>by
   refine Gg (d5 (z++[E]) H1 (S (.int z.length)) (S (.ab E.d)) m w2 w3 w4) λv U z7 v1 v2 v3 P=>CU v U z7 ?_ v2 (λC n i=>?_) ?_
   ·rw[U7] at v1;exact Ae T w1 (B9 v1)
   ·rcases U4.mp n with rfl|n
    ·refine P.D _ _ (λo=>?_) (e i);rcases o with o|⟨c8,l,o⟩;·cases o
     ·have:=s _ w _ (by rw[D];exact Vf _ (.tail _ l)) (Ad.D.inj o);exact t (this▸l)
    ·exact v3 C n i
   ·exact(w6.mono λY o=>o.elim Yg λo=>XW (ba E (.head _) o)).trans (P.mono λY o=>o.elim Yg λ⟨c8,l,o⟩=>XW ⟨c8,.tail _ l,o⟩)
  have dl:(((z.filter (dH place)).map (·.d)).map Q.ab).length<1000:=by
   rw[U1,U1];have:z.length<=r.length:=by rw[D,U7];exact Vu _ _
   exact n1 (Ve (U9 (XB (dH place) z) this) a5) rfl
  refine z9 (dH place E) (λq=>?_) (λq=>?_);·refine bT (XF.mp q) λg0 g1=>?_;refine p (H1:=y) ?_ K (by rw[a6 _ q,Qm (by decide),VQ];exact c) (λC n=>hD C (.tail _ n)) (λM=>by replace M:=(show dH place E=P8 from q).symm.trans M;cases M) Fr.refl;replace a1:=g0▸a1;rw[g1] at d1;clear p a8 a6 hD K c a4 T m t A s w D q g0 g1 J c2 B c1 dl a5;walk_at "ev"
  ·have a9:∀{H1:AH},H1.L[kl]? = S (((z.filter (dH place)).map (·.d)).map Q.ab)->(wL H1 kl (((z.filter (dH place)).map (·.d)).map Q.ab++[.ab E.d])).L[kl]? = S ((((z++[E]).filter (dH place)).map (·.d)).map Q.ab):=λ{H1} b9=>by
    rw[a6 _ q,Qk rfl,Vw,Vw];exact cJ b9
   cases f : !E.g&&Qd (E.k≠.text) with
   |true=>
    refine bT (Vi.mp f) λG s2=>?_;rw[Wf] at G;have s2:=Qj s2;have a:E.lv<=place:=by unfold dH at q;rw[G,YI,RV] at q;exact q
    have d2:=J E w G a;have d:=B E w G s2 a;refine eK c2 λg er=>?_;have c3:kb[z.length]? = S E:=by
     have d7:z.length<kb.length:=by
      refine Y' λd6=>?_;have eq:z++E :: a0=kb++g:=D.symm.trans er;rw[er] at A;have:E∈g:=by
       rw[Yb] at eq;rcases eq with⟨d3,L,q2⟩|⟨d3,L,q2⟩
       ·have:d3=[]:=by
         exact XJ (o4 d6 ((Ql Xw L).trans U7))
        subst this
        rw[Xj] at q2
        rw[<-q2];exact .head _
       ·rw[q2];exact Vf _ (.head _)
      exact(VI.mp A).2.2 E d2 E this rfl
     have:r[z.length]? = S E:=by rw[D,Wr (VB _),YT];rfl
     rw[er,Wi d7] at this;exact this
    have c5:=(U8.mp c3).1;have c9:kb.length<=r.length:=by rw[er,U7];exact Vu _ _
    have L:aR y (.lst (kb.map λE=>.tup [dO E.k (kc E.num),.int (kc E.num).acc])) (.int z.length)=S (.tup [dO E.k (kc E.num),.int (kc E.num).acc]):=by show(Mine.Lake.place z.length (kb.map λE=>Q.tup [dO E.k (kc E.num),.int (kc E.num).acc]).length).bind _=_;rw[show Mine.Lake.place z.length (kb.map λE=>Q.tup [dO E.k (kc E.num),.int (kc E.num).acc]).length=S z.length by unfold Mine.Lake.place;rw[Qk (Vg _),Qk (by rw[U1];exact⟨Vj.mpr c5,Wb.mpr (uD (Ve c5 (Ve c9 a5)) rfl)⟩)];rfl];show(kb.map _)[z.length]? = _;rw[Vb,c3];rfl
    have q2:aR y (.tup [dO E.k (kc E.num),.int (kc E.num).acc]) (.int 0)=S (dO E.k (kc E.num)):=rfl;have q3:aR y (.tup [dO E.k (kc E.num),.int (kc E.num).acc]) (.int 1)=S (.int (kc E.num).acc):=rfl;have v1:=FP (v:=dO E.k (kc E.num)) (nY▸a4);have D1:(wD y E.d (fY E (dO E.k (kc E.num)) (.int (cs E.num).acc))).D[E.d]? = S (fY E (dO E.k (kc E.num)) (.int (cs E.num).acc)):=cJ a4;have v2:=FQ (v:=.int (kc E.num).acc) D1;have l2:(wD (wD y E.d (fY E (dO E.k (kc E.num)) (.int (cs E.num).acc))) E.d (fY E (dO E.k (kc E.num)) (.int (kc E.num).acc))).L[kl]? = S (((z.filter (dH place)).map (·.d)).map Q.ab):=c;have v3:=hL (x:=.ab E.d) l2 dl;have c4:(wD (wD y E.d (fY E (dO E.k (kc E.num)) (.int (cs E.num).acc))) E.d (fY E (dO E.k (kc E.num)) (.int (kc E.num).acc))).D=y.D.set E.d (fY E (dO E.k (kc E.num)) (.int (kc E.num).acc)):=Wk ..;refine p (H1:=wL (wD (wD y E.d (fY E (dO E.k (kc E.num)) (.int (cs E.num).acc))) E.d (fY E (dO E.k (kc E.num)) (.int (kc E.num).acc))) kl (((z.filter (dH place)).map (·.d)).map Q.ab++[.ab E.d])) ?_ (fA (Wd d0) K) (a9 l2) (a8 c4) (λε=>by rw[d,nY];exact(Ql (·[E.d]?) c4).trans (cJ a4)) (((Fr.wD (.inr rfl)).trans (Fr.wD (.inr rfl))).trans (Fr.wL (.inl rfl)));have d4:∃X,kS E.k=.str X/\(X==36)=P8:=by
     induction J:E.k using Zr with
     |row=>exact ba 39 rfl rfl
     |dict=>exact⟨8,rfl,rfl⟩
     |text=>exact Qp J s2
    refine aM d4 λkk c7 d8=>?_;have j:aR y (.ab E.d) (.str 9)=S (kS E.k):=ld a4 rfl;rw[c7] at j;rw[G] at a1;rw[Qu a] at d1;have rr:aK (wD (wD y E.d (fY E (dO E.k (kc E.num)) (.int (cs E.num).acc))) E.d (fY E (dO E.k (kc E.num)) (.int (kc E.num).acc))) (.aE kl) 44=S .bR:=rfl;clear p a8 a6 hD K c a4 D1 c4 T m t A s w D q G J B c1 dl a5 a9 f s2 a d2 d er c3 c5 c9 c7 l2;generalize (kb.map λE=>Q.tup [dO E.k (kc E.num),.int (kc E.num).acc])=b at *;walk_at "ev"
   |false=>
    have h:E.g=P4\/E.k=.text:=by
     induction I:E.g using U6 with
     |true=>exact .inl rfl
     |false=>rw[I,Zf,P6.true_and] at f;exact .inr (Classical.not_not.mp (Ux f))
    have d:=c1 E w h
    have v3:=hL (x:=.ab E.d) c dl
    refine p (H1:=wL y kl (((z.filter (dH place)).map (·.d)).map Q.ab++[.ab E.d])) ?_ (fA (Wd d0) K) (a9 c) (λC n=>hD C (.tail _ n)) (λε=>by rw[d];exact a4) (Fr.wL (.inl rfl))
    have rr:aK y (.aE kl) 44=S .bR:=rfl
    have j:aR y (.ab E.d) (.str 9)=S (kS E.k):=ld a4 rfl
    cases I:E.g with
    |true=>rw[I] at a1;clear p a8 a6 hD K c a4 T m t A s w D q J B c1 dl a5 a9 f d c2 j h I;generalize (kb.map λE=>Q.tup [dO E.k (kc E.num),.int (kc E.num).acc])=b at *;walk_at "ev"
    |false=>rw[I] at a1;have ht:E.k=.text:=h.resolve_left (by rw[I];decide);rw[ht] at j;unfold kS at j;unfold dH at q;rw[I,YI] at q;rw[q] at d1;clear p a8 a6 hD K c a4 T m t A s w D q J B c1 dl a5 a9 f d c2 ht h I;generalize (kb.map λE=>Q.tup [dO E.k (kc E.num),.int (kc E.num).acc])=b at *;walk_at "ev"
theorem sj(B:0<ay):cK .mod (.int ao) (.int ay)=S (.int (ao.fmod ay)):=Qk (Qu B)
theorem iK{a:P5}{n:Z}(B:0<n):∃P:Z,a.fmod n=P/\P<n:=by exact ba ((a.fmod n).toNat) ((XK (Yu a (b:=n) (by exact Vj.mpr B))).symm) ((P5.toNat_lt (Yu a (by exact Vj.mpr B))).mpr (P5.fmod_lt_of_pos a (b:=n) (by exact Vj.mpr B)))
theorem CD(w:p b.num=b)(I:b.g=P4\/b.k=.text)(j:uF (λq=>(p q).k) z H)(J:∀M∈H,(p M.1).g=P8):oM z H b.num=z b.num:=by
 refine HI λM e D=>?_;have h:=J M e;rcases I with I|I;·rw[D,w,I] at h;cases h
 ·have n:∀{H:Jo} {z:Z->Ct},uF (λq=>(p q).k) z H->∀M∈H,(p M.1).k≠.text:=by
   intro H
   induction H with
   |nil=>intro _ _ M B;cases B
   |cons a x k=>
    obtain⟨q,i⟩:=a;intro z X M e D;rcases U4.mp e with rfl|e;·have:=X.1;simp only[D] at this;induction i using Un.casesOn<;>first|exact nomatch this.1|exact nomatch this
    ·exact k X.2 M e D
  exact n j M e (by refine R D ?_;refine R w ?_;exact I)
theorem IC{cf:CF}{H b:AH}{p:Z}{rest J:P5}{x4 x6 x7 x:O Q}{c d:Z}{a:Q}(r:aR cx (.ab 1) (.str 25)=S (.aE aq))(G:eU cx (.aE aq) N (S a)=S (.aE d,H))(o:ei H (.ab 1) (.str 58) (.aE c)=S b)(L:ei b (.ab 1) (.str 70) (.int J)=S fg)(T:ei fg (.ab 1) (.str 25) (.aE d)=S dh) :
  dK cf (aH rJ.body 5) [S (.ab 1),S (.int rest),S a,S (.int J),x4,S (.aE c),x6,x7] cx=.ok (.next,[S (.ab 1),S (.int rest),S a,S (.int J),x4,S (.aE c),x6,x7],dh):=by dsimp only[rJ,aH];walk_at "ev"
theorem Ky{cf:CF}{rest:P5}{J b:Q}(r:aR a (.ab 1) (.str 25)=S (.aE ff))(l1:bK a .len [.aE ff]=S (.int q,a))(w:cK .mod (.int rest) (.int q)=S (.int aa))(L:aR a (.aE ff) (.int aa)=S (.tup [J,b]))(t:aR a (.ab 1) (.str 64)=S (.aA 0))(X:aK a (.aA 0) 71=S (.own 44))(T:cf (.fn 44) [.aA 0,J] a=.ok (l,s)) :
  aW cf (.cons (aH rJ.body 0) (.cons (aH rJ.body 1) (.cons (aH rJ.body 2) (.cons (aH rJ.body 3) .nil)))) [S (.ab 1),S (.int rest),N,N,N,N,N,N] a=.ok (.next,[S (.ab 1),S (.int rest),S (.int aa),S J,S b,S (.aE s.L.length),N,N],aL s []):=by dsimp only[rJ,aH];walk_at "ev"
theorem vS{m:Z}{σ:Sg}{rest:P5}(k:In G a σ)(M:G<=14)(hm:5<=m)(d6:σ.svs≠[]):∃H' d1,aC m (.fn 55) [.ab 1,.int rest] a=.ok (.none,H')/\In (G+1) H' d1:=by
 refine hF λd9=>?_;refine aM (fM hm) λa3 bP hn=>?_;clear hm;subst bP;have b:=k.z1;have z2:=k.z2;have z3:=k.z3;have r:=YK.mpr d6;refine aM (iK (a:=rest) r) λa0 hp pl=>?_;obtain⟨d,hs⟩:∃d,σ.svs[a0]? = S d:=⟨_,U3 pl⟩;have sm:=Va hs;obtain⟨⟨d4,c6,e5,d5⟩,⟨A,c4,i,em,e3,e4⟩,gk⟩:=k.P.sv a0 d hs;have C:A.length+c4.length=σ.jo.length:=by refine R i ?_;rw[U7]
 have ck:=λE w hg=>CD (k.P.CZ E w) hg (uk.mp (i▸k.P.EO)).1 λq e=>(k.P.jk q (i▸Vc _ e)).2.2.1;have c1:∀E∈σ.bs,E.g=P8->E.lv<=a0->E∈d.kb:=λE w hg hl=>by
  rw[c6] at w;rcases Vd.mp w with w|w;·exact w
  ·have:=d5 E w hg;exact Qp hl (Xp.mpr this)
 obtain⟨s,c8,e0,z,d8,v,e1,G2,d3,M2,h,S2,c3,e7,F2⟩:=Iy (m:=a3) (pre:=A) (suf:=c4) (s:=d) (q:=d.num) (X:=Xs σ) (place:=a0) (by exact n4 hn rfl) (by refine R i.symm ?_;exact k.G) (mR k.sn hs) hs em (λY B=>B.elim .inl λB=>.inr (.inl B)) (mS k.P.nn) k.MM (λE w=>(kC (k.P.gd E w)).1) k.S (λY B=>k.has B) (λq e=>by refine hO (k.P.jk q (i▸Vc _ e)) λk1 k2 _=>?_;exact⟨k1,k2⟩) (λq e=>Cz k.P.EO q (i▸Vc _ e)) (uk.mp (i▸k.P.EO)).1 (by refine R (uA k.md) ?_;exact k.P.nn) (by exact n2 (U9 (U9 (Vu ..) (Vq C)) (U9 z2 (Xe 2 M))) rfl);have nG:∀Y,Xs σ Y->¬Gl Y->¬(¬Xs σ Y\/Gl Y):=λY B o q=>q.elim (λa9=>a9 B) o;have c2:Xs σ (.L σ.kb):=.inr (.inr (.inl rfl));have c5:Xs σ (.L σ.jJ):=.inr (.inr (.inr (.inl rfl)));have a7:Xs σ (.D 1):=.inr (.inr (.inr (.inr (.inl rfl))));have b9:∀E∈σ.bs,Xs σ (.D E.d):=λE w=>.inr (.inr (.inr (.inr (.inr (ba E w rfl)))));refine d9 ?_;have W3:LW (aL s []) σ.kb σ.jJ (iJ σ.gone) (σ.bs.map (·.d)) (σ.svs.map mP):=(k.W.fr F2 (nG _ a7 (CY (by decide))) (nG _ c2 (FK k.W.n1)) (nG _ c5 (FK k.W.n2))).fr (P:=λU=>QC) Fr.aL id id id;have a4:∀Y,has s Y->Y≠.L s.L.length:=λY B D=>by rw[D] at B;exact Vk _ B
 have e6:s.L.length≠σ.jJ:=λD=>a4 _ (c3 _ c5) (by refine R D rfl);have d2:σ.bs.Nodup:=by have:=k.P.nn;exact V.Pairwise.of_map _ (λL E B D=>B (by refine R D rfl)) this
 refine Gg (ET (cf:=aC a3) (kl:=s.L.length) (x0:=S (.ab 1)) (x1:=S (.int rest)) (x3:=S (.int d.num)) (place:=a0) (kb:=d.kb) (cs:=σ.cs) (cs':=λa3=>oM σ.cs A a3) (kc:=d.kc) (kbA:=σ.kb) k.dj d2 (λD=>a4 _ (c3 _ c2) (by refine R D rfl)) ⟨d4,c6⟩ c1 (by exact n2 (U9 z3 M) rfl) (λE w h1 p h3=>e3 E (c1 E w h1 h3) h1 p) ck σ.bs [] (aL s []) N N rfl W3.b eR (λE w=>(λE w=>F2.D _ _ (nG _ (b9 E w) (CY (k.d0 E w))) (k.DD E w)) E w)) λn y6 y7 w1 w2 w3 w4=>?_;have nf:∀Y,Xs σ Y->(∀E∈σ.bs,Y≠.D E.d)->¬(Y=.L s.L.length\/∃E∈σ.bs,Y=.D E.d):=λY h1 p q=>q.elim (λq=>a4 Y (c3 Y h1) q) λq=>aM q λE w q=>p E w q;have a6:∀Y,Gl Y\/Y=.L z->¬(Y=.L s.L.length\/∃E∈σ.bs,Y=.D E.d):=λY B q=>by
  rcases q with q|⟨E,w,q⟩;·exact a4 Y (G2.has B) q
  ·subst q;rcases B with B|B;·exact CY (k.d0 E w) B
   ·cases B
 have G4:=((Ez G2).1 []).fr w4 (a6 _ (.inl (.inl rfl))) (a6 _ (.inl (.inr (.inl rfl)))) (a6 _ (.inl (.inr (.inr rfl)))) (a6 _ (.inr rfl));have W4:=W3.fr w4 (nf _ a7 λE w q=>k.d1 E w (Ad.D.inj q).symm) (nf _ c2 λE w q=>nomatch q) (nf _ c5 λE w q=>nomatch q);have M4:=λE w=>((M2 E w).fr (P:=λU=>QC) Fr.aL λU U=>id).fr w4 λY j q=>by
  rcases q with q|⟨y,a2,q⟩;·exact a4 Y ((M2 E w).has j) q
  ·exact S2.x E w Y j (.inl (q▸b9 y a2))
 have c7:(aL n ((σ.svs.map mP).take a0)).D[1]? = S (wV σ.kb σ.jJ (iJ σ.gone)):=W4.w;have t:∀{a:AH} {L E:Z} {o v:Q},a.D[1]? = S (wV L E o)->ei a (.ab 1) (.str 58) (.aE 0)=S (wD a 1 (wV 0 E o)):=λB=>by show(AH.D _)[1]?.bind _=_;refine(oL B).trans ?_;rfl
 have t2:∀{a:AH} {L E c:Z} {o:Q},a.D[1]? = S (wV L E o)->ei a (.ab 1) (.str 58) (.aE c)=S (wD a 1 (wV c E o)):=λ{a L E c o} B=>by show(a.D[1]?).bind _=_;rw[B];rfl
 have t3:∀{a:AH} {L E:Z} {o v:Q},a.D[1]? = S (wV L E o)->ei a (.ab 1) (.str 70) v=S (wD a 1 (wV L E v)):=λ{a L E o v} B=>by show(a.D[1]?).bind _=_;rw[B];rfl
 have T:∀{a:AH} {L E c:Z} {o:Q},a.D[1]? = S (wV L E o)->ei a (.ab 1) (.str 25) (.aE c)=S (wD a 1 (wV L c o)):=λ{a L E c o} B=>by show(a.D[1]?).bind _=_;rw[B];rfl
 have u2:=t2 (c:=s.L.length) c7;have d0:(wD (aL n ((σ.svs.map mP).take a0)) 1 (wV s.L.length σ.jJ (iJ σ.gone))).D[1]? = S (wV s.L.length σ.jJ (iJ σ.gone)):=cJ c7;have c9:(wD (wD (aL n ((σ.svs.map mP).take a0)) 1 (wV s.L.length σ.jJ (iJ σ.gone))) 1 (wV s.L.length σ.jJ (.int d.num))).D[1]? = S (wV s.L.length σ.jJ (.int d.num)):=cJ d0;have F8:Fr (λY=>Y=.D 1) n (wD (wD (wD (aL n ((σ.svs.map mP).take a0)) 1 (wV s.L.length σ.jJ (iJ σ.gone))) 1 (wV s.L.length σ.jJ (.int d.num))) 1 (wV s.L.length n.L.length (.int d.num))):=(((Fr.aL (P:=λY=>Y=.D 1)).trans (Fr.wD (P:=λY=>Y=.D 1) rfl)).trans (Fr.wD (P:=λY=>Y=.D 1) rfl)).trans (Fr.wD (P:=λY=>Y=.D 1) rfl);have tk:(σ.svs.map mP).take a0=(σ.svs.take a0).map mP:=by rw[X0]
 have W8:LW (wD (wD (wD (aL n ((σ.svs.map mP).take a0)) 1 (wV s.L.length σ.jJ (iJ σ.gone))) 1 (wV s.L.length σ.jJ (.int d.num))) 1 (wV s.L.length n.L.length (.int d.num))) s.L.length n.L.length (iJ (S d.num)) ((σ.bs.filter (dH a0)).map (·.d)) ((σ.svs.take a0).map mP):=⟨cJ c9,fB w2,by rw[<-tk];exact(eR),λD=>by have:=bY G2.j;exact Qp (D.symm▸this) (Vk _),λD=>by have:=bY G4.j;exact Qp (D.symm▸this) (Vk _),Wj (bY w2),by rw[U1];have:=XB (dH a0) σ.bs;exact n2 (U9 this (U9 z3 M)) rfl,by rw[U1,Wa];exact n2 (U9 (Xa ..) (U9 b M)) rfl⟩;have I:∀E,E∈σ.bs.filter (dH a0)->E∈σ.bs/\dH a0 E=P4:=λE w=>WY.mp w;have d7:∀{E Y},E∈σ.bs->gs c8 E Y->Y≠.L s.L.length/\Y≠.L n.L.length:=λ{E Y} w j=>⟨a4 Y ((M2 E w).has j),λD=>by have:=(M4 E w).has j;rw[D] at this;exact Vk _ this⟩;refine eP _ ⟨{σ.μ with ks:=z,fr:=d8,u:=d.used},σ.svs.take a0,c4,e0,s.L.length,n.L.length,S d.num,σ.bs.filter (dH a0),c8,oM σ.cs A,σ.bd⟩ ?_ ⟨k.g,(G4.fr F8 nofun (λq=>nomatch q) nofun nofun),W8,λE w=>(M4 E (I E w).1).fr F8 λY j (o:Y=.D 1)=>S2.x E (I E w).1 Y j (.inl (o▸a7)),λE w=>F8.D _ _ (λo=>k.d1 E (I E w).1 (Ad.D.inj o)) (w3 E (I E w).1 (I E w).2),⟨λE w Y j hx=>?_,λE w y a2=>S2.d E (I E w).1 y (I y a2).1⟩,λD=>?_,λD=>?_,λE w=>k.d0 E (I E w).1,λE w=>k.d1 E (I E w).1,λE w y a2=>k.dj E (I E w).1 y (I y a2).1,k.P.restore hs i em λE w hg=>?_,?_,λE w=>k.nl E (I E w).1,?_,λK ht=>k.sl K (XH ht),λa9 J=>?_,?_,?_,?_,?_,?_,λK ht=>?_⟩
 ·have a1:aR a (.ab 1) (.str 25)=S (.aE σ.jJ):=k.W.sub rfl;have l1:=mQ k.W.s (by rw[U1];exact n2 (U9 b M) rfl);rw[U1] at l1;have m1:cK .mod (.int rest) (.int σ.svs.length)=S (.int a0):=by rw[sj (by exact Vj.mpr r),hp]
  have q1:aR a (.aE σ.jJ) (.int a0)=S (mP d):=by show(a.L[σ.jJ]?).bind _=_;rw[k.W.s];show(Mine.Lake.place a0 (σ.svs.map mP).length).bind _=_;rw[show Mine.Lake.place a0 (σ.svs.map mP).length=S a0 by unfold Mine.Lake.place;rw[Qk (by exact Vg _),Qk (by rw[U1];exact⟨Vj.mpr pl,Vj.mpr (n1 (Vh pl (U9 b M)) rfl)⟩)];rfl];show(σ.svs.map mP)[a0]? = _;rw[Vb,hs];rfl
  refine bT (q7 W3.b (by rw[U1,U1];exact n2 (U9 z3 M) rfl)) λt t2=>?_;rw[U1,U1] at t;have k4:=uz (cf:=aC a3) (i:=6) (x:=7) (e:=.sub (.var 0) (.str 58)) (l:=[S (.ab 1),S (.int rest),S (.int a0),S (.int d.num),S (.lst (d.kb.map λE=>.tup [dO E.k (d.kc E.num),.int (d.kc E.num).acc])),S (.aE s.L.length),N,N]) (H:=aL s []) (si (x:=0) rfl (W3.sub rfl)) t w1;rw[aN (f:=rJ) [S (.ab 1),S (.int rest),N,N,N,N,N,N] rfl rfl];change (aW _ (vO [aH rJ.body 0,aH rJ.body 1,aH rJ.body 2,aH rJ.body 3] (.cons (aH rJ.body 4) (.cons (aH rJ.body 5) .nil))) _ a).bind _=_;rw[xu (xs:=[aH rJ.body 0,aH rJ.body 1,aH rJ.body 2,aH rJ.body 3]) (Ky (cf:=aC a3) (rest:=rest) a1 l1 m1 q1 (k.W.sub rfl) (k.G.rc rfl) e1),aX (s:=aH rJ.body 4) k4,aX (s:=aH rJ.body 5) (IC (cf:=aC a3) (p:=a0) (rest:=rest) (x4:=S (.lst (d.kb.map λE=>.tup [dO E.k (d.kc E.num),.int (d.kc E.num).acc]))) (x6:=y6) (x7:=y7) (x:=N) (W4.sub rfl) (FO (place:=a0) W4.s (by rw[U1];exact n2 (U9 b M) rfl) (by exact n1 (Vh pl (U9 b M)) rfl)) u2 (t3 (v:=.int d.num) d0) (T (c:=n.L.length) c9))];rfl
 ·have w:=(I E w).1;refine bT (d7 w j) λf1 f2=>?_;rcases hx with B|B|B|B|B|⟨y,a2,B⟩;·exact S2.x E w Y j (.inl (.inl B))
  ·exact S2.x E w Y j (.inr B)
  ·exact f1 B
  ·exact f2 B
  ·exact S2.x E w Y j (.inl (B▸a7))
  ·exact S2.x E w Y j (.inl (B▸b9 y (I y a2).1))
 ·exact a4 (.L z) (G2.has (.inr rfl)) (Ql Ad.L D)
 ·have:=G4.has (z:=.L z) (.inr rfl);rw[show z=n.L.length from D] at this;exact Vk _ this
 ·refine z9 E.g (λa5=>?_) (λa5=>?_)
  ·by_cases ht:E.k=.text;·rw[ck E w (.inr ht)];exact k.P.gd E w
   ·have hl:=hg.resolve_left (by rw[a5];decide);have H:=c1 E w a5 hl;rw[e3 E H a5 ht];exact gk E H
  ·rw[ck E w (.inl a5)];exact k.P.gd E w
 ·rw[d3];have k1:(σ.md.filter (sZ a0)).map vP=(σ.md.map vP).filter λK=>K.2.1||Qd (K.2.2<=a0):=by rw[V.filter_map];rfl
  have k2:((σ.bs.filter (dH a0)).map λE=>(E.num,E.g,E.lv))=(σ.bs.map λE=>(E.num,E.g,E.lv)).filter λK=>K.2.1||Qd (K.2.2<=a0):=by rw[V.filter_map];rfl
  rw[k1,k2,k.md]
 ·exact k.sn.sublist ((V.take_sublist a0 σ.svs).map _)
 ·obtain rfl:d.num=a9:=VH J;refine⟨λB=>?_,k.sl d sm⟩;refine aM (VF.mp B) λK ht D=>?_;refine eK (V.getElem?_of_mem ht) λe2 g=>?_;have a8:=(U8.mp g).1;replace a8:=Wa▸a8;rw[Xn (by exact Vh a8 (Wh ..))] at g;have:=mR k.sn g;rw[D,mR k.sn hs] at this;exact Qp (VH this) (Wc (Vh a8 (Wh ..)))
 ·show(σ.svs.take a0).length<=_;rw[Wa];exact U9 (Xa ..) (V2 b)
 ·exact U9 (U9 (V4 ..) (Vq C)) (U9 z2 (Xe 2 (VK G)))
 ·have:=XB (dH a0) σ.bs;exact U9 this (U9 z3 (Vu _ _))
 ·exact o2 (k.z6 d sm)
 ·exact o2 k.z5
 ·exact o2 (k.z6 K (XH ht))
noncomputable def My(j:Z->Z)(E:Bd):Ad->Prop:=λY=>Ci j E Y\/Y=.D E.d
theorem EU{C:t}{l:V (Z×t)}(B:da∈(fH i C l).map (·.1)):da=i\/da∈l.map (·.1):=by
 rw[<-mO,um] at B;by_cases D:da=i;·exact .inl D
 ·rw[Qm D,mO] at B;exact .inr B
theorem In.sp(k:In G a c)(w:b∈c.bs):Sp c.μ c.es b:=⟨λY j o=>k.S.x b w Y j (.inl o),λY j D=>k.S.x b w Y j (.inr (.inl D))⟩
theorem ta{c':Ct}{P:Jo}{f:V (Z×uG)}{u':P5}{ug':P5}(k:In G a c)(w:b∈c.bs)(A:GM U {c.μ with u:=u',ug:=ug'} c.svs ((P.map (enc c.bd)).reverse) f)(y:MB U c.es b c')(E:U.D[b.d]? = S (eF b c'))(r:Fr (My c.es b) a U)(o:Pu c.svs P c.bs (upd c.cs b.num c') c.bd)(g:f.map vP=c.md.map vP)
  (m:u'<=c.μ.u+96) (H:ug'<=c.μ.ug+96) (s:P.length<=c.jo.length+2):∃e,In (G+1) U e:=by
 have i:∀C∈c.bs,C≠b->C.num≠b.num:=λC n q D=>q (mS k.P.nn _ n _ w D);have h:∀Y,Xs c Y->¬Gl Y->Y≠.D b.d->¬My c.es b Y:=λY l p t M=>M.elim (λM=>M.elim p λM=>k.S.x b w Y M l) t;have v:∀X,X∈[0,1]->Ad.D X≠.D b.d:=λX J D=>by
  have D:=Ad.D.inj D;rcases U4.mp J with rfl|J;·exact k.d0 b w D.symm
  ·rw[UZ] at J;subst J;exact k.d1 b w D.symm
 refine⟨{c with μ:={c.μ with u:=u',ug:=ug'},jo:=P,md:=f,cs:=upd c.cs b.num c'},k.g,A,k.W.fr r (h _ (.inr (.inr (.inr (.inr (.inl rfl))))) (CY (by decide)) (v 1 (by decide))) (h _ (.inr (.inr (.inl rfl))) (FK k.W.n1) nofun) (h _ (.inr (.inr (.inr (.inl rfl)))) (FK k.W.n2) nofun),λC n=>?_,λC n=>?_,k.S,k.k1,k.k2,k.d0,k.d1,k.dj,o,g.trans k.md,k.nl,k.sn,k.sl,k.go,V2 k.z1,by exact U9 s (Wz (k.z2) _),V2 k.z3,V7 m (o1 (k.z4) (by decide)),V7 H (o1 (k.z5) (by decide)),λd x=>o2 (k.z6 d x)⟩
 ·by_cases D:C=b;·refine R D ?_;dsimp only;exact R bO y
  ·dsimp only;refine R (dD (i _ n D)) ((k.MM _ n).fr r λY j M=>?_);rcases M with(M|M)|M;·exact k.S.x _ n Y j (.inl M)
   ·exact k.S.d _ n _ w (i _ n D) Y j M
   ·exact k.S.x _ n Y j (.inr (.inr (.inr (.inr (.inr (ba b w M))))))
 ·by_cases D:C=b;·refine R D ?_;dsimp only;exact R bO E
  ·dsimp only;exact R (dD (i _ n D)) (r.D _ _ (h _ (.inr (.inr (.inr (.inr (.inr (ba C n rfl)))))) (CY (k.d0 _ n)) λM=>D (k.dj _ n _ w (Ad.D.inj M))) (k.DD _ n))
noncomputable def I7(s:V Sv)(E:Bd)(i:Un)(j:Jo):Jo:=if cZ s E then(E.num,i) :: j else j
theorem nZ(B:p b.num=b):jn (cZ h b) ((H.map (enc p)).reverse) (aV b az)=((I7 h b az H).map (enc p)).reverse:=by
 unfold jn I7;split;·refine R Vt (R Xu ?_);show _=_++[aV (p b.num) az];rw[B]
 ·rfl
theorem kQ{b:Bd}{svs:V Sv}{jo:Jo}{u:Un}:(I7 svs b u jo).length<=jo.length+1:=by
 unfold I7;split;·exact VB _
 ·exact VK _
theorem kR{c':Ct}{u:Un}(B:Pu h H r z p)(w:b∈r)(k:jI u c'=z b.num)(j:B3 b.k u c')(J:b.k≠.text)(y:good b.k c'):Pu h (I7 h b u H) r (upd z b.num c') p:=by
 unfold I7;induction a:cZ h b using U6 with
 |true=>obtain⟨G,c⟩:=Vi.mp a;rw[Wf] at G;exact B.cZ w G (Qj c) k j y
 |false=>
  refine B.plain w ?_ y
  unfold cZ at a
  induction I:b.g using U6 with
  |true=>exact .inl rfl
  |false=>rw[I] at a;exact .inr (.inr (by have:=Ux a;exact Wo.mp this))
theorem zU(B:good .row d):good .row {d with df:=d.df.set aa bj}:=⟨by show(d.df.set aa bj).length=3;refine Wg.trans ?_;exact B.1,B.2⟩
theorem vT(g:i<3)(B:good .dict d){a:P5}(b:a=2\/a=8):good .dict {d with en:=fH i bj d.en,most:=a}:=(uO B.1 (B6 B.2.1) (λv E=>(EU E).elim (λD=>D▸g) (B.2.2.1 v)) b)
theorem zV(B:good .dict d):good .dict {d with en:=lN i d.en}:=⟨B.1,B7 B.2.1,λv E=>B.2.2.1 v (by have E:v∈(lN i d.en).map (·.1):=E;rw[iY B.2.1] at E;exact(XO.map _).subset E),B.2.2.2⟩
theorem EV(B:good .dict d):B3 .dict (.drop i am (d.en.map (·.1))) {d with en:=lN i d.en}:=⟨rfl,B.2.1,λv E D=>by refine R (yB D) ?_;rw[mO];exact E,Mw B.2.1 B.2.2.1⟩
theorem zW(B:d.df[aa]? = S am):jI (.item aa am) {d with df:=d.df.set aa bj}=d:=by show({d with df:=(d.df.set aa bj).set aa am}:Ct)=d;refine eK (U8.mp B) λn D=>?_;refine R (Wk ..) ?_;refine R D.symm ?_;refine R (YD ..) rfl
theorem vU{c:Ct}:jI (.ent i (cU i c.en)) {c with en:=fH i bj c.en}=c:=by
 induction D:cU i c.en using U0 with
 |none=>show({c with en:=lN i (fH i bj c.en)}:Ct)=c;rw[B5 D]
 |some z=>show({c with en:=fH i z (fH i bj c.en)}:Ct)=c;refine R (B4 D) rfl
theorem zX(A:(d.en.map (·.1)).Nodup)(B:cU i d.en=S am):jI (.drop i am (d.en.map (·.1))) {d with en:=lN i d.en}=d:=by show({d with en:=(d.en.map (·.1)).map λX=>(X,if X=i then am else(cU X (lN i d.en)).getD 0)}:Ct)=d;refine R (zL A B) rfl
noncomputable def Mz:LE:=.comp (.sub (.var 10) (.int 0)) [10] (.sub (.var 3) (.str 60)) .no
theorem ID:LE.comp (.sub (.var 10) (.int 0)) [10] (.sub (.var 3) (.str 60)) .no=Mz:=rfl
noncomputable def MA:LE:=.comp (.tup (.cons (.var 8) (.cons (.ite (.cmp .eq (.var 8) (.var 6)) (.bin .fdiv (.var 2) (.int 3)) (.var 9)) .nil))) [8,9] (.sub (.var 3) (.str 60)) .no
theorem CE:LE.comp (.tup (.cons (.var 8) (.cons (.ite (.cmp .eq (.var 8) (.var 6)) (.bin .fdiv (.var 2) (.int 3)) (.var 9)) .nil))) [8,9] (.sub (.var 3) (.str 60)) .no=MA:=rfl
noncomputable def MD:LE:=.comp (.var 11) [11] (.sub (.var 3) (.str 60)) (.so (.cmp .ne (.sub (.var 11) (.int 0)) (.var 6)))
theorem CG:LE.comp (.var 11) [11] (.sub (.var 3) (.str 60)) (.so (.cmp .ne (.sub (.var 11) (.int 0)) (.var 6)))=MD:=rfl
theorem EW{pv:Q}{pv1:Q}{vv:Q}{tv:Q}{iv:Q}{l1:Q}{l12:Q}{l3:Q}(r:aR a ag (.str 9)=S (.str 39))(w:cK .mod bg (.int 3)=S pv)(t:aR a ag (.str 14)=S du)(x:aK a bf 65=S (.own 30))(I:cK .fdiv bg (.int 3)=S vv)(p:g (.fn 3) [vv] a=.ok (tv,a))(b:g (.fn 30) [bf,du,pv,tv] a=.ok (C,j))
  (d:aR j ag (.str 60)=S iv) (G:eU j iv N (S pv)=S (l1,j)) (A:cK .add l1 (.lst [vv])=S l12) (e:cK .add pv (.int 1)=S pv1) (o:eU j iv (S pv1) N=S (l3,j)) (c:cK .add l12 l3=S fj) (n:ei j ag (.str 60) fj=S s) :
  dK g (aH rI.body 2) [S cz,S cj,S bg,S ag,S bf,N,N,N,N,N,N,N] a=.ok (.next,[S cz,S cj,S bg,S ag,S bf,S pv,N,N,N,N,N,N],s):=by dsimp only[rI,aH];walk_at "ev"
theorem CH{pv:Q}{K:Q}{i0:Q}{i1:Q}{rv2:Q}{ov:Q}{t:P6}(r:aR a ag (.str 9)=S (.str 36))(d:aR a ag (.str 14)=S du)(x:aK a bf 66=S (.own 32))(w:cK .mod bg (.int 2)=S pv)(I:cK .fdiv bg (.int 2)=S rv2)(e:cK .mod rv2 (.int 256)=S ov)(c:g (.fn 32) [bf,du,pv,ov] a=.ok (C,j))
  (D:cW j .eq pv (.int 0)=S t) (b:aR j ag (.str 60)=S K) (J:aR j K (.int 0)=S i0) (q:aR j K (.int 1)=S i1) (n:ei j ag (.str 60) (if t then .lst [ov,i1] else .lst [i0,ov])=S s) :
  dK g (aH rI.body 2) [S cz,S cj,S bg,S ag,S bf,N,N,N,N,N,N,N] a=.ok (.next,[S cz,S cj,S bg,S ag,S bf,N,N,N,N,N,N,N],s):=by dsimp only[rI,aH];induction t using U6<;>simp only[SV,Rl,V5] at n<;>walk_at "ev"
theorem EX{pv:Q}{pv1:Q}{vv:Q}{tv:Q}{tn:Q}{iv:Q}{wdv:Q}{e:Q}{t:P6}(r:aR a ag (.str 9)=S (.str 8))(Y:cW a .lt cj (.int 7)=S P4)(w:cK .mod bg (.int 3)=S pv)(k:cK .add pv (.int 1)=S pv1)(G:eU a (.bH [97,98,99]) (S pv) (S pv1)=S (wdv,a))(d:aO g Mz [S cz,S cj,S bg,S ag,S bf,N,N,N,N,N,N,N] a=.ok (e,a))
  (i:aR a ag (.str 14)=S du) (x:aK a bf 67=S (.own 35)) (b:g (.fn 4) [wdv] a=.ok (tn,a)) (I:cK .fdiv bg (.int 3)=S vv) (p:g (.fn 3) [vv] a=.ok (tv,a)) (f:g (.fn 35) [bf,du,tn,tv] a=.ok (C,j))
  (D:cW j .in wdv e=S t) (c:t=P4->aO g MA [S cz,S cj,S bg,S ag,S bf,N,S wdv,S e,N,N,N,N] j=.ok (fj,j)) (h:aR j ag (.str 60)=S iv) (T:t=P8->cK .add iv (.lst [.tup [wdv,vv]])=S fj) (n:ei j ag (.str 60) fj=S s) :
  dK g (aH rI.body 2) [S cz,S cj,S bg,S ag,S bf,N,N,N,N,N,N,N] a=.ok (.next,[S cz,S cj,S bg,S ag,S bf,N,S wdv,S e,N,N,N,N],s):=by
 dsimp only[rI,aH];refine R CE ?_;induction t using U6 with
 |true=>have c:=c rfl;clear T;walk_at "ev"
 |false=>have T:=T rfl;clear c;walk_at "ev"
theorem EY{pv:Q}{c:Q}{b:Q}(r:aR a ag (.str 9)=S (.str 8))(Y:cW a .lt cj (.int 7)=S P8)(w:cK .mod bg (.int 4)=S pv)(D:cW a .eq pv (.int 3)=S P4)(d:aR a ag (.str 16)=S c)(m:bK a .min [c,.int 2]=S (b,a))(n:ei a ag (.str 16) b=S j)(e:aK j bf 68=S (.own 37))(t:aR j ag (.str 14)=S du)(x:aR j ag (.str 16)=S b)(i:g (.fn 37) [bf,du,b] j=.ok (C,s)) :
  dK g (aH rI.body 2) [S cz,S cj,S bg,S ag,S bf,N,N,N,N,N,N,N] a=.ok (.next,[S cz,S cj,S bg,S ag,S bf,N,N,N,N,N,N,N],s):=by dsimp only[rI,aH];walk_at "ev"
theorem vV{pv:Q}{pv1:Q}{tn:Q}{wdv:Q}{av:Q}(r:aR a ag (.str 9)=S (.str 8))(Y:cW a .lt cj (.int 7)=S P8)(w:cK .mod bg (.int 4)=S pv)(D:cW a .eq pv (.int 3)=S P8)(X:cK .mod bg (.int 3)=S av)(d:cK .add av (.int 1)=S pv1)(G:eU a (.bH [97,98,99]) (S av) (S pv1)=S (wdv,a))(t:aR a ag (.str 14)=S du)(x:aK a bf 69=S (.own 36))(b:g (.fn 4) [wdv] a=.ok (tn,a))(k:g (.fn 36) [bf,du,tn] a=.ok (C,j))
  (c:aO g MD [S cz,S cj,S bg,S ag,S bf,N,S wdv,N,N,N,N,N] j=.ok (fj,j)) (n:ei j ag (.str 60) fj=S s) :
  dK g (aH rI.body 2) [S cz,S cj,S bg,S ag,S bf,N,N,N,N,N,N,N] a=.ok (.next,[S cz,S cj,S bg,S ag,S bf,N,S wdv,N,N,N,N,N],s):=by dsimp only[rI,aH];refine R CG ?_;walk_at "ev"
theorem EZ{cf:CF}{w:Q}{wy:Q}{rv:Q}{one:Q}{mem:Q}{pv:Q}{rv2:Q}{kbv nv:Q}(r:aR a w (.str 58)=S kbv)(l1:bK a .len [kbv]=S (nv,a))(b:cK .mod rv (.int 0)=cK .mod rv (.int 0))(K:cK .mod rv nv=S pv)(M:aR a kbv pv=S one)(I:cK .fdiv rv nv=S rv2)(t:aR a w (.str 64)=S mem) :
  aW cf (vO [aH rI.body 0,aH rI.body 1] .nil) [S w,S wy,S rv,N,N,N,N,N,N,N,N,N] a=.ok (.next,[S w,S wy,S rv2,S one,S mem,N,N,N,N,N,N,N],a):=by dsimp only[rI,aH,vO];walk_at "ev"
theorem FU{p:Z}(c:ai.length<1000)(n:p<1000):eU a (.lst ai) N (S (.int p))=S (.lst (ai.take p),a):=by
 have:∀{lo g:O Q} {L E:O P5},tc lo=S L->tc g=S E->eU a (.lst ai) lo g=if sm ai.length then S (.lst (cut ai L E),a) else N:=λ{lo g L E} G b=>by unfold eU;refine R G ?_;rw[b]
 refine(this (lo:=N) rfl (vQ n)).trans ?_;refine(Qk (show sm ai.length=P4 from Qu c)).trans ?_;refine R Cv rfl
theorem Kz(c:ai.length<1000)(n:aa<1000):eU a (.lst ai) (S (.int aa)) N=S (.lst (ai.drop aa),a):=by
 have:∀{h hi:O Q} {L E:O P5},tc h=S L->tc hi=S E->eU a (.lst ai) h hi=if sm ai.length then S (.lst (cut ai L E),a) else N:=λ{h hi L E} G p=>by unfold eU;refine R G ?_;rw[p]
 refine(this (hi:=N) (vQ n) rfl).trans ?_;refine(Qk (show sm ai.length=P4 from Qu c)).trans ?_;show S (Q.lst (V.drop (WS aa) (ai.take ai.length)),a)=_;refine R V.take_length ?_;refine R (W0 ..) rfl
theorem CJ(n:aa<3):eU a (.bH [97,98,99]) (S (.int aa)) (S (.int (aa+1:Z)))=S (wd aa,a):=by
 have:∀{h g:O Q} {L E:O P5} {l:V Z},l.length<1000->tc h=S L->tc g=S E->eU a (.bH l) h g=S (.bH (cut l L E),a):=λ{h g L E l} B G p=>by unfold eU;refine R G (R p ?_);exact Qk (show sm l.length=P4 from Qu B)
 refine(this (by decide) (vQ (n1 n rfl)) (vQ (n2 n rfl))).trans ?_;have:=o5 n;clear n;rcases this with rfl|rfl|rfl<;>rfl
theorem rN{L E:V Q}(B:L.length+E.length<1000):cK .add (.lst L) (.lst E)=S (.lst (L++E)):=Qk (Qu B)
theorem vW(B:0<ay)(p:ay<2 ^ 30):cK .fdiv (.int ao) (.int ay)=S (.int (ao.fdiv ay)):=Qk (R (Qu B) ((Qu p).trans rfl))
theorem IE{P:Z×t}:∀{l:V (Z×t)},(l.map (·.1)).Nodup->P∈l->cU P.1 l=S P.2:=by
 intro l;induction l with
 |nil=>intro _ B;cases B
 |cons M x b=>
  intro A B;rw[Vt,Vl] at A;rcases U4.mp B with rfl|B;·exact(Qk rfl)
  ·refine(Qm (λD:M.1=P.1=>A.1 (D▸Vr B))).trans ?_;exact(b A.2 B)
theorem E0{C:t}:∀{l:V (Z×t)},(l.map (·.1)).Nodup->(cU i l).isSome=P4->fH i C l=l.map λP=>(P.1,if P.1=i then C else P.2):=by
 intro l;induction l with
 |nil=>intro _ B;cases B
 |cons P x b=>
  intro A B;rw[Vt,Vl] at A;rw[mN] at B;refine vI.trans ?_;by_cases D:P.1=i
  ·refine(Qk D).trans ?_;refine R Vt ?_;refine R (Qk D) ?_
   congr 1
   conv=>lhs;rw[<-Y4 x]
   refine XN λM e=>?_
   have:M.1≠i:=λY=>A.1 (by refine R D ?_;refine R Y.symm ?_;exact Vr e)
   refine R (Qm this) ?_;rfl
  ·rw[Qm D] at B;refine R (Qm D) ?_;refine R Vt ?_;refine R (Qm D) ?_;refine R (b A.2 B) rfl
theorem E1{r:Z->ak}{L E:ak}:upd (upd r q L) q E=upd r q E:=by funext s;unfold upd;split<;>rfl
set_option tactic.hygienic true in
theorem IF{r:Z->ak}:upd r q (r q)=r:=by
 funext s;unfold upd;split;·rename_i B;rw[B]
 ·rfl
theorem NI{H:AH}{a w:Z}:cW H .eq (wd a) (wd w)=S (Qd (a=w))/\cW H .ne (wd a) (wd w)=S (!Qd (a=w)):=by
 have:CQ H (wd a) (wd w)=S (Qd (a=w)):=by show S (([97+a]:V Z)==[97+w])=_;rw[xm]
 exact⟨this,by show(CQ H (wd a) (wd w)).map _=_;refine R this ?_;rfl⟩
theorem Pp:∀{l:V (Z×P5)},iM (wd i) (l.map λP=>wd P.1)=S (cU i l).isSome:=by
 intro l;induction l with
 |nil=>exact rfl
 |cons P x b=>
  show(iM (wd i) (x.map λP=>wd P.1)).map ((([97+P.1]:V Z)==[97+i])||·)=_
  refine R b ?_;refine R xm ?_
  show _=S (if P.1=i then S P.2 else cU i x).isSome
  by_cases D:P.1=i
  ·refine R (Qk D) ?_;refine R (Qu D) ?_;rfl
  ·refine R (Qm D) ?_;refine R (QJ D) ?_;rfl
theorem ME(J:b.k=.dict)(E:a.D[b.d]? = S (eF b d))(c:d.en.length<500)(t:f[3]? = S (S (.ab b.d)))(k:f.length=12):aO g Mz f a=.ok (.lst (d.en.map λP=>wd P.1),a):=by
 have h:dO b.k d=.lst (d.en.map λP=>.tup [wd P.1,.int P.2]):=by refine R J ?_;rfl
 have e:aR a (.ab b.d) (.str 60)=S (.lst (d.en.map λP=>.tup [wd P.1,.int P.2])):=by refine R h.symm ?_;exact ld E rfl
 refine bT (vR (H:=a) (xs:=d.en.map λP=>Q.tup [wd P.1,.int P.2]) (by refine R (U1 ..) ?_;exact n1 c rfl)) λG o=>?_;have:=jf (cf:=g) (elt:=.sub (.var 10) (.int 0)) (ts:=[10]) (cond:=.no) (g:=λC:Q=>match C with|AV.tup [I,_]=>S I|_=>N) (si t e) G o λI H=>by
  refine aM (VF.mp H) λP U bP=>?_;clear G o H h e J E c t;subst bP;have:(f.set 10 (S (Q.tup [wd P.1,.int P.2])))[10]? = S (S (.tup [wd P.1,.int P.2])):=by exact(Wm (by exact n7 k rfl))
  walk_at "ev"
 rw[Ww] at this;refine R ID.symm ?_;refine this.trans ?_;rw[<-Wx];rfl
theorem MF{w:Z}{x:P5}(J:b.k=.dict)(E:a.D[b.d]? = S (eF b d))(c:d.en.length<500)(t:f[3]? = S (S (.ab b.d)))(k:f.length=12)(i:f[6]? = S (S (wd w)))(p:f[2]? = S (S (.int x)))(j:cK .fdiv (.int x) (.int 3)=S (.int bj)):aO g MA f a=.ok (.lst (d.en.map λP=>.tup [wd P.1,.int (if P.1=w then bj else P.2)]),a):=by
 have h:dO b.k d=.lst (d.en.map λP=>.tup [wd P.1,.int P.2]):=by refine R J ?_;rfl
 have e:aR a (.ab b.d) (.str 60)=S (.lst (d.en.map λP=>.tup [wd P.1,.int P.2])):=by rw[<-h];exact ld E rfl
 refine bT (vR (H:=a) (xs:=d.en.map λP=>Q.tup [wd P.1,.int P.2]) (by rw[U1];exact n1 c rfl)) λG o=>?_
 have:=jf (cf:=g) (elt:=.tup (.cons (.var 8) (.cons (.ite (.cmp .eq (.var 8) (.var 6)) (.bin .fdiv (.var 2) (.int 3)) (.var 9)) .nil))) (ts:=[8,9]) (cond:=.no) (g:=λI:Q=>match I with|AV.tup [Q.bH X,n]=>S (Q.tup [.bH X,if X=[97+w] then .int bj else n])|_=>N) (si t e) G o λI H=>by
  refine aM (VF.mp H) λP U cQ=>?_;clear G o H h e J E c t;subst cQ;have b8:((f.set 8 (S (wd P.1))).set 9 (S (.int P.2)))[8]? = S (S (wd P.1)):=by rw[Vv (by decide),Wm (by exact n7 k rfl)]
  have B:((f.set 8 (S (wd P.1))).set 9 (S (.int P.2)))[9]? = S (S (.int P.2)):=by rw[Wm (by rw[Wg];exact n7 k rfl)]
  have b6:((f.set 8 (S (wd P.1))).set 9 (S (.int P.2)))[6]? = S (S (wd w)):=by rw[Vv (by decide),Vv (by decide)];exact i
  have b2:((f.set 8 (S (wd P.1))).set 9 (S (.int P.2)))[2]? = S (S (.int x)):=by rw[Vv (by decide),Vv (by decide)];exact p
  have D:=(NI (H:=a) (a:=P.1) (w:=w)).1;show bD _ _ _ _ _ _ _=Res.ok (S (Q.tup [wd P.1,if([97+P.1]:V Z)=[97+w] then .int bj else .int P.2]),a);by_cases Y:P.1=w;·rw[Qu Y] at D;rw[Qk (by rw[Y])];walk_at "ev"
  ·rw[QJ Y] at D;rw[Qm (by simpa using Y)];walk_at "ev"
 rw[Ww] at this
 rw[<-CE,this,<-Wx]
 congr 4
 funext P
 show S (Q.tup [wd P.1,if([97+P.1]:V Z)=[97+w] then .int bj else .int P.2])=S (Q.tup [wd P.1,.int (if P.1=w then bj else P.2)])
 by_cases Y:P.1=w
 ·rw[Qk (by rw[Y]),Qk Y]
 ·rw[Qm (by simpa using Y),Qm Y]
noncomputable def gF(k:Z)(I:Q):O Q:=match I with|AV.tup [Q.bH X,n]=>if X=[97+k] then N else S (Q.tup [.bH X,n])|_=>N
theorem FV:gF i (.tup [wd o,db])=if o=i then N else S (.tup [wd o,db]):=by
 by_cases Y:o=i;·refine(Qk (by refine R Y rfl)).trans ?_;rw[Qk Y]
 ·refine(Qm (by simpa using Y)).trans ?_;refine R (Qm Y) rfl
theorem KA{w:Z}(J:b.k=.dict)(E:a.D[b.d]? = S (eF b d))(c:d.en.length<500)(t:f[3]? = S (S (.ab b.d)))(h:f.length=12)(X:f[6]? = S (S (wd w)))(A:(d.en.map (·.1)).Nodup):aO g MD f a=.ok (.lst ((lN w d.en).map λP=>.tup [wd P.1,.int P.2]),a):=by
 have i:dO b.k d=.lst (d.en.map λP=>.tup [wd P.1,.int P.2]):=by refine R J ?_;rfl
 have e:aR a (.ab b.d) (.str 60)=S (.lst (d.en.map λP=>.tup [wd P.1,.int P.2])):=by rw[<-i];exact ld E rfl
 refine bT (vR (H:=a) (xs:=d.en.map λP=>Q.tup [wd P.1,.int P.2]) (by rw[U1];exact n1 c rfl)) λG o=>?_
 have:=jf (cf:=g) (elt:=.var 11) (ts:=[11]) (cond:=.so (.cmp .ne (.sub (.var 11) (.int 0)) (.var 6))) (g:=gF w) (si t e) G o λI H=>by
  refine aM (VF.mp H) λP U eA=>?_
  subst eA
  have B:(f.set 11 (S (Q.tup [wd P.1,.int P.2])))[11]? = S (S (.tup [wd P.1,.int P.2])):=by rw[Wm (by exact n7 h rfl)]
  have b6:(f.set 11 (S (Q.tup [wd P.1,.int P.2])))[6]? = S (S (wd w)):=by rw[Vv (by decide)];exact X
  have q:aR a (.tup [wd P.1,.int P.2]) (.int 0)=S (wd P.1):=rfl
  have D:=(NI (H:=a) (a:=P.1) (w:=w)).2
  rw[FV]
  by_cases Y:P.1=w
  ·rw[Qu Y] at D
   rw[Qk Y]
   walk_at "ev"
  ·rw[QJ Y] at D
   rw[Qm Y]
   walk_at "ev"
 rw[Ww] at this
 rw[<-CG,this,iY A]
 congr 3
 induction d.en with
 |nil=>rfl
 |cons P x k=>
  rw[WQ,WO]
  rw[show(gF w ∘ λP:Z×P5=>Q.tup [wd P.1,.int P.2]) P=_ from FV]
  by_cases Y:P.1=w
  ·rw[Qk Y,Qm (by simp[Y])]
   exact k
  ·rw[Qm Y,Qk (by simp[Y]),Vt]
   exact Ql _ k
theorem FW:∀Y,Ci m b Y->My m b Y:=λY B=>.inl B
theorem nD(k:In G a c)(w:b∈c.bs):¬Ci c.es b (.D b.d):=λM=>M.elim (CY (k.d0 b w)) λM=>k.S.x b w _ M (.inr (.inr (.inr (.inr (.inr (ba b w rfl))))))
theorem IG{way:P5}{rest:P5}{cf:CF}(k:In G a c)(M:G<=14)(H:c.bs≠[]):∃E∈c.bs,∃x:P5,∀{p:Loc} {v:AH},dK cf (aH rI.body 2) [S (.ab 1),S (.int way),S (.int x),S (.ab E.d),S (.aA 0),N,N,N,N,N,N,N] a=.ok (.next,p,v)->aW cf rI.body [S (.ab 1),S (.int way),S (.int rest),N,N,N,N,N,N,N,N,N] a=.ok (.next,p,v):=by
 have m:=k.z3;have r:=YK.mpr H;refine aM (iK (a:=rest) r) λP n pl=>?_;refine⟨c.bs[P],V.getElem_mem pl,rest.fdiv c.bs.length,λ{p v} D=>?_⟩;have l1:=mQ k.W.b (by refine R (U1 ..) ?_;refine R (U1 ..) ?_;exact n2 (U9 m M) rfl);rw[U1,U1] at l1;have L:aR a (.aE c.kb) (.int P)=S (.ab c.bs[P].d):=by refine(oL k.W.b).trans ?_;refine(oL (show place P ((c.bs.map (·.d)).map Q.ab).length=S P by refine(Qk (by exact Vg _)).trans ?_;refine(Qk (by refine R (U1 ..) ?_;refine R (U1 ..) ?_;exact⟨Vj.mpr pl,Vj.mpr (n1 (Vh pl (U9 m M)) rfl)⟩)).trans ?_;rfl)).trans ?_;refine Vb.trans ?_;refine R Vb ?_;refine R (U3 pl) ?_;rfl
 change aW cf (vO [aH rI.body 0,aH rI.body 1] (.cons (aH rI.body 2) .nil)) _ a=_;refine(xu (EZ (cf:=cf) (w:=.ab 1) (wy:=.int way) (rv:=.int rest) (pv:=.int P) (one:=.ab c.bs[P].d) (mem:=.aA 0) (rv2:=.int (rest.fdiv c.bs.length)) (kbv:=.aE c.kb) (nv:=.int c.bs.length) (k.W.sub rfl) l1 rfl (by refine(sj (by exact Vj.mpr r)).trans ?_;refine R n rfl) L (vW (by exact Vj.mpr r) (by exact Vj.mpr (n2 (U9 m M) rfl))) (k.W.sub rfl))).trans ?_;refine(aX D).trans ?_;rfl
theorem E2{l:V P5}(B:aa<l.length):(l.take aa).map Q.int++[Q.int bj]++(l.drop (aa+1)).map Q.int=(l.set aa bj).map Q.int:=by refine R V.set_eq_take_append_cons_drop ?_;refine R (Qk B) ?_;refine R Vw ?_;refine(VJ ..).trans ?_;rfl
theorem xy{m:Z}{way:P5}{rest:P5}(U:In G a c)(hN:G<=14)(H:c.bs≠[])(hm:7<=m):∃H' e,aC m (.fn 54) [.ab 1,.int way,.int rest] a=.ok (.none,H')/\In (G+1) H' e:=by
 refine hF λC=>?_;refine aM (fM hm) λa4 eZ K=>?_;subst eZ;have z2:=U.z2;have z3:=U.z3;have z4:=U.z4;have z5:=U.z5;obtain⟨E,w,x,go⟩:=IG (cf:=aC a4) (way:=way) (rest:=rest) U hN H;have p:∀{l':Loc} {H':AH},dK (aC a4) (aH rI.body 2) [S (.ab 1),S (.int way),S (.int x),S (.ab E.d),S (.aA 0),N,N,N,N,N,N,N] a=.ok (.next,l',H')->aC (a4+1) (.fn 54) [.ab 1,.int way,.int rest] a=.ok (.none,H'):=λ{l' H'} c2=>by refine(aN (f:=rI) [S (.ab 1),S (.int way),S (.int rest),N,N,N,N,N,N,N,N,N] rfl rfl).trans ?_;refine(bL (go c2)).trans ?_;rfl
 have jl:((c.jo.map (enc c.bd)).reverse).length<97:=by refine R VM ?_;refine R (U1 ..) ?_;exact n2 (U9 z2 (Xe 2 hN)) rfl
 have a8:=U.sp w;have a3:=U.MM E w;have a6:=U.DD E w;have y:=U.P.gd E w;have a9:=U.P.CZ E w;refine bT (kC y) λg6 nk=>?_;refine bT g6 λA h=>?_;have n:∀{z:AH},Fr (Ci c.es E) a z->z.D[E.d]? = S (eF E (c.cs E.num)):=λc3=>c3.D _ _ (nD U w) a6;have a2:aR a (.ab E.d) (.str 14)=S (bv E):=ld a6 rfl;have r:aR a (.ab E.d) (.str 9)=S (kS E.k):=ld a6 rfl;refine C ?_;refine hF λb9=>?_;have L:∀{z:AH} {c':Ct} {jo':Jo} {md':V (Z×uG)} {u' ug':P5},GM z {c.μ with u:=u',ug:=ug'} c.svs ((jo'.map (enc c.bd)).reverse) md'->MB z c.es E c'->Fr (Ci c.es E) a z->c'.acc=(c.cs E.num).acc->Pu c.svs jo' c.bs (upd c.cs E.num c') c.bd->md'.map vP=c.md.map vP->u'<=c.μ.u+96->ug'<=c.μ.ug+96->jo'.length<=c.jo.length+2->
   ei z (.ab E.d) (.str 60) (dO E.k c')=S (wD z E.d (fY E (dO E.k c') (.int (c.cs E.num).acc)))/\∃e,In (G+1) (wD z E.d (fY E (dO E.k c') (.int (c.cs E.num).acc))) e:=λ{z c' jo' md' u' ug'} d4 a3 c3 ha e0 e1 e2 e3 e4=>by
  have Dn:=n c3
  replace Dn:=nY▸Dn
  refine⟨FP Dn,?_⟩
  have b:Fr (λY=>Y=.D E.d) z (wD z E.d (fY E (dO E.k c') (.int (c.cs E.num).acc))):=Fr.wD rfl
  refine ta (c':=c') U w (d4.fr b nofun (λq=>U.d0 E w (Ad.D.inj q).symm) nofun nofun) (a3.fr b λY hz q=>?_) ?_ ((c3.mono FW).trans (b.mono λY q=>.inr q)) e0 e1 e2 e3 e4
  ·exact U.S.x E w Y hz (.inr (.inr (.inr (.inr (.inr (ba E w q))))))
  ·refine R nY ?_;refine R ha.symm ?_;exact cJ Dn
 have mu:{c.μ with u:=c.μ.u,ug:=c.μ.ug}=c.μ:=rfl;induction J:E.k using Zr with
 |row=>rw[J] at y r;refine aM (iK (a:=x) (n:=3) (by decide)) λP hp pl=>?_;have T:=y.1;refine KQ (H6 (m:=a4) (p:=P) (i:=x.fdiv 3) U.G (by exact n1 jl rfl) a8 (by exact K) J a3 (by exact Vh pl (Vq T.symm)) (by exact n6 T rfl) λm B a=>xp B) λz a0 ho d5 D j g=>?_;rw[nZ a9] at D;have st:=kR (c':={c.cs E.num with df:=(c.cs E.num).df.set P (x.fdiv 3)}) (u:=.item P a0) U.P w (zW ho) (by rw[J];exact⟨rfl,by show P<(V.set _ _ _).length;rw[Wg];exact Vh pl (Vq T.symm)⟩) (by rw[J];decide) (by rw[J];exact zU y);clear C z2 z3 z4 z5 mu hN H hm go A;obtain⟨a5,e,M⟩:=L (u':=c.μ.u) (ug':=c.μ.ug) D j g rfl st rfl (by exact i6 rfl) (by exact i6 rfl) (by have:=kQ (b:=E) (svs:=c.svs) (jo:=c.jo) (u:=.item P a0);exact KN this rfl);refine b9 ?_;refine eP _ e (p (EW (pv:=.int P) (pv1:=.int (P+1:Z)) (vv:=.int (x.fdiv 3)) (tv:=tI (x.fdiv 3)) (l1:=.lst (((c.cs E.num).df.map Q.int).take P)) (l12:=.lst (((c.cs E.num).df.map Q.int).take P++[.int (x.fdiv 3)])) (l3:=.lst (((c.cs E.num).df.map Q.int).drop (P+1))) (iv:=.lst ((c.cs E.num).df.map Q.int)) r (by rw[sj (by decide)];exact Ql (λa7=>S (Q.int a7)) hp) a2 (U.G.rc rfl) (vW (by decide) (by decide)) (Ca (by exact n4 K rfl)) d5 (by rw[show Q.lst ((c.cs E.num).df.map Q.int)=dO E.k (c.cs E.num) by rw[J];rfl];exact ld (n g) rfl) (FU (by rw[U1];exact n6 T rfl) (by exact n1 pl rfl)) (rN (by rw[Wa,U1,XC];exact NX (Ve (Wh ..) pl) rfl)) rfl (Kz (by rw[U1];exact n6 T rfl) (by exact n2 pl rfl)) ?_ a5)) M;rw[rN (by rw[U7,Wa,WG,U1,XC];exact o6 T),J,<-X0,<-V.map_drop,E2 (by exact Vh pl (Vq T.symm))];rfl
 |text=>
  rw[J] at y r;refine aM (iK (a:=x) (n:=2) (by decide)) λP hp pl=>?_;refine aM (iK (a:=x.fdiv 2) (n:=256) (by decide)) λa0 ho o=>?_;have T:=y.1;refine bT (HX J a3 (l:=(c.cs E.num).df.set P a0)) λj g=>?_;have D:=a8.gm g U.G;clear C z2 z3 z4 z5 mu hN H hm go A;obtain⟨a5,e,M⟩:=L (c':={c.cs E.num with df:=(c.cs E.num).df.set P a0}) (u':=c.μ.u) (ug':=c.μ.ug) D j (g.mono λY q=>.inr q) rfl (U.P.plain w (.inr (.inl J)) (by rw[J];exact⟨by show(V.set _ _ _).length=2;rw[Wg];exact T,y.2⟩)) rfl (by exact i6 rfl) (by exact i6 rfl) (by exact Vu _ _);obtain⟨i0,i1,s⟩:=DA T;have iv:aR (wB a E.a ((c.cs E.num).df.set P a0)) (.ab E.d) (.str 60)=S (.lst [.int i0,.int i1]):=by rw[show Q.lst [.int i0,.int i1]=dO E.k (c.cs E.num) by rw[J];show _=Q.lst ((c.cs E.num).df.map Q.int);rw[s];rfl];exact ld (n (g.mono λY q=>.inr q)) rfl
  refine b9 ?_;refine eP _ e (p (CH (t:=Qd (P=0)) (pv:=.int P) (rv2:=.int (x.fdiv 2)) (ov:=.int a0) (i0:=.int i0) (i1:=.int i1) r a2 (U.G.rc rfl) (by rw[sj (by decide)];exact Ql (λa7=>S (Q.int a7)) hp) (vW (by decide) (by decide)) (by rw[sj (by decide)];exact Ql (λa7=>S (Q.int a7)) ho) (HY (m:=a4) (i:=a0) (by exact n4 K rfl) J a3 (p:=P) (by exact Vh pl (Vq T.symm)) (by exact n6 T rfl) (by exact Vg _) (by exact Vj.mpr o)) ?_ iv rfl rfl ?_)) M
  ·show S (Qd ((P:P5)=0))=_;by_cases B:P=0;·rw[Qu B,Qu (by exact Ql Z.cast B)]
   ·rw[QJ B,QJ (by exact mt X5.mp B)]
  ·rw[<-a5]
   congr 1
   rw[J]
   show _=Q.lst (((c.cs E.num).df.set P a0).map Q.int)
   rw[s]
   have:=N2 pl
   clear hp pl ho o T s
   rcases this with rfl|rfl<;>rfl
 |dict=>
  rw[J] at y r;refine aM (iK (a:=x) (n:=3) (by decide)) λk hw wl=>?_;have X:cK .mod (.int x) (.int 3)=S (.int k):=by rw[sj (by decide)];exact Ql (λa7=>S (Q.int a7)) hw
  have p1:cK .add (.int k) (.int 1)=S (.int (k+1:Z)):=rfl;have c4:aC a4 (.fn 4) [wd k] a=.ok (tN k,a):=Kw (by exact n4 K rfl);have c9:c.md.length=c.bs.length:=by have:=Ql Xw U.md;rw[U1,U1] at this;exact this
  refine z9 (Qd (way<7)) (λh7=>?_) (λh7=>?_)
  ·have w7:cW a .lt (.int way) (.int 7)=S P8:=by rw[<-h7];rfl
   have m4:cK .mod (.int x) (.int 4)=S (.int (x.fmod 4)):=sj (by decide);refine z9 (Qd (x.fmod 4=3)) (λh4=>?_) (λh4=>?_)
   ·have d2:cW a .eq (.int (x.fmod 4)) (.int 3)=S P8:=by rw[<-h4];rfl
    refine oA (cU k (c.cs E.num).en) (λI=>?_) (λa0 I=>?_)
    ·have c8:=H9 (m:=a4) (by exact n4 K rfl) J a3 I;refine hF λe7=>?_;obtain⟨a5,e,M⟩:=L (c':=c.cs E.num) (jo':=c.jo) (md':=c.md) (u':=c.μ.u) (ug':=c.μ.ug) U.G a3 Fr.refl rfl (by rw[IF];exact U.P) rfl (by exact i6 rfl) (by exact i6 rfl) (by exact Vu _ _);refine e7 ?_;refine b9 ?_;refine eP _ e (p (vV (pv:=.int (x.fmod 4)) (av:=.int k) (pv1:=.int (k+1:Z)) (wdv:=wd k) (tn:=tN k) r w7 m4 d2 X p1 (CJ wl) a2 (U.G.rc rfl) c4 c8 ?_ a5)) M;rw[KA (w:=k) J a6 (by exact n2 h rfl) rfl rfl rfl nk,J];have:lN k (c.cs E.num).en=(c.cs E.num).en:=by rw[iY nk];refine XM.mpr λq hq=>?_;have:=qX.mp I;rw[RV];exact λY=>this (Y▸Vr hq)
     rw[this];rfl
    ·refine Ar (Ia (m:=a4) U.G (by exact n1 jl rfl) a8 (by exact n4 K rfl) J a3 I (by exact n2 h rfl)) λz c8 D j g=>?_;rw[nZ a9] at D;have st:=kR (c':={c.cs E.num with en:=lN k (c.cs E.num).en}) (u:=.drop k a0 ((c.cs E.num).en.map (·.1))) U.P w (zX nk I) (by rw[J];exact EV y) (by rw[J];decide) (by rw[J];exact zV y);obtain⟨a5,e,M⟩:=L (u':=c.μ.u) (ug':=c.μ.ug) D j g rfl st rfl (by exact i6 rfl) (by exact i6 rfl) (by have:=kQ (b:=E) (svs:=c.svs) (jo:=c.jo) (u:=.drop k a0 ((c.cs E.num).en.map (·.1)));exact KN this rfl);refine b9 ?_;refine eP _ e (p (vV (pv:=.int (x.fmod 4)) (av:=.int k) (pv1:=.int (k+1:Z)) (wdv:=wd k) (tn:=tN k) r w7 m4 d2 X p1 (CJ wl) a2 (U.G.rc rfl) c4 c8 ?_ a5)) M;rw[KA (w:=k) J (n g) (by exact n2 h rfl) rfl rfl rfl nk,J];rfl
   ·obtain⟨d,d6,d7⟩:∃d:P5,bK a .min [.int (c.cs E.num).acc,.int 2]=S (.int d,a)/\d<=(c.cs E.num).acc:=by
     refine ba _ rfl ?_;split<;>first|exact Ys _|exact YO (by assumption)
    have F0:Fr (λY=>Y=.D E.d) a (wD a E.d (fY E (dO E.k (c.cs E.num)) (.int d))):=Fr.wD rfl
    have G0:=U.G.fr F0 nofun (λq=>U.d0 E w (Ad.D.inj q).symm) nofun nofun
    have D0:(wD a E.d (fY E (dO E.k (c.cs E.num)) (.int d))).D[E.d]? = S (fY E (dO E.k (c.cs E.num)) (.int d)):=cJ a6
    have c7:(wD a E.d (fY E (dO E.k (c.cs E.num)) (.int d))).D[E.d]? = S (eF E {c.cs E.num with acc:=d}):=by rw[D0,nY];induction E.k using Zr<;>rfl
    refine Ar (HZ (m:=a4) (i:=d) G0 (by exact n1 jl rfl) a8 (by exact n4 K rfl) J (a3.fr F0 λY hz q=>U.S.x E w Y hz (.inr (.inr (.inr (.inr (.inr (ba E w q))))))) d7) λH2 d8 G2 M2 b=>?_
    rw[nZ a9] at G2
    refine eK (ta (u':=c.μ.u) (ug':=c.μ.ug) U w G2 M2 (b.D _ _ (nD U w) c7) ((F0.mono λY q=>.inr q).trans (b.mono FW)) (kR (c':={c.cs E.num with acc:=d}) (u:=.acc (c.cs E.num).acc) U.P w rfl (by rw[J];rfl) (by rw[J];decide) (by rw[J];exact y)) rfl (by exact i6 rfl) (by exact i6 rfl) (by have:=kQ (b:=E) (svs:=c.svs) (jo:=c.jo) (u:=.acc (c.cs E.num).acc);exact KN this rfl)) λe M=>?_
    refine b9 ?_
    exact eP H2 e (p (EY (pv:=.int (x.fmod 4)) r w7 m4 (by rw[<-h4];rfl) (ld a6 rfl) d6 (FQ (v:=.int d) (nY▸a6)) (G0.rc rfl) (ld c7 rfl) (ld c7 rfl) d8)) M
  ·have c6:(c.md.map (·.1)).Nodup:=by rw[uA U.md];exact U.P.nn
   obtain⟨d1,hc⟩:∃d1,cU E.num c.md=S (d1,E.g,E.lv):=by
    have:(E.num,E.g,E.lv)∈c.md.map vP:=by rw[U.md];exact VF.mpr (ba E w rfl)
    refine hF λe5=>?_;refine aM (VF.mp this) λq hq c2=>?_;obtain⟨e9,c1,g1,l1⟩:=q;refine bT (QU.mk.inj c2) λlR e2=>?_;subst lR;refine bT (QU.mk.inj e2) λm3 pU=>?_;clear C hw e2 z2 z3 z4 z5 mu c9 hN H hm go A;subst m3;subst pU;refine e5 ?_;exact⟨c1,IE c6 hq⟩
   have gm:Af k (c.cs E.num)=P4->(c.cs E.num).most=2:=λI=>by
    refine bT (Vi.mp I) λg1 g2=>?_;rw[Wf] at g1;have g2:=Qj g2;have K:k∉(c.cs E.num).en.map (·.1):=by rw[<-mO,g1];decide
    have:=Mw (l:=k :: (c.cs E.num).en.map (·.1)) (Vl.mpr ⟨K,nk⟩) (λd9 hj=>by
     clear C hw g1 g2 z2 z3 z4 z5 mu c9 c6 hN H hm go A;rcases U4.mp hj with rfl|hj;·exact wl
     ·exact y.2.2.1 d9 hj)
    rw[V'] at this;rcases y.2.2.2 with Y|Y;·exact Y
    ·exact Qp (V7 (Y▸g2) (Wb.mpr h)) (by decide)
   refine Ar (Ie (m:=a4) (w:=k) (i:=x.fdiv 3) U.G jl a8 (by exact K) J a3 (by exact n2 h rfl) gm hc (by exact o3 hN z4 z5 (by decide))) λz e8 D j g=>?_;have e6:ei z (.ab E.d) (.str 60) (dO E.k {c.cs E.num with en:=fH k (x.fdiv 3) (c.cs E.num).en,most:=if Af k (c.cs E.num) then 8 else(c.cs E.num).most})=S (wD z E.d (fY E (dO E.k {c.cs E.num with en:=fH k (x.fdiv 3) (c.cs E.num).en,most:=if Af k (c.cs E.num) then 8 else(c.cs E.num).most}) (.int (c.cs E.num).acc)))/\∃e,In (G+1) (wD z E.d (fY E (dO E.k {c.cs E.num with en:=fH k (x.fdiv 3) (c.cs E.num).en,most:=if Af k (c.cs E.num) then 8 else(c.cs E.num).most}) (.int (c.cs E.num).acc))) e:=by
    have d3:∀c5:Ct,c5.en=fH k (x.fdiv 3) (c.cs E.num).en->B3 E.k (.ent k (cU k (c.cs E.num).en)) c5:=λc5 c2=>by rw[J];refine⟨rfl,?_⟩;rw[c2,um,Qk rfl];rfl
    clear C hw z2 z3 z4 z5 jl a8 a3 mu c9 c6 hN H hm go A
    induction I:Af k (c.cs E.num) using U6 with
    |false=>rw[I] at D j;simp only[V5,Rl,Mq] at D j;rw[nZ a9] at D;exact L (u':=c.μ.u) (ug':=c.μ.ug) D j g rfl (kR (c':={c.cs E.num with en:=fH k (x.fdiv 3) (c.cs E.num).en}) (u:=.ent k (cU k (c.cs E.num).en)) U.P w vU (d3 _ rfl) (by rw[J];decide) (by rw[J];exact vT wl y y.2.2.2)) rfl (by exact i6 rfl) (by exact i6 rfl) (by have:=kQ (b:=E) (svs:=c.svs) (jo:=c.jo) (u:=.ent k (cU k (c.cs E.num).en));exact KN this rfl)
    |true=>rw[I] at D j;simp only[SV,Mq] at D j;rw[nZ a9,nZ a9] at D;have eE:=kR (c':={c.cs E.num with most:=8}) (u:=.most 2) U.P w (by show({c.cs E.num with most:=2}:Ct)=c.cs E.num;rw[<-(gm I)]) (by rw[J];exact⟨rfl,rfl⟩) (by rw[J];decide) (by rw[J];exact uO y.1 y.2.1 y.2.2.1 (.inr rfl));have dJ:=kR (c':={c.cs E.num with en:=fH k (x.fdiv 3) (c.cs E.num).en,most:=8}) (u:=.ent k (cU k (c.cs E.num).en)) eE w (by rw[bO];exact vU (c:={c.cs E.num with most:=8})) (d3 _ rfl) (by rw[J];decide) (by rw[J];exact vT wl y (.inr rfl));rw[E1] at dJ;refine L (u':=if E.g then c.μ.u else c.μ.u+96) (ug':=if E.g then c.μ.ug+96 else c.μ.ug) D j g rfl dJ (Cr hc) (by split<;>first|exact Ys _|exact i6 rfl) (by split<;>first|exact Ys _|exact i6 rfl) ?_;exact U9 kQ (WE kQ)
   obtain⟨a5,e,M⟩:=e6;have d0:cK .fdiv (.int x) (.int 3)=S (.int (x.fdiv 3)):=vW (by decide) (by decide);have hi:dO E.k (c.cs E.num)=.lst ((c.cs E.num).en.map λP=>.tup [wd P.1,.int P.2]):=by rw[J];rfl
   refine b9 ?_;refine eP _ e (p (EX (t:=(cU k (c.cs E.num).en).isSome) (pv:=.int k) (pv1:=.int (k+1:Z)) (wdv:=wd k) (tn:=tN k) (vv:=.int (x.fdiv 3)) (tv:=tI (x.fdiv 3)) (iv:=.lst ((c.cs E.num).en.map λP=>.tup [wd P.1,.int P.2])) r (by rw[<-h7];rfl) X p1 (CJ wl) (ME J a6 (by exact n2 h rfl) rfl rfl) a2 (U.G.rc rfl) c4 d0 (Ca (by exact n4 K rfl)) e8 Pp (λht=>?_) (by rw[<-hi];exact ld (n g) rfl) (λht=>?_) a5)) M;·rw[MF (w:=k) J (n g) (by exact n2 h rfl) rfl rfl rfl rfl d0,J];show _=Res.ok (Q.lst ((fH k (x.fdiv 3) (c.cs E.num).en).map λP=>.tup [wd P.1,.int P.2]),z);rw[E0 nk ht,V8];rfl
   ·rw[rN (by rw[U1,XC];exact LF h rfl),J];show _=S (Q.lst ((fH k (x.fdiv 3) (c.cs E.num).en).map λP=>.tup [wd P.1,.int P.2]));have K:cU k (c.cs E.num).en=N:=by
     induction B:cU k (c.cs E.num).en using U0 with
     |none=>rfl
     |some a0=>rw[B] at ht;cases ht
    rw[kN K,Vw];rfl
theorem tb{step:Z->AV->Loc->AH->Res (Fl×Loc×AH)}{s:Src}{Q:Loc->AH->Prop}(P:∀l y,Q l y->∀a,s.at a y=S be[a]?)(H:∀a I l y,be[a]? = S I->Q l y->∃p v,step a I l y=.ok (.next,p,v)/\Q p v):∀(x:V AV) (a:Z) (l:Loc) (y:AH),be.drop a=x->Q l y->∃p v,cM step s (x.length+1) a l y=.ok (.next,p,v)/\Q p v:=by
 intro x;induction x with
 |nil=>exact λa l y B M=>(eP l y (HM ((P l y M _).trans (Ql S (FH B)))) M)
 |cons I x k=>intro a l y B M;have g:=FI B;exact cN (H a I l y g M) λl1 z T L=>cN (k (a+1) l1 z (FJ B) L) λl2 b m q=>eP l2 b (Ae ((P l y M _).trans (Ql S g)) T (B9 m)) q
theorem In.KC{P:Ad->Prop}(k:In G a c)(r:Fr P a U)(H:∀Y,P Y->¬Mine.Lake.has a Y):In G U c:=by have h:=λY B b=>H Y b (k.has B);exact⟨k.g,k.G.fr r (h _ (.inl (.inl rfl))) (h _ (.inl (.inr (.inl rfl)))) (h _ (.inl (.inr (.inr rfl)))) (h _ (.inr (.inl rfl))),k.W.fr r (h _ (.inr (.inr (.inr (.inr (.inl rfl)))))) (h _ (.inr (.inr (.inl rfl)))) (h _ (.inr (.inr (.inr (.inl rfl))))),λE w=>(k.MM E w).fr r λY j b=>H Y b ((k.MM E w).has j),λE w=>r.D _ _ (h _ (.inr (.inr (.inr (.inr (.inr (ba E w rfl))))))) (k.DD E w),k.S,k.k1,k.k2,k.d0,k.d1,k.dj,k.P,k.md,k.nl,k.sn,k.sl,k.go,k.z1,k.z2,k.z3,k.z4,k.z5,k.z6⟩
theorem In.emp(k:In G a c):In G (aL a []) c:=k.KC (P:=λU=>QC) Fr.aL λU B=>B.elim
theorem In.one(k:In G a c):In G (wL (aL a []) a.L.length [C]) c:=k.KC (P:=λY=>Y=.L a.L.length) (Fr.aL.trans (Fr.wL rfl)) λY D B=>by subst D;exact Vk _ B
theorem IH{m:Z}{j:Z->Z}{C c3:Ct}(A:GM a e h n k)(i:6<=m)(p:MB a j b d)(g:MB a j bc C)(I:b.g=P4)(r:bc.g=P8):aC m (.fn 30) [.aA 0,bv b,.int 0,eI bc c3] a=.exc (.bH [105,110,118,97,108,105,100,97,99,99,101,115,115]) a:=by
 refine aM (fM i) λt bP K=>?_;clear i;subst bP;refine aM (fM K) λX cQ J=>?_;clear K;subst cQ;have s:=ur (m:=X) (H:=a) (y:=eI bc c3) J (jF p).1 (l:=true) λm B=>by exact(Cd B g).trans (R r rfl)
 rw[I] at s;have w:aK a (.aA 0) 46=S (.own 29):=A.rc rfl;have c:aK a (.aA 0) 41=S (.own 31):=A.rc rfl;have v:srcOf a (.lst [eI bc c3])=S (.eW [eI bc c3],1):=rfl;refine(aN (f:=Jb) [S (.aA 0),S (bv b),S (.int 0),S (eI bc c3)] rfl rfl).trans ?_;delta Jb;have o:aC (X+1) (.fn 31) [.aA 0,bv b,.int 0,.lst [eI bc c3]] a=.exc (.bH [105,110,118,97,108,105,100,97,99,99,101,115,115]) a:=by refine(aN (f:=Jc) [S (.aA 0),S (bv b),S (.int 0),S (.lst [eI bc c3]),N,N] rfl rfl).trans ?_;delta Jc;walk_at "ev"
 walk_at "ev"
theorem II{m:Z}(A:GM a e h n k)(i:3<=m){q:P5}(B:gX q h=N):aC m (.fn 44) [.aA 0,.int q] a=.exc (.bH [105,110,118,97,108,105,100,114,101,115,116,111,114,101]) a:=by refine aM (fM i) λb eA K=>?_;subst eA;have D:=xx (q:=q) (m:=b) A K;replace D:=B▸D;have X:aK a (.aA 0) 55=S (.own 42):=A.rc rfl;refine(aN (f:=mT) [S (.aA 0),S (.int q),N,N,N,N,N,N,N] rfl rfl).trans ?_;delta mT;walk_at "ev"
theorem zY{M:Z}(B:M∉h.map (·.num)):gX M h=N:=by
 induction h with
 |nil=>rfl
 |cons d x k=>rw[Vt,U4,Rn] at B;refine(Qm (λY=>B.1 (X5.mp Y).symm)).trans ?_;exact R (k B.2) rfl
theorem CK{I:V Z}(B:a.L[o]? = S [.bH I]):cW a .ne (.aE o) (.lst [.bH I])=S P8:=by
 have:CQ a (.aE o) (.lst [.bH I])=S P4:=by show(match a.L[o]?,S [Q.bH I] with|some I,S n=>C0 I n|none,N=>eqT (.aE o) (.lst [.bH I])|_,_=>N)=_;refine R B ?_;show S ((I==I)&&P4)=_;exact R (Si ..) rfl
 show(CQ a _ _).map _=_;exact R this rfl
noncomputable abbrev K':jL:=.cons (.ifs (.and (.sub (.var 4) (.str 59)) (.and (.not (.sub (.var 5) (.str 59))) (.cmp .eq (.sub (.var 4) (.str 9)) (.str 39)))) (.cons (.asg 2 (.emp)) (.cons (.oQ (.aU (.var 1) 65 (.cons (.sub (.var 4) (.str 14)) (.cons (.int 0) (.cons (.call (.gf 53) (.cons (.var 5) .nil)) .nil)))) 3 (.aU (.var 2) 44 (.cons (.attr (.var 3) 76) .nil))) (.cons (.ifs (.cmp .ne (.var 2) (.lst (.cons (.bH [105,110,118,97,108,105,100,97,99,99,101,115,115]) .nil))) (.cons (.ret (.uB P8)) .nil) .nil) .nil))) .nil) .nil
theorem IJ(k:In G a c)(w:b∈c.bs)(y:bc∈c.bs)(i:6<=x)(Y D:O Q):∃d m v,aW (aC x) K' [S (.ab 1),S (.aA 0),Y,D,S (.ab b.d),S (.ab bc.d)] a=.ok (.next,[S (.ab 1),S (.aA 0),d,m,S (.ab b.d),S (.ab bc.d)],v)/\In G v c:=by
 refine hF λq=>?_;have r:aR a (.ab b.d) (.str 59)=S (.bool b.g):=ld (k.DD b w) rfl;have t:aR a (.ab bc.d) (.str 59)=S (.bool bc.g):=ld (k.DD bc y) rfl;have j:aR a (.ab b.d) (.str 9)=S (kS b.k):=ld (k.DD b w) rfl;obtain⟨g,k1,f⟩:∃X,kS b.k=.str X/\((X==39)=P4↔b.k=.row):=by
  induction J:b.k using Zr;·exact ba 39 rfl ⟨λU=>rfl,λU=>rfl⟩
  ·exact ba 8 rfl ⟨nofun,nofun⟩
  ·exact ba 36 rfl ⟨nofun,nofun⟩
 replace j:=k1▸j;refine z9 (b.g&&(!bc.g&&(g==39))) (λB=>?_) (λB=>?_);·refine q (C4 Y D a ?_ k);clear k k1 f;generalize b.g=o at *;generalize bc.g=l at *;refine z9 (g==39) (λe=>?_) (λe=>?_)<;>rw[e] at B<;>induction o using U6<;>induction l using U6<;>first|exact Qp B (by decide)|(clear B;walk_at "ev")
 ·refine bT (Vi.mp B) λh p=>bT (Vi.mp p) λp M=>?_;rw[Wf] at p;have n:=k.emp;have E:=Cw (m:=x) (b:=bc) (c:=c.cs bc.num) (n4 i rfl) (n.DD bc y) (n.MM bc y) (kC (k.P.gd bc y)).1.1;have s:=IH (m:=x) (c3:=c.cs bc.num) n.G i (n.MM b w) (n.MM bc y) h p;have P:aK (aL a []) (.aA 0) 65=S (.own 30):=n.G.rc rfl;have K:aR (aL a []) (.ab b.d) (.str 14)=S (bv b):=ld (n.DD b w) rfl;have L:({a with L:=a.L++[[]]}:AH)=aL a []:=rfl;have l1:(aL a []).L[a.L.length]? = S []:=eR;have C:=hL (x:=.bH [105,110,118,97,108,105,100,97,99,99,101,115,115]) l1 (by decide);have l2:(wL (aL a []) a.L.length ([]++[.bH [105,110,118,97,108,105,100,97,99,99,101,115,115]])).L[a.L.length]? = S [.bH [105,110,118,97,108,105,100,97,99,99,101,115,115]]:=cJ l1;have n1:=CK l2;have A:In G (wL (aL a []) a.L.length ([]++[.bH [105,110,118,97,108,105,100,97,99,99,101,115,115]])) c:=k.one;refine q (C4 (S (.aE a.L.length)) N _ ?_ A);have H:aK (aL a []) (.aE a.L.length) 44=S .bR:=rfl;have z:∀I,aG I (aL a []) (.exc (.bH [105,110,118,97,108,105,100,97,99,99,101,115,115])) 76=.ok (.bH [105,110,118,97,108,105,100,97,99,99,101,115,115],aL a []):=λI=>aS rfl;replace r:=h▸r;rw[p] at t;clear k n A k1 f B h p l1 l2;walk_at "ev"
theorem xA{m:Z}(k:In G a c)(hm:7<=m)(M:G<=14):∃H',aC m (.fn 58) [.ab 1] a=.ok (.bool P4,H'):=by
 refine hF λa5=>aM (fM hm) λT eZ K=>?_;subst eZ;have z3:=k.z3;have r:aR a (.ab 1) (.str 64)=S (.aA 0):=k.W.sub rfl;have n:=k.emp;have k0:dK (aC T) (aH C2.body 0) [S (.ab 1),N,N,N,N,N] a=.ok (.next,[S (.ab 1),S (.aA 0),S (.aE a.L.length),N,N,N],aL a []):=by dsimp only[C2,aH];walk_at "ev"
 have l1:(aL a []).L[a.L.length]? = S []:=eR;obtain⟨d,i,H2,k1,A⟩:∃d z3 H2,dK (aC T) (aH C2.body 1) [S (.ab 1),S (.aA 0),S (.aE a.L.length),N,N,N] (aL a [])=.ok (.next,[S (.ab 1),S (.aA 0),d,z3,N,N],H2)/\In G H2 c:=by
  refine hF λa6=>?_;have t:aR (aL a []) (.ab 1) (.str 70)=S (iJ c.gone):=n.W.sub rfl;refine oA c.gone (λI=>?_) (λo I=>?_);·rw[I] at t;have i1:isNone .none=S P4:=rfl;refine a6 (C4 (S (.aE a.L.length)) N (aL a []) ?_ n);dsimp only[C2,aH];clear k n k0 l1 I r;walk_at "ev"
  ·rw[I] at t;unfold iJ at t;have p:=zY (k.go o I).1;have c2:=II (m:=T) n.G (n4 K rfl) p;have p1:=hL (x:=.bH [105,110,118,97,108,105,100,114,101,115,116,111,114,101]) l1 (by decide);have l2:(wL (aL a []) a.L.length ([]++[.bH [105,110,118,97,108,105,100,114,101,115,116,111,114,101]])).L[a.L.length]? = S [.bH [105,110,118,97,108,105,100,114,101,115,116,111,114,101]]:=cJ l1;have n1:=CK l2;have A:In G (wL (aL a []) a.L.length ([]++[.bH [105,110,118,97,108,105,100,114,101,115,116,111,114,101]])) c:=k.one;have j:aR (wL (aL a []) a.L.length ([]++[.bH [105,110,118,97,108,105,100,114,101,115,116,111,114,101]])) (.ab 1) (.str 70)=S (.int o):=by have:=A.W.sub (x:=.str 70) (v:=iJ c.gone) rfl;rw[I] at this;exact this
   have a8:=Ih (m:=T) (q:=o) A.G (n4 K rfl);rw[p] at a8;refine a6 (C4 (S (.aE a.L.length)) N _ ?_ A);have i1:isNone (.int o)=S P8:=rfl;have X:aK (aL a []) (.aA 0) 71=S (.own 44):=n.G.rc rfl;have r2:aK (aL a []) (.aE a.L.length) 44=S .bR:=rfl;have r3:aK (wL (aL a []) a.L.length ([]++[.bH [105,110,118,97,108,105,100,114,101,115,116,111,114,101]])) (.aA 0) 77=S (.own 40):=A.G.rc rfl;have c3:∀cf,aG cf (aL a []) (.exc (.bH [105,110,118,97,108,105,100,114,101,115,116,111,114,101])) 76=.ok (.bH [105,110,118,97,108,105,100,114,101,115,116,111,114,101],aL a []):=λcf=>aS rfl;unfold YG at a8;dsimp only[C2,aH];clear k n A k0 l1 l2 I r p;walk_at "ev"
 refine a5 ?_;refine hF λb9=>?_;have w:∀{a:AH},In G a c->srcOf a (.aE c.kb)=S (.pQ c.kb,((c.bs.map (·.d)).map AV.ab).length)/\∀h,(Src.pQ c.kb).at h a=S ((c.bs.map (·.d)).map AV.ab)[h]?:=λb=>q7 b.W.b (by rw[U1,U1];exact n2 (U9 z3 M) rfl);have a4:∀{h:Z} {a0:AV},((c.bs.map (·.d)).map AV.ab)[h]? = S a0->∃E∈c.bs,a0=.ab E.d:=λ{h a0} a7=>by rw[V8,Vb,VA] at a7;refine aM a7 λE hb g6=>?_;subst g6;exact ba E (Va hb) rfl
 obtain⟨l3,v,x,⟨Y,D,B,L,rfl⟩,I3⟩:=tb (step:=λε C l a=>aW (aC T) (.cons (.dZ 5 (.sub (.var 0) (.str 58)) K') .nil) (l.set 4 (S C)) a) (s:=.pQ c.kb) (Q:=λl a=>(∃Y D B L,l=[S (.ab 1),S (.aA 0),Y,D,B,L])/\In G a c) (λl a q=>(w q.2).2) (λh a0 l a g q=>by refine hF λa9=>bT q λlR b=>Gh lR λY D B L KD=>?_;clear lR;subst KD;refine aM (a4 g) λE hb m3=>?_;subst m3;obtain⟨l4,H4,P,⟨u2,u3,u5,rfl⟩,J4⟩:=tb (step:=λε C l a=>aW (aC T) K' (l.set 5 (S C)) a) (s:=.pQ c.kb) (Q:=λl a=>(∃Y D L,l=[S (.ab 1),S (.aA 0),Y,D,S (.ab E.d),L])/\In G a c) (λl a q=>(w q.2).2) (λh a0 l a g q=>by refine hF λc1=>bT q λpU b=>?_;clear a5 q r l1 hm M;obtain⟨Y,D,L,rfl⟩:=pU;refine aM (a4 g) λc4 y wi=>?_;clear q h g;subst wi;refine Aa (IJ b hb y K Y D) λu2 u3 H U J=>c1 ?_;exact uK _ H U (KP u2 u3 _ rfl) J) _ 0 [S (.ab 1),S (.aA 0),Y,D,S (.ab E.d),L] a rfl ⟨(KP Y D L rfl),b⟩;refine a9 (uK _ H4 ?_ ⟨u2,u3,S (.ab E.d),u5,rfl⟩ J4);dsimp only[V.set_cons_succ,V.set_cons_zero];rw[aX (kP (si (x:=0) rfl (b.W.sub rfl)) (w b).1 P)];rfl) _ 0 [S (.ab 1),S (.aA 0),d,i,N,N] H2 rfl ⟨⟨d,i,N,N,rfl⟩,A⟩;have k2:=kP (cf:=aC T) (x:=4) (e:=.sub (.var 0) (.str 58)) (l:=[S (.ab 1),S (.aA 0),d,i,N,N]) (si (x:=0) rfl (A.W.sub rfl)) (w A).1 x;have so:=I3.so (m:=T) (n4 K rfl);refine b9 ⟨v,?_⟩;rw[aN (f:=C2) [S (.ab 1),N,N,N,N,N] rfl rfl];show(aW _ (.cons (aH C2.body 0) (.cons (aH C2.body 1) (.cons (.dZ 4 (.sub (.var 0) (.str 58)) (.cons (.dZ 5 (.sub (.var 0) (.str 58)) K') .nil)) (.cons (.ret (.call (.gf 57) (.cons (.var 0) .nil))) .nil)))) _ a).bind _=_;rw[aX k0,aX k1,aX k2];clear k n A I3 k0 k1 k2 x w a4;walk_at "ev"
noncomputable def NJ:MG:=⟨P8,0,.aE 2,0,0,0,0⟩
noncomputable def H0:AH:=⟨[[],[],[],[],[]],[[],wV 3 4 .none],[],[(.Mem,cR NJ)]⟩
noncomputable def NK:Sg:=⟨NJ,[],[],[],3,4,N,[],λU=>0,λU=>⟨[],[],0,0⟩,λU=>⟨.row,0,P8,0,0,0⟩⟩
theorem Pq:In 0 H0 NK:=
 ⟨rfl,⟨rfl,rfl,rfl,rfl,by decide,by decide,by decide,by decide⟩,⟨rfl,rfl,rfl,by decide,by decide,by decide,by decide,by decide⟩,(VE _),(VE _),⟨(VE _),(VE _)⟩,by decide,by decide,(VE _),(VE _),(VE _),
  ⟨WL,(VE _),(VE _),(VE _),(VE _),trivial,λP d B=>nX B,λP M d K U B=>nX B⟩,rfl,(VE _),WL,(VE _),(λU B=>nX B),by decide,by decide,by decide,by decide,by decide,(VE _)⟩
theorem IK{a:Q}:dK gE (aH rK.body 0) [S a,N,N,N,N] {}=.ok (.next,[S a,S (.ab 1),N,N,N],H0):=rfl
theorem CL(B:a.L[o]? = S ai):cW (aL a []) .eq (.aE o) (.aE a.L.length)=S (Qd (ai=[])):=by
 show(match (aL a []).L[o]?,(aL a []).L[a.L.length]? with|some I,S n=>C0 I n|none,N=>eqT (.aE o) (.aE a.L.length)|_,_=>N)=_;refine R (show(aL a []).L[o]? = S ai from fB B) ?_;refine R (show(aL a []).L[a.L.length]? = S [] from eR) ?_;clear B;induction ai using U5 with
 |nil=>rfl
 |cons I x=>refine(Qm (Qj rfl)).trans ?_;refine R (QJ (Qj rfl)) rfl
noncomputable abbrev fS(A:P5):P5:=((A.natAbs:P5)).fmod 1000000
noncomputable abbrev sk(A:P5):P5:=(fS A).fmod 10
noncomputable abbrev sr(A:P5):P5:=(fS A).fdiv 10
theorem KG{A:P5}{b:O Q}(B:dG gE ae ca [b,S (.ab 1),S (.int (fS A)),S (.int (sk A)),S (.int (sr A))] a=J):dG gE ae (.cons (.a (aH (bodyOf sh) 0)) (.cons (.a (aH (bodyOf sh) 1)) ca)) [b,S (.ab 1),S (.int A),fh,fi] a=J:=by
 have b1:bK a .int [.int A]=S (.int A,a):=rfl;have b2:bK a .abs [.int A]=S (.int A.natAbs,a):=rfl;have b3:cK .pow (.int 10) (.int 6)=S (.int 1000000):=rfl;have b4:cK .mod (.int A.natAbs) (.int 1000000)=S (.int (fS A)):=sj (by decide);have b5:cK .mod (.int (fS A)) (.int 10)=S (.int (sk A)):=sj (by decide);have b6:cK .fdiv (.int (fS A)) (.int 10)=S (.int (sr A)):=vW (by decide) (by decide);have k0:dK gE (aH (bodyOf sh) 0) [b,S (.ab 1),S (.int A),fh,fi] a=.ok (.next,[b,S (.ab 1),S (.int (fS A)),fh,fi],a):=by dsimp only[sh,rK,aH,bodyOf];clear b5 b6 B;generalize fS A=g at *;walk_at "ev"
 have k1:dK gE (aH (bodyOf sh) 1) [b,S (.ab 1),S (.int (fS A)),fh,fi] a=.ok (.next,[b,S (.ab 1),S (.int (fS A)),S (.int (sk A)),S (.int (sr A))],a):=by dsimp only[sh,rK,aH,bodyOf];clear k0 b1 b2 b3 b4 B;generalize sk A=i at *;generalize sr A=d at *;generalize fS A=g at *;walk_at "ev"
 exact vZ (I6 k0) (vZ (I6 k1) B)
theorem E3{f:Sg}{c:P5}{sc:O Q}{x3:O Q}{x4:O Q}(k:In G a f)(M:G<=13):∃p H' e,dG gE (only (.fn 52) nW) BS [sc,S (.ab 1),S (.int c),x3,x4] a=.ok (.next,sc :: S (.ab 1) :: p,H')/\p.length=3/\In (G+1) H' e:=by
 have C:aR a (.ab 1) (.str 58)=S (.aE f.kb):=k.W.sub rfl;have q:∃z E,gS gE (only (.fn 52) nW) (.ifs (eH qV) (.cons (.exp (.call (.fn 52) (oZ (CW (aH (fx qV) 0))))) .nil) (.cons (.a (aH (dM qV) 0)) .nil)) [sc,S (.ab 1),S (.int (fS c)),S (.int (sk c)),S (.int (sr c))] a=.ok (.next,[sc,S (.ab 1),S (.int (fS c)),S (.int (sk c)),S (.int (sr c))],z)/\In (G+1) z E:=by
  generalize fS c=g;generalize sk c=i;generalize sr c=d;have l:∀{z:AH},In G z f->aO gE (eH qV) [sc,S (.ab 1),S (.int g),S (.int i),S (.int d)] a=.ok (.bool P4,z)->∃s X,gS gE (only (.fn 52) nW) (.ifs (eH qV) (.cons (.exp (.call (.fn 52) (oZ (CW (aH (fx qV) 0))))) .nil) (.cons (.a (aH (dM qV) 0)) .nil)) [sc,S (.ab 1),S (.int g),S (.int i),S (.int d)] a=.ok (.next,[sc,S (.ab 1),S (.int g),S (.int i),S (.int d)],s)/\In (G+1) s X:=λ{z} b D=>by refine cN (ER (way:=i.fmod 4) (rest:=d) b (by exact n3 M rfl)) λs X e2 K=>?_;refine eP s X ?_ K;refine Kt D (Ph rfl ?_);have m4:cK .mod (.int i) (.int 4)=S (.int (i.fmod 4)):=sj (by decide);dsimp only[qV,sh,rK,aH,bodyOf,fx,CW,oZ];have e2:=(RX (RX (show only (.fn 52) nW (.fn 52)=nW from Qk rfl) _) _).trans e2;clear k b K D C;walk_at "ev"
  have H:∀{z s:AH},aO gE (eH qV) [sc,S (.ab 1),S (.int g),S (.int i),S (.int d)] a=.ok (.bool P8,z)->dK gE (aH (dM qV) 0) [sc,S (.ab 1),S (.int g),S (.int i),S (.int d)] z=.ok (.next,[sc,S (.ab 1),S (.int g),S (.int i),S (.int d)],s)->gS gE (only (.fn 52) nW) (.ifs (eH qV) (.cons (.exp (.call (.fn 52) (oZ (CW (aH (fx qV) 0))))) .nil) (.cons (.a (aH (dM qV) 0)) .nil)) [sc,S (.ab 1),S (.int g),S (.int i),S (.int d)] a=.ok (.next,[sc,S (.ab 1),S (.int g),S (.int i),S (.int d)],s):=λ{z s} T e2=>by exact Kt T (Pj rfl (vZ (I6 e2) rfl))
  have n:=k.emp;have L:({a with L:=a.L++[[]]}:AH)=aL a []:=rfl;have y:=CL k.W.b;have a0:i<4\/(¬i<4/\aO gE (eH qV) [sc,S (.ab 1),S (.int g),S (.int i),S (.int d)] a=.ok (.bool (Qd ((f.bs.map (·.d)).map Q.ab=[])),aL a [])):=by
   by_cases B:i<4;·exact .inl B
   ·have h:=QJ B;refine .inr ⟨B,?_⟩;dsimp only[qV,sh,rK,aH,bodyOf,eH];clear k n l H B;walk_at "ev"
  rcases a0 with B|⟨B,U⟩;·have h:=Qu B;refine l k ?_;dsimp only[qV,sh,rK,aH,bodyOf,eH];clear k n l H B;walk_at "ev"
  ·by_cases w:f.bs=[];·rw[w] at U;exact l n U
   ·rw[QJ (by simpa using w)] at U;have w1:aR (aL a []) (.ab 1) (.str 25)=S (.aE f.jJ):=n.W.sub rfl;by_cases r:i<8;·refine cN (xy (m:=10) (way:=i) (rest:=d) n (by exact n3 M rfl) w (by decide)) λs X e2 K=>?_;refine⟨s,X,H U ?_,K⟩;have d8:=Qu r;have e2:gE (.fn 54) [.ab 1,.int i,.int d] (aL a [])=.ok (.none,s):=e2;dsimp only[qV,sh,rK,aH,bodyOf,dM];clear k n l H B U K r w;walk_at "ev"
    ·have d8:=QJ r;have Y:(⟨(aL a []).L++[[]],(aL a []).D,(aL a []).B,(aL a []).I⟩:AH)=aL (aL a []) []:=rfl;have A:=n.emp;have cs:=CL n.W.s;have J:∀{v:AH},In G v f->(Qd (i=8)=P4/\v=aL a []\/Qd (i=8)=P8/\f.svs=[]/\v=aL (aL a []) [])->∃s X,dK gE (aH (dM qV) 0) [sc,S (.ab 1),S (.int g),S (.int i),S (.int d)] (aL a [])=.ok (.next,[sc,S (.ab 1),S (.int g),S (.int i),S (.int d)],s)/\In (G+1) s X:=λ{v} b I=>by
      refine cN (CB (m:=10) b (by exact n3 M rfl) (by decide)) λs X e2 K=>?_;have e2:gE (.fn 56) [.ab 1] v=.ok (.none,s):=e2;refine⟨s,X,?_,K⟩;dsimp only[qV,sh,rK,aH,bodyOf,dM];rcases I with⟨h1,rfl⟩|⟨h1,h2,rfl⟩;·clear k n A l H B U K r w b cs;walk_at "ev"
      ·rw[h2] at cs;change cW (aL (aL a []) []) .eq (.aE f.jJ) (.aE (aL a []).L.length)=S P4 at cs;clear k n A l H B U K r w b h2;walk_at "ev"
     by_cases o:i=8;·refine cN (J n (.inl ⟨Qu o,rfl⟩)) λs X e2 K=>?_;exact⟨s,X,H U e2,K⟩
     ·by_cases P:f.svs=[];·refine cN (J A (.inr ⟨QJ o,P,rfl⟩)) λs X e2 K=>?_;exact⟨s,X,H U e2,K⟩
      ·refine cN (vS (m:=10) (rest:=d) A (by exact n3 M rfl) (by decide) P) λs X e2 K=>?_;have e2:gE (.fn 55) [.ab 1,.int d] (aL (aL a []) [])=.ok (.none,s):=e2;refine⟨s,X,H U ?_,K⟩;have t:=QJ o;rw[QJ (by simpa using P)] at cs;dsimp only[qV,sh,rK,aH,bodyOf,dM];clear k n A l H B U K r w P o J;walk_at "ev"
 refine cN q λz E T b=>?_;have x:=b.so (m:=10) (by decide);have x:gE (.fn 57) [.ab 1] z=.ok (.bool P4,z):=x;refine oS [S (.int (fS c)),S (.int (sk c)),S (.int (sr c))] z E ?_ rfl b;have j:dK gE (aH (bodyOf sh) 3) [sc,S (.ab 1),S (.int (fS c)),S (.int (sk c)),S (.int (sr c))] z=.ok (.next,[sc,S (.ab 1),S (.int (fS c)),S (.int (sk c)),S (.int (sr c))],z):=by dsimp only[sh,rK,aH,bodyOf];clear k b T C;walk_at "ev"
 exact KG (vZ T (vZ (I6 j) rfl))
theorem IL{sc:Q}{xs r:V Q}:∀(s i:Z) (c j p:O Q) (y:AH) (f:Sg),xs.drop s=r->(∀I∈r,∃A,I=.int A)->In i y f->i+r.length<=14->
  ∃h o G v e g,cM (λU C l y=>dG gE (only (.fn 52) nW) BS (l.set 2 (S C)) y) (.eW xs) (r.length+1) s [S sc,S (.ab 1),c,j,p] y=.ok (.next,[S sc,S (.ab 1),h,o,G],v)/\In g v e/\g<=14:=by
 induction r with
 |nil=>exact λs i c j p y f a H k M=>⟨c,j,p,y,f,i,HM (Ql S (FH a)),k,M⟩
 |cons I r x=>intro s i c j p y f a H k M;refine eK (H I (.head _)) λA bP=>?_;replace M:i+(r.length+1)<=14:=M;refine eM (E3 (sc:=S sc) (c:=A) (x3:=j) (x4:=p) k (Z.le_of_succ_le_succ (U9 (WE (Vu i r.length)) M))) λl' z E T hl b=>?_;obtain⟨Y,D,B,t⟩:=GI hl;obtain⟨d,m,w,H2,X,L,e2,K,P⟩:=x (s+1) (i+1) Y D B z E (FJ a) (λn J=>H n (.tail _ J)) b (by exact U9 (Vq (WV i 1 _)) M);exact⟨d,m,w,H2,X,L,Ae (Ql S (FI a)) (bP▸t▸T) (B9 e2),K,P⟩
theorem zZ(k:V P5)(P:k.length<=63):∃y,Km k=.ok (.bool P4,y):=by
 refine hF λe=>?_;obtain⟨c,j,i,z,E,b,T,n,h⟩:=IL (sc:=.lst (k.map .int)) (xs:=(k.map Q.int).take 14) (r:=(k.map Q.int).take 14) 0 0 N N N H0 NK rfl (λI H=>by refine aM (VF.mp (XH H)) λA U cQ=>?_;clear H;subst cQ;exact⟨A,rfl⟩) Pq (by rw[Wa];exact U9 (Vq (W7 _)) (Wh ..));refine eK (xA (m:=10) n (by decide) h) λs l=>?_;have l:gE (.fn 58) [.ab 1] z=.ok (.bool P4,s):=l;refine e ?_;refine⟨s,?_⟩;have d:eU H0 (.lst (k.map .int)) N (S (.int 14))=S (.lst ((k.map Q.int).take 14),H0):=FU (p:=14) (by rw[U1];exact n2 P rfl) (by decide);have g:aO gE (xj sh) [S (.lst (k.map .int)),S (.ab 1),N,N,N] H0=.ok (.lst ((k.map Q.int).take 14),H0):=by dsimp only[sh,rK,aH,xj];generalize (k.map Q.int).take 14=B at *;generalize Q.lst (k.map .int)=a at *;walk_at "ev"
 have o:srcOf H0 (.lst ((k.map Q.int).take 14))=S (.eW ((k.map Q.int).take 14),((k.map Q.int).take 14).length):=(vR (by rw[Wa];exact n2 (Wh ..) rfl)).1;have f:dK gE (aH rK.body 2) [S (.lst (k.map .int)),S (.ab 1),c,j,i] z=.ok (.ret (.bool P4),[S (.lst (k.map .int)),S (.ab 1),c,j,i],s):=by dsimp only[rK,aH];clear T n d g o;walk_at "ev"
 have G:dG gE (only (.fn 52) nW) Kk [S (.lst (k.map .int)),N,N,N,N] {}=.ok (.ret (.bool P4),[S (.lst (k.map .int)),S (.ab 1),c,j,i],s):=vZ (I6 IK) (NH (vZ (Pk g o T) (NH (vZ (I6 f) Pg))));show CX rK (dG gE (only (.fn 52) nW) Kk) [.lst (k.map .int)] {}=_;exact xn [S (.lst (k.map .int)),N,N,N,N] rfl G rfl
end
section
open PySem PySem.W PyProof.Rows
section
open PySem.Calls
theorem E4:LR.prog=PR:=rfl
theorem KH:LeftO LR.prog lF kA (λU=>P4) (λd=>YH d.heap) (λU=>Qw) 4900:=by rw[E4];exact Kn
theorem CM:chainsOk lF=P4:=by decide +kernel
theorem E5:opensWell LR.prog=P4:=by decide +kernel
theorem E6:frees LR.toRowW=P4:=by decide +kernel
theorem IM:OpenLaw.wellSaid PySem.Challenge.rw_nt0500_01=P4:=by decide +kernel
theorem IP:LR.prog.bare:=⟨rfl,rfl,rfl,rfl,rfl,by decide +kernel⟩
theorem KI:∃y e,defOf lF LR.name=S (y,e)/\LR.prog.theDef LR.name=S (y.params,y.body,y.scope)/\kwWritten? y.params.kwonlyargs y.params.kw_defaults=S e:=⟨_,_,by rfl,by rfl,by rfl⟩
theorem CN(B x:Qb)(n:YH B)(X:∀E z,B.get? E=S z->x.get? E=S z):YH x:=aM n λa k1 f=>ba a (λL z D=>X L z (k1 L z D)) f
theorem z0(a:LR.wellSaid=P4)(hw:LR.toRowW.promised):LR.Holds:=by
 refine z' (frees_parts E6) λb9 hu ha c3 hm=>?_;have l:=λk=>KH.behind (XP:=λU U=>Qw) (λU U=>trivial) CM k;refine LK a hw ⟨IP,E5,rfl⟩ hw.witness (λk=>⟨(l k).1,λs' a2=>?_⟩);refine hF λa8=>?_;obtain⟨a9,J,x,d,b,hz,H,I,m,n⟩:=(l k).2 s' a2;clear l a2;have RF:RecFacts LR.records d.heap:=recFacts_nil rfl;refine a8 ?_;refine⟨a9,J,x,d,b,λa0 hn=>?_,RF.1,RF.2.1,λL a6 a4 ord z=>?_⟩
 ·refine rL KI λc8 c6 h1 h2 t=>?_;obtain rfl:a0=LR.name:=by split at hn<;>simp_all
  exact pinned_of_view I m h1 h2 t
 refine hF λi=>?_;have H:=Qi.eq_empty_of_size_eq_zero (Ra.mp H);have A:=RF.ground m;clear a8 m J x b I;refine eK (Xo.mp (layAllW_isSome (P:=k.params) (ord:=ord) A.has L LR.args d (pre_splitW a6).1)) λbP E=>?_;obtain⟨w,G⟩:=bP;have a1:=layAllW_keeps _ _ _ E;have f:=layAllW_rest _ _ _ E;refine rB (reads_layAllW z _ _ _ E a4 G.heap (λU U D=>D)) λas g a7 a3=>?_;have a5:Laid LR.records k d G L w as:=⟨⟨ord,z,E⟩,g,a7,a3,a1,f.1.trans H,f.2.2.1⟩;have v:=A.keeps (λU U U U U=>trivial) a1;clear g a7 a3 RF A z a4;refine aM (BY zZ v (CN _ _ (of_eq_true n) a1) a6 a5) λr J B=>?_;obtain⟨a0,j,K,y,hs,hr,c1,⟨⟨C,rfl⟩,o⟩⟩:=HD (prog:=LR.prog) (w:=k) (R:=λj K=>(∃C,j=.ok (.ret C))/\GoodWG LR.toRowW.claim (classAt d.heap) (ExcName.means d.heap) L G j K) (show G.asleep from Qh.asleep_of_life f.2.2.2 hz)
  (t:=do match<-nsGet mainNs LR.name with
   |some r=>do ret (<-PySem.call r w)
   |none=>unsupported "claim.caller:no-such-global")
  (aJ (wpAny_nsGet v.T.g (by refine R J ?_;refine bV (mG (gP B λj K n=>?_));refine bT n λcQ o=>?_;obtain⟨C,rfl⟩:=cQ;exact vo ⟨_,rfl,⟨⟨_,rfl⟩,o⟩,leftWithCleanup_false_of_bare o.2.2.2⟩)))
 clear B J v n;refine z' (Qh.forget_eq c1) λeh U U p U=>?_;refine hO (o.laid (c:=LR.toRowW.claim) b9 rfl (ident_freeW hu ha c3) a5) λe M U=>?_;rw[<-p] at M;refine i ?_;refine⟨w,G,E,a0,_,y,hs,?_,λU c5 c9 hx=>by rw[H] at hx;exact nX hx,(λY=>nomatch Y),by refine R ((runN_life _ _ _ hr).trans f.2.2.2) rfl,Qh.rest_eq M⟩;refine hF λs=>?_;rcases(e.congr eh) with⟨C,D,d1,d2,X,h,d5⟩|⟨D,ob,c7,T,_⟩;·cases D;refine s ?_;exact .inl ⟨_,rfl,d1,d2,X,λc2 c4 n U=>h c2 c4 n,d5⟩
 ·cases T
end
end
end Mine.Lake
open PySem PySem.W PyProof.Rows
set_option maxHeartbeats 8000000 in
theorem PySem.Challenge.cw_nt0500_01_holds : PySem.Challenge.rw_nt0500_01.Holds := by
 refine holds_law Mine.Lake.IM fun MH=>?_
 refine Mine.Lake.z0 MH ?_
 w_witness2
end
