import PyProof.Rows.All
import OpenK.AllK
import Open.Split
import Wide.BytesRules
import Lean
import PySem.Challenge.RW_nt0500_01
set_option maxRecDepth 100000
set_option Elab.async false
set_option linter.all false
set_option tactic.hygienic false
set_option maxHeartbeats 4000000
set_option genSizeOf false
set_option genInjectivity false
set_option compiler.extract_closed false
set_option bootstrap.genMatcherCode false
noncomputable section
set_option backward.match.sparseCases false
set_option genCtorIdx false
namespace Mine.Lake
open Option renaming some->S,none->N,casesOn->Ry,map_eq_some_iff->Sb,bind_eq_some_iff->SQ,bind_some->TG,map_some->Ud,isNone_iff_eq_none->Ug,isSome_iff_exists->Um,map->UE,bind->Vl,isSome->VD
open _root_ renaming List->V,Nat->Z,Option->O,Int->MN,Bool->MP,Array->M5,of_decide_eq_true->M8,if_pos->Nb,congrArg->Nc,if_neg->Nf,absurd->Nh,decide_eq_true->Nn,UInt8->Np,True->Nq,False->Nx,decide_eq_false->NH,Unit->NP,Prod->NU,beq_iff_eq->N',String->Oe,if_false->Oj,not_or->Om,or_false->OG,congrFun->OI,Decidable->OJ,beq_eq_false_iff_ne->OK,decide_eq_true_eq->OU,beq_false_of_ne->OW,ForInStep->O4,DecidableEq->O7,beq_self_eq_true->Pc,decide_eq_decide->Pw,if_true->PG,dif_neg->PS,of_decide_eq_false->Q6,ne_true_of_eq_false->Q9,decide_eq_true_iff->Ra,bne_self_eq_false->Rt
open Bool renaming true->ML,false->MT,casesOn->RE,and_eq_true_iff->RT,false_ne_true->RX,or_eq_true_iff->Sz,false_eq_true->SU,not_eq_true'->Ta,and_eq_true->Tp,or_eq_false_iff->UD,and_false->UO,eq_false_iff->U5,or_eq_true->Vk,and_eq_false_iff->Vv,false_or->VE,not_false->Wc
open PySem renaming Value->MO,Expr->MQ,wpAny_bind->MR,Addr->MS,Str->MU,Heap->MV,Shared->MW,model->MY,wpAny->MZ,wpAny_pure->M0,Stmt->Na,Env->Ng,Pos->Ni,World->Nj,wpAny_mono->Nk,Obj->Nl,Sem->Nm,compEnvC->Nr,DictEntry->Nt,Program->Nv,Around->Nw,wpAny_holding->Ny,NameKind->Nz,cLine->NB,Scope->NC,Flow->NG,FuncData->NJ,codeAny->NK,Builtin->NL,Tok->NM,wpAny_of_eq->NN,mainGlobals->NO,Result->NQ,starEach->NT,backTo->NW,wpAny_standAt->NX,Data->NY,Model->N0,sizeLine->N1,wpAny_call_entry->N2,call->N3,swapsWith->N4,Code->N5,callEnvC->N6,PyData->N7,sizeLine_eq->N9,Params->Oa,wpAny_specialOf->Ob,typeLookup_type->Od,typeLookup->Of,BoolOp->Og,table->Oh,execs->Oi,wpAny_execs_nil->Ol,isSubtype->Oo,wpAny_callSpecial?_slot->Ot,isSubtype_type->Ou,wpAny_newObj_type->Ov,entryFor->Ow,argsOk->Ox,wpAny_load->Oy,assignEach->Oz,wpAny_truthy_bool->OB,sysModules->OC,pyNext->OE,leaving->OF,clipAt->OM,wpAny_call->ON,wpAny_attempt->OO,wpAny_field->OP,assign->OQ,OsState->OR,cellsFrom->OS,Const->OT,treeTable->OV,wpAny_isInstance->OX,wpAny_dictEntries->OY,wpAny_rule->OZ,spliced->O1,codeAny_mono->O2,wpAny_loadPart->O3,bm_if_false->O5,importedModules->O6,Operator->O8,wpAny_Name->O9,wpAny_loadName_local->O',isInstance->Pa,getItem->Pd,getAttr->Pf,firstArgMember->Ph,interactive->Pj,swappedStores->Pk,letOwnedTupleGo->Pl,FuncBody->Pm,denote->Pn,reduceHash->Pp,typeIs_str->Pq,eqBool->Pr,wpAny_mkInt->Pt,slot_dict_getitem->Px,compareOp->Py,setItem->Pz,holding->PA,callWith->PE,entryFor_of_tree->PH,pyIter->PI,wpAny_setField->PJ,wpAny_execs_cons->PK,setAttr->PL,cameBackBy->PM,wpAny_assign_Name->PN,GenState->PO,typeOf->PQ,callerA->PT,wpAny_ite_split->PW,call_gives->PX,dictGet->PY,wpAny_sequenceKey->PZ,wpAny_point->P0,raiseNew->P1,slicePick->P4,behindInMarks->P5,builtinLookup_eq_fast->P8,getMethod_builtin->Qa,storeName->Qb,wpAny_lookBehind->Qc,wpAny_assign_Tuple->Qe,wpAny_passesOwn->Qf,PassesOwn->Qg,wpAny_pyIter_list->Qh,newFunctionEnv->Qi,wpAny_typeNameOfWhole_keyiter->Qj,callAny->Qk,seqItems?->Ql,builtinsNs->Qv,wpAny_askSetting->Qw,tupleKeyHash->Qx,tupleKind->Qy,slot_dict_contains->Qz,wpAny_notOrdered_dict->QA,callSpecial?->QB,wpAny_letGo->QC,slot_list_getitem->QD,recursionLimit->QE,wpAny_mkText->QF,getMethod->QH,newFields->QJ,wpAny_pyIter_slot->QK,wpAny_handled->QL,wpAny_throw->QM,isSubtype_stop->QN,wpAny_Expr_any->QO,typeIs_int->QP,wpAny_update->QR,assignInOrder->QT,plainObj_wpAny_Assign_Attribute->QU,bootBuiltins->QV,wpAny_comprehension_free->QW,wpAny_dictEpoch->QX,codeAny_of_tree->QY,plainId_quiet->QZ,ClassData->Q0,specialOf->Q1,checkBuiltinCall->Q2,bindSpecial->Q3,entry_typeCall->Q4,wpAny_loadName_cell->Q7,wpAny_loadName_free->Q8,wpAny_pyHash_str->Q',wpAny_dictFind_of->Rb,wpAny_updateDictKeys->Rc,slot_dict_setitem->Rd,getitemInPython_of_ne->Rf,wpAny_operating->Rg,wpAny_letTemporaryGo->Rh,wpAny_List_spliced->Ri,codeAny_call_builtin->Rj,arm_eval_Attribute->Rk,slot_listiter_next->Rl,underTheClaimsCaller->Rm,slot_list_setitem->Rn,wpAny_updatePart->Ro,pastItsLine_dict->Rp,wpAny_pyIter_listiter->Rq,wpAny_isOneOf_keyiter->Rr,codeAny_call_function->Ru,leftWithCleanup->Rv
open Decidable renaming decide->MX
open PySem.W renaming Looks->Nu,Frag->NA,instObj->ND,emptyDict->NI,any_some->NR,nsIn->NZ,findIn->N8,typeIn->Oc,boot_heap->Oq,SharedT->OA,clsIn->OD,WData->OH,typeIs_bytes->Pb,keepIn->Pe,looks_findIn->Pg,topRun->Po,takerIn->PB,lookIn->PC,keeps_K->PF,WShape->PU,topStub->PV,specialIn->P6,check_slot->P9,looks_mroIn->P',looks_clsIn->Qd,makesIn->Qm,through->Qn,boot_drawn->Qo,boot_toks->Qp,staticsOk->Qq,namesBound->Qr,gensDone->Qs,laidKept->Qt,openGood->Qu,callWith_of->QG,hideAll_none->Q5,wellAll_cons_inv->Rw,ownOf->Wb
open LawfulBEq renaming eq_of_beq->OL
open PyProof.Rows renaming subscriptTail->O0,Subscript_->P2,append_at->QI,callWith_type->UZ,getItem_tuple->Wd,neg_int->Wh,lt_int->Wi,le_int->Wj,gt_int->Wk,ge_int->Wl
open PySem.Calls renaming Name_function_global->PD,loadGlobal_global->P7
open List renaming mem_singleton->Rx,length_map->Rz,getElem?_eq_getElem->RB,mem_cons->RC,casesOn->RD,length_append->RF,getElem?_eq_some_iff->RG,mem_of_getElem?->RJ,getElem?_map->RK,mem_append_left->RL,mem_append->RM,mem_append_right->RP,nodup_cons->RW,count_eq_zero_of_not_mem->R1,mem_map_of_mem->R3,map_cons->R5,getElem?_set_ne->R7,map_append->R8,count_append->R',count_pos_iff->Sa,all_eq_true->Sh,forall_mem_nil->Si,mem_map->Sj,getElem?_eq_none->Sk,nodup_append->Sm,append_assoc->Sn,length_reverse->Sr,exists_cons_of_length_eq_add_one->Sw,append_nil->Sy,not_mem_nil->SA,lookup_cons->SH,mem_iff_getElem?->SJ,map_map->SX,length_cons->S0,length_take->S4,length_set->Tb,getElem?_append_left->Td,set_set->Tf,getElem?_set_self->Th,range->Ti,getElem?_append_right->To,isEmpty_iff->Tq,contains_iff_mem->Ts,filterMap_map->Tt,filterMap_eq_map->Tu,length_drop->TF,nodup_nil->TL,filter_cons->TO,filterMap_cons->TP,forIn_cons->TX,mem_filterMap->TY,mem_filter->TZ,count_cons_self->T9,lookup->Ua,foldl_cons->Ue,nil_append->Uh,findIdx?_cons->Uj,getElem?_take_of_lt->Ul,getElem?_set_self'->Up,length_eq_zero_iff->Uq,getElem?_set->Ur,reverse_cons->Us,drop_eq_nil_of_le->Ut,length->Uu,set_comm->Uw,length_filter_le->Uz,length_singleton->UA,getElem?_append->UB,mem_of_mem_take->UG,eq_nil_of_length_eq_zero->UI,filter_eq_self->UK,map_congr_left->UL,filter_sublist->UM,replicate->UN,forIn_nil->UP,mem_zipIdx_iff_getElem?->UQ,getElem?_concat_length->UR,map_singleton->UT,getD_eq_getElem?_getD->UU,map_take->UX,getElem?_inj->U4,any_eq_false->U6,drop_eq_getElem_cons->U7,mem_take_iff_getElem->U8,append_eq_append_iff->U9,find?_cons->Vh,count_cons->Vi,getElem?_reverse->Vw,count_cons_of_ne->Vy,mem_range->Vz,set_getElem_self->VA,any_cons->VC,length_pos_iff->VG,map_set->VN,map_nil->VO,filter_append->VQ,length_range->VW,getElem_drop->VX,map_id->V1,getElem_zip->V5,cons_append->V6,getElem_map->V8
open PySem.Heap renaming get?_push_of_some->RA,get?_push_size->R4,get?_update_self->R9,SameBut->Sx,lt_size->SF,get?_none_of_le->SV,get?_update_other->S9,size_push->Vx,FlyingW->VJ
open Nat renaming le_trans->RH,lt_of_le_of_lt->RO,lt_of_lt_of_le->RS,lt_irrefl->RV,casesOn->RY,le_of_eq->R2,le_add_right->R6,le_refl->Sd,le_of_ble_eq_true->Se,le_succ->So,lt_succ_self->SD,le_succ_of_le->SN,le_add_left->SR,ble->SY,ne_of_gt->S7,min_le_left->Tc,ne_of_lt->Te,le_of_lt->Tg,not_lt->Tj,add_le_add_right->Tw,add_le_add_left->TA,succ_le_succ->TC,lt_of_lt_of_eq->TJ,add_right_comm->TV,le_of_lt_succ->T1,zero_add->T5,min_le_right->T8,mul_le_mul_left->Ub,add_sub_cancel'->Uc,not_le->Uo,succ_lt_succ->Ux,eq_of_beq_eq_true->Uy,not_lt_zero->UC,lt_succ_of_lt->U3,succ_pos->Va,succ_ne_self->Vb,lt_add_of_pos_right->Ve,le_antisymm->Vf,min_eq_left->Vg,zero_le->Vo,le_add_right_of_le->Vq,sub_le_iff_le_add->Vt,le_of_sub_eq_zero->Vu,add_assoc->VB,add_lt_add_left->VF,lt_trans->VL,sub_self->VP,sub_sub_right->VS,le_of_succ_le->VV,lt_succ_of_le->VY,one_pos->VZ,min_eq_right->V2,lt_of_not_le->V7,sub_lt->V9,blt_eq->Wa
open Array renaming length_toList->RI,getElem?_toList->SK,getElem?_eq_getElem->Tv,mk->T',eraseIdxIfInBounds->Ui,toList_setIfInBounds->UY,getElem?_eq_some_iff->U1,getElem?_eq_none->Vm,any_toList->V3
open Int renaming natCast_nonneg->RQ,ofNat_lt->RU,le_trans->SW,ofNat_le->S6,eq_ofNat_of_zero_le->TQ,toNat->TR,lt_of_lt_of_le->TS,not_lt->TU,toNat_natCast->T2,mul_le_mul_of_nonneg_left->UH,toNat_of_nonneg->UJ,ofNat_inj->U2,ne_of_gt->U',le_refl->Vp,fmod_nonneg_of_pos->Vr,add_le_add->Vs,ofNat->VH,lt_of_le_of_lt->VI,le_of_lt->VK
open True renaming intro->RZ
open Option.some renaming inj->Sl,injEq->VT
open PySem.Heap.SameBut renaming update->Sq
open PySem.PyData renaming keyHash->Su
open PySem.Expr renaming ctorIdx->SG,casesOn->T3
open PySem.Flow renaming casesOn->SI
open UInt8 renaming toNat->SM,ofNat->V0
open Ne renaming symm->S8
open PySem.NameKind renaming free->Tn,cell->U0,casesOn->Vc
open PySem.Obj renaming data_mapFields->Tr,isFreed_of_fields->TK,putName->Vn,cls_mapFields->VU,mapBytearray->V4,mapSeq->V',mapFields->Wf
open PySem.Str renaming ofString->Tx
open PySem.Builtin.Bytes renaming decodersThatHold->Tz,payload->We
open PySem.Expr.Attribute renaming elim->TB
open PySem.Sem renaming wp_mono->TH,wp_bind'->VM
open PySem.Expr.BoolOp renaming elim->TM
open PySem.Stmt renaming ctorIdx->TN
open Nat.succ renaming inj->T4
open PySem.Value.ref renaming elim->T6,inj->UW
open PySem.Code renaming quiet_builtin->Uk
open List.cons renaming inj->Uv
open Or renaming inr->US,inl->Vd,elim->Wg
open And renaming intro->Vj
universe u v
section
set_option genCtorIdx true in
inductive dG|Thing|Text|Row|Dict|Span|Cy|jN|Mem|bQ
 deriving O7
set_option genCtorIdx true in
inductive BI|len|min|max|abs|int|bytes|mR|list|tj|fJ|gS
set_option genCtorIdx true in
inductive wi|add|sub|mul|fdiv|mod|pow
set_option genCtorIdx true in
inductive zH|eq|ne|lt|le|gt|ge|is|ku|in|qn
mutual
inductive LE where
 |kM|qg (b:MP)|int (i:MN)|str (k:Z)|bw (l:V Z)
 |var (x:Z)|gf (f:Z)|gc (c:dG)|gi (nm:Z) (i:MN)
 |attr (e:LE) (a:Z)
 |call (f:LE) (as:cz)|bq (b:BI) (as:cz)|aU (e:LE) (m:Z) (as:cz)
 |sub (e i:LE)|qh (e:LE) (lo hi:LO)|pick (ks:V Z) (vs:cz) (i:LE)
 |tup (es:cz)|lst (es:cz)|emp|tm (ks:V Z) (vs:cz)
 |bin (o:wi) (l r:LE)|cmp (o:zH) (l r:LE)|and (l r:LE)|or (l r:LE)|not (e:LE)|neg (e:LE)
 |ite (c a b:LE)
 |comp (elt:LE) (ts:V Z) (it:LE) (cond:LO)|vals (e:LE) (x:Z)
inductive cz where
 |nil|cons (e:LE) (r:cz)
inductive LO where
 |no|so (e:LE)
end
mutual
inductive LS where
 |asg (x:Z) (e:LE)|eM (e:LE) (a:Z) (v:LE)|ek (e i v:LE)
 |qo (xs:V Z) (e:LE)|gj (xs:V Z) (es:cz)|kN (os is vs:cz)
 |exp (e:LE)|ifs (c:LE) (a b:dR)
 |di (x:Z) (e:LE) (b:dR)|iM (i x:Z) (e:LE) (b:dR)|zu (c:LE) (b:dR)
 |ret (e:LE)|eU (e:LE)|kO (e:LE) (x:Z) (h:LE)|any
inductive dR where
 |nil|cons (s:LS) (r:dR)
end
set_option genCtorIdx true in
inductive AV where
 |none|bool (b:MP)|int (i:MN)|str (k:Z)|bw (l:V Z)
 |fn (k:Z)|cls (c:dG)
 |aE (k:Z)|ab (k:Z)|eO (k:Z)|aA (k:Z)
 |tup (vs:V AV)|lst (vs:V AV)|obj (c:dG) (vs:V AV)|exc (told:AV)
open Mine.Lake.AV renaming casesOn->Wm
open Mine.Lake renaming AV->Q
theorem AV.bool.inj{I M:MP}(B:Q.bool I=.bool M):I=M:=by cases B;rfl
theorem AV.int.inj{I M:MN}(B:Q.int I=.int M):I=M:=by cases B;rfl
variable{c:Sort _}{b d e:Z}
theorem AV.str.inj(B:Q.str d=.str e):d=e:=by cases B;rfl
theorem AV.bw.inj{I M:V Z}(B:Q.bw I=.bw M):I=M:=by cases B;rfl
theorem AV.tup.inj{I M:V Q}(B:Q.tup I=.tup M):I=M:=by cases B;rfl
structure AH where
 L:V (V Q):=[]
 D:V (V (Q×Q)):=[]
 B:V (V MN):=[]
 I:V (dG×V Q):=[]
set_option genCtorIdx true in
inductive Res(α:Type)where
 |ok (a:α)|exc (told:Q) (H:AH)|bad
open Mine.Lake.Res renaming casesOn->Wn
noncomputable def Res.bind{i d:Type}:Res i->(i->Res d)->Res d
 |.ok I,A=>A I
 |.exc n b,_=>.exc n b
 |.bad,_=>.bad
noncomputable def Res.tq{i:Type}:Res i->Res i
 |.ok I=>.ok I
 |_=>.bad
noncomputable def Res.of{i:Type}:O i->Res i
 |some I=>.ok I
 |none=>.bad
structure da where
 aY:Z
 cx:V Q
 slots:V (O Z)
 body:dR
structure zv where
 aY:Z
 cx:V Q
 slots:V (O Z)
 bS:V Z
 vals:cz
abbrev Loc:=V (O Q)
set_option genCtorIdx true in
inductive Key|fn(k:Z)|cls(c:dG)
 deriving O7
theorem Key.fn.inj(B:Key.fn d=.fn e):d=e:=by cases B;rfl
abbrev CF:=Key->V Q->AH->Res (Q×AH)
set_option genCtorIdx true in
inductive Fl|next|ret(v:Q)
noncomputable def BM:Q->Q->O MP
 |.none,.none=>S ML
 |.bool I,.bool M=>S (I==M)
 |.int I,.int M=>S (MX (I=M))
 |.str I,.str M=>S (I==M)
 |.bw I,.bw M=>S (I==M)
 |_,_=>N
noncomputable def qp:V Q->V Q->O MP
 |[],[]=>S ML
 |I :: l,M :: f=>match BM I M,qp l f with
  |some r,S s=>S (r&&s)
  |_,_=>N
 |_,_=>N
noncomputable def eqT:Q->Q->O MP
 |.tup I,.tup M=>qp I M
 |I,M=>BM I M
noncomputable def rD:V Q->V Q->O MP
 |[],[]=>S ML
 |I :: l,M :: f=>match eqT I M,rD l f with
  |some r,S s=>S (r&&s)
  |_,_=>N
 |_,_=>N
noncomputable def zI(I M:V Q):O MP:=if I.length=M.length then rD I M else S MT
noncomputable def itemsOf(b:AH):Q->O (V Q)
 |.lst w=>S w
 |.aE H=>b.L[H]?
 |_=>N
noncomputable def zw(b:AH)(I M:Q):O MP:=match itemsOf b I,itemsOf b M with
 |some r,S s=>zI r s
 |none,N=>eqT I M
 |_,_=>N
noncomputable def truthy:Q->O MP
 |.bool M=>S M
 |_=>N
noncomputable def isNone:Q->O MP
 |.none=>S ML
 |.exc _=>N
 |_=>S MT
noncomputable def gn:Q->V Q->O MP
 |.bw _,[]=>S MT
 |.bw T,.bw x :: j=>(gn (.bw T) j).map (x==T||·)
 |_,_=>N
noncomputable def big:MN:=2 ^ 62
noncomputable def sm(q:Z):MP:=MX (q<1000)
noncomputable def ky:Q->MP
 |.str _|.bw _=>ML
 |_=>MT
noncomputable def keyOk:Q->MP
 |.str _|.int _=>ML
 |.tup w=>w.all ky
 |_=>MT
noncomputable def eF(H:Q):V (Q×Q)->O (O Z)
 |[]=>S N
 |D :: y=>match eqT D.1 H with
  |some ML=>S (S 0)
  |some MT=>(eF H y).map (·.map (· + 1))
  |none=>N
noncomputable def eG(H:Q)(y:V (Q×Q)):O (O Z):=if keyOk H then eF H y else N
noncomputable def cW(y:V (Q×Q))(H:Q):O (O Q):=(eG H y).map λP=>P.bind λK=>(y[K]?).map (·.2)
noncomputable def mS(y:V (Q×Q))(H E:Q):O (V (Q×Q)):=match eG H y with
 |some (S K)=>S (y.modify K λD=>(D.1,E))
 |some N=>if sm y.length then S (y++[(H,E)]) else N
 |none=>N
noncomputable def uM(y:V (Q×Q))(H:Q):O (V (Q×Q)):=match eG H y with
 |some (S K)=>S (y.eraseIdx K)
 |_=>N
noncomputable def wj:zH->MN->MN->O MP
 |.lt,I,M=>S (MX (I<M))
 |.le,I,M=>S (MX (I<=M))
 |.gt,I,M=>S (MX (M<I))
 |.ge,I,M=>S (MX (M<=I))
 |_,_,_=>N
noncomputable def E6(b:AH)(I M:Q):O MP:=match M with
 |.lst w=>gn I w
 |.ab H=>(b.D[H]?).bind λy=>(eG I y).map (·.isSome)
 |_=>N
noncomputable def cq(b:AH)(z:zH)(I M:Q):O MP:=match z with
 |.eq=>zw b I M
 |.ne=>(zw b I M).map (!·)
 |.is=>match M with|.none=>isNone I|_=>N
 |.ku=>match M with|.none=>(isNone I).map (!·)|_=>N
 |.in=>E6 b I M
 |.qn=>(E6 b I M).map (!·)
 |z=>match I,M with|.int r,.int s=>wj z r s|_,_=>N
noncomputable def bY(z:wi)(I M:Q):O Q:=match I,M with
 |.int r,.int s=>match z with
  |.add=>S (.int (r+s))
  |.sub=>S (.int (r - s))
  |.mul=>if MX (0<=r)&&MX (r<2 ^ 30)&&MX (0<=s)&&MX (s<2 ^ 30) then S (.int (r*s)) else N
  |.fdiv=>if MX (0<s)&&MX (s<2 ^ 30) then S (.int (r.fdiv s)) else N
  |.mod=>if MX (0<s) then S (.int (r.fmod s)) else N
  |.pow=>if r=10/\s=6 then S (.int 1000000) else N
 |.lst r,.lst s=>match z with|.add=>if sm (r.length+s.length) then S (.lst (r++s)) else N|_=>N
 |_,_=>N
noncomputable def place(K:MN)(q:Z):O Z:=if 0<=K then(if K<q/\K<1000 then S K.toNat else N) else if K = -1/\0<q then S (q - 1) else N
noncomputable def aR(b:AH)(I K:Q):O Q:=match I,K with
 |.aE H,.int K=>(b.L[H]?).bind λw=>(place K w.length).bind λi=>w[i]?
 |.lst w,.int K=>(place K w.length).bind λi=>w[i]?
 |.tup w,.int K=>(place K w.length).bind λi=>w[i]?
 |.ab H,K=>(b.D[H]?).bind λy=>(cW y K).bind id
 |_,_=>N
noncomputable def oE:O Q->O (O MN)
 |none=>S N
 |some (.int K)=>if 0<=K/\K<big then S (S K) else N
 |_=>N
noncomputable def cut{i:Type}(w:V i)(o d:O MN):V i:=(w.take (d.elim w.length TR)).drop (o.elim 0 TR)
noncomputable def dP(b:AH)(I:Q)(o d:O Q):O (Q×AH):=match oE o,oE d with
 |some o,S d=>match I with
  |.lst w=>if sm w.length then S (.lst (cut w o d),b) else N
  |.bw T=>if sm T.length then S (.bw (cut T o d),b) else N
  |.aE H=>(b.L[H]?).bind λw=>if sm w.length then S (.aE b.L.length,{b with L:=b.L++[cut w o d]}) else N
  |_=>N
 |_,_=>N
noncomputable def dm(b:AH)(I K E:Q):O AH:=match I with
 |.aE H=>match K with
  |.int K=>(b.L[H]?).bind λw=>if 0<=K/\K<w.length/\sm w.length=ML then S {b with L:=b.L.set H (w.set K.toNat E)} else N
  |_=>N
 |.ab H=>(b.D[H]?).bind λy=>(mS y K E).map λa=>{b with D:=b.D.set H a}
 |.eO H=>match K,E with
  |.int K,.int z=>(b.B[H]?).bind λf=>if 0<=K/\K<f.length/\0<=z/\z<256/\sm f.length=ML then S {b with B:=b.B.set H (f.set K.toNat z)} else N
  |_,_=>N
 |_=>N
noncomputable def Fm:dG->V Z
 |.bQ=>[]
 |.Thing=>[9,11,78,16]
 |.Text=>[23,4,15,26]
 |.Row=>[23,6,15,26]
 |.Dict=>[23,47,15,26,16,0]
 |.Span=>[14,18,19]
 |.Cy=>[80,81,82,25,83,36,39,0,24,84,85,86,87,34]
 |.jN=>[23,19,29,88]
 |.Mem=>[33,15,25,43,30,57,29,28,27,53]
noncomputable def Hm(I:Z):V Z->O Z
 |[]=>N
 |M :: y=>if I==M then S 0 else(Hm I y).map (· + 1)
noncomputable def HL(I:Z):V (Z×Z)->O Z
 |[]=>N
 |P :: y=>if I==P.1 then S P.2 else HL I y
noncomputable def gG(C:dG)(I:Z):O Z:=Hm I (Fm C)
noncomputable def dz(b:AH)(E:Q)(I:Z):O Q:=match E with
 |.obj C w=>(gG C I).bind λK=>w[K]?
 |.aA H=>(b.I[H]?).bind λP=>(gG P.1 I).bind λK=>P.2[K]?
 |.exc n=>if I=76 then S n else N
 |_=>N
noncomputable def dH(b:AH)(E:Q)(I:Z)(r:Q):O AH:=match E with
 |.aA H=>(b.I[H]?).bind λP=>(gG P.1 I).bind λK=>if K<P.2.length/\sm P.2.length=ML then S {b with I:=b.I.set H (P.1,P.2.set K r)} else N
 |_=>N
noncomputable def fO:dG->MP
 |.Dict|.Mem=>MT
 |_=>ML
noncomputable def lH(A:Q->O (Q×AH)):V Q->O (Q×AH)
 |[r]=>A r
 |_=>N
noncomputable def Cz(A:Q->Q->O (Q×AH)):V Q->O (Q×AH)
 |[r,s]=>A r s
 |_=>N
noncomputable def kP(A:MN->O (Q×AH)):Q->O (Q×AH)
 |.int I=>A I
 |_=>N
noncomputable def HM(A:V Z->O (Q×AH)):Q->O (Q×AH)
 |.bw T=>A T
 |_=>N
noncomputable def CB(A:V Q->O (Q×AH)):Q->O (Q×AH)
 |.lst T=>A T
 |_=>N
noncomputable def CD(b:AH):Q->O (Q×AH)
 |.aE H=>(b.L[H]?).bind λw=>if sm w.length then S (.int w.length,b) else N
 |.lst w=>if sm w.length then S (.int w.length,b) else N
 |.bw T=>if sm T.length then S (.int T.length,b) else N
 |.ab H=>(b.D[H]?).bind λy=>if sm y.length then S (.int y.length,b) else N
 |.eO H=>(b.B[H]?).bind λf=>if sm f.length then S (.int f.length,b) else N
 |_=>N
noncomputable def BN(b:AH):Q->O (Q×AH)
 |.ab H=>(b.D[H]?).bind λy=>if sm y.length then S (.lst (y.map (·.1)),b) else N
 |.eO H=>(b.B[H]?).bind λf=>if sm f.length then S (.lst (f.map .int),b) else N
 |_=>N
noncomputable def bA(b:AH)(M:BI)(l:V Q):O (Q×AH):=match M with
 |.len=>lH (CD b) l
 |.min=>Cz (λr s=>kP (λI=>kP (λM=>S (.int (if M<I then M else I),b)) s) r) l
 |.max=>Cz (λr s=>kP (λI=>kP (λM=>S (.int (if I<M then M else I),b)) s) r) l
 |.abs=>lH (kP λI=>S (.int I.natAbs,b)) l
 |.int=>lH (kP λI=>S (.int I,b)) l
 |.bytes=>lH (kP λq=>if q=2 then S (.bw [0,0],b) else N) l
 |.mR=>lH (HM λT=>if sm T.length then S (.eO b.B.length,{b with B:=b.B++[T.map VH]}) else N) l
 |.list=>lH (BN b) l
 |.tj=>lH (CB λw=>if sm w.length then S (.aE b.L.length,{b with L:=b.L++[w]}) else N) l
 |.fJ=>lH (kP λq=>if 0<=q/\q<1000 then S (.lst ((Ti q.toNat).map λ(K:Z)=>Q.int K),b) else N) l
 |.gS=>lH (CB λY=>S (.bool MT,b)) l
noncomputable def gH(b:AH)(c:Q)(x:Z)(l:V Q):O (Q×AH):=match c with
 |.aE H=>if x=44 then(match l with
   |[r]=>(b.L[H]?).bind λw=>if sm w.length then S (.none,{b with L:=b.L.set H (w++[r])}) else N
   |_=>N)
  else if x=51 then(match l with
   |[]=>(b.L[H]?).bind λw=>if sm w.length then(w.getLast?).map λr=>(r,{b with L:=b.L.set H w.dropLast}) else N
   |_=>N)
  else N
 |.ab H=>if x=48 then(match l with
   |[r]=>(b.D[H]?).bind λy=>(cW y r).map λa=>(a.getD .none,b)
   |_=>N)
  else if x=51 then(match l with
   |[r]=>(b.D[H]?).bind λy=>if sm y.length then((cW y r).bind id).bind λa=>(uM y r).map λE=>(a,{b with D:=b.D.set H E}) else N
   |_=>N)
  else N
 |_=>N
noncomputable def mL:dG->V (Z×Z)
 |.Dict=>[(48,1),(75,2)]
 |.Mem=>[(26,20),(31,21),(37,22),(32,23),(63,24),(35,25),(61,26),(62,27),(42,28),(46,29),(65,30),(41,31),(66,32),(117,33),(50,34),(67,35),(69,36),(68,37),(72,38),(54,39),(77,40),(118,41),(55,42),(74,43),(71,44),(56,45),(73,46),(119,47),(120,48),(121,49)]
 |_=>[]
noncomputable def oG(C:dG)(x:Z):O Z:=HL x (mL C)
inductive Src|dS(vs:V Q)|lI(k:Z)
noncomputable def Src.at(t:Src)(K:Z)(b:AH):O (O Q):=match t with
 |.dS w=>S w[K]?
 |.lI H=>(b.L[H]?).map (·[K]?)
noncomputable def srcOf(b:AH):Q->O (Src×Z)
 |.lst w=>if sm w.length then S (.dS w,w.length) else N
 |.aE H=>(b.L[H]?).bind λw=>if sm w.length then S (.lI H,w.length) else N
 |_=>N
noncomputable def iC(y:V (Q×Q)):V (Q×Q)->O (V Q)
 |[]=>S []
 |P :: a=>match (cW y P.1).bind id,iC y a with
  |some E,S w=>S (E :: w)
  |_,_=>N
noncomputable def kz(b:AH):Q->Res (Q×AH)
 |.ab H=>match b.D[H]? with
  |some y=>if sm y.length then(match iC y y with|some w=>.ok (.lst w,b)|none=>.bad) else .bad
  |none=>.bad
 |_=>.bad
noncomputable def bO(g:Q->AH->Res (O Q×AH))(t:Src):Z->Z->AH->Res (V Q×AH)
 |0,_,_=>.bad
 |q+1,K,b=>match t.at K b with
  |none=>.bad
  |some N=>.ok ([],b)
  |some (S E)=>(g E b).bind λy=>(bO g t q (K+1) y.2).bind λL=>.ok ((match y.1 with|some r=>r :: L.1|none=>L.1),L.2)
noncomputable def bZ(g:Z->Q->Loc->AH->Res (Fl×Loc×AH))(t:Src):Z->Z->Loc->AH->Res (Fl×Loc×AH)
 |0,_,_,_=>.bad
 |q+1,K,T,b=>match t.at K b with
  |none=>.bad
  |some N=>.ok (.next,T,b)
  |some (S E)=>(g K E T b).bind λy=>match y.1 with
   |.next=>bZ g t q (K+1) y.2.1 y.2.2
   |.ret r=>.ok (.ret r,y.2.1,y.2.2)
noncomputable def gJ(C:Loc->AH->Res (MP×AH))(g:Loc->AH->Res (Fl×Loc×AH)):Z->Loc->AH->Res (Fl×Loc×AH)
 |0,_,_=>.bad
 |q+1,T,b=>(C T b).bind λM=>if M.1 then(g T M.2).bind λy=>match y.1 with
   |.next=>gJ C g q y.2.1 y.2.2
   |.ret r=>.ok (.ret r,y.2.1,y.2.2)
  else .ok (.next,T,M.2)
noncomputable def fy(T:Loc):V Z->Q->O Loc
 |[r],E=>S (T.set r (S E))
 |[r,s],.tup [I,M]=>S ((T.set r (S I)).set s (S M))
 |_,_=>N
noncomputable def de(T:Loc):V Z->V Q->O Loc
 |[],[]=>S T
 |r :: j,E :: w=>de (T.set r (S E)) j w
 |_,_=>N
noncomputable def Fn(b:AH):V Q->V Q->V Q->O AH
 |[],[],[]=>S b
 |z :: e,K :: q,E :: w=>(dm b z K E).bind λr=>Fn r e q w
 |_,_,_=>N
noncomputable def aG(e:CF)(b:AH)(I:Q)(A:Z):Res (Q×AH):=match dz b I A with
 |some E=>.ok (E,b)
 |none=>match I with
  |.aA H=>match b.I[H]? with
   |some (.Mem,_)=>if A=26 then(e (.fn 20) [.aA H] b).tq else .bad
   |_=>.bad
  |_=>.bad
noncomputable def keyOf:Q->O Key
 |.fn H=>if H<60 then S (.fn H) else N
 |.cls C=>S (.cls C)
 |_=>N
set_option genCtorIdx true in
inductive Recv|own(f:Z)|bI
theorem Recv.own.inj(B:Recv.own d=.own e):d=e:=by cases B;rfl
noncomputable def aK(b:AH)(E:Q)(x:Z):O Recv:=match E with
 |.aA H=>match b.I[H]? with
  |some (C,_)=>if x=26 then N else(oG C x).map .own
  |none=>N
 |.aE _=>if x=44\/x=51 then S .bI else N
 |.ab _=>if x=48\/x=51 then S .bI else N
 |_=>N
noncomputable def gT(g:V Z)(w:V Q)(K:Q)(b:AH):Res (Q×AH):=match K with
 |.str H=>match (g.zip w).find? (λP=>P.1==H) with
  |some P=>.ok (P.2,b)
  |none=>.bad
 |_=>.bad
section
variable(cf:CF)
mutual
noncomputable def aO:LE->Loc->AH->Res (Q×AH)
 |.kM,_,H=>.ok (.none,H)
 |.qg b,_,H=>.ok (.bool b,H)
 |.int i,_,H=>.ok (.int i,H)
 |.str k,_,H=>.ok (.str k,H)
 |.bw b,_,H=>.ok (.bw b,H)
 |.var x,l,H=>match l[x]? with|some (S v)=>.ok (v,H)|_=>.bad
 |.gf f,_,H=>.ok (.fn f,H)
 |.gc c,_,H=>.ok (.cls c,H)
 |.gi _ i,_,H=>.ok (.int i,H)
 |.attr e a,l,H=>(aO e l H).bind λr=>aG cf r.2 r.1 a
 |.call f as,l,H=>(aO f l H).bind λr=>match keyOf r.1 with
  |some k=>(bp as l r.2).bind λq=>cf k q.1 q.2
  |none=>.bad
 |.bq b as,l,H=>(bp as l H).bind λq=>.of (bA q.2 b q.1)
 |.aU e m as,l,H=>(aO e l H).bind λr=>match aK r.2 r.1 m with
  |some (.own f)=>(bp as l r.2).bind λq=>cf (.fn f) (r.1 :: q.1) q.2
  |some .bI=>(bp as l r.2).bind λq=>.of (gH q.2 r.1 m q.1)
  |none=>.bad
 |.sub e i,l,H=>(aO e l H).bind λr=>(aO i l r.2).bind λq=>match aR q.2 r.1 q.1 with
  |some v=>.ok (v,q.2)
  |none=>.bad
 |.qh e lo hi,l,H=>(aO e l H).bind λr=>(zx lo l r.2).bind λa=>(zx hi l a.2).bind λb=>.of (dP b.2 r.1 a.1 b.1)
 |.pick ks vs i,l,H=>(bp vs l H).bind λq=>(aO i l q.2).bind λr=>gT ks q.1 r.1 r.2
 |.tup es,l,H=>(bp es l H).bind λq=>.ok (.tup q.1,q.2)
 |.lst es,l,H=>(bp es l H).bind λq=>.ok (.lst q.1,q.2)
 |.emp,_,H=>.ok (.aE H.L.length,{H with L:=H.L++[[]]})
 |.tm ks vs,l,H=>(bp vs l H).bind λq=>if ks.length=q.1.length then .ok (.ab q.2.D.length,{q.2 with D:=q.2.D++[(ks.map Q.str).zip q.1]}) else .bad
 |.bin o a b,l,H=>(aO a l H).bind λr=>(aO b l r.2).bind λq=>match bY o r.1 q.1 with
  |some v=>.ok (v,q.2)
  |none=>.bad
 |.cmp o a b,l,H=>(aO a l H).bind λr=>(aO b l r.2).bind λq=>match cq q.2 o r.1 q.1 with
  |some v=>.ok (.bool v,q.2)
  |none=>.bad
 |.and a b,l,H=>(aO a l H).bind λr=>match truthy r.1 with
  |some ML=>aO b l r.2
  |some MT=>.ok (r.1,r.2)
  |none=>.bad
 |.or a b,l,H=>(aO a l H).bind λr=>match truthy r.1 with
  |some ML=>.ok (r.1,r.2)
  |some MT=>aO b l r.2
  |none=>.bad
 |.not e,l,H=>(aO e l H).bind λr=>match truthy r.1 with
  |some b=>.ok (.bool (!b),r.2)
  |none=>.bad
 |.neg e,l,H=>(aO e l H).bind λr=>match r.1 with
  |.int i=>.ok (.int (-i),r.2)
  |_=>.bad
 |.ite c a b,l,H=>(aO c l H).bind λr=>match truthy r.1 with
  |some ML=>aO a l r.2
  |some MT=>aO b l r.2
  |none=>.bad
 |.comp elt ts it cond,l,H=>(aO it l H).bind λr=>match srcOf r.2 r.1 with
  |none=>.bad
  |some s=>(bO (λv H=>match fy l ts v with
    |none=>.bad
    |some l'=>((zy cond l' H).bind λc=>if c.1 then(aO elt l' c.2).bind λx=>.ok (S x.1,x.2) else .ok (N,c.2)).tq) s.1 (s.2+1) 0 r.2).bind λq=>.ok (.lst q.1,q.2)
 |.vals e _,l,H=>(aO e l H).bind λr=>kz r.2 r.1
noncomputable def bp:cz->Loc->AH->Res (V Q×AH)
 |.nil,_,H=>.ok ([],H)
 |.cons e r,l,H=>(aO e l H).bind λx=>(bp r l x.2).bind λq=>.ok (x.1 :: q.1,q.2)
noncomputable def zx:LO->Loc->AH->Res (O Q×AH)
 |.no,_,H=>.ok (N,H)
 |.so e,l,H=>(aO e l H).bind λr=>.ok (S r.1,r.2)
noncomputable def zy:LO->Loc->AH->Res (MP×AH)
 |.no,_,H=>.ok (ML,H)
 |.so e,l,H=>(aO e l H).bind λr=>match truthy r.1 with
  |some b=>.ok (b,r.2)
  |none=>.bad
end
mutual
noncomputable def cN:LS->Loc->AH->Res (Fl×Loc×AH)
 |.asg x e,l,H=>(aO cf e l H).bind λr=>.ok (.next,l.set x (S r.1),r.2)
 |.eM e a v,l,H=>(aO cf v l H).bind λr=>(aO cf e l r.2).bind λq=>match dH q.2 q.1 a r.1 with
  |some H'=>.ok (.next,l,H')
  |none=>.bad
 |.ek e i v,l,H=>(aO cf v l H).bind λr=>(aO cf e l r.2).bind λq=>(aO cf i l q.2).bind λp=>match dm p.2 q.1 p.1 r.1 with
  |some H'=>.ok (.next,l,H')
  |none=>.bad
 |.qo xs e,l,H=>(aO cf e l H).bind λr=>match r.1 with
  |.tup vs=>match de l xs vs with
   |some l'=>.ok (.next,l',r.2)
   |none=>.bad
  |_=>.bad
 |.gj xs es,l,H=>(bp cf es l H).bind λr=>match de l xs r.1 with
   |some l'=>.ok (.next,l',r.2)
   |none=>.bad
 |.kN os is vs,l,H=>(bp cf vs l H).bind λr=>uN os is r.1 l r.2
 |.exp e,l,H=>(aO cf e l H).bind λr=>.ok (.next,l,r.2)
 |.ifs c a b,l,H=>(aO cf c l H).bind λr=>match truthy r.1 with
  |some ML=>aW a l r.2
  |some MT=>aW b l r.2
  |none=>.bad
 |.di x e b,l,H=>(aO cf e l H).bind λr=>match srcOf r.2 r.1 with
  |none=>.bad
  |some s=>bZ (λε v l H=>aW b (l.set x (S v)) H) s.1 (s.2+1) 0 l r.2
 |.iM i x e b,l,H=>(aO cf e l H).bind λr=>match srcOf r.2 r.1 with
  |none=>.bad
  |some s=>bZ (λk v l H=>aW b ((l.set i (S (.int k))).set x (S v)) H) s.1 (s.2+1) 0 l r.2
 |.zu c b,l,H=>gJ (λl H=>(aO cf c l H).bind λr=>match truthy r.1 with
   |some t=>.ok (t,r.2)
   |none=>.bad) (λl H=>aW b l H) 100 l H
 |.ret e,l,H=>(aO cf e l H).bind λr=>.ok (.ret r.1,l,r.2)
 |.eU e,l,H=>(aO cf e l H).bind λr=>.exc r.1 r.2
 |.kO e x h,l,H=>match aO cf e l H with
  |.ok r=>.ok (.next,l,r.2)
  |.exc t H'=>(aO (λε ε ε=>Res.bad) h (l.set x (S (.exc t))) H').tq.bind λr=>.ok (.next,(l.set x (S (.exc t))).set x N,r.2)
  |.bad=>.bad
 |.any,_,_=>.bad
noncomputable def aW:dR->Loc->AH->Res (Fl×Loc×AH)
 |.nil,l,H=>.ok (.next,l,H)
 |.cons s r,l,H=>(cN s l H).bind λq=>match q.1 with
  |.next=>aW r q.2.1 q.2.2
  |.ret v=>.ok (.ret v,q.2.1,q.2.2)
noncomputable def uN:cz->cz->V Q->Loc->AH->Res (Fl×Loc×AH)
 |.nil,.nil,[],l,H=>.ok (.next,l,H)
 |.cons o os,.cons i is,v :: vs,l,H=>(aO cf o l H).bind λa=>(aO cf i l a.2).bind λb=>match dm b.2 a.1 b.1 v with
  |some H'=>uN os is vs l H'
  |none=>.bad
 |_,_,_,_,_=>.bad
end
end
noncomputable def f0:da:={aY:=1,cx:=[],slots:=[S 89],body:=(.cons .any .nil)}
noncomputable def f1:da:={aY:=2,cx:=[],slots:=[S 90,S 91],body:=(.cons .any .nil)}
noncomputable def f2:da:={aY:=1,cx:=[],slots:=[S 90,N],body:=(.cons (.ret (.vals (.attr (.var 0) 0) 1)) .nil)}
noncomputable def f3:da:={aY:=1,cx:=[],slots:=[S 23],body:=(.cons (.ret (.call (.gc .Thing) (.cons (.str 1) (.cons (.var 0) .nil)))) .nil)}
noncomputable def f4:da:={aY:=2,cx:=[.bool MT],slots:=[S 4,S 78],body:=(.cons (.ret (.call (.gc .Thing) (.cons (.str 2) (.cons (.var 0) (.cons (.var 1) .nil))))) .nil)}
noncomputable def f5:da:={aY:=0,cx:=[],slots:=[],body:=(.cons (.ret (.call (.gc .Thing) (.cons (.str 3) (.cons (.kM) .nil)))) .nil)}
noncomputable def f6:da:={aY:=3,cx:=[.bool MT,.int 3],slots:=[S 36,S 78,S 16],body:=(.cons (.ret (.call (.gc .Thing) (.cons (.str 5) (.cons (.call (.gc .Span) (.cons (.var 0) (.cons (.int 0) (.cons (.bq .len (.cons (.attr (.var 0) 4) .nil)) .nil)))) (.cons (.var 1) (.cons (.var 2) .nil)))))) .nil)}
noncomputable def f7:da:={aY:=3,cx:=[.bool MT,.int 3],slots:=[S 39,S 78,S 16],body:=(.cons (.ret (.call (.gc .Thing) (.cons (.str 7) (.cons (.call (.gc .Span) (.cons (.var 0) (.cons (.int 0) (.cons (.bq .len (.cons (.attr (.var 0) 6) .nil)) .nil)))) (.cons (.var 1) (.cons (.var 2) .nil)))))) .nil)}
noncomputable def f8:da:={aY:=1,cx:=[],slots:=[S 14],body:=(.cons (.ret (.call (.gc .Thing) (.cons (.str 8) (.cons (.var 0) .nil)))) .nil)}
noncomputable def f9:da:={aY:=1,cx:=[],slots:=[S 92],body:=(.cons (.ret (.or (.cmp .eq (.attr (.var 0) 9) (.str 1)) (.cmp .eq (.attr (.var 0) 9) (.str 10)))) .nil)}
noncomputable def Ko:da:={aY:=1,cx:=[],slots:=[S 92],body:=(.cons (.ifs (.cmp .eq (.attr (.var 0) 9) (.str 1)) (.cons (.ret (.bin .mul (.attr (.var 0) 11) (.gi 12 1000000))) .nil) .nil) (.cons (.ifs (.cmp .eq (.attr (.var 0) 9) (.str 10)) (.cons (.ret (.attr (.var 0) 11)) .nil) .nil) (.cons (.eU (.bw [116,121,112,101,99,104,101,99,107])) .nil)))}
noncomputable def HN:da:={aY:=1,cx:=[],slots:=[S 92],body:=(.cons (.ret (.or (.cmp .eq (.attr (.var 0) 9) (.str 7)) (.cmp .eq (.attr (.var 0) 9) (.str 13)))) .nil)}
noncomputable def Fo:da:={aY:=1,cx:=[],slots:=[S 92],body:=(.cons (.ifs (.cmp .eq (.attr (.var 0) 9) (.str 8)) (.cons (.ret (.attr (.var 0) 11)) .nil) .nil) (.cons (.ret (.ite (.or (.cmp .eq (.attr (.var 0) 9) (.str 5)) (.call (.gf 11) (.cons (.var 0) .nil))) (.attr (.attr (.var 0) 11) 14) (.kM))) .nil))}
noncomputable def Fp:da:={aY:=1,cx:=[],slots:=[S 92,S 14],body:=(.cons (.asg 1 (.call (.gf 12) (.cons (.var 0) .nil))) (.cons (.ret (.and (.cmp .ku (.var 1) (.kM)) (.not (.attr (.var 1) 15)))) .nil))}
noncomputable def Kp:da:={aY:=1,cx:=[],slots:=[S 92],body:=(.cons (.ret (.ite (.cmp .eq (.attr (.var 0) 9) (.str 8)) (.attr (.attr (.var 0) 11) 16) (.attr (.var 0) 16))) .nil)}
noncomputable def Kr:da:={aY:=1,cx:=[],slots:=[S 92],body:=(.cons (.ret (.cmp .ge (.call (.gf 14) (.cons (.var 0) .nil)) (.gi 17 2))) .nil)}
noncomputable def Ks:da:={aY:=1,cx:=[],slots:=[S 93],body:=(.cons (.ret (.bq .bytes (.cons (.qh (.attr (.attr (.var 0) 14) 4) (.so (.attr (.var 0) 18)) (.so (.bin .add (.attr (.var 0) 18) (.attr (.var 0) 19)))) .nil))) .nil)}
noncomputable def HO:da:={aY:=1,cx:=[],slots:=[S 92],body:=(.cons (.ifs (.cmp .eq (.attr (.var 0) 9) (.str 2)) (.cons (.ret (.attr (.var 0) 11)) .nil) .nil) (.cons (.ifs (.cmp .ne (.attr (.var 0) 9) (.str 5)) (.cons (.eU (.bw [116,121,112,101,99,104,101,99,107])) .nil) .nil) (.cons (.ifs (.not (.call (.gf 15) (.cons (.var 0) .nil))) (.cons (.eU (.bw [105,110,118,97,108,105,100,97,99,99,101,115,115])) .nil) .nil) (.cons (.ret (.call (.gf 16) (.cons (.attr (.var 0) 11) .nil))) .nil))))}
noncomputable def HP:da:={aY:=1,cx:=[],slots:=[S 92],body:=(.cons (.ifs (.cmp .eq (.attr (.var 0) 9) (.str 3)) (.cons (.eU (.bw [116,121,112,101,99,104,101,99,107])) .nil) .nil) (.cons (.ifs (.or (.cmp .eq (.attr (.var 0) 9) (.str 2)) (.cmp .eq (.attr (.var 0) 9) (.str 5))) (.cons (.ret (.tup (.cons (.str 24) (.cons (.call (.gf 17) (.cons (.var 0) .nil)) .nil)))) .nil) .nil) (.cons (.ifs (.call (.gf 9) (.cons (.var 0) .nil)) (.cons (.ret (.tup (.cons (.str 23) (.cons (.call (.gf 10) (.cons (.var 0) .nil)) .nil)))) .nil) .nil) (.cons (.ifs (.call (.gf 11) (.cons (.var 0) .nil)) (.cons (.ret (.tup (.cons (.str 7) (.cons (.attr (.attr (.attr (.var 0) 11) 14) 23) (.cons (.attr (.attr (.var 0) 11) 18) (.cons (.attr (.attr (.var 0) 11) 19) .nil)))))) .nil) .nil) (.cons (.ifs (.or (.cmp .eq (.attr (.var 0) 9) (.str 8)) (.or (.cmp .eq (.attr (.var 0) 9) (.str 22)) (.cmp .eq (.attr (.var 0) 9) (.str 21)))) (.cons (.ret (.tup (.cons (.attr (.var 0) 9) (.cons (.attr (.attr (.var 0) 11) 23) .nil)))) .nil) .nil) (.cons (.ifs (.cmp .eq (.attr (.var 0) 9) (.str 20)) (.cons (.ret (.tup (.cons (.str 20) (.cons (.ite (.attr (.var 0) 11) (.int 1) (.int 0)) .nil)))) .nil) .nil) (.cons (.ret (.tup (.cons (.attr (.var 0) 9) (.cons (.attr (.var 0) 11) .nil)))) .nil)))))))}
noncomputable def HQ:da:={aY:=1,cx:=[],slots:=[S 92],body:=(.cons (.ret (.ite (.cmp .eq (.attr (.var 0) 9) (.str 5)) (.call (.gf 4) (.cons (.call (.gf 17) (.cons (.var 0) .nil)) .nil)) (.var 0))) .nil)}
noncomputable def HR:da:={aY:=1,cx:=[],slots:=[S 90],body:=(.cons (.ret (.bq .len (.cons (.attr (.var 0) 25) .nil))) .nil)}
noncomputable def HS:da:={aY:=1,cx:=[],slots:=[S 90],body:=(.cons (.ret (.ite (.attr (.var 0) 15) (.int 0) (.attr (.var 0) 26))) .nil)}
noncomputable def HT:da:={aY:=2,cx:=[],slots:=[S 90,S 94],body:=(.cons (.exp (.aU (.var 0) 32 (.cons (.var 1) .nil))) (.cons (.eM (.var 0) 27 (.bin .add (.attr (.var 0) 27) (.int 1))) (.cons (.ek (.attr (.var 0) 30) (.attr (.var 0) 27) (.tup (.cons (.var 1) (.cons (.attr (.var 0) 15) (.cons (.aU (.var 0) 31 .nil) .nil))))) (.cons (.ifs (.attr (.var 0) 15) (.cons (.eM (.var 0) 28 (.bin .add (.attr (.var 0) 28) (.var 1))) .nil) (.cons (.eM (.var 0) 29 (.bin .add (.attr (.var 0) 29) (.var 1))) .nil)) (.cons (.ret (.attr (.var 0) 27)) .nil)))))}
noncomputable def HU:da:={aY:=2,cx:=[],slots:=[S 90,S 94],body:=(.cons (.ifs (.cmp .gt (.bin .add (.bin .add (.attr (.var 0) 29) (.attr (.var 0) 28)) (.var 1)) (.attr (.attr (.var 0) 33) 34)) (.cons (.eU (.bw [86,77,101,114,114,111,114])) .nil) .nil) .nil)}
noncomputable def zJ:da:={aY:=2,cx:=[],slots:=[S 90,S 19],body:=(.cons (.exp (.call (.gf 50) (.cons (.var 1) (.cons (.attr (.attr (.var 0) 33) 36) .nil)))) (.cons (.ret (.aU (.var 0) 35 (.cons (.bq .bytes (.cons (.var 1) .nil)) .nil))) .nil))}
noncomputable def BO:da:={aY:=2,cx:=[],slots:=[S 90,S 4],body:=(.cons (.exp (.call (.gf 50) (.cons (.bq .len (.cons (.var 1) .nil)) (.cons (.attr (.attr (.var 0) 33) 36) .nil)))) (.cons (.ret (.call (.gc .Text) (.cons (.aU (.var 0) 37 (.cons (.bq .len (.cons (.var 1) .nil)) .nil)) (.cons (.var 1) (.cons (.attr (.var 0) 15) (.cons (.aU (.var 0) 31 .nil) .nil)))))) .nil))}
noncomputable def HV:da:={aY:=2,cx:=[],slots:=[S 90,S 6,S 92],body:=(.cons (.ifs (.bq .gS (.cons (.var 1) .nil)) (.cons .any .nil) .nil) (.cons (.exp (.call (.gf 50) (.cons (.bq .len (.cons (.var 1) .nil)) (.cons (.attr (.attr (.var 0) 33) 39) .nil)))) (.cons (.ifs (.attr (.var 0) 15) (.cons (.di 2 (.var 1) (.cons (.ifs (.call (.gf 13) (.cons (.var 2) .nil)) (.cons (.eU (.bw [105,110,118,97,108,105,100,97,99,99,101,115,115])) .nil) .nil) .nil)) .nil) .nil) (.cons (.ret (.call (.gc .Row) (.cons (.aU (.var 0) 37 (.cons (.bin .mul (.gi 38 8) (.bq .len (.cons (.var 1) .nil))) .nil)) (.cons (.var 1) (.cons (.attr (.var 0) 15) (.cons (.aU (.var 0) 31 .nil) .nil)))))) .nil))))}
noncomputable def HW:da:={aY:=2,cx:=[],slots:=[S 90,S 47],body:=(.cons (.exp (.call (.gf 50) (.cons (.var 1) (.cons (.attr (.attr (.var 0) 33) 0) .nil)))) (.cons (.ret (.call (.gc .Dict) (.cons (.aU (.var 0) 37 (.cons (.bin .mul (.gi 40 16) (.var 1)) .nil)) (.cons (.var 1) (.cons (.attr (.var 0) 15) (.cons (.aU (.var 0) 31 .nil) .nil)))))) .nil))}
noncomputable def HX:da:={aY:=2,cx:=[],slots:=[S 90,S 14],body:=(.cons (.ret (.and (.not (.attr (.var 1) 15)) (.cmp .lt (.attr (.var 1) 26) (.attr (.var 0) 26)))) .nil)}
noncomputable def HY:da:={aY:=3,cx:=[],slots:=[S 90,S 14,S 92],body:=(.cons (.ifs (.and (.attr (.var 1) 15) (.call (.gf 13) (.cons (.var 2) .nil))) (.cons (.eU (.bw [105,110,118,97,108,105,100,97,99,99,101,115,115])) .nil) .nil) .nil)}
noncomputable def Fq:da:={aY:=4,cx:=[],slots:=[S 90,S 39,S 95,S 92],body:=(.cons (.exp (.aU (.var 0) 41 (.cons (.var 1) (.cons (.var 2) (.cons (.lst (.cons (.var 3) .nil)) .nil))))) .nil)}
noncomputable def Fs:da:={aY:=4,cx:=[],slots:=[S 90,S 39,S 95,S 6,S 92,S 96],body:=(.cons (.di 4 (.var 3) (.cons (.exp (.aU (.var 0) 46 (.cons (.var 1) (.cons (.var 4) .nil)))) .nil)) (.cons (.iM 5 4 (.var 3) (.cons (.ifs (.aU (.var 0) 42 (.cons (.var 1) .nil)) (.cons (.exp (.aU (.attr (.var 0) 43) 44 (.cons (.tup (.cons (.str 45) (.cons (.var 1) (.cons (.bin .add (.var 2) (.var 5)) (.cons (.sub (.attr (.var 1) 6) (.bin .add (.var 2) (.var 5))) .nil))))) .nil))) .nil) .nil) (.cons (.ek (.attr (.var 1) 6) (.bin .add (.var 2) (.var 5)) (.var 4)) .nil))) .nil))}
noncomputable def HZ:da:={aY:=4,cx:=[],slots:=[S 90,S 36,S 95,S 97],body:=(.cons (.ek (.attr (.var 1) 4) (.var 2) (.var 3)) .nil)}
noncomputable def Kt:da:={aY:=4,cx:=[],slots:=[S 90,S 36,S 95,S 4],body:=(.cons .any .nil)}
noncomputable def E7:da:={aY:=2,cx:=[],slots:=[S 90,S 14,S 19,S 98,S 94],body:=(.cons (.asg 2 (.bq .min (.cons (.bq .max (.cons (.bin .mul (.int 2) (.attr (.var 1) 47)) (.cons (.int 8) .nil))) (.cons (.attr (.attr (.var 0) 33) 0) .nil)))) (.cons (.ifs (.cmp .le (.var 2) (.attr (.var 1) 47)) (.cons (.eU (.bw [100,105,99,116,102,117,108,108])) .nil) .nil) (.cons (.asg 3 (.bin .mul (.gi 40 16) (.bin .sub (.var 2) (.attr (.var 1) 47)))) (.cons (.exp (.aU (.var 0) 32 (.cons (.var 3) .nil))) (.cons (.asg 4 (.ite (.cmp .in (.attr (.var 1) 23) (.attr (.var 0) 30)) (.sub (.sub (.attr (.var 0) 30) (.attr (.var 1) 23)) (.int 0)) (.int 0))) (.cons (.ek (.attr (.var 0) 30) (.attr (.var 1) 23) (.tup (.cons (.bin .add (.var 4) (.var 3)) (.cons (.attr (.var 1) 15) (.cons (.attr (.var 1) 26) .nil))))) (.cons (.ifs (.attr (.var 1) 15) (.cons (.eM (.var 0) 28 (.bin .add (.attr (.var 0) 28) (.var 3))) .nil) (.cons (.eM (.var 0) 29 (.bin .add (.attr (.var 0) 29) (.var 3))) .nil)) (.cons (.ifs (.aU (.var 0) 42 (.cons (.var 1) .nil)) (.cons (.exp (.aU (.attr (.var 0) 43) 44 (.cons (.tup (.cons (.str 47) (.cons (.var 1) (.cons (.attr (.var 1) 47) .nil)))) .nil))) .nil) .nil) (.cons (.eM (.var 1) 47 (.var 2)) .nil)))))))))}
noncomputable def mT:da:={aY:=4,cx:=[],slots:=[S 90,S 14,S 91,S 92,S 24,S 99],body:=(.cons (.asg 4 (.call (.gf 18) (.cons (.var 2) .nil))) (.cons (.exp (.aU (.var 0) 46 (.cons (.var 1) (.cons (.var 3) .nil)))) (.cons (.exp (.aU (.var 0) 46 (.cons (.var 1) (.cons (.call (.gf 19) (.cons (.var 2) .nil)) .nil)))) (.cons (.ifs (.and (.cmp .qn (.var 4) (.attr (.var 1) 0)) (.cmp .ge (.bq .len (.cons (.attr (.var 1) 0) .nil)) (.attr (.var 1) 47))) (.cons (.exp (.aU (.var 0) 50 (.cons (.var 1) .nil))) .nil) .nil) (.cons (.ifs (.aU (.var 0) 42 (.cons (.var 1) .nil)) (.cons (.exp (.aU (.attr (.var 0) 43) 44 (.cons (.tup (.cons (.str 49) (.cons (.var 1) (.cons (.var 4) (.cons (.aU (.attr (.var 1) 0) 48 (.cons (.var 4) .nil)) .nil))))) .nil))) .nil) .nil) (.cons (.asg 5 (.ite (.cmp .in (.var 4) (.attr (.var 1) 0)) (.sub (.sub (.attr (.var 1) 0) (.var 4)) (.int 0)) (.call (.gf 19) (.cons (.var 2) .nil)))) (.cons (.ek (.attr (.var 1) 0) (.var 4) (.tup (.cons (.var 5) (.cons (.var 3) .nil)))) .nil)))))))}
noncomputable def Ft:da:={aY:=3,cx:=[],slots:=[S 90,S 14,S 91,S 24],body:=(.cons (.asg 3 (.call (.gf 18) (.cons (.var 2) .nil))) (.cons (.ifs (.cmp .in (.var 3) (.attr (.var 1) 0)) (.cons (.ifs (.aU (.var 0) 42 (.cons (.var 1) .nil)) (.cons (.exp (.aU (.attr (.var 0) 43) 44 (.cons (.tup (.cons (.str 52) (.cons (.var 1) (.cons (.var 3) (.cons (.sub (.attr (.var 1) 0) (.var 3)) (.cons (.bq .list (.cons (.attr (.var 1) 0) .nil)) .nil)))))) .nil))) .nil) .nil) (.cons (.exp (.aU (.attr (.var 1) 0) 51 (.cons (.var 3) .nil))) .nil)) .nil) .nil))}
noncomputable def H9:da:={aY:=3,cx:=[],slots:=[S 90,S 14,S 16],body:=(.cons (.ifs (.cmp .gt (.var 2) (.attr (.var 1) 16)) (.cons (.eU (.bw [105,110,118,97,108,105,100,97,99,99,101,115,115])) .nil) .nil) (.cons (.ifs (.aU (.var 0) 42 (.cons (.var 1) .nil)) (.cons (.exp (.aU (.attr (.var 0) 43) 44 (.cons (.tup (.cons (.str 16) (.cons (.var 1) (.cons (.attr (.var 1) 16) .nil)))) .nil))) .nil) .nil) (.cons (.eM (.var 1) 16 (.var 2)) .nil)))}
noncomputable def Ia:da:={aY:=2,cx:=[.none],slots:=[S 90,S 88],body:=(.cons (.ifs (.cmp .ge (.attr (.var 0) 26) (.attr (.attr (.var 0) 33) 25)) (.cons (.eU (.bw [108,105,109,105,116,99,104,101,99,107])) .nil) .nil) (.cons (.eM (.var 0) 53 (.bin .add (.attr (.var 0) 53) (.int 1))) (.cons (.exp (.aU (.attr (.var 0) 25) 44 (.cons (.call (.gc .jN) (.cons (.attr (.var 0) 53) (.cons (.bq .len (.cons (.attr (.var 0) 43) .nil)) (.cons (.attr (.var 0) 29) (.cons (.var 1) .nil))))) .nil))) (.cons (.ret (.attr (.var 0) 53)) .nil))))}
noncomputable def Jv:da:={aY:=2,cx:=[],slots:=[S 90,S 23,S 100,S 101],body:=(.cons (.iM 2 3 (.attr (.var 0) 25) (.cons (.ifs (.cmp .eq (.attr (.var 3) 23) (.var 1)) (.cons (.ret (.var 2)) .nil) .nil) .nil)) (.cons (.ret (.kM)) .nil))}
noncomputable def Ib:da:={aY:=2,cx:=[],slots:=[S 90,S 23],body:=(.cons (.ret (.cmp .ku (.aU (.var 0) 54 (.cons (.var 1) .nil)) (.kM))) .nil)}
noncomputable def Ku:da:={aY:=2,cx:=[],slots:=[S 90,S 23],body:=(.cons .any .nil)}
noncomputable def Ic:da:={aY:=2,cx:=[],slots:=[S 90,S 23,S 100],body:=(.cons (.asg 2 (.aU (.var 0) 54 (.cons (.var 1) .nil))) (.cons (.ifs (.cmp .is (.var 2) (.kM)) (.cons (.eU (.bw [105,110,118,97,108,105,100,114,101,115,116,111,114,101])) .nil) .nil) (.cons (.ret (.var 2)) .nil)))}
noncomputable def Ie:da:={aY:=3,cx:=[],slots:=[S 90,S 23,S 92,S 14,S 100,S 94,S 15,S 26],body:=(.cons (.gj [3,4] (.cons (.call (.gf 12) (.cons (.var 2) .nil)) (.cons (.aU (.var 0) 55 (.cons (.var 1) .nil)) .nil))) (.cons (.ifs (.cmp .eq (.attr (.var 2) 9) (.str 21)) (.cons .any .nil) .nil) (.cons (.ret (.and (.cmp .ku (.var 3) (.kM)) (.and (.not (.attr (.var 3) 15)) (.cmp .gt (.attr (.var 3) 26) (.var 4))))) .nil)))}
noncomputable def jJ:da:={aY:=2,cx:=[],slots:=[S 90,S 23,S 100,S 101,S 102,S 14,S 94,S 15,S 26],body:=(.cons (.asg 2 (.aU (.var 0) 55 (.cons (.var 1) .nil))) (.cons (.asg 3 (.sub (.attr (.var 0) 25) (.var 2))) (.cons (.asg 4 (.emp)) (.cons (.zu (.cmp .gt (.bq .len (.cons (.attr (.var 0) 43) .nil)) (.attr (.var 3) 19)) (.cons (.exp (.aU (.var 4) 44 (.cons (.aU (.attr (.var 0) 43) 51 .nil) .nil))) (.cons (.exp (.call (.gf 51) (.cons (.sub (.var 4) (.neg (.int 1))) .nil))) .nil))) (.cons (.eM (.var 0) 25 (.qh (.attr (.var 0) 25) .no (.so (.var 2)))) (.cons (.eM (.var 0) 57 (.emp)) (.cons (.di 5 (.bq .list (.cons (.attr (.var 0) 30) .nil)) (.cons (.qo [6,7,8] (.sub (.attr (.var 0) 30) (.var 5))) (.cons (.ifs (.and (.not (.var 7)) (.cmp .gt (.var 8) (.var 2))) (.cons (.exp (.aU (.attr (.var 0) 30) 51 (.cons (.var 5) .nil))) (.cons (.exp (.aU (.attr (.var 0) 57) 44 (.cons (.var 5) .nil))) .nil)) .nil) .nil))) (.cons (.exp (.aU (.var 0) 56 (.cons (.var 4) .nil))) (.cons (.eM (.var 0) 29 (.attr (.var 3) 29)) (.cons (.ret (.var 4)) .nil))))))))))}
noncomputable def Jw:da:={aY:=2,cx:=[],slots:=[S 90,S 102,S 103,S 94,S 15,S 26],body:=(.cons (.di 2 (.var 1) (.cons (.ifs (.and (.cmp .eq (.sub (.var 2) (.int 0)) (.str 47)) (.cmp .in (.attr (.sub (.var 2) (.int 1)) 23) (.attr (.var 0) 30))) (.cons (.qo [3,4,5] (.sub (.attr (.var 0) 30) (.attr (.sub (.var 2) (.int 1)) 23))) (.cons (.ek (.attr (.var 0) 30) (.attr (.sub (.var 2) (.int 1)) 23) (.tup (.cons (.bin .mul (.gi 40 16) (.sub (.var 2) (.int 2))) (.cons (.var 4) (.cons (.var 5) .nil))))) .nil)) .nil) .nil)) .nil)}
noncomputable def Ig:da:={aY:=1,cx:=[],slots:=[S 90],body:=(.cons (.ret (.tup (.cons (.attr (.var 0) 26) (.cons (.bin .add (.attr (.var 0) 29) (.attr (.var 0) 28)) (.cons (.attr (.attr (.var 0) 33) 34) .nil))))) .nil)}
noncomputable def Kv:da:={aY:=2,cx:=[],slots:=[S 90,S 104],body:=(.cons .any .nil)}
noncomputable def Kw:da:={aY:=3,cx:=[.bool MT],slots:=[S 90,S 104,S 105],body:=(.cons .any .nil)}
noncomputable def Kx:da:={aY:=1,cx:=[],slots:=[S 90],body:=(.cons .any .nil)}
noncomputable def Ih:da:={aY:=2,cx:=[],slots:=[S 19,S 47],body:=(.cons (.ifs (.cmp .lt (.var 0) (.int 0)) (.cons (.eU (.bw [114,97,110,103,101,99,104,101,99,107])) .nil) .nil) (.cons (.ifs (.cmp .gt (.var 0) (.var 1)) (.cons (.eU (.bw [108,105,109,105,116,99,104,101,99,107])) .nil) .nil) .nil))}
noncomputable def wk:da:={aY:=1,cx:=[],slots:=[S 103,S 24,S 14,S 0,S 91],body:=(.cons (.gj [1,2] (.cons (.sub (.var 0) (.int 0)) (.cons (.sub (.var 0) (.int 1)) .nil))) (.cons (.ifs (.cmp .eq (.var 1) (.str 45)) (.cons (.ek (.attr (.var 2) 6) (.sub (.var 0) (.int 2)) (.sub (.var 0) (.int 3))) .nil) (.cons (.ifs (.cmp .eq (.var 1) (.str 47)) (.cons (.eM (.var 2) 47 (.sub (.var 0) (.int 2))) .nil) (.cons (.ifs (.cmp .eq (.var 1) (.str 16)) (.cons (.eM (.var 2) 16 (.sub (.var 0) (.int 2))) .nil) (.cons (.ifs (.cmp .eq (.var 1) (.str 52)) (.cons (.asg 3 (.tm [] .nil)) (.cons (.di 4 (.sub (.var 0) (.int 4)) (.cons (.ek (.var 3) (.var 4) (.ite (.cmp .eq (.var 4) (.sub (.var 0) (.int 2))) (.sub (.var 0) (.int 3)) (.sub (.attr (.var 2) 0) (.var 4)))) .nil)) (.cons (.eM (.var 2) 0 (.var 3)) .nil))) (.cons (.ifs (.cmp .is (.sub (.var 0) (.int 3)) (.kM)) (.cons (.exp (.aU (.attr (.var 2) 0) 51 (.cons (.sub (.var 0) (.int 2)) .nil))) .nil) (.cons (.ek (.attr (.var 2) 0) (.sub (.var 0) (.int 2)) (.sub (.var 0) (.int 3))) .nil)) .nil)) .nil)) .nil)) .nil)) .nil))}
noncomputable def gO:da:={aY:=3,cx:=[],slots:=[S 106,S 107,S 108,S 64,S 9,S 60,S 14,S 26,N],body:=(.cons (.asg 3 (.sub (.var 0) (.str 64))) (.cons (.eM (.var 3) 15 (.cmp .eq (.bin .mod (.var 2) (.int 4)) (.int 3))) (.cons (.ifs (.cmp .lt (.var 1) (.int 2)) (.cons (.gj [4,5] (.cons (.str 39) (.cons (.lst (.cons (.bin .mod (.var 2) (.int 7)) (.cons (.int 5) (.cons (.int 5) .nil)))) .nil))) (.cons (.asg 6 (.aU (.var 3) 61 (.cons (.comp (.call (.gf 3) (.cons (.var 8) .nil)) [8] (.var 5) .no) .nil))) .nil)) (.cons (.ifs (.cmp .eq (.var 1) (.int 2)) (.cons (.gj [4,5,6] (.cons (.str 8) (.cons (.lst .nil) (.cons (.aU (.var 3) 62 (.cons (.int 2) .nil)) .nil)))) .nil) (.cons (.gj [4,5,6] (.cons (.str 36) (.cons (.lst (.cons (.int 0) (.cons (.int 0) .nil))) (.cons (.aU (.var 3) 63 (.cons (.int 2) .nil)) .nil)))) .nil)) .nil)) (.cons (.asg 7 (.ite (.cmp .eq (.bin .mod (.var 2) (.int 4)) (.int 3)) (.int 0) (.bq .len (.cons (.sub (.var 0) (.str 25)) .nil)))) (.cons (.exp (.aU (.sub (.var 0) (.str 58)) 44 (.cons (.tm [14,9,59,26,60,16] (.cons (.var 6) (.cons (.var 4) (.cons (.cmp .eq (.bin .mod (.var 2) (.int 4)) (.int 3)) (.cons (.var 7) (.cons (.var 5) (.cons (.int 3) .nil))))))) .nil))) (.cons (.eM (.var 3) 15 (.qg MT)) .nil))))))}
noncomputable def Ii:da:={aY:=1,cx:=[],slots:=[S 109],body:=(.cons (.ret (.call (.pick [39,8,36] (.cons (.gf 7) (.cons (.gf 8) (.cons (.gf 6) .nil))) (.sub (.var 0) (.str 9))) (.cons (.sub (.var 0) (.str 14)) .nil))) .nil)}
noncomputable def mU:da:={aY:=3,cx:=[],slots:=[S 106,S 107,S 108,S 109,S 64,S 95,S 24,S 110,N,N,N,N],body:=(.cons (.asg 3 (.sub (.sub (.var 0) (.str 58)) (.bin .mod (.var 2) (.bq .len (.cons (.sub (.var 0) (.str 58)) .nil))))) (.cons (.gj [2,4] (.cons (.bin .fdiv (.var 2) (.bq .len (.cons (.sub (.var 0) (.str 58)) .nil))) (.cons (.sub (.var 0) (.str 64)) .nil))) (.cons (.ifs (.cmp .eq (.sub (.var 3) (.str 9)) (.str 39)) (.cons (.asg 5 (.bin .mod (.var 2) (.int 3))) (.cons (.exp (.aU (.var 4) 65 (.cons (.sub (.var 3) (.str 14)) (.cons (.var 5) (.cons (.call (.gf 3) (.cons (.bin .fdiv (.var 2) (.int 3)) .nil)) .nil))))) (.cons (.ek (.var 3) (.str 60) (.bin .add (.bin .add (.qh (.sub (.var 3) (.str 60)) .no (.so (.var 5))) (.lst (.cons (.bin .fdiv (.var 2) (.int 3)) .nil))) (.qh (.sub (.var 3) (.str 60)) (.so (.bin .add (.var 5) (.int 1))) .no))) .nil))) (.cons (.ifs (.cmp .eq (.sub (.var 3) (.str 9)) (.str 36)) (.cons (.exp (.aU (.var 4) 66 (.cons (.sub (.var 3) (.str 14)) (.cons (.bin .mod (.var 2) (.int 2)) (.cons (.bin .mod (.bin .fdiv (.var 2) (.int 2)) (.int 256)) .nil))))) (.cons (.ek (.var 3) (.str 60) (.ite (.cmp .eq (.bin .mod (.var 2) (.int 2)) (.int 0)) (.lst (.cons (.bin .mod (.bin .fdiv (.var 2) (.int 2)) (.int 256)) (.cons (.sub (.sub (.var 3) (.str 60)) (.int 1)) .nil))) (.lst (.cons (.sub (.sub (.var 3) (.str 60)) (.int 0)) (.cons (.bin .mod (.bin .fdiv (.var 2) (.int 2)) (.int 256)) .nil))))) .nil)) (.cons (.ifs (.cmp .lt (.var 1) (.int 7)) (.cons (.gj [6,7] (.cons (.qh (.bw [97,98,99]) (.so (.bin .mod (.var 2) (.int 3))) (.so (.bin .add (.bin .mod (.var 2) (.int 3)) (.int 1)))) (.cons (.comp (.sub (.var 10) (.int 0)) [10] (.sub (.var 3) (.str 60)) .no) .nil))) (.cons (.exp (.aU (.var 4) 67 (.cons (.sub (.var 3) (.str 14)) (.cons (.call (.gf 4) (.cons (.var 6) .nil)) (.cons (.call (.gf 3) (.cons (.bin .fdiv (.var 2) (.int 3)) .nil)) .nil))))) (.cons (.ifs (.cmp .in (.var 6) (.var 7)) (.cons (.ek (.var 3) (.str 60) (.comp (.tup (.cons (.var 8) (.cons (.ite (.cmp .eq (.var 8) (.var 6)) (.bin .fdiv (.var 2) (.int 3)) (.var 9)) .nil))) [8,9] (.sub (.var 3) (.str 60)) .no)) .nil) (.cons (.ek (.var 3) (.str 60) (.bin .add (.sub (.var 3) (.str 60)) (.lst (.cons (.tup (.cons (.var 6) (.cons (.bin .fdiv (.var 2) (.int 3)) .nil))) .nil)))) .nil)) .nil))) (.cons (.ifs (.cmp .eq (.bin .mod (.var 2) (.int 4)) (.int 3)) (.cons (.ek (.var 3) (.str 16) (.bq .min (.cons (.sub (.var 3) (.str 16)) (.cons (.int 2) .nil)))) (.cons (.exp (.aU (.var 4) 68 (.cons (.sub (.var 3) (.str 14)) (.cons (.sub (.var 3) (.str 16)) .nil)))) .nil)) (.cons (.asg 6 (.qh (.bw [97,98,99]) (.so (.bin .mod (.var 2) (.int 3))) (.so (.bin .add (.bin .mod (.var 2) (.int 3)) (.int 1))))) (.cons (.exp (.aU (.var 4) 69 (.cons (.sub (.var 3) (.str 14)) (.cons (.call (.gf 4) (.cons (.var 6) .nil)) .nil)))) (.cons (.ek (.var 3) (.str 60) (.comp (.var 11) [11] (.sub (.var 3) (.str 60)) (.so (.cmp .ne (.sub (.var 11) (.int 0)) (.var 6))))) .nil)))) .nil)) .nil)) .nil)) .nil)))}
noncomputable def mV:da:={aY:=2,cx:=[],slots:=[S 106,S 108,S 100,S 23,S 99,S 111,S 89,S 109],body:=(.cons (.asg 2 (.bin .mod (.var 1) (.bq .len (.cons (.sub (.var 0) (.str 25)) .nil)))) (.cons (.qo [3,4] (.sub (.sub (.var 0) (.str 25)) (.var 2))) (.cons (.exp (.aU (.sub (.var 0) (.str 64)) 71 (.cons (.var 3) .nil))) (.cons (.asg 5 (.emp)) (.cons (.iM 6 7 (.sub (.var 0) (.str 58)) (.cons (.ifs (.or (.sub (.var 7) (.str 59)) (.cmp .le (.sub (.var 7) (.str 26)) (.var 2))) (.cons (.ifs (.and (.not (.sub (.var 7) (.str 59))) (.cmp .ne (.sub (.var 7) (.str 9)) (.str 36))) (.cons (.kN (.cons (.var 7) (.cons (.var 7) .nil)) (.cons (.str 60) (.cons (.str 16) .nil)) (.cons (.sub (.sub (.var 4) (.var 6)) (.int 0)) (.cons (.sub (.sub (.var 4) (.var 6)) (.int 1)) .nil))) .nil) .nil) (.cons (.exp (.aU (.var 5) 44 (.cons (.var 7) .nil))) .nil)) .nil) .nil)) (.cons (.kN (.cons (.var 0) (.cons (.var 0) (.cons (.var 0) .nil))) (.cons (.str 58) (.cons (.str 70) (.cons (.str 25) .nil))) (.cons (.var 5) (.cons (.var 3) (.cons (.qh (.sub (.var 0) (.str 25)) .no (.so (.var 2))) .nil)))) .nil))))))}
noncomputable def Ij:da:={aY:=1,cx:=[],slots:=[S 106,N],body:=(.cons (.exp (.aU (.sub (.var 0) (.str 25)) 44 (.cons (.tup (.cons (.aU (.sub (.var 0) (.str 64)) 72 .nil) (.cons (.comp (.tup (.cons (.sub (.var 1) (.str 60)) (.cons (.sub (.var 1) (.str 16)) .nil))) [1] (.sub (.var 0) (.str 58)) .no) .nil))) .nil))) .nil)}
noncomputable def Jx:da:={aY:=1,cx:=[],slots:=[S 106,S 109,S 14,S 76,S 100,S 72,S 19,N,N,N,N],body:=(.cons (.di 1 (.sub (.var 0) (.str 58)) (.cons (.asg 2 (.sub (.var 1) (.str 14))) (.cons (.ifs (.cmp .eq (.sub (.var 1) (.str 9)) (.str 39)) (.cons (.asg 3 (.comp (.attr (.var 8) 11) [8] (.attr (.var 2) 6) .no)) .nil) (.cons (.ifs (.cmp .eq (.sub (.var 1) (.str 9)) (.str 36)) (.cons (.asg 3 (.bq .list (.cons (.attr (.var 2) 4) .nil))) .nil) (.cons (.asg 3 (.comp (.tup (.cons (.attr (.var 9) 11) (.cons (.attr (.var 10) 11) .nil))) [9,10] (.aU (.var 2) 75 .nil) .no)) .nil)) .nil)) (.cons (.ifs (.or (.cmp .ne (.var 3) (.sub (.var 1) (.str 60))) (.and (.cmp .eq (.sub (.var 1) (.str 9)) (.str 8)) (.cmp .ne (.attr (.var 2) 16) (.sub (.var 1) (.str 16))))) (.cons (.ret (.qg MT)) .nil) .nil) (.cons (.iM 4 5 (.sub (.var 0) (.str 25)) (.cons (.ifs (.cmp .ne (.aU (.sub (.var 0) (.str 64)) 74 (.cons (.sub (.var 5) (.int 0)) (.cons (.call (.gf 53) (.cons (.var 1) .nil)) .nil))) (.and (.not (.sub (.var 1) (.str 59))) (.cmp .gt (.sub (.var 1) (.str 26)) (.var 4)))) (.cons (.ret (.qg MT)) .nil) .nil) .nil)) .nil))))) (.cons (.asg 6 (.bq .len (.cons (.sub (.var 0) (.str 25)) .nil))) (.cons (.ret (.and (.cmp .eq (.sub (.aU (.sub (.var 0) (.str 64)) 73 .nil) (.int 0)) (.var 6)) (.cmp .eq (.comp (.aU (.sub (.var 0) (.str 64)) 54 (.cons (.sub (.var 7) (.int 0)) .nil)) [7] (.sub (.var 0) (.str 25)) .no) (.bq .fJ (.cons (.var 6) .nil))))) .nil)))}
noncomputable def zK:da:={aY:=1,cx:=[],slots:=[S 106,S 64,S 112,S 113,S 109,S 114],body:=(.cons (.gj [1,2] (.cons (.sub (.var 0) (.str 64)) (.cons (.emp) .nil))) (.cons (.ifs (.cmp .ku (.sub (.var 0) (.str 70)) (.kM)) (.cons (.kO (.aU (.var 1) 71 (.cons (.sub (.var 0) (.str 70)) .nil)) 3 (.aU (.var 2) 44 (.cons (.attr (.var 3) 76) .nil))) (.cons (.ifs (.or (.cmp .ne (.var 2) (.lst (.cons (.bw [105,110,118,97,108,105,100,114,101,115,116,111,114,101]) .nil))) (.aU (.var 1) 77 (.cons (.sub (.var 0) (.str 70)) .nil))) (.cons (.ret (.qg MT)) .nil) .nil) .nil)) .nil) (.cons (.di 4 (.sub (.var 0) (.str 58)) (.cons (.di 5 (.sub (.var 0) (.str 58)) (.cons (.ifs (.and (.sub (.var 4) (.str 59)) (.and (.not (.sub (.var 5) (.str 59))) (.cmp .eq (.sub (.var 4) (.str 9)) (.str 39)))) (.cons (.asg 2 (.emp)) (.cons (.kO (.aU (.var 1) 65 (.cons (.sub (.var 4) (.str 14)) (.cons (.int 0) (.cons (.call (.gf 53) (.cons (.var 5) .nil)) .nil)))) 3 (.aU (.var 2) 44 (.cons (.attr (.var 3) 76) .nil))) (.cons (.ifs (.cmp .ne (.var 2) (.lst (.cons (.bw [105,110,118,97,108,105,100,97,99,99,101,115,115]) .nil))) (.cons (.ret (.qg MT)) .nil) .nil) .nil))) .nil) .nil)) .nil)) (.cons (.ret (.call (.gf 57) (.cons (.var 0) .nil))) .nil))))}
noncomputable def mW:da:={aY:=1,cx:=[],slots:=[S 115,S 106,S 116,S 107,S 108],body:=(.cons (.asg 1 (.tm [64,58,25,70] (.cons (.call (.gc .Mem) (.cons (.call (.gc .Cy) .nil) .nil)) (.cons (.emp) (.cons (.emp) (.cons (.kM) .nil)))))) (.cons (.di 2 (.qh (.var 0) .no (.so (.int 14))) (.cons (.asg 2 (.bin .mod (.bq .abs (.cons (.bq .int (.cons (.var 2) .nil)) .nil)) (.bin .pow (.int 10) (.int 6)))) (.cons (.gj [3,4] (.cons (.bin .mod (.var 2) (.int 10)) (.cons (.bin .fdiv (.var 2) (.int 10)) .nil))) (.cons (.ifs (.or (.cmp .lt (.var 3) (.int 4)) (.cmp .eq (.sub (.var 1) (.str 58)) (.emp))) (.cons (.exp (.call (.gf 52) (.cons (.var 1) (.cons (.bin .mod (.var 3) (.int 4)) (.cons (.var 4) .nil))))) .nil) (.cons (.ifs (.cmp .lt (.var 3) (.int 8)) (.cons (.exp (.call (.gf 54) (.cons (.var 1) (.cons (.var 3) (.cons (.var 4) .nil))))) .nil) (.cons (.ifs (.or (.cmp .eq (.var 3) (.int 8)) (.cmp .eq (.sub (.var 1) (.str 25)) (.emp))) (.cons (.exp (.call (.gf 56) (.cons (.var 1) .nil))) .nil) (.cons (.exp (.call (.gf 55) (.cons (.var 1) (.cons (.var 4) .nil)))) .nil)) .nil)) .nil)) (.cons (.ifs (.not (.call (.gf 57) (.cons (.var 1) .nil))) (.cons (.ret (.qg MT)) .nil) .nil) .nil))))) (.cons (.ret (.call (.gf 58) (.cons (.var 1) .nil))) .nil)))}
noncomputable def CE:zv:={aY:=5,cx:=[.bool MT,.int 3],slots:=[S 90,S 9,S 11,S 78,S 16],bS:=[9,11,78,16],vals:=(.cons (.var 1) (.cons (.var 2) (.cons (.var 3) (.cons (.var 4) .nil))))}
noncomputable def Fu:zv:={aY:=5,cx:=[],slots:=[S 90,S 23,S 4,S 15,S 26],bS:=[23,4,15,26],vals:=(.cons (.var 1) (.cons (.bq .mR (.cons (.var 2) .nil)) (.cons (.var 3) (.cons (.var 4) .nil))))}
noncomputable def Ik:zv:={aY:=5,cx:=[],slots:=[S 90,S 23,S 6,S 15,S 26],bS:=[23,6,15,26],vals:=(.cons (.var 1) (.cons (.bq .tj (.cons (.var 2) .nil)) (.cons (.var 3) (.cons (.var 4) .nil))))}
noncomputable def Fv:zv:={aY:=5,cx:=[],slots:=[S 90,S 23,S 47,S 15,S 26],bS:=[23,47,15,26,16,0],vals:=(.cons (.var 1) (.cons (.var 2) (.cons (.var 3) (.cons (.var 4) (.cons (.gi 79 3) (.cons (.tm [] .nil) .nil))))))}
noncomputable def Fw:zv:={aY:=4,cx:=[],slots:=[S 90,S 14,S 18,S 19],bS:=[14,18,19],vals:=(.cons (.var 1) (.cons (.var 2) (.cons (.var 3) .nil)))}
noncomputable def Il:zv:={aY:=15,cx:=[.int 500,.int 20,.int 250,.int 15,.int 31,.int 65535,.int 65535,.int 65535,.int 127,.int 1500,.int 11,.int 15,.int 600,.int 16777216],slots:=[S 90,S 80,S 81,S 82,S 25,S 83,S 36,S 39,S 0,S 24,S 84,S 85,S 86,S 87,S 34],bS:=[80,81,82,25,83,36,39,0,24,84,85,86,87,34],vals:=(.cons (.var 1) (.cons (.var 2) (.cons (.var 3) (.cons (.var 4) (.cons (.var 5) (.cons (.var 6) (.cons (.var 7) (.cons (.var 8) (.cons (.var 9) (.cons (.var 10) (.cons (.var 11) (.cons (.var 12) (.cons (.var 13) (.cons (.var 14) .nil))))))))))))))}
noncomputable def Fx:zv:={aY:=5,cx:=[],slots:=[S 90,S 23,S 19,S 29,S 88],bS:=[23,19,29,88],vals:=(.cons (.var 1) (.cons (.var 2) (.cons (.var 3) (.cons (.var 4) .nil))))}
noncomputable def Im:zv:={aY:=2,cx:=[],slots:=[S 90,S 33],bS:=[33,15,25,43,30,57,29,28,27,53],vals:=(.cons (.var 1) (.cons (.qg MT) (.cons (.emp) (.cons (.emp) (.cons (.tm [] .nil) (.cons (.emp) (.cons (.int 0) (.cons (.int 0) (.cons (.int 0) (.cons (.int 0) .nil))))))))))}
noncomputable def Io:zv:={aY:=2,cx:=[.none],slots:=[S 90,S 76],bS:=[76],vals:=(.cons (.var 1) .nil)}
noncomputable def FT:V da:=[f0,f1,f2,f3,f4,f5,f6,f7,f8,f9,Ko,HN,Fo,Fp,Kp,Kr,Ks,HO,HP,HQ,HR,HS,HT,HU,zJ,BO,HV,HW,HX,HY,Fq,Fs,HZ,Kt,E7,mT,Ft,H9,Ia,Jv,Ib,Ku,Ic,Ie,jJ,Jw,Ig,Kv,Kw,Kx,Ih,wk,gO,Ii,mU,mV,Ij,Jx,zK,mW]
noncomputable def nM(H:Z):O da:=FT[H]?
noncomputable def bT:dG->zv
 |.Thing=>CE
 |.Text=>Fu
 |.Row=>Ik
 |.Dict=>Fv
 |.Span=>Fw
 |.Cy=>Il
 |.jN=>Fx
 |.Mem=>Im
 |.bQ=>Io
noncomputable def fnName:V (Z×O Z):=[(122,N),(48,S 123),(75,S 123),(1,N),(2,N),(3,N),(124,N),(125,N),(126,N),(127,N),(128,N),(129,N),(130,N),(131,N),(132,N),(133,N),(134,N),(135,N),(136,N),(137,N),(26,S 138),(31,S 138),(37,S 138),(32,S 138),(63,S 138),(35,S 138),(61,S 138),(62,S 138),(42,S 139),(46,S 139),(65,S 139),(41,S 139),(66,S 139),(117,S 139),(50,S 139),(67,S 139),(69,S 139),(68,S 139),(72,S 140),(54,S 140),(77,S 140),(118,S 140),(55,S 140),(74,S 140),(71,S 140),(56,S 140),(73,S 140),(119,S 140),(120,S 140),(121,S 140),(141,N),(142,N),(143,N),(144,N),(145,N),(146,N),(147,N),(148,N),(149,N),(150,N)]
noncomputable def CG:V (V Z):=[[101,110,116,114,105,101,115],[105,110,116,101,103,101,114],[110,97,109,101],[110,117,108,108],[111,99,116,101,116,115],[115,116,114,105,110,103],[116,104,105,110,103,115],[97,114,114,97,121],[100,105,99,116],[107,105,110,100],[114,101,97,108],[118,97,108,117,101],[71,82,65,73,78],[112,97,99,107,101,100],[98,111,100,121],[105,115,95,103,108,111,98,97,108],[97,99,99,101,115,115],[82,69,65,68,95,79,78,76,89],[115,116,97,114,116],[109,97,110,121],[98,111,111,108,101,97,110],[103,115,116,97,116,101],[102,105,108,101],[110,117,109,98,101,114],[119,111,114,100],[115,97,118,101,115],[108,101,118,101,108],[108,97,115,116,95,98,111,100,121],[117,115,101,100,95,103,108,111,98,97,108],[117,115,101,100],[109,97,100,101],[98,111,100,121,95,108,101,118,101,108],[99,104,101,99,107,95,114,111,111,109],[108,105,109,105,116,115],[118,109],[116,101,120,116,95,111,102,95,111,99,116,101,116,115],[116,101,120,116],[116,97,107,101,95,114,111,111,109],[73,84,69,77,95,67,79,83,84],[114,111,119],[69,78,84,82,89,95,67,79,83,84],[112,117,116,95,105,116,101,109,115],[105,115,95,101,108,100,101,114],[106,111,117,114,110,97,108],[97,112,112,101,110,100],[105,116,101,109],[99,104,101,99,107,95,104,111,108,100,115],[109,111,115,116],[103,101,116],[101,110,116,114,121],[103,114,111,119],[112,111,112],[100,114,111,112],[108,97,115,116,95,115,97,118,101],[112,108,97,99,101,95,111,102,95,115,97,118,101],[115,117,114,101,95,112,108,97,99,101],[115,101,116,116,108,101,95,99,111,115,116,115],[102,114,101,101,100],[98,111,100,105,101,115],[103,108,111,98,97,108],[105,116,101,109,115],[109,97,107,101,95,114,111,119],[109,97,107,101,95,100,105,99,116],[109,97,107,101,95,116,101,120,116],[109,101,109,111,114,121],[112,117,116,95,105,116,101,109],[112,117,116,95,111,99,116,101,116],[112,117,116,95,101,110,116,114,121],[115,101,116,95,97,99,99,101,115,115],[100,114,111,112,95,101,110,116,114,121],[103,111,110,101],[114,101,115,116,111,114,101],[115,97,118,101],[115,116,97,116,117,115],[110,101,119,101,114,95,116,104,97,110],[112,97,105,114,115],[116,111,108,100],[105,115,95,115,97,118,101,100],[105,115,95,101,120,101,99],[85,78,76,73,77,73,84,69,68],[111,112,101,114,97,110,100,115],[100,105,99,116,115],[102,114,97,109,101,115],[103,115,116,97,116,101,115],[112,97,116,104],[100,97,115,104],[102,105,108,101,115],[115,121,115,116,101,109],[110,111,116,101],[107],[115,101,108,102],[107,101,121],[116,104,105,110,103],[115,112,97,110],[99,111,115,116],[97,116],[115,116,101,112],[111,99,116,101,116],[109,111,114,101],[107,101,112,116],[112,108,97,99,101],[115,97,118,101,100],[117,110,100,111,110,101],[99,104,97,110,103,101],[114,111,111,116,115],[105,115,95,97,108,108],[119],[119,97,121],[114,101,115,116],[111,110,101],[107,101,121,115],[108,101,102,116],[110,97,109,101,115,95,110,111,119],[101],[111,116,104,101,114],[115,99,114,105,112,116],[99,101,108,108],[112,117,116,95,111,99,116,101,116,115],[110,111,116,101,95,111,102],[99,111,108,108,101,99,116],[114,101,99,108,97,105,109],[106,111,117,114,110,97,108,95,116,104,105,110,103,115],[95,119,97,108,108],[68,105,99,116,66,111,100,121],[111,102,95,115,116,114,105,110,103],[111,102,95,114,111,119],[111,102,95,100,105,99,116],[105,115,95,110,117,109,98,101,114],[105,110,95,109,105,108,108,105,111,110,116,104,115],[105,115,95,105,110,95,97,114,114,97,121],[98,111,100,121,95,111,102],[105,115,95,108,111,99,97,108],[97,99,99,101,115,115,95,111,102],[99,97,110,95,114,101,97,100],[111,99,116,101,116,115,95,111,102,95,115,112,97,110],[116,104,105,110,103,95,111,99,116,101,116,115],[107,101,121,95,111,102],[107,101,121,95,116,104,105,110,103],[66,111,100,121,77,97,107,101,114],[66,111,100,121,67,104,97,110,103,101,114],[77,101,109,111,114,121],[109,101,109,111,114,121,95,99,104,101,99,107,95,109,97,110,121],[109,101,109,111,114,121,95,112,117,116,95,98,97,99,107],[95,108,97,119,95,109,97,100,101],[95,108,97,119,95,116,104,105,110,103],[95,108,97,119,95,99,104,97,110,103,101,100],[95,108,97,119,95,114,101,115,116,111,114,101,100],[95,108,97,119,95,115,97,118,101,100],[95,108,97,119,95,105,115,95,115,111],[95,108,97,119,95,114,101,102,117,115,101,100],[108,97,119]]
noncomputable def bindArgs(p:Z)(d:V Q)(n:Z)(l:V Q):O Loc:=
 if l.length<=p/\p<=l.length+d.length then
  let I:=l++d.drop (l.length+d.length - p)
  S (I.map S++UN (n - p) N)
 else N
noncomputable def aC:Z->CF
 |0,_,_,_=>.bad
 |q+1,.fn H,l,b=>match nM H with
  |none=>.bad
  |some A=>match bindArgs A.aY A.cx A.slots.length l with
   |none=>.bad
   |some T=>(aW (aC q) A.body T b).bind λy=>.ok ((match y.1 with|.ret E=>E|.next=>.none),y.2.2)
 |q+1,.cls C,l,b=>if C=.bQ\/C=.Text then .bad else match bindArgs (bT C).aY (bT C).cx (bT C).slots.length (.none :: l) with
  |none=>.bad
  |some T=>(bp (aC q) (bT C).vals (T.set 0 N) b).bind λy=>if fO C then .ok (.obj C y.1,y.2) else .ok (.aA y.2.I.length,{y.2 with I:=y.2.I++[(C,y.1)]})
noncomputable def Jy(k:V MN):Res (Q×AH):=aC 12 (.fn 59) [.lst (k.map .int)] {}
variable{a:CF}
theorem iN{r T b}:aO a (.var r) T b=(match T[r]? with|some (S E)=>.ok (E,b)|_=>.bad):=rfl
theorem hV{D I T b}:aO a (.attr D I) T b=((aO a D T b).bind λy=>aG a y.2 y.1 I):=rfl
theorem oH{A l T b}:aO a (.call A l) T b=((aO a A T b).bind λy=>match keyOf y.1 with
  |some H=>(bp a l T y.2).bind λL=>a H L.1 L.2
  |none=>.bad):=rfl
theorem i8{M l T b}:aO a (.bq M l) T b=((bp a l T b).bind λL=>.of (bA L.2 M L.1)):=rfl
theorem kZ{D x l T b}:aO a (.aU D x l) T b=((aO a D T b).bind λy=>match aK y.2 y.1 x with
  |some (.own A)=>(bp a l T y.2).bind λL=>a (.fn A) (y.1 :: L.1) L.2
  |some .bI=>(bp a l T y.2).bind λL=>.of (gH L.2 y.1 x L.1)
  |none=>.bad):=rfl
theorem wm{D K T b}:aO a (.sub D K) T b=((aO a D T b).bind λy=>(aO a K T y.2).bind λL=>match aR L.2 y.1 L.1 with
  |some E=>.ok (E,L.2)
  |none=>.bad):=rfl
theorem wo{D o d T b}:aO a (.qh D o d) T b=((aO a D T b).bind λy=>(zx a o T y.2).bind λI=>(zx a d T I.2).bind λM=>.of (dP M.2 y.1 I.1 M.1)):=rfl
theorem oJ{g w K T b}:aO a (.pick g w K) T b=((bp a w T b).bind λL=>(aO a K T L.2).bind λy=>gT g L.1 y.1 y.2):=rfl
theorem lJ{y T b}:aO a (.tup y) T b=((bp a y T b).bind λL=>.ok (.tup L.1,L.2)):=rfl
theorem rE{y T b}:aO a (.lst y) T b=((bp a y T b).bind λL=>.ok (.lst L.1,L.2)):=rfl
theorem CH{g b}:aO a (.emp) g b=(.ok (.aE b.L.length,{b with L:=b.L++[[]]})):=rfl
theorem wq{g w T b}:aO a (.tm g w) T b=((bp a w T b).bind λL=>if g.length=L.1.length then .ok (.ab L.2.D.length,{L.2 with D:=L.2.D++[(g.map Q.str).zip L.1]}) else .bad):=rfl
theorem wt{z I M T b}:aO a (.bin z I M) T b=((aO a I T b).bind λy=>(aO a M T y.2).bind λL=>match bY z y.1 L.1 with
  |some E=>.ok (E,L.2)
  |none=>.bad):=rfl
theorem rF{z I M T b}:aO a (.cmp z I M) T b=((aO a I T b).bind λy=>(aO a M T y.2).bind λL=>match cq L.2 z y.1 L.1 with
  |some E=>.ok (.bool E,L.2)
  |none=>.bad):=rfl
theorem rG{I M T b}:aO a (.and I M) T b=((aO a I T b).bind λy=>match truthy y.1 with
  |some ML=>aO a M T y.2
  |some MT=>.ok (y.1,y.2)
  |none=>.bad):=rfl
theorem wu{I M T b}:aO a (.or I M) T b=((aO a I T b).bind λy=>match truthy y.1 with
  |some ML=>.ok (y.1,y.2)
  |some MT=>aO a M T y.2
  |none=>.bad):=rfl
theorem rH{D T b}:aO a (.not D) T b=((aO a D T b).bind λy=>match truthy y.1 with
  |some M=>.ok (.bool (!M),y.2)
  |none=>.bad):=rfl
theorem wx{D T b}:aO a (.neg D) T b=((aO a D T b).bind λy=>match y.1 with
  |.int K=>.ok (.int (-K),y.2)
  |_=>.bad):=rfl
theorem rI{C I M T b}:aO a (.ite C I M) T b=((aO a C T b).bind λy=>match truthy y.1 with
  |some ML=>aO a I T y.2
  |some MT=>aO a M T y.2
  |none=>.bad):=rfl
theorem tr{c m n q T b}:aO a (.comp c m n q) T b=((aO a n T b).bind λy=>match srcOf y.2 y.1 with
  |none=>.bad
  |some t=>(bO (λE b=>match fy T m E with
    |none=>.bad
    |some v=>((zy a q v b).bind λC=>if C.1 then(aO a c v C.2).bind λr=>.ok (S r.1,r.2) else .ok (N,C.2)).tq) t.1 (t.2+1) 0 y.2).bind λL=>.ok (.lst L.1,L.2)):=rfl
theorem k9{D g T b}:aO a (.vals D g) T b=((aO a D T b).bind λy=>kz y.2 y.1):=rfl
theorem zL{g b}:bp a (.nil) g b=(.ok ([],b)):=rfl
theorem fP{D y T b}:bp a (.cons D y) T b=((aO a D T b).bind λr=>(bp a y T r.2).bind λL=>.ok (r.1 :: L.1,L.2)):=rfl
theorem BP{D T b}:zx a (.so D) T b=((aO a D T b).bind λy=>.ok (S y.1,y.2)):=rfl
theorem Fy{g b}:zy a (.no) g b=(.ok (ML,b)):=rfl
theorem Fz{D T b}:zy a (.so D) T b=((aO a D T b).bind λy=>match truthy y.1 with
  |some M=>.ok (M,y.2)
  |none=>.bad):=rfl
theorem oK{r D T b}:cN a (.asg r D) T b=((aO a D T b).bind λy=>.ok (.next,T.set r (S y.1),y.2)):=rfl
theorem tu{D I E T b}:cN a (.eM D I E) T b=((aO a E T b).bind λy=>(aO a D T y.2).bind λL=>match dH L.2 L.1 I y.1 with
  |some r=>.ok (.next,T,r)
  |none=>.bad):=rfl
theorem tw{D K E T b}:cN a (.ek D K E) T b=((aO a E T b).bind λy=>(aO a D T y.2).bind λL=>(aO a K T L.2).bind λP=>match dm P.2 L.1 P.1 y.1 with
  |some r=>.ok (.next,T,r)
  |none=>.bad):=rfl
theorem oM{j D T b}:cN a (.qo j D) T b=((aO a D T b).bind λy=>match y.1 with
  |.tup w=>match de T j w with
   |some v=>.ok (.next,v,y.2)
   |none=>.bad
  |_=>.bad):=rfl
theorem tA{j y T b}:cN a (.gj j y) T b=((bp a y T b).bind λc=>match de T j c.1 with
   |some v=>.ok (.next,v,c.2)
   |none=>.bad):=rfl
theorem tB{e q w T b}:cN a (.kN e q w) T b=((bp a w T b).bind λy=>uN a e q y.1 T y.2):=rfl
theorem rJ{D T b}:cN a (.exp D) T b=((aO a D T b).bind λy=>.ok (.next,T,y.2)):=rfl
theorem rK{C I M T b}:cN a (.ifs C I M) T b=((aO a C T b).bind λy=>match truthy y.1 with
  |some ML=>aW a I T y.2
  |some MT=>aW a M T y.2
  |none=>.bad):=rfl
theorem tC{r D M T b}:cN a (.di r D M) T b=((aO a D T b).bind λy=>match srcOf y.2 y.1 with
  |none=>.bad
  |some t=>bZ (λY E T b=>aW a M (T.set r (S E)) b) t.1 (t.2+1) 0 T y.2):=rfl
theorem tD{K r D M T b}:cN a (.iM K r D M) T b=((aO a D T b).bind λy=>match srcOf y.2 y.1 with
  |none=>.bad
  |some t=>bZ (λH E T b=>aW a M ((T.set K (S (.int H))).set r (S E)) b) t.1 (t.2+1) 0 T y.2):=rfl
theorem wz{C M T b}:cN a (.zu C M) T b=(gJ (λT b=>(aO a C T b).bind λy=>match truthy y.1 with
   |some n=>.ok (n,y.2)
   |none=>.bad) (λT b=>aW a M T b) 100 T b):=rfl
theorem wA{D T b}:cN a (.ret D) T b=((aO a D T b).bind λy=>.ok (.ret y.1,T,y.2)):=rfl
theorem tE{D T b}:cN a (.eU D) T b=((aO a D T b).bind λy=>.exc y.1 y.2):=rfl
theorem oN{D r B T b}:cN a (.kO D r B) T b=(match aO a D T b with
  |.ok y=>.ok (.next,T,y.2)
  |.exc n c=>(aO (λY Y Y=>Res.bad) B (T.set r (S (.exc n))) c).tq.bind λy=>.ok (.next,(T.set r (S (.exc n))).set r N,y.2)
  |.bad=>.bad):=rfl
theorem fc{t y T b}:aW a (.cons t y) T b=((cN a t T b).bind λL=>match L.1 with
  |.next=>aW a y L.2.1 L.2.2
  |.ret E=>.ok (.ret E,L.2.1,L.2.2)):=rfl
theorem Hn{g:Z->Q->Loc->AH->Res (Fl×Loc×AH)}{t:Src}{q:Z}{K:Z}{T:Loc}{b:AH}:bZ g t (q+1) K T b=(match t.at K b with
  |none=>.bad
  |some N=>.ok (.next,T,b)
  |some (S E)=>(g K E T b).bind λy=>match y.1 with
   |.next=>bZ g t q (K+1) y.2.1 y.2.2
   |.ret r=>.ok (.ret r,y.2.1,y.2.2)):=rfl
theorem Ky{G:Q->AH->Res (O Q×AH)}{t:Src}{q:Z}{K:Z}{b:AH}:bO G t (q+1) K b=(match t.at K b with
  |none=>.bad
  |some N=>.ok ([],b)
  |some (S E)=>(G E b).bind λy=>(bO G t q (K+1) y.2).bind λL=>.ok ((match y.1 with|some r=>r :: L.1|none=>L.1),L.2)):=rfl
theorem Ip{C:Loc->AH->Res (MP×AH)}{b:Loc->AH->Res (Fl×Loc×AH)}{q:Z}{T:Loc}{a:AH}:gJ C b (q+1) T a=((C T a).bind λM=>if M.1 then(b T M.2).bind λy=>match y.1 with
   |.next=>gJ C b q y.2.1 y.2.2
   |.ret r=>.ok (.ret r,y.2.1,y.2.2)
  else .ok (.next,T,M.2)):=rfl
theorem n1(B:b<d)(H:SY d e=ML):b<e:=RS B (Se H)
theorem n2(B:b<=d)(H:SY (d+1) e=ML):b<e:=RO B (Se H)
theorem n3(B:b<=d)(H:SY d e=ML):b<=e:=RH B (Se H)
theorem n4(B:d<=b)(H:SY e d=ML):e<=b:=RH (Se H) B
theorem n5(B:d<=b)(H:SY (e+1) d=ML):e<b:=RH (Se H) B
theorem n6(B:b=d)(H:SY (d+1) e=ML):b<e:=n2 (R2 B) H
theorem n7(B:b=d)(H:SY (e+1) d=ML):e<b:=n5 (R2 B.symm) H
theorem n8(B:b=d)(H:SY d e=ML):b<=e:=n3 (R2 B) H
theorem n9(B:b=d)(H:SY e d=ML):e<=b:=n4 (R2 B.symm) H
theorem Kz{C:Z}(B:b<d)(H:SY (d+C) e=ML):b+C<e:=n1 (Z.add_lt_add_right B C) H
theorem Iq{C:Z}(B:b<=d)(H:SY (d+C+1) e=ML):b+C<e:=n2 (Tw B C) H
theorem qi(B:b<d)(H:SY d (e+1)=ML):b<=e:=T1 (n1 B H)
theorem Ir{C:Z}(B:b+C<d)(H:SY d (e+C)=ML):b<e:=Z.lt_of_add_lt_add_right (n1 B H)
theorem Ho{s:Z}(B:b<=s+d)(H:SY d e=ML):b<=s+e:=RH B (TA (Se H) s)
theorem KA(H:SY d e=ML):b+d<=b+e:=TA (Se H) b
theorem i1{r I M:MN}(B:r<I)(H:MX (I<=M)=ML):r<M:=TS B (M8 H)
theorem i2{r I M:MN}(B:r<=I)(H:MX (I<M)=ML):r<M:=VI B (M8 H)
theorem i3{r I M:MN}(B:r<=I)(H:MX (I<=M)=ML):r<=M:=SW B (M8 H)
theorem i4{r I M:MN}(B:I<=r)(H:MX (M<=I)=ML):M<=r:=SW (M8 H) B
theorem i6{r C:MN}(H:MX (0<=C)=ML):r<=r+C:=MN.le_add_of_nonneg_right (M8 H)
theorem Iu{n:Z}:200*(n:MN)+200=200*((n+1:Z):MN):=(MN.mul_add 200 (n:MN) 1).symm
theorem o1{r s:MN}{n:Z}(B:r<=200*(n:MN))(H:s<=200):r+s<=200*((n+1:Z):MN):=SW (Vs B H) (MN.le_of_eq Iu)
theorem o2{r:MN}{n:Z}(B:r<=200*(n:MN)):r<=200*((n+1:Z):MN):=SW B (UH (c:=200) (S6.mpr (So n)) (by decide))
theorem o3{r s c:MN}{n:Z}(H:n<=14)(B:r<=200*(n:MN))(a:s<=200*(n:MN))(j:c<=96):r+s+c<=16777216:=
 have x:=UH (c:=200) (S6.mpr H) (by decide)
 SW (Vs (Vs (SW B x) (SW a x)) j) (by decide)
theorem o4{s:Z}(B:b<=s)(H:b=s+d):d=0:=Z.eq_zero_of_le_zero (Z.le_of_add_le_add_left (RH (R2 H.symm) B))
theorem o5(B:b<3):b=0\/b=1\/b=2:=by
 rcases b with _|_|_|b;·exact .inl rfl
 ·exact .inr (.inl rfl)
 ·exact .inr (.inr rfl)
 ·exact Nh B (Tj.mpr (SR 3 b))
theorem o6{s:Z}(B:s=3):min b s+1+(s - (b+1))<1000:=by subst B;exact n2 (Z.add_le_add (TC (T8 ..)) (Z.sub_le ..)) rfl
theorem o7{x:MN}(B:0<=x):(if 0<x then x - 0 else 0)=(x.toNat:MN):=by
 by_cases L:0<x;·exact(Nb L).trans ((MN.sub_zero x).trans (UJ B).symm)
 ·exact(Nf L).trans ((MN.le_antisymm B (TU.mp L)).trans (UJ B).symm)
theorem o8{r s C:MN}(B:r+s+32<=C){I:MN}(H:I<=32):r+s+I<=C:=SW (MN.add_le_add_left H _) B
theorem FC{C:Z}(B:d+(e+1)<C):d+1+e<C:=TV d 1 e▸B
theorem Hp{C:Z}(B:d+1+e<C):d+(e+1)<C:=TV d 1 e▸B
theorem E8{C:Z}(B:b+d<e)(H:SY C d=ML):b+C<e:=RO (TA (Se H) b) B
theorem FD{c:Z}{q:Z}{I:Z}{a:Z}(B:a+d*(q+1)+e<I)(H:SY c d=ML):a+c+d*q+e<I:=RO (Tw (RH (Tw (TA (Se H) a) (d*q)) (R2 ((VB ..).trans (Nc (a + ·) (Z.add_comm ..))))) e) B
theorem Jz{C:Z}{h:Z}{q:Z}{I:Z}{c:Z}(B:c+d*(q+1)+e<I)(H:SY (C+h) d=ML):c+C+h+d*q+e<I:=VB c C h▸FD B H
theorem KC{q:Z}{I:Z}{a:Z}(B:a+d*(q+1)+e<I):a+d*q+e<I:=FD (c:=0) B rfl
theorem BQ{c:Z}{x:Z}{I:Z}{a:Z}(B:a+d*x+e<I)(H:SY c e=ML):a+c<I:=RO (Z.add_le_add (R6 ..) (Se H)) B
theorem JA{x:Z}{I:Z}{a:Z}(B:a+d*x+e<I):a<I:=BQ (c:=0) B rfl
theorem JB{x:Z}{q:Z}{I:Z}{c:Z}(H:x<=q)(B:c+d*q+e<I):c+d*x+e<I:=RO (Tw (TA (Ub d H) c) e) B
theorem Iw{C:Z}(H:SY 1 C=ML):b≠b+C:=Te (Ve (Se H))
theorem KD{C:Z}(H:SY 1 C=ML):b+C≠b:=S7 (Ve (Se H))
theorem KG(H:SY (d+1) e=ML):b+d<b+e:=VF (Se H) b
theorem JC(H:SY (d+1) e=ML):b+d≠b+e:=Te (KG H)
theorem KH(B:b<2):b=0\/b=1:=(Z.lt_succ_iff_lt_or_eq.mp B).imp Z.lt_one_iff.mp id
theorem JD:b<=b - 1+1:=Z.le_add_of_sub_le (Sd _)
theorem KI(B:¬b - 1<b):b=0:=Z.eq_zero_of_not_pos λU=>B (V9 U VZ)
theorem JE{H:MN}(B:H<b)(s:b<1000):H<2 ^ 63:=MN.lt_trans B (TS (RU.mpr s) (by decide))
theorem b1{s:Z}{U:Z}(G:b<=s+U)(T:U<=b):b - U+(s+U - b)=s:=(VS s T)▸Uc (Vt.mpr G)
theorem b2{s:Z}{U:Z}(G:b<=s+U)(T:U<=b)(B:d<s+U - b):b - U+d<s:=TJ (VF B _) (b1 G T)
theorem b3{s:Z}{U:Z}(p:s<=b)(G:b<=s+U):U - (s+U - b)=b - s:=by rw[Z.add_comm s U,<-VS U p];exact Z.sub_sub_self (Z.sub_le_iff_le_add'.mpr G)
theorem b4{s:Z}{U:Z}(p:s<=b)(G:b<=s+U):s+(U - (s+U - b))=b:=(Nc (s + ·) (b3 p G)).trans (Uc p)
theorem b5{s:Z}(B:d<b - s):s+d<b:=Z.add_lt_of_lt_sub' B
theorem b6(B:b - d=e+1):b - (d+1)=e:=Nc Z.pred B
theorem b0{s:Z}{U:Z}(v:b+s=U+1)(d:b<U):0<s:=Z.pos_of_lt_add_right (TJ (U3 d) v.symm)
theorem b7{s:Z}{U:Z}(v:b+s=U+1)(d:b<U):s - 1<s:=V9 (b0 v d) VZ
theorem b8{s:Z}{U:Z}(v:b+s=U+1)(d:b<U):b+1+(s - 1)=U+1:=(VB b 1 (s - 1)).trans ((Nc (b + ·) (Uc (b0 v d))).trans v)
theorem oO{i:Type}{l d:V i}{n x:Z}(y:l.length<=n)(q:n<=l.length+d.length)(X:n<=x):((l++d.drop (l.length+d.length - n)).map S++UN (x - n) N).length=x:=by rw[RF,Rz,RF,TF,V.length_replicate,b4 y q];exact Uc X
theorem bL{i d:Type}{r s:Res i}{A:i->Res d}(B:r=s):r.bind A=s.bind A:=B▸rfl
theorem oL{i:Type u}{d:Type v}{r s:O i}{A:i->O d}(B:r=s):r.bind A=s.bind A:=B▸rfl
theorem ba{f n:c->Prop}(r:c)(E:f r)(p:n r):∃(r:c),f r/\n r:=⟨r,E,p⟩
theorem jK{f n M:c->Prop}(r:c)(E:f r)(p:n r)(G:M r):∃(r:c),f r/\n r/\M r:=⟨r,E,p,G⟩
theorem zz{f n M t:c->Prop}(r:c)(E:f r)(p:n r)(G:M r)(T:t r):∃(r:c),f r/\n r/\M r/\t r:=⟨r,E,p,G,T⟩
theorem KJ{f n M t I:c->Prop}(r:c)(E:f r)(p:n r)(G:M r)(T:t r)(X:I r):∃(r:c),f r/\n r/\M r/\t r/\I r:=⟨r,E,p,G,T,X⟩
theorem v7{d:Sort _}{f:c->d->Prop}(r:c)(s:d)(E:f r s):∃(r:c) (s:d),f r s:=⟨r,s,E⟩
theorem dI{d:Sort _}{f n:c->d->Prop}(r:c)(s:d)(E:f r s)(p:n r s):∃(r:c) (s:d),f r s/\n r s:=⟨r,s,E,p⟩
theorem qq{d:Sort _}{f n M:c->d->Prop}(r:c)(s:d)(E:f r s)(p:n r s)(G:M r s):∃(r:c) (s:d),f r s/\n r s/\M r s:=⟨r,s,E,p,G⟩
theorem qr{d:Sort _}{f n M t:c->d->Prop}(r:c)(s:d)(E:f r s)(p:n r s)(G:M r s)(T:t r s):∃(r:c) (s:d),f r s/\n r s/\M r s/\t r s:=⟨r,s,E,p,G,T⟩
theorem E9{d:Sort _}{f n M t I:c->d->Prop}(r:c)(s:d)(E:f r s)(p:n r s)(G:M r s)(T:t r s)(X:I r s):∃(r:c) (s:d),f r s/\n r s/\M r s/\t r s/\I r s:=⟨r,s,E,p,G,T,X⟩
theorem KL{d:Sort _}{f n M t I x:c->d->Prop}(r:c)(s:d)(E:f r s)(p:n r s)(G:M r s)(T:t r s)(X:I r s)(k:x r s):∃(r:c) (s:d),f r s/\n r s/\M r s/\t r s/\I r s/\x r s:=⟨r,s,E,p,G,T,X,k⟩
theorem JF{d:Sort _}{f n M t I x C b:c->d->Prop}(r:c)(s:d)(E:f r s)(p:n r s)(G:M r s)(T:t r s)(X:I r s)(k:x r s)(m:C r s)(Y:b r s):∃(r:c) (s:d),f r s/\n r s/\M r s/\t r s/\I r s/\x r s/\C r s/\b r s:=⟨r,s,E,p,G,T,X,k,m,Y⟩
theorem Hq{d:Sort _}{a:Sort _}{f:c->d->a->Prop}(r:c)(s:d)(U:a)(E:f r s U):∃(r:c) (s:d) (U:a),f r s U:=⟨r,s,U,E⟩
theorem zM{d:Sort _}{a:Sort _}{f n:c->d->a->Prop}(r:c)(s:d)(U:a)(E:f r s U)(p:n r s U):∃(r:c) (s:d) (U:a),f r s U/\n r s U:=⟨r,s,U,E,p⟩
theorem kQ{d:Sort _}{a:Sort _}{f n M:c->d->a->Prop}(r:c)(s:d)(U:a)(E:f r s U)(p:n r s U)(G:M r s U):∃(r:c) (s:d) (U:a),f r s U/\n r s U/\M r s U:=⟨r,s,U,E,p,G⟩
theorem zA{d:Sort _}{a:Sort _}{f n M t:c->d->a->Prop}(r:c)(s:d)(U:a)(E:f r s U)(p:n r s U)(G:M r s U)(T:t r s U):∃(r:c) (s:d) (U:a),f r s U/\n r s U/\M r s U/\t r s U:=⟨r,s,U,E,p,G,T⟩
theorem KN{d:Sort _}{a:Sort _}{f n M t I x:c->d->a->Prop}(r:c)(s:d)(U:a)(E:f r s U)(p:n r s U)(G:M r s U)(T:t r s U)(X:I r s U)(k:x r s U):∃(r:c) (s:d) (U:a),f r s U/\n r s U/\M r s U/\t r s U/\I r s U/\x r s U:=⟨r,s,U,E,p,G,T,X,k⟩
theorem KO{d:Sort _}{a:Sort _}{f n M t I x C:c->d->a->Prop}(r:c)(s:d)(U:a)(E:f r s U)(p:n r s U)(G:M r s U)(T:t r s U)(X:I r s U)(k:x r s U)(m:C r s U):∃(r:c) (s:d) (U:a),f r s U/\n r s U/\M r s U/\t r s U/\I r s U/\x r s U/\C r s U:=⟨r,s,U,E,p,G,T,X,k,m⟩
theorem JG{d:Sort _}{e:Sort _}{b:Sort _}{f n:c->d->e->b->Prop}(r:c)(s:d)(U:e)(a:b)(E:f r s U a)(p:n r s U a):∃(r:c) (s:d) (U:e) (a:b),f r s U a/\n r s U a:=⟨r,s,U,a,E,p⟩
theorem Iy{d:Sort _}{e:Sort _}{b:Sort _}{f n M:c->d->e->b->Prop}(r:c)(s:d)(U:e)(a:b)(E:f r s U a)(p:n r s U a)(G:M r s U a):∃(r:c) (s:d) (U:e) (a:b),f r s U a/\n r s U a/\M r s U a:=⟨r,s,U,a,E,p,G⟩
theorem gU{d:Sort _}{e:Sort _}{b:Sort _}{f n M t:c->d->e->b->Prop}(r:c)(s:d)(U:e)(a:b)(E:f r s U a)(p:n r s U a)(G:M r s U a)(T:t r s U a):∃(r:c) (s:d) (U:e) (a:b),f r s U a/\n r s U a/\M r s U a/\t r s U a:=⟨r,s,U,a,E,p,G,T⟩
theorem kA{i:Type u}{c:Prop}(z:O i)(B:z=N->c)(H:∀I,z=S I->c):c:=by
 induction z using Ry with
 |none=>exact B rfl
 |some I=>exact H I rfl
theorem v9{c:Prop}(M:MP)(B:M=MT->c)(H:M=ML->c):c:=by
 induction M using RE with
 |false=>exact B rfl
 |true=>exact H rfl
theorem BR{i:Type}{c:Prop}(r:Res i)(B:∀I,r=.ok I->c)(H:∀n b,r=.exc n b->c)(a:r=.bad->c):c:=by
 induction r using Wn with
 |ok I=>exact B I rfl
 |exc n b=>exact H n b rfl
 |bad=>exact a rfl
theorem hF{C:Prop}(B:¬¬C):C:=Classical.byContradiction B
@[elab_as_elim]theorem R{α:Sort _}{p:α->Prop}{a b:α}(h:a=b)(x:p b):p a:=h▸x
theorem KP{I:Q}(B:I.ctorIdx=2):∃K,I=.int K:=Q.int.elim (motive_1:=λI=>∃K,I=.int K) I B λK=>⟨K,rfl⟩
theorem KQ{I:Q}(B:I.ctorIdx=3):∃K,I=.str K:=Q.str.elim (motive_1:=λI=>∃K,I=.str K) I B λK=>⟨K,rfl⟩
theorem KR{I:Q}(B:I.ctorIdx=8):∃K,I=.ab K:=Q.ab.elim (motive_1:=λI=>∃K,I=.ab K) I B λK=>⟨K,rfl⟩
theorem KS{I:Q}(B:I.ctorIdx=10):∃K,I=.aA K:=Q.aA.elim (motive_1:=λI=>∃K,I=.aA K) I B λK=>⟨K,rfl⟩
theorem FE{I:Q}{b:AH}(a:(match I with|.int K=>Res.ok (Q.int (-K),b)|_=>.bad)≠.bad):∃K,I=.int K:=if B:I.ctorIdx=2 then KP B else Nh (by induction I using Wm<;>first|rfl|exact Nh rfl B) a
theorem CJ{g:V Z}{w:V Q}{I:Q}{b:AH}(a:gT g w I b≠.bad):∃H,I=.str H:=if B:I.ctorIdx=3 then KQ B else Nh (by induction I using Wm<;>first|rfl|exact Nh rfl B) a
theorem CK{I:Q}{b:AH}(B:kz b I≠.bad):∃H l w,I=.ab H/\b.D[H]? = S l/\l.length<1000/\iC l l=S w/\kz b I=.ok (.lst w,b):=by
 by_cases a:I.ctorIdx=8
 ·obtain⟨H,a⟩:=KR a
  subst a
  unfold kz at B⊢
  dsimp only at B⊢
  cases D:b.D[H]? with
  |none=>rw[D] at B;exact Nh rfl B
  |some l=>
   rw[D] at B;dsimp only at B⊢;by_cases s:sm l.length=ML
   ·rw[Nb s] at B⊢
    cases d:iC l l with
    |none=>rw[d] at B;exact Nh rfl B
    |some w=>exact⟨H,l,w,rfl,D,M8 s,d,rfl⟩
   ·exact Nh (Nf s) B
 ·exact Nh (by induction I using Wm<;>first|rfl|exact Nh rfl a) B
theorem FF{r:Res (V Q×AH)}{I:Q}{b:AH}(D:r.bind (λL=>.ok (Q.tup L.1,L.2))=.ok (I,b)):∃l,I=.tup l/\r=.ok (l,b):=by
 cases r with
 |ok L=>cases D;exact⟨L.1,rfl,rfl⟩
 |exc _ _=>exact nomatch D
 |bad=>exact nomatch D
theorem zN{b:AH}{I:Q}{A:Z}(D:dz b I A=N)(B:I.ctorIdx≠10):aG a b I A=.bad:=by unfold aG;rw[D];clear D;induction I using Wm<;>first|rfl|exact Nh rfl B
theorem zO{b:AH}{H:Z}{r:Res (Q×AH)}(B:(match b.I[H]? with|some (.Mem,_)=>r|_=>.bad)≠.bad):∃w,b.I[H]? = S (.Mem,w):=by
 cases i:b.I[H]? with
 |none=>rw[i] at B;exact Nh rfl B
 |some L=>
  obtain⟨C,w⟩:=L;refine⟨w,?_⟩;rw[i] at B;by_cases a:C=.Mem;·rw[a]
  ·exact Nh (by induction C using dG.casesOn<;>first|rfl|exact Nh rfl a) B
theorem tF{b:AH}{I:Q}{A:Z}(D:dz b I A=N)(c:aG a b I A≠.bad):∃H w,I=.aA H/\b.I[H]? = S (.Mem,w)/\A=26/\aG a b I A=(a (.fn 20) [.aA H] b).tq:=by
 by_cases B:I.ctorIdx=10
 ·obtain⟨H,B⟩:=KS B;subst B;have L:aG a b (.aA H) A=(match b.I[H]? with|some (.Mem,_)=>if A=26 then(a (.fn 20) [.aA H] b).tq else .bad|_=>.bad):=by unfold aG;rw[D]<;>rfl
  rw[L] at c⊢;obtain⟨w,i⟩:=zO c;rw[i] at c;by_cases B:A=26;·exact⟨H,w,rfl,i,B,by rw[i];exact Nb B⟩
  ·exact Nh (Nf B) c
 ·exact Nh (zN D B) c
end
section
open PySem PySem.W PySem.Calls PyProof.Rows
open Mine.Lake.AV renaming casesOn->Wm
open Mine.Lake.Res renaming casesOn->Wn
open Mine.Lake renaming AV->Q
noncomputable def KU:V Z:=[21,139,144,179,187,194,202,210,217,224,231,238,245,252,259,266,273,280,287,294,358,366,373,380,387,394,401,408,429,436,443,450,457,464,471,478,485,492,512,519,526,533,540,547,554,561,568,575,583,590,602,609,614,621,626,633,638,643,650,657]
noncomputable def FA(H:Z):MS:=KU.getD H 0
noncomputable def CA:dG->MS
 |.Thing=>72|.Text=>93|.Row=>114|.Dict=>147|.Span=>168|.Cy=>312|.jN=>333|.Mem=>593|.bQ=>52
noncomputable def sx(H:Z):MU:=⟨(CG.getD H []).toArray⟩
noncomputable def NS:Z:=CG.length
theorem uO:CG.Nodup:=by decide +kernel
variable{G az:Type}{ao:Sort _}{U:Oa}{k bc:AH}{d:MW}{n:MS}{t:MO->MW->Prop}{w:Loc}{v:NA}{P:Nv}{be:V MU}{bg bf:MU->O MO}{q:Z}{bh:O MO}{ap:MW}{J bj:Ni}{H:Z}{T:N0}{A:MS}{C:M5 Nt}{f:Nw}{i:CF}{l o:V Ng}{c:Ng}{j:V (O MU)}{a:Nj}{e p X:MV}{g ax aq:V MS}{h:Nv}{r:MU}{aj s:MQ}{ag K:Z}{am:MP}{Y:Prop}{m:Q}{aa:MO}{z:V Q}{ae:V Z}{y:V (Q×Q)}{ah:Nl}{au:V Q}{aw:Q}{ai:MO->MW->Prop}{af:LE}
theorem rL(d:ag<NS)(M:K<NS)(B:sx ag=sx K):ag=K:=by
 have G:CG.getD ag []=CG.getD K []:=by have:=Nc (λt:MU=>t.cps.toList) B;exact this
 have E:ag<CG.length:=d;have h:K<CG.length:=M;rw[UU,UU,RB E,RB h] at G;refine(U4 E uO).mp ?_;rw[RB E,RB h];simpa using G
theorem nX{I:G}{P:Prop}(B:N=S I):P:=(O.some_ne_none _ B.symm).elim
theorem sX{I M:G}(B:S I=S M):I=M:=Sl B
theorem bX{α:Type}{P:Prop}(B:Res.bad (α:=α)≠.bad):P:=Nh rfl B
noncomputable def aZ{i:Type}(z:O i)(o:i->Prop):Prop:=match z with
 |none=>Nq
 |some I=>o I
noncomputable def vw{x i:Type}(K:x->Z)(H:Z)(r:x)(A:K r=H->O i):O i:=if B:K r=H then A B else N
theorem dq{x:Type}{K:x->Z}{r:x}{A:K r=H->O G}{o:G->Prop}(n:∀B,aZ (A B) o):aZ (vw K H r A) o:=by
 unfold vw;split;·exact n _
 ·exact RZ
noncomputable def l1{i:Type}:V i->O i|[I]=>S I|_=>N
theorem oP(r:V G):aZ (l1 r) λI=>r=[I]:=by rcases r with _|⟨I,_|⟨M,y⟩⟩<;>first|exact RZ|rfl
noncomputable def l2{i:Type}:V i->O (i×i)|[I,M]=>S (I,M)|_=>N
theorem zP(r:V G):aZ (l2 r) λI=>r=[I.1,I.2]:=by rcases r with _|⟨I,_|⟨M,_|⟨C,y⟩⟩⟩<;>first|exact RZ|rfl
theorem bF{P:Prop}(B:MT=ML):P:=(RX B).elim
theorem ot{z:O G}{o:G->Prop}{I:G}(n:aZ z o)(D:z=S I):o I:=by subst D;exact n
theorem k1{a:Type}{z:O G}{A:G->MP}{r:az}{P:az->Prop}{M:G->a->az}(n:aZ z λI=>∃C,r=M I C)(B:z.any A=ML)(H:∀I C,A I=ML->P (M I C)):P r:=by
 induction z using Ry with
 |none=>exact bF B
 |some I=>obtain⟨C,D⟩:=n;exact D▸H I C B
theorem k0{z:O G}{A:G->MP}{r:az}{P:az->Prop}{M:G->az}(n:aZ z λI=>r=M I)(B:z.any A=ML)(H:∀I,A I=ML->P (M I)):P r:=by
 induction z using Ry with
 |none=>exact bF B
 |some I=>exact(show r=M I from n)▸H I B
theorem an{I M:MP}(B:(I&&M)=ML)(H:I=ML->M=ML->Y):Y:=H (RT.mp B).1 (RT.mp B).2
theorem gV{I M:MP}(B:(I&&M&&am)=ML)(H:I=ML->M=ML->am=ML->Y):Y:=an B λB U=>an B λr s=>H r s U
theorem wC{I M h:MP}(B:(I&&M&&am&&h)=ML)(H:I=ML->M=ML->am=ML->h=ML->Y):Y:=an B λB U=>gV B λr s c=>H r s c U
theorem zQ{I M h D:MP}(B:(I&&M&&am&&h&&D)=ML)(H:I=ML->M=ML->am=ML->h=ML->D=ML->Y):Y:=an B λB U=>wC B λr s c E=>H r s c E U
theorem zR{I M h D A:MP}(B:(I&&M&&am&&h&&D&&A)=ML)(H:I=ML->M=ML->am=ML->h=ML->D=ML->A=ML->Y):Y:=an B λB U=>zQ B λr s c E n=>H r s c E n U
theorem FG{I M h D A o:MP}(B:(I&&M&&am&&h&&D&&A&&o)=ML)(H:I=ML->M=ML->am=ML->h=ML->D=ML->A=ML->o=ML->Y):Y:=an B λB U=>zR B λr s c E n t=>H r s c E n t U
theorem dE{I M:G}[OJ (I=M)](B:MX (I=M)=ML):M=I:=(M8 B).symm
theorem nF{I:MP}(B:(!I)=ML):I=MT:=(Ta I).mp B
theorem cA{c:Prop}[OJ c]{I M:O G}{L:G}(D:(if c then I else M)=S L)(p:c->I=S L->Y)(a:¬c->M=S L->Y):Y:=by
 by_cases B:c;·exact p B ((Nb B).symm.trans D)
 ·exact a B ((Nf B).symm.trans D)
theorem zS{C:Prop}[OJ C]{r s:G}(B:(if C then S r else N)=S s):C/\r=s:=by
 by_cases L:C;·exact⟨L,sX ((Nb L).symm.trans B)⟩
 ·exact nX ((Nf L).symm.trans B)
structure bH where
 L:V MS:=[]
 D:V MS:=[]
 B:V MS:=[]
 I:V (MS×MS):=[]
noncomputable def bH.M(y:bH):V MS:=y.L++y.D++y.B++y.I.map (·.1)++y.I.map (·.2)
structure bH.le(r r':bH):Prop where
 L:∀(k:Z) (a:MS),r.L[k]? = S a->r'.L[k]? = S a
 D:∀(k:Z) (a:MS),r.D[k]? = S a->r'.D[k]? = S a
 B:∀(k:Z) (a:MS),r.B[k]? = S a->r'.B[k]? = S a
 I:∀(k:Z) (a:MS×MS),r.I[k]? = S a->r'.I[k]? = S a
theorem bH.le.refl(y:bH):y.le y:=⟨λY Y D=>D,λY Y D=>D,λY Y D=>D,λY Y D=>D⟩
theorem bH.le.trans{I M C:bH}(r:I.le M)(s:M.le C):I.le C:=⟨λY Y D=>s.L _ _ (r.L _ _ D),λY Y D=>s.D _ _ (r.D _ _ D),λY Y D=>s.B _ _ (r.B _ _ D),λY Y D=>s.I _ _ (r.I _ _ D)⟩
abbrev CL(j:M5 MO)(q:Z):Nl:={cls:=.type "tuple",data:=.seq j q}
abbrev bB(y:M5 Nt)(q:Z):Nl:={cls:=.type "dict",data:=.dict y q}
abbrev eH(M:M5 Np):Nl:={cls:=.type "bytearray",data:=.bytearray M 0}
abbrev SP:=MS->Nl->Prop
noncomputable def bS(C:dG):V Z:=(bT C).bS
mutual
inductive VR(P:Oa)(S:SP)(r:bH):Q->MO->Prop
 |none:VR P S r .none .none
 |bool (b:MP):VR P S r (.bool b) (.bool b)
 |int (i:MN) (t:NM):VR P S r (.int i) (.int i t)
 |str (k:Z) (t:NM):k<NS->VR P S r (.str k) (.str (sx k) t)
 |bw (b:M5 Np) (t:NM) (l:V Z):b.toList.map SM=l->VR P S r (.bw l) (.bytes b t)
 |fn (k:Z):VR P S r (.fn k) (.ref (FA k))
 |cls (c:dG):VR P S r (.cls c) (.ref (CA c))
 |aE (k:Z) (a:MS):r.L[k]? = some a->VR P S r (.aE k) (.ref a)
 |ab (k:Z) (a:MS):r.D[k]? = some a->VR P S r (.ab k) (.ref a)
 |eO (k:Z) (a:MS):r.B[k]? = some a->VR P S r (.eO k) (.ref a)
 |aA (k:Z) (a d:MS):r.I[k]? = some (a,d)->VR P S r (.aA k) (.ref a)
 |tup (vs:V Q) (a:MS) (items:M5 MO) (n:Z):S a (CL items n)->bM P S r vs items.toList->VR P S r (.tup vs) (.ref a)
 |lst (vs:V Q) (a:MS) (items:M5 MO) (n:Z):S a (listOf items n)->bM P S r vs items.toList->VR P S r (.lst vs) (.ref a)
 |obj (c:dG) (vs:V Q) (a d:MS) (es:M5 Nt) (n:Z):S a (ND (CA c) d)->S d (bB es n)->FR P S r (bS c) vs es.toList->VR P S r (.obj c vs) (.ref a)
 |exc (t:Q) (a d:MS) (o:Nl) (es:M5 Nt) (n:Z):S a o->o.cls=.ref (CA .bQ)->o.dict=some d->(∃vs,o.data=.fields vs)->S d (bB es n)->FR P S r (bS .bQ) [t] es.toList->VR P S r (.exc t) (.ref a)
inductive bM(P:Oa)(S:SP)(r:bH):V Q->V MO->Prop
 |nil:bM P S r [] []
 |cons {a:Q} {v:MO} {as:V Q} {vs:V MO}:VR P S r a v->bM P S r as vs->bM P S r (a :: as) (v :: vs)
inductive FR(P:Oa)(S:SP)(r:bH):V Z->V Q->V Nt->Prop
 |nil:FR P S r [] [] []
 |cons {k:Z} {a:Q} {v:MO} {t:NM} {ks:V Z} {as:V Q} {es:V Nt}:VR P S r a v->FR P S r ks as es->FR P S r (k :: ks) (a :: as) (⟨Su P (sx k),.str (sx k) t,v⟩ :: es)
end
noncomputable def JH(c:Oa)(T:SP)(y:bH)(E:MO):Q->Prop
 |.none=>E=.none
 |.bool M=>E=.bool M
 |.int K=>∃n,E=.int K n
 |.str H=>∃n,E=.str (sx H) n/\H<NS
 |.bw b=>∃M n,E=.bytes M n/\M.toList.map SM=b
 |.fn H=>E=.ref (FA H)
 |.cls C=>E=.ref (CA C)
 |.aE H=>∃I,E=.ref I/\y.L[H]? = S I
 |.ab H=>∃I,E=.ref I/\y.D[H]? = S I
 |.eO H=>∃I,E=.ref I/\y.B[H]? = S I
 |.aA H=>∃I h,E=.ref I/\y.I[H]? = S (I,h)
 |.tup w=>∃I j q,E=.ref I/\T I (CL j q)/\bM c T y w j.toList
 |.lst w=>∃I j q,E=.ref I/\T I (listOf j q)/\bM c T y w j.toList
 |.obj C w=>∃I h a q,E=.ref I/\T I (ND (CA C) h)/\T h (bB a q)/\FR c T y (bS C) w a.toList
 |.exc n=>∃I h z a q,E=.ref I/\T I z/\z.cls=.ref (CA .bQ)/\z.dict=S h/\(∃w,z.data=.fields w)/\T h (bB a q)/\FR c T y (bS .bQ) [n] a.toList
theorem bK{f n:Prop}(B:f/\n)(H:f->n->Y):Y:=H B.1 B.2
theorem fK{f n M:Prop}(B:f/\n/\M)(H:f->n->M->Y):Y:=H B.1 B.2.1 B.2.2
theorem qj{f n M t:Prop}(B:f/\n/\M/\t)(H:f->n->M->t->Y):Y:=H B.1 B.2.1 B.2.2.1 B.2.2.2
theorem wa{f n M t I:Prop}(B:f/\n/\M/\t/\I)(H:f->n->M->t->I->Y):Y:=H B.1 B.2.1 B.2.2.1 B.2.2.2.1 B.2.2.2.2
theorem KV{f n M t I x C:Prop}(B:f/\n/\M/\t/\I/\x/\C)(H:f->n->M->t->I->x->C->Y):Y:=H B.1 B.2.1 B.2.2.1 B.2.2.2.1 B.2.2.2.2.1 B.2.2.2.2.2.1 B.2.2.2.2.2.2
theorem dD{f:ao->Prop}(B:∃(r:ao),f r)(H:∀(r:ao),f r->Y):Y:=B.elim λr B=>H r B
theorem aM{f n:ao->Prop}(B:∃(r:ao),f r/\n r)(H:∀(r:ao),f r->n r->Y):Y:=B.elim λr B=>H r B.1 B.2
theorem mM{f n M:ao->Prop}(B:∃(r:ao),f r/\n r/\M r)(H:∀(r:ao),f r->n r->M r->Y):Y:=B.elim λr B=>H r B.1 B.2.1 B.2.2
theorem wF{f n M t:ao->Prop}(B:∃(r:ao),f r/\n r/\M r/\t r)(H:∀(r:ao),f r->n r->M r->t r->Y):Y:=B.elim λr B=>H r B.1 B.2.1 B.2.2.1 B.2.2.2
theorem JI{f n M t I:ao->Prop}(B:∃(r:ao),f r/\n r/\M r/\t r/\I r)(H:∀(r:ao),f r->n r->M r->t r->I r->Y):Y:=B.elim λr B=>H r B.1 B.2.1 B.2.2.1 B.2.2.2.1 B.2.2.2.2
theorem KW{f n M t I x:ao->Prop}(B:∃(r:ao),f r/\n r/\M r/\t r/\I r/\x r)(H:∀(r:ao),f r->n r->M r->t r->I r->x r->Y):Y:=B.elim λr B=>H r B.1 B.2.1 B.2.2.1 B.2.2.2.1 B.2.2.2.2.1 B.2.2.2.2.2
theorem mN{d:Sort _}{f:ao->d->Prop}(B:∃(r:ao) (s:d),f r s)(H:∀(r:ao) (s:d),f r s->Y):Y:=B.elim λr B=>B.elim λs B=>H r s B
theorem cg{d:Sort _}{f n:ao->d->Prop}(B:∃(r:ao) (s:d),f r s/\n r s)(H:∀(r:ao) (s:d),f r s->n r s->Y):Y:=B.elim λr B=>B.elim λs B=>H r s B.1 B.2
theorem mX{d:Sort _}{f n M:ao->d->Prop}(B:∃(r:ao) (s:d),f r s/\n r s/\M r s)(H:∀(r:ao) (s:d),f r s->n r s->M r s->Y):Y:=B.elim λr B=>B.elim λs B=>H r s B.1 B.2.1 B.2.2
theorem uP{d:Sort _}{f n M t:ao->d->Prop}(B:∃(r:ao) (s:d),f r s/\n r s/\M r s/\t r s)(H:∀(r:ao) (s:d),f r s->n r s->M r s->t r s->Y):Y:=B.elim λr B=>B.elim λs B=>H r s B.1 B.2.1 B.2.2.1 B.2.2.2
theorem Hr{d:Sort _}{f n M t I:ao->d->Prop}(B:∃(r:ao) (s:d),f r s/\n r s/\M r s/\t r s/\I r s)(H:∀(r:ao) (s:d),f r s->n r s->M r s->t r s->I r s->Y):Y:=B.elim λr B=>B.elim λs B=>H r s B.1 B.2.1 B.2.2.1 B.2.2.2.1 B.2.2.2.2
theorem KX{d:Sort _}{f n M t I x:ao->d->Prop}(B:∃(r:ao) (s:d),f r s/\n r s/\M r s/\t r s/\I r s/\x r s)(H:∀(r:ao) (s:d),f r s->n r s->M r s->t r s->I r s->x r s->Y):Y:=B.elim λr B=>B.elim λs B=>H r s B.1 B.2.1 B.2.2.1 B.2.2.2.1 B.2.2.2.2.1 B.2.2.2.2.2
theorem JJ{d:Sort _}{f n M t I x C b:ao->d->Prop}(B:∃(r:ao) (s:d),f r s/\n r s/\M r s/\t r s/\I r s/\x r s/\C r s/\b r s)(H:∀(r:ao) (s:d),f r s->n r s->M r s->t r s->I r s->x r s->C r s->b r s->Y):Y:=B.elim λr B=>B.elim λs B=>H r s B.1 B.2.1 B.2.2.1 B.2.2.2.1 B.2.2.2.2.1 B.2.2.2.2.2.1 B.2.2.2.2.2.2.1 B.2.2.2.2.2.2.2
theorem zT{d:Sort _}{a:Sort _}{f:ao->d->a->Prop}(B:∃(r:ao) (s:d) (U:a),f r s U)(H:∀(r:ao) (s:d) (U:a),f r s U->Y):Y:=B.elim λr B=>B.elim λs B=>B.elim λU B=>H r s U B
theorem wb{d:Sort _}{a:Sort _}{f n:ao->d->a->Prop}(B:∃(r:ao) (s:d) (U:a),f r s U/\n r s U)(H:∀(r:ao) (s:d) (U:a),f r s U->n r s U->Y):Y:=B.elim λr B=>B.elim λs B=>B.elim λU B=>H r s U B.1 B.2
theorem dF{d:Sort _}{a:Sort _}{f n M:ao->d->a->Prop}(B:∃(r:ao) (s:d) (U:a),f r s U/\n r s U/\M r s U)(H:∀(r:ao) (s:d) (U:a),f r s U->n r s U->M r s U->Y):Y:=B.elim λr B=>B.elim λs B=>B.elim λU B=>H r s U B.1 B.2.1 B.2.2
theorem CM{d:Sort _}{a:Sort _}{f n M t:ao->d->a->Prop}(B:∃(r:ao) (s:d) (U:a),f r s U/\n r s U/\M r s U/\t r s U)(H:∀(r:ao) (s:d) (U:a),f r s U->n r s U->M r s U->t r s U->Y):Y:=B.elim λr B=>B.elim λs B=>B.elim λU B=>H r s U B.1 B.2.1 B.2.2.1 B.2.2.2
theorem JK{d:Sort _}{a:Sort _}{f n M t I:ao->d->a->Prop}(B:∃(r:ao) (s:d) (U:a),f r s U/\n r s U/\M r s U/\t r s U/\I r s U)(H:∀(r:ao) (s:d) (U:a),f r s U->n r s U->M r s U->t r s U->I r s U->Y):Y:=B.elim λr B=>B.elim λs B=>B.elim λU B=>H r s U B.1 B.2.1 B.2.2.1 B.2.2.2.1 B.2.2.2.2
theorem KY{d:Sort _}{a:Sort _}{f n M t I x C:ao->d->a->Prop}(B:∃(r:ao) (s:d) (U:a),f r s U/\n r s U/\M r s U/\t r s U/\I r s U/\x r s U/\C r s U)(H:∀(r:ao) (s:d) (U:a),f r s U->n r s U->M r s U->t r s U->I r s U->x r s U->C r s U->Y):Y:=B.elim λr B=>B.elim λs B=>B.elim λU B=>H r s U B.1 B.2.1 B.2.2.1 B.2.2.2.1 B.2.2.2.2.1 B.2.2.2.2.2.1 B.2.2.2.2.2.2
theorem CO{d:Sort _}{a:Sort _}{b:Sort _}{f:ao->d->a->b->Prop}(B:∃(r:ao) (s:d) (U:a) (c:b),f r s U c)(H:∀(r:ao) (s:d) (U:a) (c:b),f r s U c->Y):Y:=B.elim λr B=>B.elim λs B=>B.elim λU B=>B.elim λc B=>H r s U c B
theorem KZ{d:Sort _}{a:Sort _}{b:Sort _}{f n M:ao->d->a->b->Prop}(B:∃(r:ao) (s:d) (U:a) (c:b),f r s U c/\n r s U c/\M r s U c)(H:∀(r:ao) (s:d) (U:a) (c:b),f r s U c->n r s U c->M r s U c->Y):Y:=B.elim λr B=>B.elim λs B=>B.elim λU B=>B.elim λc B=>H r s U c B.1 B.2.1 B.2.2
theorem qs{d:Sort _}{a:Sort _}{b:Sort _}{f n M t:ao->d->a->b->Prop}(B:∃(r:ao) (s:d) (U:a) (c:b),f r s U c/\n r s U c/\M r s U c/\t r s U c)(H:∀(r:ao) (s:d) (U:a) (c:b),f r s U c->n r s U c->M r s U c->t r s U c->Y):Y:=B.elim λr B=>B.elim λs B=>B.elim λU B=>B.elim λc B=>H r s U c B.1 B.2.1 B.2.2.1 B.2.2.2
theorem K0{d:Sort _}{b:Sort _}{a:Sort _}{f n M t I:ao->d->b->a->Prop}(B:∃(r:ao) (s:d) (U:b) (c:a),f r s U c/\n r s U c/\M r s U c/\t r s U c/\I r s U c)(H:∀(r:ao) (s:d) (U:b) (c:a),f r s U c->n r s U c->M r s U c->t r s U c->I r s U c->Y):Y:=B.elim λr B=>B.elim λs B=>B.elim λU B=>B.elim λc B=>H r s U c B.1 B.2.1 B.2.2.1 B.2.2.2.1 B.2.2.2.2
variable{x:SP}{b ak:bH}
theorem VR.inv(B:VR U x b m aa):JH U x b aa m:=VR.casesOn (motive_1:=λm aa Y=>JH U x b aa m) B rfl (λY=>rfl) (λY n=>⟨n,rfl⟩) (λY n B=>⟨n,rfl,B⟩) (λM n Y B=>⟨M,n,rfl,B⟩) (λY=>rfl) (λY=>rfl) (λY m B=>⟨m,rfl,B⟩) (λY m B=>⟨m,rfl,B⟩) (λY m B=>⟨m,rfl,B⟩) (λY m h B=>⟨m,h,rfl,B⟩) (λY m K q t B=>⟨m,K,q,rfl,t,B⟩) (λY m K q t B=>⟨m,K,q,rfl,t,B⟩) (λY Y m h y q k o A=>⟨m,h,y,q,rfl,k,o,A⟩) (λY m h z y q k i H f1 o A=>⟨m,h,z,y,q,rfl,k,i,H,f1,o,A⟩)
noncomputable def FH(c:Oa)(T:SP)(y:bH)(w:V MO):V Q->Prop
 |[]=>w=[]
 |I :: l=>∃E a,w=E :: a/\VR c T y I E/\bM c T y l a
theorem bM.inv{w:V MO}(B:bM U x b z w):FH U x b w z:=bM.casesOn (motive_2:=λz w Y=>FH U x b w z) B rfl (λI M=>⟨_,_,rfl,I,M⟩)
theorem bM.qt{w:V MO}(B:bM U x b [] w):w=[]:=B.inv
theorem bM.one{w:V MO}(B:bM U x b [m] w):∃E,w=[E]/\VR U x b m E:=by obtain⟨E,_,rfl,p,G⟩:=B.inv;exact ba E (Nc _ G.qt) p
theorem bM.two{M:Q}{w:V MO}(B:bM U x b [m,M] w):∃E c,w=[E,c]/\VR U x b m E/\VR U x b M c:=by obtain⟨E,_,rfl,p,G⟩:=B.inv;obtain⟨c,D,T⟩:=G.one;exact qq E c (Nc _ D) p T
theorem VR.lK{f:SP}{K:bH}(i:∀I z,x I z->f I z)(P:b.le K) :
  (∀I E,VR U x b I E->VR U f K I E)/\(∀l w,bM U x b l w->bM U f K l w)/\(∀g l y,FR U x b g l y->FR U f K g l y):=by
 refine⟨λI E B=>?_,λl w B=>?_,λg l y B=>?_⟩;all_goals
  first
  |refine VR.rec (motive_1:=λI E Y=>VR U f K I E) (motive_2:=λl w Y=>bM U f K l w) (motive_3:=λg l y Y=>FR U f K g l y) ?_ ?_ ?_ ?_ ?_ ?_ ?_ ?_ ?_ ?_ ?_ ?_ ?_ ?_ ?_ ?_ ?_ ?_ ?_ B
  |refine bM.rec (motive_1:=λI E Y=>VR U f K I E) (motive_2:=λl w Y=>bM U f K l w) (motive_3:=λg l y Y=>FR U f K g l y) ?_ ?_ ?_ ?_ ?_ ?_ ?_ ?_ ?_ ?_ ?_ ?_ ?_ ?_ ?_ ?_ ?_ ?_ ?_ B
  |refine FR.rec (motive_1:=λI E Y=>VR U f K I E) (motive_2:=λl w Y=>bM U f K l w) (motive_3:=λg l y Y=>FR U f K g l y) ?_ ?_ ?_ ?_ ?_ ?_ ?_ ?_ ?_ ?_ ?_ ?_ ?_ ?_ ?_ ?_ ?_ ?_ ?_ B
  ·exact .none
  ·exact λM=>.bool M
  ·exact λc n=>.int c n
  ·exact λH n B=>.str H n B
  ·exact λM n T B=>.bw M n T B
  ·exact λH=>.fn H
  ·exact λC=>.cls C
  ·exact λH I B=>.aE H I (P.L _ _ B)
  ·exact λH I B=>.ab H I (P.D _ _ B)
  ·exact λH I B=>.eO H I (P.B _ _ B)
  ·exact λH I h B=>.aA H I h (P.I _ _ B)
  ·exact λw I j q B Y d=>.tup w I j q (i _ _ B) d
  ·exact λw I j q B Y d=>.lst w I j q (i _ _ B) d
  ·exact λC w I h y q p G Y d=>.obj C w I h y q (i _ _ p) (i _ _ G) d
  ·exact λn I h z y q p G a X k Y d=>.exc n I h z y q (i _ _ p) G a X (i _ _ k) d
  ·exact .nil
  ·exact λY Y p G=>.cons p G
  ·exact .nil
  ·exact λY Y p G=>.cons p G
theorem VR.mono{f:SP}{K:bH}(i:∀m z,x m z->f m z)(P:b.le K)(B:VR U x b m aa):VR U f K m aa:=(VR.lK i P).1 m aa B
theorem bM.mono{f:SP}{K:bH}(i:∀I z,x I z->f I z)(P:b.le K){I:V Q}{E:V MO}(B:bM U x b I E):bM U f K I E:=(VR.lK i P).2.1 I E B
theorem FR.mono{f:SP}{K:bH}(i:∀I z,x I z->f I z)(P:b.le K){H:V Z}{I:V Q}{E:V Nt}(B:FR U x b H I E):FR U f K H I E:=(VR.lK i P).2.2 H I E B
theorem bM.len:∀{w:V MO},bM U x b z w->z.length=w.length:=by
 induction z with
 |nil=>intro w B;cases B;rfl
 |cons I z d=>intro w B;cases B with|cons _ G=>simp[d G]
theorem bM.get:∀{w:V MO} {i:Z} {a:Q},bM U x b z w->z[i]? = S a->∃E,w[i]? = S E/\VR U x b a E:=by
 induction z with
 |nil=>intro w i a B D;exact nX D
 |cons r z d=>
  intro w i a B D
  cases B with
  |cons p G=>
   induction i using RY with
   |zero=>obtain rfl:=sX D;exact ba _ rfl p
   |succ i=>obtain⟨E,j,m⟩:=d G D;exact ba E j m
theorem bM.append{f:V Q}{w c:V MO}(B:bM U x b z w)(m:bM U x b f c):bM U x b (z++f) (w++c):=by
 induction z generalizing w with
 |nil=>cases B;exact m
 |cons I z d=>cases B with|cons p G=>exact .cons p (d G)
theorem bM.take:∀{w:V MO} (q:Z),bM U x b z w->bM U x b (z.take q) (w.take q):=by
 induction z with
 |nil=>intro w q B;cases B;simp;exact .nil
 |cons I z d=>
  intro w q B
  cases B with
  |cons p G=>
   induction q using RY with
   |zero=>simp;exact .nil
   |succ q=>exact bM.cons p (d q G)
theorem bM.drop:∀{w:V MO} (q:Z),bM U x b z w->bM U x b (z.drop q) (w.drop q):=by
 induction z with
 |nil=>intro w q B;cases B;simp;exact .nil
 |cons I z d=>
  intro w q B
  cases B with
  |cons p G=>
   induction q using RY with
   |zero=>exact bM.cons p G
   |succ q=>exact d q G
theorem bM.set:∀{w:V MO} (K:Z) {I:Q} {E:MO},bM U x b z w->VR U x b I E->bM U x b (z.set K I) (w.set K E):=by
 induction z with
 |nil=>intro w K I E B _;cases B;simp;exact .nil
 |cons r z d=>
  intro w K I E B P
  cases B with
  |cons p G=>
   induction K using RY with
   |zero=>exact bM.cons P G
   |succ K=>exact bM.cons p (d K G P)
theorem FR.len:∀{l:V Q} {y:V Nt},FR U x b ae l y->l.length=ae.length/\y.length=ae.length:=by
 induction ae with
 |nil=>intro l y B;cases B;exact⟨rfl,rfl⟩
 |cons H ae d=>intro l y B;cases B with|cons _ G=>simp[(d G).1,(d G).2]
theorem FR.get:∀{l:V Q} {y:V Nt} {i H:Z} {a:Q},FR U x b ae l y->ae[i]? = S H->l[i]? = S a->
  ∃E n,y[i]? = S ⟨Su U (sx H),.str (sx H) n,E⟩/\VR U x b a E:=by
 induction ae with
 |nil=>intro l y i H a B D;exact nX D
 |cons r ae d=>
  intro l y i H a B D j
  cases B with
  |cons p G=>
   induction i using RY with
   |zero=>obtain rfl:=sX D;obtain rfl:=sX j;exact dI _ _ (by simp;rfl) p
   |succ i=>obtain⟨E,n,e,m⟩:=d G D j;exact dI E n e m
theorem FR.set:∀{l:V Q} {y:V Nt} {K:Z} {I:Q} {E:MO},FR U x b ae l y->VR U x b I E->
  FR U x b ae (l.set K I) (y.modify K λD=>{D with val:=E}):=by
 induction ae with
 |nil=>intro l y K I E B _;cases B;simp;exact .nil
 |cons r ae d=>
  intro l y K I E B P
  cases B with
  |cons p G=>
   induction K using RY with
   |zero=>exact FR.cons P G
   |succ K=>exact FR.cons p (d G P)
theorem FR.snoc:∀{l:V Q} {y:V Nt} {H:Z} {I:Q} {E:MO} {n:NM},FR U x b ae l y->VR U x b I E->
  FR U x b (ae++[H]) (l++[I]) (y++[⟨Su U (sx H),.str (sx H) n,E⟩]):=by
 induction ae with
 |nil=>intro l y H I E n B P;cases B;exact .cons P .nil
 |cons r ae d=>
  intro l y H I E n B P
  cases B with
  |cons p G=>exact .cons p (d G P)
theorem fA{f n M:Prop}(E:f)(p:n)(G:M):f/\n/\M:=⟨E,p,G⟩
theorem qu{f n M t:Prop}(E:f)(p:n)(G:M)(T:t):f/\n/\M/\t:=⟨E,p,G,T⟩
theorem Iz{f n M t I:Prop}(E:f)(p:n)(G:M)(T:t)(X:I):f/\n/\M/\t/\I:=⟨E,p,G,T,X⟩
theorem K1{d:Sort _}{e:Sort _}{b:Sort _}{a:Sort _}{f n M t I x C:ao->d->e->b->a->Prop}(B:∃(r:ao) (s:d) (U:e) (c:b) (E:a),f r s U c E/\n r s U c E/\M r s U c E/\t r s U c E/\I r s U c E/\x r s U c E/\C r s U c E)(H:∀(r:ao) (s:d) (U:e) (c:b) (E:a),f r s U c E->n r s U c E->M r s U c E->t r s U c E->I r s U c E->x r s U c E->C r s U c E->Y):Y:=B.elim λr B=>B.elim λs B=>B.elim λU B=>B.elim λc B=>B.elim λE B=>H r s U c E B.1 B.2.1 B.2.2.1 B.2.2.2.1 B.2.2.2.2.1 B.2.2.2.2.2.1 B.2.2.2.2.2.2
theorem Hs{I M:G}(B:Res.ok I=.ok M):I=M:=by cases B;rfl
theorem mY{I C:G}{M h:az}(B:Res.ok (I,M)=.ok (C,h)):I=C/\M=h:=by cases B;exact⟨rfl,rfl⟩
theorem sP{I C:G}{M h:az}(B:S (I,M)=S (C,h)):I=C/\M=h:=by cases B;exact⟨rfl,rfl⟩
@[elab_as_elim]theorem sQ{α β:Type}{a b:α}{x y:β}{P:α->β->Prop}(h:S (a,x)=S (b,y))(k:P a x):P b y:=by cases h;exact k
@[elab_as_elim]theorem CP{α:Type}{a b:α}{P:α->Prop}(h:Res.ok a=.ok b)(k:P a):P b:=by cases h;exact k
@[elab_as_elim]theorem sJ{α:Type}{a b:α}{P:α->Prop}(h:S a=S b)(k:P a):P b:=by cases h;exact k
theorem iQ{i d:Type u}{r:O i}{A:i->O d}{M:d}(D:r.bind A=S M)(H:∀I,r=S I->A I=S M->Y):Y:=(SQ.mp D).elim λI B=>H I B.1 B.2
theorem wc{i d:Type u}{r:O i}{A:i->d}{M:d}(D:r.map A=S M)(H:∀I,r=S I->A I=M->Y):Y:=(Sb.mp D).elim λI B=>H I B.1 B.2
section
noncomputable def Sf(B:MV)(y:bH)(g:V MS):SP:=λI z=>B.get? I=S z/\I∉y.M/\I∉g
set_option genCtorIdx true in
inductive iu|str(x:MU)|bw(b:M5 Np)
 deriving O7
theorem iu.str.inj{I M:MU}(B:iu.str I=.str M):I=M:=by cases B;rfl
theorem iu.bw.inj{I M:M5 Np}(B:iu.bw I=.bw M):I=M:=by cases B;rfl
noncomputable def dT:Q->iu
 |.str H=>.str (sx H)
 |.bw T=>.bw (T.map V0).toArray
 |_=>.bw #[]
set_option genCtorIdx true in
inductive DK|str|int|tup
noncomputable def DK.ok:DK->Q->Prop
 |.str,I=>∃H,I=.str H
 |.int,I=>∃K,I=.int K
 |.tup,I=>∃w,I=.tup w/\w.all ky=ML
variable(w:Nj)
noncomputable def lg:iu->MN
 |.str r=>hashStr w r
 |.bw M=>Pp (if M.isEmpty=ML then 0 else Pp (w.params.strHash (M.map SM)))
noncomputable def gK:Q->MN
 |.str H=>hashStr w (sx H)
 |.int K=>hashInt K
 |.tup a=>Pp (NL.Tuple.tupleHashOf (a.map λE=>lg w (dT E)))
 |_=>0
variable{w}
inductive DR(w:Nj)(S:SP)(r:bH)(dk:DK):V (Q×Q)->V Nt->Prop
 |nil:DR w S r dk [] []
 |cons {k v:Q} {kv vv:MO} {as:V (Q×Q)} {es:V Nt}:dk.ok k->VR w.params S r k kv->VR w.params S r v vv->DR w S r dk as es->DR w S r dk ((k,v) :: as) (⟨gK w k,kv,vv⟩ :: es)
theorem DR.mono{T f:SP}{a K:bH}{v:DK}(i:∀I z,T I z->f I z)(P:a.le K){l:V (Q×Q)}{y:V Nt}(B:DR w T a v l y):DR w f K v l y:=by
 induction B with
 |nil=>exact .nil
 |cons p G b _ d=>exact .cons p (G.mono i P) (b.mono i P) d
structure oQ(w:Nj)(h:MV)(r:bH)(H:AH)(S:SP):Prop where
 gW:r.L.length=H.L.length
 i9:r.D.length=H.D.length
 jO:r.B.length=H.B.length
 ja:r.I.length=H.I.length
 L:∀(k:Z) vs a,H.L[k]? = some vs->r.L[k]? = some a->∃items n,h.get? a=some (listOf items n)/\bM w.params S r vs items.toList
 D:∀(k:Z) as a,H.D[k]? = some as->r.D[k]? = some a->∃es n dk,h.get? a=some (bB es n)/\DR w S r dk as es.toList/\(as.map (·.1)).Nodup
 B:∀(k:Z) bs a,H.B[k]? = some bs->r.B[k]? = some a->∃b,h.get? a=some (eH b)/\b.toList.map (λu=>(u.toNat:MN))=bs
 I:∀(k:Z) p q,H.I[k]? = some p->r.I[k]? = some q->h.get? q.1=some (ND (CA p.1) q.2)/\∃es n,h.get? q.2=some (bB es n)/\FR w.params S r (bS p.1) p.2 es.toList
structure Inv(w:Nj)(g₀:MV)(own:V MS)(r:bH)(H:AH)(h:MV):Prop where
 keep:∀b o,g₀.get? b=S o->h.get? b=S o/\b∉r.M
 wG:r.M.Nodup
 off:∀a∈own,a∉r.M/\g₀.get? a=N
 ex:∀a∈own,∃o,h.get? a=S o
 dt:oQ w h r H (Sf h r own)
theorem Inv.no{a:Nj}{d:MV}{g:V MS}{y:bH}{b:AH}{B:MV}(K:Inv a d g y b B){I:MS}(D:B.get? I=N):I∉g:=λx=>(K.ex I x).elim λz j=>nX (D.symm.trans j)
theorem Inv.FI{a:Nj}{d:MV}{g:V MS}{y:bH}{b:AH}{B m:MV}(K:Inv a d g y b B)(H:∀M z,B.get? M=S z->m.get? M=S z){I:MS}(x:I∈g):∃z,m.get? I=S z:=(K.ex I x).elim λz D=>⟨z,H I z D⟩
noncomputable def same(g:V MS)(M:MS)(z t:Nl):Prop:=t=z\/(2<=g.count M/\∃i,t={z with slots:=i})
theorem same.refl{g:V MS}{M:MS}(z:Nl):same g M z z:=.inl rfl
theorem same.trans{g:V MS}{L:MS}{I M C:Nl}(r:same g L I M)(s:same g L M C):same g L I C:=by
 rcases r with rfl|⟨x,i,rfl⟩;·exact s
 ·rcases s with rfl|⟨_,l,rfl⟩;·exact .inr ⟨x,i,rfl⟩
  ·exact .inr ⟨x,l,rfl⟩
theorem same.eq{g:V MS}{M:MS}{z t:Nl}(r:same g M z t)(B:M∉g):t=z:=r.elim id λs=>Nh s.1 (by refine R (R1 B) ?_;decide)
theorem same.once{g:V MS}{M:MS}{z t:Nl}(r:same g M z t)(B:g.count M<2):t=z:=r.elim id λs=>Nh s.1 (Uo.mpr B)
theorem same.cls{g:V MS}{M:MS}{z t:Nl}(r:same g M z t):t.cls=z.cls:=by rcases r with rfl|⟨_,_,rfl⟩<;>rfl
theorem same.data{g:V MS}{M:MS}{z t:Nl}(r:same g M z t):t.data=z.data:=by rcases r with rfl|⟨_,_,rfl⟩<;>rfl
structure dU(own fr:V MS)(r:bH)(h:MV)(r':bH)(h':MV):Prop where
 get:∀b o,h.get? b=S o->b∉r.M->b∉fr->b∉r'.M/\∃o',h'.get? b=S o'/\same own b o o'
theorem dU.refl(g E:V MS)(y:bH)(B:MV):dU g E y B y B:=⟨λY z D q Y=>⟨q,z,D,.refl z⟩⟩
theorem dU.el{P:Prop}{g E:V MS}{y K:bH}{B m:MV}(H:dU g E y B K m){M:MS}{z:Nl}(D:B.get? M=S z)(q:M∉y.M)(A:M∉E)(L:M∉K.M->∀t,m.get? M=S t->same g M z t->P):P:=bK (H.get M z D q A) λn1 U=>aM U λo1 X k=>L n1 o1 X k
theorem dU.trans{g E:V MS}{r s U:bH}{I M C:MV}(H:dU g E r I s M)(T:dU g E s M U C):dU g E r I U C:=
 ⟨λL z D q A=>by refine hF λm=>H.el D q A λn1 o1 X k=>T.el X n1 A λn2 o2 a o=>m ?_;exact⟨n2,o2,a,k.trans o⟩⟩
theorem dU.less{g J E d:V MS}{r s:bH}{I M:MV}(H:dU g E r I s M)(t:∀C∈E,C∈d\/I.get? C=N)(n:∀C,2<=g.count C->2<=J.count C\/I.get? C=N):dU J d r I s M:=
 ⟨λL z D q A=>by refine hF λm=>?_;refine H.el D q (λx=>(t L x).elim A λU=>(by replace U:=D.symm.trans U;cases U)) λn1 o1 X k=>?_;refine m ?_;refine⟨n1,o1,X,k.imp id λs=>⟨(n L s.1).elim id λU=>(by replace U:=D.symm.trans U;cases U),s.2⟩⟩⟩
section
variable{g₀ h h':MV}{own:V MS}{r r':bH}{H H':AH}
theorem kC{y:bH}{H:Z}{I:MS}(B:y.L[H]? = S I):I∈y.M:=RL _ (RL _ (RL _ (RL _ (RJ B))))
theorem fQ{y:bH}{H:Z}{I:MS}(B:y.D[H]? = S I):I∈y.M:=RL _ (RL _ (RL _ (RP _ (RJ B))))
theorem nN{y:bH}{H:Z}{I:MS}(B:y.B[H]? = S I):I∈y.M:=RL _ (RL _ (RP _ (RJ B)))
theorem oR{y:bH}{H:Z}{L:MS×MS}(B:y.I[H]? = S L):L.1∈y.M:=RL _ (RP _ (R3 (f:=λL:MS×MS=>L.1) (RJ B)))
theorem jP{y:bH}{H:Z}{L:MS×MS}(B:y.I[H]? = S L):L.2∈y.M:=RP _ (R3 (f:=λL:MS×MS=>L.2) (RJ B))
theorem Sf.keep{fr:V MS}(H:dU own fr r h r' h')(J:∀I∈fr,I∈own\/h.get? I=N){I:MS}{z:Nl}(t:Sf h r own I z):Sf h' r' own I z:=by refine fK t λp G T=>?_;clear t;refine H.el p G (λx=>(J I x).elim T λU=>by replace U:=p.symm.trans U;cases U) λq a D sm=>?_;clear p G H J;obtain rfl:=sm.eq T;exact fA D q T
end
end
theorem tG(a:b.M.Nodup):(b.L.Nodup/\b.D.Nodup/\b.B.Nodup/\(b.I.map (·.1)).Nodup/\(b.I.map (·.2)).Nodup)/\
  (∀I∈b.L,I∉b.D/\I∉b.B/\I∉b.I.map (·.1)/\I∉b.I.map (·.2))/\(∀I∈b.D,I∉b.B/\I∉b.I.map (·.1)/\I∉b.I.map (·.2))/\
  (∀I∈b.B,I∉b.I.map (·.1)/\I∉b.I.map (·.2))/\(∀I∈b.I.map (·.1),I∉b.I.map (·.2)):=by refine hF λA=>?_;refine fK (Sm.mp a) λbE n8 n9=>?_;refine fK (Sm.mp bE) λIA n6 n7=>?_;refine fK (Sm.mp IA) λCQ n4 n5=>?_;refine fK (Sm.mp CQ) λn1 n2 n3=>?_;refine A ?_;have t:∀{I},I∈b.L->I∈b.L++b.D:=RL _;have v:∀{I},I∈b.D->I∈b.L++b.D:=RP _;have m:∀{I},I∈b.L++b.D->I∈b.L++b.D++b.B:=RL _;have K:∀{I},I∈b.L++b.D++b.B->I∈b.L++b.D++b.B++b.I.map (·.1):=RL _;exact⟨(Iz n1 n2 n4 n6 n8),λI c=>⟨λx=>n3 I c I x rfl,λx=>n5 I (t c) I x rfl,λx=>n7 I (m (t c)) I x rfl,λx=>n9 I (K (m (t c))) I x rfl⟩,λI c=>⟨λx=>n5 I (v c) I x rfl,λx=>n7 I (m (v c)) I x rfl,λx=>n9 I (K (m (v c))) I x rfl⟩,λI c=>⟨λx=>n7 I (RP _ c) I x rfl,λx=>n9 I (K (RP _ c)) I x rfl⟩,λI c x=>n9 I (RP _ c) I x rfl⟩
structure Apart(r:bH)(a:MS)(kL kD kB kI:O Z):Prop where
 L:∀(j:Z) b,r.L[j]? = S b->S j≠kL->b≠a
 D:∀(j:Z) b,r.D[j]? = S b->S j≠kD->b≠a
 B:∀(j:Z) b,r.B[j]? = S b->S j≠kB->b≠a
 I1:∀(j:Z) q,r.I[j]? = S q->q.1≠a
 I2:∀(j:Z) q,r.I[j]? = S q->S j≠kI->q.2≠a
theorem Ht{L:MS×MS}(D:b.I[K]? = S L):L.1∈b.I.map (·.1):=R3 (RJ D)
theorem Hu{L:MS×MS}(D:b.I[K]? = S L):L.2∈b.I.map (·.2):=R3 (RJ D)
theorem tH{l:V MS}(q:l.Nodup){i j:Z}{M:MS}(D:l[i]? = S n)(a:l[j]? = S M)(B:S j≠S i):M≠n:=by rintro rfl;refine dD (RG.mp D) λd z=>?_;exact B (Nc S ((U4 d q).mp (D.trans a.symm)).symm)
theorem Apart.K2(c:b.M.Nodup)(D:b.L[H]? = S n):Apart b n (S H) N N N:=by refine hF λl=>?_;refine wa (tG c) λcj t v m K=>?_;refine wa cj λn1 n2 n3 n4 n5=>?_;refine qj (t n (RJ D)) λX e G a=>?_;refine l ?_;exact⟨λi M j B=>tH n1 D j B,λi M j Y q=>X (q▸RJ j),λi M j Y q=>e (q▸RJ j),λi q j U=>G (U▸Ht j),λi q j Y U=>a (U▸Hu j)⟩
theorem Apart.K3(d:b.M.Nodup)(D:b.D[H]? = S n):Apart b n N (S H) N N:=by refine hF λE=>?_;refine wa (tG d) λdu t v m K=>?_;refine wa du λn1 n2 n3 n4 n5=>?_;have c:=RJ D;refine fK (v n c) λe G a=>?_;refine E ?_;exact⟨λi M j Y q=>(t M (RJ j)).1 (q▸c),λi M j B=>tH n2 D j B,λi M j Y q=>e (q▸RJ j),λi q j U=>G (U▸Ht j),λi q j Y U=>a (U▸Hu j)⟩
theorem Apart.K4(d:b.M.Nodup)(D:b.B[H]? = S n):Apart b n N N (S H) N:=by refine hF λp=>?_;refine wa (tG d) λdV t v m K=>?_;refine hF λP=>?_;refine wa dV λn1 n2 n3 n4 n5=>?_;have c:=RJ D;refine bK (m n c) λG a=>?_;refine P ?_;refine p ?_;exact⟨λi M j Y q=>(t M (RJ j)).2.1 (q▸c),λi M j Y q=>(v M (RJ j)).1 (q▸c),λi M j B=>tH n3 D j B,λi q j U=>G (U▸Ht j),λi q j Y U=>a (U▸Hu j)⟩
theorem Apart.K5(e:b.M.Nodup){q:MS×MS}(D:b.I[H]? = S q):Apart b q.2 N N N (S H):=by refine hF λn=>?_;refine wa (tG e) λfB t v m K=>?_;refine wa fB λn1 n2 n3 n4 n5=>?_;have c:=Hu D;refine n ?_;refine⟨λa M j Y U=>(t M (RJ j)).2.2.2 (U▸c),λa M j Y U=>(v M (RJ j)).2.2 (U▸c),λa M j Y U=>(m M (RJ j)).2 (U▸c),λa w j U=>K _ (Ht j) (U▸c),λa w j d=>?_⟩;exact tH (l:=b.I.map (·.2)) n5 (i:=H) (j:=a) (by refine RK.trans ?_;refine R D ?_;rfl) (by refine RK.trans ?_;refine R j ?_;rfl) d
theorem Apart.none(q:n∉b.M):Apart b n N N N N:=⟨λY Y D Y L=>q (L▸kC D),λY Y D Y L=>q (L▸fQ D),λY Y D Y L=>q (L▸nN D),λY Y D L=>q (L▸oR D),λY Y D Y L=>q (L▸jP D)⟩
theorem Sf.but{a M:MS}(P:∀M ah,M≠a->p.get? M=S ah->X.get? M=S ah)(c:a∈b.M\/a∈g\/p.get? a=N)(t:Sf p b g M ah):Sf X b g M ah:=by
 refine fK t λd G T=>?_;refine fA (P M ah (λL=>?_) d) G T;clear P t;subst L;rcases c with r|r|r;·exact G r
 ·exact T r
 ·replace r:=d.symm.trans r;cases r
theorem Inv.but{a1:Nj}{r:AH}{a:MS}{kL kD kB kI:O Z}(K:Inv a1 e g b k p)(hs:∀M z,M≠a->p.get? M=S z->X.get? M=S z)(ha:a∈b.M\/a∈g\/p.get? a=N)(P:Apart b a kL kD kB kI)
  (n:r.L.length=k.L.length) (eD:r.D.length=k.D.length) (eB:r.B.length=k.B.length) (eI:r.I.length=k.I.length)
  (oL:∀i,S i≠kL->r.L[i]? = k.L[i]?) (oD:∀i,S i≠kD->r.D[i]? = k.D[i]?) (oB:∀i,S i≠kB->r.B[i]? = k.B[i]?) (oI:∀i,S i≠kI->r.I[i]? = k.I[i]?)
  (cL:∀H,kL=S H->∀w,r.L[H]? = S w->b.L[H]? = S a->∃j q,X.get? a=S (listOf j q)/\bM a1.params (Sf p b g) b w j.toList)
  (cD:∀H,kD=S H->∀l,r.D[H]? = S l->b.D[H]? = S a->∃y q v,X.get? a=S (bB y q)/\DR a1 (Sf p b g) b v l y.toList/\(l.map (·.1)).Nodup)
  (cB:∀H,kB=S H->∀f,r.B[H]? = S f->b.B[H]? = S a->∃M,X.get? a=S (eH M)/\M.toList.map (λc=>(c.toNat:MN))=f)
  (cI:∀H,kI=S H->∀P L,r.I[H]? = S P->b.I[H]? = S L->L.2=a->(∀p',k.I[H]? = S p'->P.1=p'.1)/\∃y q,X.get? a=S (bB y q)/\FR a1.params (Sf p b g) b (bS P.1) P.2 y.toList)
  (pL:∀H,kL=S H->b.L[H]? = S a) (pD:∀H,kD=S H->b.D[H]? = S a) (pB:∀H,kB=S H->b.B[H]? = S a) (pI:∀H,kI=S H->∃L,b.I[H]? = S L/\L.2=a) (hx:a∈g->∃z,X.get? a=S z):Inv a1 e g b r X:=by
 have T:∀M z,Sf p b g M z->Sf X b g M z:=λM z t=>t.but hs ha;have C:=K.dt;refine⟨λM z D=>?_,K.wG,K.off,λM x=>?_,⟨C.gW.trans n.symm,C.i9.trans eD.symm,C.jO.trans eB.symm,C.ja.trans eI.symm,λH w M I m=>?_,λH w M I m=>?_,λH w M I m=>?_,λH L h I m=>?_⟩⟩
 ·refine hF λa5=>?_;refine bK (K.keep M z D) λI q=>?_;refine a5 ?_;refine⟨hs M z (λL=>?_) I,q⟩;refine hF λa6=>?_;subst L;rcases ha with a0|a0|a0;·exact q a0
  ·have:=(K.off M a0).2;replace this:=D.symm.trans this;cases this
  ·replace a0:=I.symm.trans a0;cases a0
 ·by_cases L:M=a;·subst L;exact hx x
  ·refine dD (K.ex M x) λz D=>?_;exact⟨z,hs M z L D⟩
 ·by_cases L:S H=kL;·have U:=pL H L.symm;refine hF λa3=>?_;obtain rfl:M=a:=Sl (m.symm.trans U);refine cg (cL H L.symm w I m) λj q o E=>?_;refine a3 ?_;exact dI j q o (E.mono T (.refl b))
  ·replace I:=(oL H L).symm.trans I;refine cg (C.L H w M I m) λj q o E=>?_;exact dI j q (hs M _ (P.L H M m L) o) (E.mono T (.refl b))
 ·by_cases L:S H=kD;·have U:=pD H L.symm;refine hF λa4=>?_;obtain rfl:M=a:=Sl (m.symm.trans U);refine dF (cD H L.symm w I m) λj q v o E c=>?_;refine a4 ?_;exact kQ j q v o (E.mono T (.refl b)) c
  ·replace I:=(oD H L).symm.trans I;refine dF (C.D H w M I m) λj q v o E c=>?_;exact kQ j q v (hs M _ (P.D H M m L) o) (E.mono T (.refl b)) c
 ·by_cases L:S H=kB;·have U:=pB H L.symm;refine hF λB=>?_;obtain rfl:M=a:=Sl (m.symm.trans U);refine B ?_;exact cB H L.symm w I m
  ·replace I:=(oB H L).symm.trans I;refine aM (C.B H w M I m) λj o E=>?_;exact ba j (hs M _ (P.B H M m L) o) E
 ·by_cases U:S H=kI
  ·refine aM (pI H U.symm) λd' s Y=>?_;refine hF λa2=>?_;obtain rfl:h=d':=Sl (m.symm.trans s);obtain⟨hc,y,q,o,E⟩:=cI H U.symm L h I m Y;have J:H<k.I.length:=by refine R eI.symm ?_;exact(RG.mp I).1
   have e5:=RB J;refine bK (C.I H _ h e5 m) λd ε=>?_;refine a2 ?_;refine R (hc _ e5) ?_;rw[hc _ e5] at E;exact⟨hs _ _ (P.I1 H h m) d,y,q,Y▸o,E.mono T (.refl b)⟩
  ·rw[oI H U] at I;refine hF λG=>?_;obtain⟨d,y,q,A,E⟩:=C.I H L h I m;refine G ?_;exact⟨hs _ _ (P.I1 H h m) d,y,q,hs _ _ (P.I2 H h m U) A,E.mono T (.refl b)⟩
theorem dU.but{a:MS}(P:∀M z,M≠a->p.get? M=S z->X.get? M=S z)(c:a∈b.M\/a∈aq\/p.get? a=N):dU g aq b p b X:=
 ⟨λM z D q A=>⟨q,z,P M z (λL=>by
  clear P;subst L;rcases c with r|r|r;·exact q r
  ·exact A r
  ·replace r:=D.symm.trans r;cases r) D,.refl z⟩⟩
theorem Inv.loose{d:Nj}{a:MS}(K:Inv d e g b k p)(P:∀M z,M≠a->p.get? M=S z->X.get? M=S z)(c:a∈g\/p.get? a=N)(n:a∉b.M)(x:a∈g->∃z,X.get? a=S z):Inv d e g b k X:=K.but (kL:=N) (kD:=N) (kB:=N) (kI:=N) P (.inr c) (.none n) rfl rfl rfl rfl (λY Y=>rfl) (λY Y=>rfl) (λY Y=>rfl) (λY Y=>rfl) (λY D=>nomatch D) (λY D=>nomatch D) (λY D=>nomatch D) (λY D=>nomatch D) (λY D=>nomatch D) (λY D=>nomatch D) (λY D=>nomatch D) (λY D=>nomatch D) x
theorem Inv.there(K:Inv a e g b k p):∀I∈b.M,∃z,p.get? I=S z:=by
 intro I c;refine hF λj=>?_;have C:=K.dt;simp only[bH.M,RM,Sj] at c;rcases c with(((r|r)|r)|⟨L,r,rfl⟩)|⟨L,r,rfl⟩
 ·refine dD (SJ.mp r) λH D=>?_;have J:H<k.L.length:=by refine R C.gW.symm ?_;exact(RG.mp D).1
  refine cg (C.L H _ I (RB J) D) λY Y o Y=>?_;refine j ?_;exact⟨_,o⟩
 ·refine dD (SJ.mp r) λH D=>?_;have J:H<k.D.length:=by refine R C.i9.symm ?_;exact(RG.mp D).1
  refine wb (C.D H _ I (RB J) D) λY Y Y o Y=>?_;refine j ?_;exact⟨_,o⟩
 ·refine dD (SJ.mp r) λH D=>?_;have J:H<k.B.length:=by refine R C.jO.symm ?_;exact(RG.mp D).1
  refine aM (C.B H _ I (RB J) D) λY o Y=>?_;refine j ?_;exact⟨_,o⟩
 ·refine dD (SJ.mp r) λH D=>?_;have J:H<k.I.length:=by refine R C.ja.symm ?_;exact(RG.mp D).1
  refine j ?_;exact⟨_,(C.I H _ L (RB J) D).1⟩
 ·refine hF λh=>?_;refine dD (SJ.mp r) λH D=>?_;have J:H<k.I.length:=by refine R C.ja.symm ?_;exact(RG.mp D).1
  obtain⟨_,_,_,o,_⟩:=C.I H _ L (RB J) D;refine h ?_;refine j ?_;exact⟨_,o⟩
theorem bR(B:MV):B.get? B.objs.size=N:=by
 induction D:B.get? B.objs.size using Ry with
 |none=>rfl
 |some z=>exact Nh (SF D) (RV _)
theorem Inv.fresh(K:Inv a e g b k p)(D:p.get? n=N):n∉b.M:=λx=>by refine dD (K.there n x) λz L=>?_;exact nX (D.symm.trans L)
theorem Inv.grow(K:Inv a e g b k p)(P:∀M z,p.get? M=S z->X.get? M=S z):Inv a e g b k X:=K.loose (a:=p.objs.size) (λM z Y D=>P M z D) (.inr (bR p)) (K.fresh (bR p)) λx=>Nh x (K.no (bR p))
theorem dU.grow(P:∀M z,p.get? M=S z->X.get? M=S z):dU g aq b p b X:=⟨λM z D q Y=>⟨q,z,P M z D,.refl z⟩⟩
theorem Inv.push(K:Inv a e g b k p)(z:Nl):Inv a e g b k (p.push z):=K.grow (λY Y D=>RA z D)
theorem dU.push(z:Nl):dU g aq b p b (p.push z):=.grow (λY Y D=>RA z D)
theorem Inv.g0(K:Inv a e g b k p)(D:p.get? n=N):e.get? n=N:=by
 induction L:e.get? n using Ry with
 |none=>rfl
 |some z=>have:=(K.keep n z L).1;exact nX (D.symm.trans this)
theorem Sf.cX{own':V MS}(t:Sf p b g n ah)(H:∀M∈own',M∈g\/p.get? M=N):Sf p b own' n ah:=(fA t.1 t.2.1 (λx=>(H n x).elim t.2.2 λU=>(by replace U:=t.1▸U;cases U)))
theorem oQ.mono{f:SP}(C:oQ a p b k x)(H:∀I z,x I z->f I z):oQ a p b k f:=⟨C.gW,C.i9,C.jO,C.ja,λr w I X m=>cg (C.L r w I X m) λK q o E=>(dI K q o (E.mono H (.refl b))),λr w I X m=>dF (C.D r w I X m) λK q h o E c=>(kQ K q h o (E.mono H (.refl b)) c),C.B,λr P L X m=>bK (C.I r P L X m) λo U=>⟨o,cg U λK q G E=>dI K q G (E.mono H (.refl b))⟩⟩
theorem Sf.grow(P:∀M ah,p.get? M=S ah->X.get? M=S ah)(t:Sf p b g n ah):Sf X b g n ah:=⟨P _ _ t.1,t.2⟩
theorem oQ.grow(C:oQ a p b k (Sf p b g))(P:∀M z,p.get? M=S z->X.get? M=S z):oQ a X b k (Sf X b g):=⟨C.gW,C.i9,C.jO,C.ja,λr w I d m=>cg (C.L r w I d m) λK q o E=>(dI K q (P _ _ o) (E.mono (λY Y t=>t.grow P) (.refl b))),λr w I d m=>dF (C.D r w I d m) λK q h o E c=>(kQ K q h (P _ _ o) (E.mono (λY Y t=>t.grow P) (.refl b)) c),λr w I d m=>aM (C.B r w I d m) λM o E=>(ba M (P _ _ o) E),λr e L d m=>bK (C.I r e L d m) λo U=>⟨P _ _ o,cg U λK q G E=>dI K q (P _ _ G) (E.mono (λY Y t=>t.grow P) (.refl b))⟩⟩
theorem Inv.cX{own':V MS}(K:Inv a e g b k p)(H:∀M∈own',M∈g\/p.get? M=N)(P:∀M z,p.get? M=S z->X.get? M=S z)(x:∀M∈own',∃z,X.get? M=S z):Inv a e own' b k X:=
 have i:=K.grow P
 ⟨i.keep,i.wG,λI c=>(H I c).elim (K.off I) λU=>⟨K.fresh U,K.g0 U⟩,x,(K.dt.mono λY Y t=>t.cX H).grow P⟩
theorem Inv.drop(K:Inv a e g b k p)(H:∀M∈ax,M∈g):Inv a e ax b k p:=⟨K.keep,K.wG,λI x=>K.off I (H I x),λI x=>K.ex I (H I x),K.dt.mono λY Y t=>t.cX λM x=>.inl (H M x)⟩
theorem Inv.CR{c:M5 MO}(K:Inv a e g b k p)(D:b.L[H]? = S n)(P:Sx n p X)(o:X.get? n=S (listOf c q))(E:bM a.params (Sf p b g) b au c.toList) :
  Inv a e g b {k with L:=k.L.set H au} X:=
 K.but (kL:=S H) (kD:=N) (kB:=N) (kI:=N) (λM z L U=>(P.2 M L).trans U) (.inl (kC D)) (.K2 K.wG D) (by simp) rfl rfl rfl (λi L=>by show(k.L.set H au)[i]? = _;exact(R7 λU=>L (Nc S U.symm))) (λY Y=>rfl) (λY Y=>rfl) (λY Y=>rfl) (λr L d j Y=>by obtain rfl:=sX L;replace j:(k.L.set H au)[H]? = S d:=j;rw[Ur] at j;simp at j;obtain⟨_,rfl⟩:=j;exact dI c q o E) (λY D=>nomatch D) (λY D=>nomatch D) (λY D=>nomatch D) (λY L=>by obtain rfl:=sX L;exact D) (λY D=>nomatch D) (λY D=>nomatch D) (λY D=>nomatch D) (λY=>⟨_,o⟩)
variable{ay:DK}
theorem Inv.FJ(K:Inv a e g b k p)(D:b.D[H]? = S n)(P:Sx n p X)(o:X.get? n=S (bB C q))(E:DR a (Sf p b g) b ay y C.toList)(c:(y.map (·.1)).Nodup) :
  Inv a e g b {k with D:=k.D.set H y} X:=
 K.but (kL:=N) (kD:=S H) (kB:=N) (kI:=N) (λM z L U=>(P.2 M L).trans U) (.inl (fQ D)) (.K3 K.wG D) rfl (by simp) rfl rfl (λY Y=>rfl) (λi L=>by show(k.D.set H y)[i]? = _;exact(R7 λU=>L (Nc S U.symm))) (λY Y=>rfl) (λY Y=>rfl) (λY D=>nomatch D) (λr L d j Y=>by obtain rfl:=sX L;replace j:(k.D.set H y)[H]? = S d:=j;rw[Ur] at j;simp at j;obtain⟨_,rfl⟩:=j;exact kQ C q ay o E c) (λY D=>nomatch D) (λY D=>nomatch D) (λY D=>nomatch D) (λY L=>by obtain rfl:=sX L;exact D) (λY D=>nomatch D) (λY D=>nomatch D) (λY=>⟨_,o⟩)
theorem Inv.setB{f:V MN}{M:M5 Np}(K:Inv a e g b k p)(D:b.B[H]? = S n)(P:Sx n p X)(o:X.get? n=S (eH M))(E:M.toList.map (λc=>(c.toNat:MN))=f) :
  Inv a e g b {k with B:=k.B.set H f} X:=
 K.but (kL:=N) (kD:=N) (kB:=S H) (kI:=N) (λM z L U=>(P.2 M L).trans U) (.inl (nN D)) (.K4 K.wG D) rfl rfl (by simp) rfl (λY Y=>rfl) (λY Y=>rfl) (λi L=>by show(k.B.set H f)[i]? = _;exact(R7 λU=>L (Nc S U.symm))) (λY Y=>rfl) (λY D=>nomatch D) (λY D=>nomatch D) (λr L d j Y=>by obtain rfl:=sX L;replace j:(k.B.set H f)[H]? = S d:=j;rw[Ur] at j;simp at j;obtain⟨_,rfl⟩:=j;exact ba M o E) (λY D=>nomatch D) (λY D=>nomatch D) (λY D=>nomatch D) (λY L=>by obtain rfl:=sX L;exact D) (λY D=>nomatch D) (λY=>⟨_,o⟩)
theorem Inv.IB{L:MS×MS}{d:dG}{h:V Q}(K:Inv a e g b k p)(D:b.I[H]? = S L)(c:k.I[H]? = S (d,h))(P:Sx L.2 p X)(o:X.get? L.2=S (bB C q))(E:FR a.params (Sf p b g) b (bS d) au C.toList) :
  Inv a e g b {k with I:=k.I.set H (d,au)} X:=
 K.but (kL:=N) (kD:=N) (kB:=N) (kI:=S H) (λM z L U=>(P.2 M L).trans U) (.inl (jP D)) (.K5 K.wG D) rfl rfl rfl (by simp) (λY Y=>rfl) (λY Y=>rfl) (λY Y=>rfl) (λi U=>by show(k.I.set H (d,au))[i]? = _;exact(R7 λs=>U (Nc S s.symm))) (λY D=>nomatch D) (λY D=>nomatch D) (λY D=>nomatch D) (λr U n w f m j=>by clear w m j K P;obtain rfl:=sX U;replace f:(k.I.set H (d,au))[H]? = S n:=f;rw[Ur] at f;simp at f;obtain⟨_,rfl⟩:=f;exact⟨λl U=>by replace U:=c.symm.trans U;obtain rfl:=sX U;rfl,C,q,o,E⟩) (λY D=>nomatch D) (λY D=>nomatch D) (λY D=>nomatch D) (λY U=>by obtain rfl:=sX U;exact ba L D rfl) (λY=>⟨_,o⟩)
set_option tactic.hygienic true in
theorem cS{T:V G}{r s:G}(D:(T++[r])[H]? = S s):T[H]? = S s\/(H=T.length/\s=r):=by
 replace D:=UB▸D;split at D;·exact .inl D
 ·rename_i L;have J:H - T.length=0:=by
   rcases Z.lt_or_ge 0 (H - T.length) with U|U;·exact nX ((Sk (by exact U)).symm.trans D)
   ·exact Z.le_zero.mp U
  rw[J] at D;exact .inr ⟨Vf (Vu J) (Tj.mp L),(sX D).symm⟩
theorem jb{T:V G}{r s:G}(D:T[H]? = S s):(T++[r])[H]? = S s:=by refine UB.trans ?_;refine R (Nb (RG.mp D).1) ?_;exact D
theorem fR{T:V G}{r:G}:(T++[r])[T.length]? = S r:=UR ..
structure More(r r':bH)(ns:V MS):Prop where
 perm:r'.M.Perm (ns++r.M)
 le:r.le r'
theorem More.mem{K:bH}{w:V MS}(x:More b K w):n∈K.M↔n∈w\/n∈b.M:=by refine x.perm.mem_iff.trans ?_;exact RM
theorem More.sf{K:bH}{w:V MS}(x:More b K w)(A:∀n∈w,p.get? n=N)(P:∀M ah,p.get? M=S ah->X.get? M=S ah)(t:Sf p b g n ah):Sf X K g n ah:=(fA (P _ _ t.1) (λU=>(x.mem.mp U).elim (λU=>by have:=t.1;exact nX ((A n U)▸this)) t.2.1) t.2.2)
theorem More.inv{d:bH}{r:AH}{w:V MS}(x:More b d w)(K:Inv a e g b k p)(A:∀I∈w,p.get? I=N)(n:w.Nodup)(P:∀M z,p.get? M=S z->X.get? M=S z)
  (C:oQ a X d r (Sf X d g)):Inv a e g d r X:=
 ⟨λM z D=>⟨P _ _ (K.keep M z D).1,λU=>(x.mem.mp U).elim (λU=>by have:=(K.keep M z D).1;exact nX ((A M U)▸this)) (K.keep M z D).2⟩,x.perm.nodup_iff.mpr (Sm.mpr (fA n K.wG (λI c M f L=>by subst L;exact K.fresh (A I c) f))),λI c=>⟨λU=>(x.mem.mp U).elim (λU=>by obtain⟨z,D⟩:=K.ex I c;exact nX ((A I U)▸D)) (K.off I c).1,(K.off I c).2⟩,λI c=>K.FI P c,C⟩
theorem More.keep{own:V MS}{K:bH}{fr w:V MS}(x:More b K w)(A:∀I∈w,p.get? I=N)(P:∀M z,p.get? M=S z->X.get? M=S z):dU own fr b p K X:=⟨λM z D q Y=>⟨λU=>(x.mem.mp U).elim (λU=>by exact nX ((A M U)▸D)) q,z,P _ _ D,.refl z⟩⟩
noncomputable def bH.mZ(y:bH)(I:MS):bH:={y with L:=y.L++[I]}
noncomputable def bH.iw(y:bH)(I:MS):bH:={y with D:=y.D++[I]}
noncomputable def bH.wH(y:bH)(I:MS):bH:={y with B:=y.B++[I]}
noncomputable def bH.uQ(y:bH)(L:MS×MS):bH:={y with I:=y.I++[L]}
theorem pl{X k:V G}{I:G}:(X++(k++[I])).Perm (I :: (X++k)):=(Sn X k [I])▸V.perm_append_comm
theorem More.L(y:bH)(I:MS):More y (y.mZ I) [I]:=⟨(((pl (X:=[]).append_right _).append_right _).append_right _).append_right _,⟨λY Y D=>jb D,λY Y D=>D,λY Y D=>D,λY Y D=>D⟩⟩
theorem More.D(y:bH)(I:MS):More y (y.iw I) [I]:=⟨((pl.append_right _).append_right _).append_right _,⟨λY Y D=>D,λY Y D=>jb D,λY Y D=>D,λY Y D=>D⟩⟩
theorem More.B(y:bH)(I:MS):More y (y.wH I) [I]:=⟨(pl.append_right _).append_right _,⟨λY Y D=>D,λY Y D=>D,λY Y D=>jb D,λY Y D=>D⟩⟩
theorem More.I(y:bH)(L:MS×MS):More y (y.uQ L) [L.1,L.2]:=⟨by show(y.L++y.D++y.B++(y.I++[L]).map (·.1)++(y.I++[L]).map (·.2)).Perm _;refine R R8 ?_;refine R R8 ?_;exact((pl.append_right _).trans pl).trans (.swap ..),⟨λY Y D=>D,λY Y D=>D,λY Y D=>D,λY Y D=>jb D⟩⟩
theorem Inv.CS{j:M5 MO}(K:Inv a e g b k p)(A:p.get? n=N)(P:∀M z,p.get? M=S z->X.get? M=S z)
  (o:X.get? n=S (listOf j q)) (E:bM a.params (Sf p b g) b au j.toList):Inv a e g (b.mZ n) {k with L:=k.L++[au]} X:=by
 have x:=More.L b n;have r:∀M∈[n],p.get? M=N:=λM w=>by refine R (Rx.mp w) ?_;exact A
 have T:∀M z,Sf p b g M z->Sf X (b.mZ n) g M z:=λM z t=>x.sf r P t;have C:=K.dt;refine x.inv K r (M8 rfl) P ⟨by simp[bH.mZ,C.gW],C.i9,C.jO,C.ja,λH d M f m=>?_,λH au M f m=>?_,λH au M f m=>?_,λH L h f m=>?_⟩
 ·rcases cS f with I|⟨rfl,rfl⟩
  ·rcases cS m with B|⟨rfl,_⟩;·refine cg (C.L H d M I B) λj q o E=>?_;exact dI j q (P _ _ o) (E.mono T x.le)
   ·rw[C.gW,Sk (Sd _)] at I;cases I
  ·rcases cS m with B|⟨_,rfl⟩;·rw[<-C.gW,Sk (Sd _)] at B;cases B
   ·exact dI j q o (E.mono T x.le)
 ·refine dF (C.D H au M f m) λj q h o E c=>?_;exact kQ j q h (P _ _ o) (E.mono T x.le) c
 ·refine aM (C.B H au M f m) λM o E=>?_;exact ba M (P _ _ o) E
 ·obtain⟨o,y,q,G,E⟩:=C.I H L h f m;exact⟨P _ _ o,y,q,P _ _ G,E.mono T x.le⟩
theorem Inv.IC{bs:V MN}{i:M5 Np}(K:Inv a e g b k p)(A:p.get? n=N)(P:∀M z,p.get? M=S z->X.get? M=S z)
  (o:X.get? n=S (eH i)) (E:i.toList.map (λc=>(c.toNat:MN))=bs):Inv a e g (b.wH n) {k with B:=k.B++[bs]} X:=by
 have x:=More.B b n;have r:∀M∈[n],p.get? M=N:=λM l=>by refine R (Rx.mp l) ?_;exact A
 have T:∀M z,Sf p b g M z->Sf X (b.wH n) g M z:=λM z t=>x.sf r P t;have C:=K.dt;refine x.inv K r (M8 rfl) P ⟨C.gW,C.i9,by simp[bH.wH,C.jO],C.ja,λH w M f m=>?_,λH w M f m=>?_,λH d M f m=>?_,λH L h f m=>?_⟩;·refine cg (C.L H w M f m) λj q o E=>?_;exact dI j q (P _ _ o) (E.mono T x.le)
 ·refine dF (C.D H w M f m) λj q h o E c=>?_;exact kQ j q h (P _ _ o) (E.mono T x.le) c
 ·rcases cS f with I|⟨rfl,rfl⟩
  ·rcases cS m with B|⟨rfl,_⟩;·refine aM (C.B H d M I B) λM o E=>?_;exact ba M (P _ _ o) E
   ·rw[C.jO,Sk (Sd _)] at I;cases I
  ·rcases cS m with B|⟨_,rfl⟩;·rw[<-C.jO,Sk (Sd _)] at B;cases B
   ·exact ba i o E
 ·obtain⟨o,y,q,G,E⟩:=C.I H L h f m;exact⟨P _ _ o,y,q,P _ _ G,E.mono T x.le⟩
theorem Res.aP{I:G}{A:G->Res az}:(Res.ok I).bind A=A I:=rfl
noncomputable def Res.x?{i:Type}:Res i->O (Q×AH)
 |.exc n b=>S (n,b)
 |_=>N
section
variable(w:Nj)(g₀:MV)(own:V MS)
structure aQ(fr:V MS)(r:bH)(s:MW)(r':bH)(H':AH)(s':MW):Prop where
 eq:∃h' tk',s'={s with heap:=h',toks:=tk'}
 inv:Inv w g₀ own r' H' s'.heap
 keep:dU own fr r s.heap r' s'.heap
 le:r.le r'
inductive FK(l:V Ng)(hr:MV)(ea:MS)(r':bH)(t:Q)(h:MV):Prop
 |mk (B:MV) (a0:MO) (oe:Nl) (d:MS) (es:M5 Nt) (n:_) (fw:VJ B l ea (.ref (CA .bQ)) a0 h)
  (fb:∀b o,hr.get? b=S o->B.get? b=S o\/(2<=own.count b/\(∃es n,o.data=.dict es n)/\∃sl,h.get? b=S {o with slots:=sl}))
  (y1:h.get? ea=S oe) (y2:oe.dict=S d) (y3:d≠ea) (y4:B.get? d=S (bB es n)) (y5:d∉r'.M) (y6:d∉own) (y7:FR w.params (Sf hr r' own) r' (bS .bQ) [t] es.toList) (f0:hr.get? ea=N) (f1:ea∉r'.M) (f2:ea∉own) (f3:g₀.get? ea=N)
inductive i5(fr:V MS)(l:V Ng)(r:bH)(s:MW)(t:Q)(H':AH):MO->MW->Prop
 |mk (own':V MS) (r':bH) (hr:MV) (ea:MS) (h':MV) (tk':Z) (z1:∀a∈own,a∈own') (z2:∀c,2<=own'.count c->2<=own.count c\/s.heap.get? c=N) (z3:Inv w g₀ own' r' H' hr) (z4:dU own fr r s.heap r' hr) (z5:r.le r') (z6:s.heap.get? ea=N) (z7:FK w g₀ own' l hr ea r' t h'):i5 fr l r s t H' (.ref ea) {s with heap:=h',toks:=tk'}
abbrev Rel(i d:Type):=SP->bH->i->d->Prop
noncomputable def QQ{i d:Type}(h:Rel i d)(E:V MS)(a:Res (i×AH))(y:bH)(t:MW):d->MW->Prop:=λM v=>∃I r K,a=.ok (I,r)/\aQ w g₀ own E y t K r v/\h (Sf v.heap K own) K I M
noncomputable def EE(T:V Ng)(a:O (Q×AH))(y:bH)(t:MW):MO->MW->Prop:=λj v=>∃n r,a=S (n,r)/\i5 w g₀ own [] T y t n r j v
noncomputable def jL(a:N0)(f:Nw)(T:V Ng){i d:Type}(h:Rel i d)(n:Nm d)(r:Res (i×AH))(y:bH)(t:MW):Prop:=r≠.bad->MZ a f n (QQ w g₀ own h [] r y t) (EE w g₀ own T r.x? y t) t
end
theorem bH.le.mem{K:bH}(H:b.le K)(x:n∈b.M):n∈K.M:=by
 simp only[bH.M,RM,Sj] at x;rcases x with(((r|r)|r)|⟨L,r,rfl⟩)|⟨L,r,rfl⟩<;>obtain⟨a,D⟩:=SJ.mp r;·exact kC (H.L _ _ D)
 ·exact fQ (H.D _ _ D)
 ·exact nN (H.B _ _ D)
 ·exact oR (H.I _ _ D)
 ·exact jP (H.I _ _ D)
theorem aQ.refl(K:Inv a e g b k d.heap):aQ a e g aq b d b k d:=⟨⟨d.heap,d.toks,rfl⟩,K,.refl ..,.refl _⟩
theorem aQ.trans{x:bH}{I:AH}{o:MW}(r:aQ a e g aq b d ak bc ap)(s:aQ a e g aq ak ap x I o):aQ a e g aq b d x I o:=by refine mN r.eq λB n bE=>?_;subst bE;refine mN s.eq λm X cj=>?_;subst cj;exact⟨⟨m,X,rfl⟩,s.inv,r.keep.trans s.keep,r.le.trans s.le⟩
theorem aQ.less{c:V MS}(r:aQ a e g aq b d ak bc ap)(H:∀C∈aq,C∈c\/d.heap.get? C=N):aQ a e g c b d ak bc ap:=⟨r.eq,r.inv,r.keep.less H λY x=>.inl x,r.le⟩
theorem aQ.wide{fr:V MS}(r:aQ a e g [] b d ak bc ap):aQ a e g fr b d ak bc ap:=r.less λY x=>nomatch x
theorem aQ.sf(r:aQ a e g aq b d ak bc ap)(J:∀n∈aq,n∈g\/d.heap.get? n=N)(s:Sf d.heap b g n ah):Sf ap.heap ak g n ah:=s.keep r.keep J
theorem aQ.FL(r:aQ a e g [] b d ak bc ap)(s:Sf d.heap b g n ah):Sf ap.heap ak g n ah:=s.keep r.keep λY x=>nomatch x
theorem aQ.vr(r:aQ a e g [] b d ak bc ap)(s:VR a.params (Sf d.heap b g) b m aa):VR a.params (Sf ap.heap ak g) ak m aa:=s.mono (λY Y U=>r.FL U) r.le
theorem aQ.CT(r:aQ a e g [] b d ak bc ap){I:V Q}{E:V MO}(s:bM a.params (Sf d.heap b g) b I E):bM a.params (Sf ap.heap ak g) ak I E:=s.mono (λY Y U=>r.FL U) r.le
theorem aQ.at{i:Z}(r:aQ a e g aq b d ak bc {d with heap:=X,toks:=i}):Inv a e g ak bc X:=r.inv
theorem aQ.mk'{own:V MS}{fr:V MS}{s:MW}{tk':Z}(K:Inv a e own ak bc X)(H:dU own fr b s.heap ak X)(D:b.le ak):aQ a e own fr b s ak bc {s with heap:=X,toks:=tk'}:=⟨⟨_,_,rfl⟩,K,H,D⟩
theorem aQ.grown{s:MW}(K:Inv a e g b k s.heap){tk':Z}(H:∀M z,s.heap.get? M=S z->X.get? M=S z):aQ a e g aq b s b k {s with heap:=X,toks:=tk'}:=.mk' (K.grow H) (.grow H) (.refl b)
theorem aQ.tok(K:Inv a e g b k d.heap){tk':Z}:aQ a e g aq b d b k {d with toks:=tk'}:=.mk' K (.refl ..) (.refl b)
theorem FK.el{P:Prop}{c:MV}{t:MS}{d:Q}(r:FK a e g l c t b d p)(H:∀(n:MV) (w:MO) (k:Nl) (h:MS) (y:M5 Nt) (q:_),VJ n l t (.ref (CA .bQ)) w p->
  (∀M z,c.get? M=S z->n.get? M=S z\/(2<=g.count M/\(∃y q,z.data=.dict y q)/\∃i,p.get? M=S {z with slots:=i}))->
  p.get? t=S k->k.dict=S h->h≠t->n.get? h=S (bB y q)->h∉b.M->h∉g->FR a.params (Sf c b g) b (bS .bQ) [d] y.toList->c.get? t=N->t∉b.M->t∉g->e.get? t=N->P):P:=by induction r using FK.casesOn;exact H _ _ _ _ _ _ fw fb y1 y2 y3 y4 y5 y6 y7 f0 f1 f2 f3
@[elab_as_elim]theorem i5.el{a:Nj}{d:MV}{g:V MS}{E:V MS}{y:bH}{b:MW}{T:V Ng}{P:MO->MW->Prop}{t:Q}{H':AH}{e':MO}{s':MW}(x:i5 a d g E T y b t H' e' s')(k:∀J K c e m i,(∀I∈g,I∈J)->(∀C,2<=J.count C->2<=g.count C\/b.heap.get? C=N)->Inv a d J K H' c->dU g E y b.heap K c->y.le K->b.heap.get? e=N->FK a d J T c e K t m->P (.ref e) {b with heap:=m,toks:=i}):P e' s':=by induction x using i5.casesOn;exact k _ _ _ _ _ _ z1 z2 z3 z4 z5 z6 z7
theorem i5.map{h I:V MS}{c:bH}{h1:MV}{tk1:Z}{n:Q}{r:AH}{j:MO}{v:MW}(o:i5 a e h I l c {d with heap:=h1,toks:=tk1} n r j v)(p:∀C∈g,C∈h)(M:∀C,2<=h.count C->2<=g.count C\/d.heap.get? C=N)(q:∀C,h1.get? C=N->d.heap.get? C=N)(H:∀K k,dU h I c h1 K k->dU g aq b d.heap K k)(D:b.le c):i5 a e g aq l b d n r j v:=i5.el (P:=λj v=>i5 a e g aq l b d n r j v) o λJ K k t m i s w f U A z X=>.mk J K k t m i (λC x=>s C (p C x)) (λC x=>(w C x).elim (M C) λy=>.inr (q C y)) f (H _ _ U) (D.trans A) (q t z) X
theorem i5.pre{n:Q}{r:AH}{j:MO}{v:MW}(z:aQ a e g aq b d ak bc ap)(J:∀I∈aq,I∈g)(c:i5 a e g aq l ak ap n r j v):i5 a e g aq l b d n r j v:=by
 refine mN z.eq λp B y=>?_;subst y;refine c.map (λY x=>x) (λY x=>.inl x) (λC U=>?_) (λY Y H=>z.keep.trans H) z.le;induction L:d.heap.get? C using Ry with
 |none=>rfl
 |some G=>
  by_cases x:C∈b.M;·exact dD (z.inv.there C (z.le.mem x)) λt j=>nX (U.symm.trans j)
  ·by_cases q:C∈aq;·exact dD (z.inv.ex C (J C q)) λt j=>nX (U.symm.trans j)
   ·exact z.keep.el L x q λY t j Y=>nX (U.symm.trans j)
theorem EE.no{j:MO}{v:MW}(L:EE a e g l N b d j v):Y:=cg L λn r U c=>nX U
theorem jL.dg{t:Type}{h:Rel G az}{n:Nm az}{s:Res (G×AH)}{A:G×AH->Res (t×AH)}{c:az->MW->Prop}(B:jL a e g T f l h n s ak ap)(z:aQ a e g [] b d ak bc ap)
  (H:∀I i x o M,s=.ok (I,i)->aQ a e g [] b d x i o->aQ a e g [] ak ap x i o->h (Sf o.heap x g) x I M->A (I,i)≠.bad->c M o) (w:s.bind A≠.bad) :
  MZ T f n c (EE a e g l (s.bind A).x? b d) ap:=by
 refine Nk (B (λq=>w (by refine(bL q).trans ?_;rfl))) (λM v q=>?_) λj v q=>?_;·refine dF q λI i x dV o2 E=>?_;clear B;subst dV;exact H I i x v M rfl (z.trans o2) o2 E w
 ·refine cg q λn r D U=>hF λk=>?_
  clear q B H w
  induction s using Wn with
  |ok I=>exact nX D
  |bad=>exact nX D
  |exc X m=>obtain⟨rfl,rfl⟩:=sP D;exact k (dI _ _ rfl (U.pre z λY p=>nomatch p))
theorem QQ.pre{h:Rel G az}{r:Res (G×AH)}{M:az}{v:MW}(z:aQ a e g aq b d ak bc ap)(L:QQ a e g h aq r ak ap M v):QQ a e g h aq r b d M v:=dF L λI c K D t E=>kQ I c K D (z.trans t) E
theorem EE.pre{r:O (Q×AH)}{j:MO}{v:MW}(z:aQ a e g [] b d ak bc ap)(L:EE a e g l r ak ap j v):EE a e g l r b d j v:=cg L λn c D U=>dI n c D (U.pre z λY x=>nomatch x)
theorem jL.lift{h:Rel G az}{n:Nm az}{r:Res (G×AH)}(B:jL a e g T f l h n r ak ap)(z:aQ a e g [] b d ak bc ap)(c:r≠.bad):MZ T f n (QQ a e g h [] r b d) (EE a e g l r.x? b d) ap:=Nk (B c) (λY Y L=>L.pre z) λY Y L=>L.pre z
theorem QQ.ok{α:Type}{h:Rel α az}{I:α}{M:az}{r':bH}{r:AH}{v:MW}(z:aQ a e g aq b d r' r v)(E:h (Sf v.heap r' g) r' I M):QQ a e g h aq (.ok (I,r)) b d M v:=(kQ I r r' rfl z E)
structure cK(l:V Ng)(own fr:V MS)(h:MV):Prop where
 all:∀e∈l,e.scope.kind≠.module/\∃L o es n,e.frame=S L/\2<=own.count L/\L∉fr/\h.get? L=S o/\o.data=.dict es n
theorem cK.el{P:Prop}{D:Ng}(r:cK l g aq p)(x:D∈l)(H:D.scope.kind≠.module->∀I z y q,D.frame=S I->2<=g.count I->I∉aq->p.get? I=S z->z.data=.dict y q->P):P:=by obtain⟨a,I,z,y,q,M,C,h,o,L⟩:=r.all D x;exact H a I z y q M C h o L
theorem cK.keep{own:V MS}{fr:V MS}(r:cK l own fr d.heap)(K:Inv a e own b k d.heap)(z:aQ a e own fr b d ak bc ap):cK l own fr ap.heap:=
 ⟨λD x=>by refine hF λm=>r.el x λH I f y q A t v o h=>z.keep.el o (K.off I (Sa.mp (n4 t rfl))).1 v λY c G U=>?_;refine m ?_;exact⟨H,I,c,y,q,A,t,v,G,U.data.trans h⟩⟩
structure bk(own:V MS)(env:Ng)(sl:V (O MU)):Prop where
 kind:env.scope.kind=.function
 glob:env.globals=NO
 blt:env.builtins=Qv
 loc:env.locals∈own
 jM:∀x c,env.cells.lookup x=S c->c∈own/\c≠env.locals
 zU:∀a∈env.cells.map (·.2),a∈own
 inj:∀x y c,env.cells.lookup x=S c->env.cells.lookup y=S c->x=y
 E':∀(i j:Z) x,sl[i]? = S (S x)->sl[j]? = S (S x)->i=j
 has:∀(j:Z) x,sl[j]? = S (S x)->env.kindOf x=S .cell\/env.kindOf x=S .free->∃c,env.cells.lookup x=S c
structure uR(w:Nj)(own:V MS)(env:Ng)(sl:V (O MU))(loc:Loc)(r:bH)(h:MV):Prop where
 ns:∃m,h.Ns env.locals m/\∀(j:Z) x v,sl[j]? = S (S x)->loc[j]? = S (S v)->env.kindOf x=S .local->∃v',m x=S v'/\VR w.params (Sf h r own) r v v'
 jM:∀x c,env.cells.lookup x=S c->∃ov,h.IsCell c ov/\∀(j:Z) v,sl[j]? = S (S x)->loc[j]? = S (S v)->env.kindOf x=S .cell\/env.kindOf x=S .free->∃v',ov=S v'/\VR w.params (Sf h r own) r v v'
 len:loc.length=sl.length
theorem uR.keep{own:V MS}(p:bk own c j)(K:Inv a e own b k d.heap)(A:uR a own c j w b d.heap)(z:aQ a e own [] b d ak bc ap):uR a own c j w ak ap.heap:=by
 refine⟨?_,λr C D=>?_,A.len⟩;·refine aM A.ns λx bE H=>hF λf=>dF bE λg y T o h U=>z.keep.el o (K.off _ p.loc).1 (λx=>nomatch x) λY t G q=>f (ba x (kQ t y T G (q.data.trans h) U) (λi r E X m s=>?_));exact aM (H i r E X m s) λB I M=>ba B I (z.vr M)
 ·refine aM (A.jM r C D) λn cj H=>hF λl=>aM cj λg o h=>z.keep.el o (K.off _ (p.jM r C D).1).1 (λx=>nomatch x) λY t G q=>l (ba n (ba t G (q.data.trans h)) (λi E X m s=>?_));exact aM (H i E X m s) λB I M=>ba B I (z.vr M)
structure St(w:Nj)(g₀:MV)(own:V MS)(l:V Ng)(env:Ng)(sl:V (O MU))(r:bH)(H:AH)(loc:Loc)(s:MW):Prop where
 inv:Inv w g₀ own r H s.heap
 dS:uR w own env sl loc r s.heap
 live:cK l own [] s.heap
theorem St.on{s:MW}(G:St a e g l c j b k w s)(p:bk g c j)(z:aQ a e g [] b s ak bc ap):St a e g l c j ak bc w ap:=⟨z.inv,G.dS.keep p G.inv z,G.live.keep G.inv z⟩
abbrev lL(a:Nj):Rel Q MO:=λT y I E=>VR a.params T y I E
abbrev ID(a:Nj):Rel (V Q) (V MO):=λT y I E=>bM a.params T y I E
abbrev K6(i:Type):Rel i i:=λY Y I M=>I=M
noncomputable def SE(l:Nv)(a:Nj)(d:MV)(T:V Ng)(c:Ng)(i:V (O MU))(f:Nw)(e:CF)(D:LE)(n:MQ):Prop:=∀g y b t A,bk g c i->St a d g T c i y b A t->jL a d g (MY l a) f T (lL a) (eval n c) (aO e D A b) y t
noncomputable def mO(e:CF)(D:LE)(A:Loc)(b:AH):Res (MP×AH):=(aO e D A b).bind λy=>match truthy y.1 with
 |some M=>.ok (M,y.2)
 |none=>.bad
noncomputable def ST(l:Nv)(a:Nj)(d:MV)(T:V Ng)(c:Ng)(i:V (O MU))(f:Nw)(e:CF)(D:LE)(n:MQ):Prop:=∀g y b t A,bk g c i->St a d g T c i y b A t->jL a d g (MY l a) f T (K6 MP) (isTrue n c (eval n c)) (mO e D A b) y t
theorem uS(r:MN){s:MN}(E:0<s)(p:s<2 ^ 30):NL.divisionGoesByPylong r s=MT:=by refine Vv.mpr (.inl (NH ?_));show¬(if(s==0)=ML then 0 else s.natAbs.log2 / 30+1)>300;refine R (OW (U' E)) ?_;refine R (Z.div_eq_of_lt ((Z.log2_lt (MN.natAbs_ne_zero.mpr (U' E))).mpr (MN.natAbs_lt_natAbs_of_nonneg_of_lt (VK E) p))) ?_;decide
noncomputable def wK:wi->O8
 |.add=>.Add|.sub=>.Sub|.mul=>.Mult|.fdiv=>.FloorDiv|.mod=>.Mod|.pow=>.Pow
theorem SE.kM:SE h a e l c j f i .kM (.Constant .none H J):=λg y b t A p G B=>Constant_none (.ok (.refl G.inv) .none)
theorem SE.qg{M:MP}:SE h a e l c j f i (.qg M) (.Constant (.bool M) H J):=λg y b t A p G B=>Constant_bool (.ok (.refl G.inv) (.bool M))
theorem SE.int{K:MN}:SE h a e l c j f i (.int K) (.Constant (.int K) H J):=λg y b t A p G B=>wpAny_Constant_int (.ok (.tok G.inv) (.int K _))
theorem SE.str(M:K<NS):SE h a e l c j f i (.str K) (.Constant (.str (sx K)) H J):=λg y b t A p G B=>PySem.Calls.Constant_str (.ok (.tok G.inv) (.str K _ M))
theorem SE.name(P:j[K]? = S (S r))(d:c.kindOf r=S .local\/c.kindOf r=S .cell\/c.kindOf r=S .free)(m:(r==("__debug__":MU))=MT)(w:(r==("__classdict__":MU))=MT) :
  SE h a e l c j f i (.var K) (.Name r J):=by
 intro g I b t A p G B;replace B:=iN▸B;refine R iN ?_;induction D:A[K]? using Ry with
 |none=>exact bX (D▸B)
 |some y=>
  induction y using Ry with
  |none=>exact bX (D▸B)
  |some E=>
   refine O9 ?_ m;rcases d with d|d;·exact hF λH=>aM G.dS.ns λx n v=>aM (v K r E P D d) λo s k=>H (O' p.kind d n s (.ok (.refl G.inv) k))
   ·refine dD (p.has K r P d) λC z=>aM (G.dS.jM r C z) λy L v=>aM (v K E P D d) λo du k=>?_;clear v B P m;subst du;rcases d with d|d;·exact Q7 p.kind d z L (.ok (.refl G.inv) k)
    ·exact Q8 p.kind d z L (.ok (.refl G.inv) k) w
theorem jL.binI{z:wi}{r s:MN}{n c:NM}(K:Inv a e g b k d.heap)(D:bY z (.int r) (.int s)=S aw):MZ (MY h a) f (binaryOp (wK z) (.int r n) (.int s c)) (QQ a e g (lL a) [] (.ok (aw,k)) b d) t d:=by
 have T:∀r,aw=.int r->QQ a e g (lL a) [] (.ok (aw,k)) b d (.int r d.toks) {d with toks:=d.toks+1}:=λr D=>D▸.ok (.tok K) (.int r _);induction z using wi.casesOn with
 |add=>exact PySem.AutoIntOps.add_0 (T _ (sX D).symm)
 |sub=>exact PySem.AutoIntOps.sub_0 (T _ (sX D).symm)
 |mul=>refine cA D (λq D=>?_) λY D=>nX D;exact wC q λy i Y Y=>PySem.AutoIntOps.mul_0 (T _ (sX D).symm) (PySem.IntMulOk.of_left (PySem.intBits_le_64 (TS (show -(2 ^ 64)<(0:MN) by decide) (M8 y)) (TS (M8 i) (show(2 ^ 30:MN)<=2 ^ 64 by decide))))
 |fdiv=>refine cA D (λq D=>?_) λY D=>nX D;refine bK (RT.mp q) λy i=>?_;have y:=M8 y;exact PySem.AutoIntOps.floordiv_1 (Q9 (OW (U' y))) (by refine R (uS r y (M8 i)) ?_;decide) (T _ (sX D).symm)
 |mod=>refine cA D (λq D=>?_) λY D=>nX D;exact PySem.AutoIntOps.mod_1 (Q9 (OW (U' (M8 q)))) (T _ (sX D).symm)
 |pow=>refine cA D (λq D=>?_) λY D=>nX D;refine bK q λdV fB=>?_;clear q K;subst dV;subst fB;exact PySem.AutoIntOps.pow_4 (by decide) (by decide) (by decide) (by decide) (by decide +kernel) (T _ (sX D).symm)
theorem jL.bin{l:V Ng}{y:bH}{z:wi}{b:Q}{U P:MO}(K:Inv a e g y k d.heap)(c:VR a.params (Sf d.heap y g) y m U)(w:VR a.params (Sf d.heap y g) y b P) :
  jL a e g (MY h a) f l (lL a) (binaryOp (wK z) U P) (match bY z m b with|some E=>.ok (E,k)|none=>.bad) y d:=by
 intro B;induction D:bY z m b using Ry with
 |none=>exact bX (D▸B)
 |some E=>
  clear B
  induction m using Wm with
  |int r=>
   induction b using Wm with
   |int s=>obtain⟨p,rfl⟩:=c.inv;obtain⟨o,rfl⟩:=w.inv;exact jL.binI K D
   |_=>exact nX D
  |lst r=>induction b using Wm with
   |lst s=>
    refine dF c.inv λm items n i7 C A=>?_
    clear c
    subst i7
    refine dF w.inv λb items2 x jQ j v=>?_
    clear w
    subst jQ
    induction z using wi.casesOn with
    |add=>
     refine cA D (λq D=>?_) λY D=>nX D;refine PySem.P.add_list (l:=m) (b:=b) (items:=items) (n:=n) (items2:=items2) (n2:=x) C.1 j.1 (sX D▸.ok (.grown K λb z D=>RA _ D) ?_) (by have:N1=_:=N9;exact(A.len.trans RI)▸(v.len.trans RI)▸Tg (n1 (M8 q) rfl));refine .lst _ _ (items++items2) 0 ⟨R4 _ rfl,K.fresh (bR _),λx=>?_⟩ ?_;·exact Nh x (K.no (bR d.heap))
     ·exact R M5.toList_append ((A.append v).mono (λm z i=>i.grow λb z D=>RA _ D) (.refl y))
    |_=>exact nX D
   |_=>exact nX D
  |_=>exact nX D
theorem SE.bin{z:wi}{I M:LE}{o:O8}(r:SE h a e l c j f i I aj)(q:SE h a e l c j f i M s)
  (H:o=wK z):SE h a e l c j f i (.bin z I M) (.BinOp aj o s J):=by intro g y b t A p G B;refine R H (R wt (wpAny_BinOp ((r g y b t A p G).dg (.refl G.inv) (λI d K k U X o1 w E D=>?_) B)));refine R X (R Res.aP ?_);refine(q g K d k A p (G.on p o1)).dg o1 (λM C x L P m o2 n v Y=>?_) D;exact R m ((jL.bin o2.inv (n.vr E) v).lift o2 Y)
open PySem.SeqAt
theorem jR(d:ag<NS)(M:K<NS):(sx ag==sx K)=(ag==K):=by
 by_cases B:ag=K;·refine R B ?_;simp
 ·have:sx ag≠sx K:=λD=>B (rL d M D);refine(OK.mpr this).trans ?_;refine R (OK.mpr B) rfl
theorem uT{I M:V Np}(B:I.map SM=M.map SM):I=M:=by
 induction I generalizing M with
 |nil=>cases M with|nil=>rfl|cons _ _=>cases B
 |cons r I d=>induction M using RD with
  |nil=>simp at B
  |cons s M=>simp only[R5,V.cons.injEq] at B;refine R (Np.toNat_inj.mp B.1) ?_;refine R (d B.2) rfl
theorem oS{I M:M5 Np}{T x:V Z}(c:I.toList.map SM=T)(w:M.toList.map SM=x):(MX (I.toList=M.toList))=(T==x):=by
 subst c;subst w;by_cases B:I.toList=M.toList;·simp[B]
 ·have:¬I.toList.map SM=M.toList.map SM:=λD=>B (uT D);refine(NH B).trans ?_;rw[OK.mpr this]
inductive Fb:Q->Q->MP->Prop
 |none:Fb .none .none ML
 |bool (x y:MP):Fb (.bool x) (.bool y) (x==y)
 |int (x y:MN):Fb (.int x) (.int y) (MX (x=y))
 |str (x y:Z):Fb (.str x) (.str y) (x==y)
 |bw (x y:V Z):Fb (.bw x) (.bw y) (x==y)
theorem wM{M:Q}(D:BM m M=S am):Fb m M am:=by
 induction m using Wm with
 |none=>induction M using Wm with|none=>exact sX D▸.none|_=>exact nX D
 |bool r=>induction M using Wm with|bool s=>exact sX D▸.bool r s|_=>exact nX D
 |int r=>induction M using Wm with|int s=>exact sX D▸.int r s|_=>exact nX D
 |str r=>induction M using Wm with|str s=>exact sX D▸.str r s|_=>exact nX D
 |bw r=>induction M using Wm with|bw s=>exact sX D▸.bw r s|_=>exact nX D
 |_=>exact nX D
theorem oU{A:Nw}{s:MW}{M:Q}{c:MO}(h:VR U x b m c)(w:VR U x b M aa)(D:BM m M=S am) :
  RcAt A s c aa am/\RcNeAt A s c aa (!am)/\EqAt A s c aa am:=by
 have g:=h.inv;have e:=w.inv;clear h w;cases wM D with
 |none=>obtain rfl:=g;obtain rfl:=e;exact fA RcAt.none_none RcNeAt.none_none (EqAt.same _)
 |bool r f=>obtain rfl:=g;obtain rfl:=e;exact fA (RcAt.bool_bool _ _) (RcNeAt.bool_bool _ _) (EqAt.bool_bool _ _)
 |int r f=>obtain⟨_,rfl⟩:=g;obtain⟨_,rfl⟩:=e;exact fA (RcAt.int_int _ _ _ _) (RcNeAt.int_int _ _ _ _) (EqAt.int_int _ _ _ _)
 |str r f=>exact aM g λY FN d=>R FN (aM e λY wN j=>R wN (jR d j▸(fA (RcAt.str_str _ _ _ _) (RcNeAt.str_str _ _ _ _) (EqAt.str_str _ _ _ _))))
 |bw T k=>refine cg g λr Y wO i=>?_;clear g D;subst wO;refine cg e λf Y qv J=>?_;clear e;subst qv;have L:=(MP.beq_eq_decide_eq _ _).trans (oS i J);exact fA (λl a I o B=>PySem.W.eq_bytes (L▸B)) (λl a I o B=>PySem.W.ne_bytes (show o (.bool !(r.toList==f.toList)) s from L▸B)) (λl a I o B=>PySem.W.eqBool_bytes (oS i J▸B))
theorem VR.at(c:VR U x b m aa){M:Q}(w:VR U x b M aa)(D:BM m M=S am):am=ML:=by
 have g:=c.inv;have e:=w.inv;clear c w;cases wM D with
 |none=>rfl
 |bool r s=>exact N'.mpr (MO.bool.inj (Eq.trans (Eq.symm g) e))
 |int r s=>obtain⟨_,g⟩:=g;obtain⟨_,e⟩:=e;exact Nn (MO.int.inj (g.symm.trans e)).1
 |str r s=>obtain⟨_,g,d⟩:=g;obtain⟨_,e,f⟩:=e;exact N'.mpr (rL d f (MO.str.inj (g.symm.trans e)).1)
 |bw T h=>obtain⟨r,_,g,a⟩:=g;obtain⟨s,_,e,J⟩:=e;exact N'.mpr (a▸J▸(MO.bytes.inj (g.symm.trans e)).1▸rfl)
theorem zV{P L:O MP}(D:(match P,L with|some r,S s=>S (r&&s)|_,_=>N)=S am):∃r s,P=S r/\L=S s/\(r&&s)=am:=by
 induction P using Ry with
 |none=>exact nX D
 |some r=>induction L using Ry with
  |none=>exact nX D
  |some s=>exact qq r s rfl rfl (sX D)
theorem bM.at:∀{f:V Q} {w:V MO} {C:MP},bM U x b z w->bM U x b f w->qp z f=S C->C=ML:=by
 induction z with
 |nil=>intro f w C p G D;induction f using RD with
  |nil=>exact(sX D).symm
  |cons _ _=>exact nX D
 |cons I z d=>
  intro f w C p G D
  induction f using RD with
  |nil=>exact nX D
  |cons M f=>refine mX p.inv λE c bE X e=>?_;clear p;subst bE;refine mX G.inv λY Y q H j=>bK (Uv q) λcj du=>?_;clear q G;subst cj;subst du;refine mX (zV D) λr s n a dV=>?_;clear D;subst dV;exact R (X.at H n) ((d e j a).trans rfl)
theorem tJ{A:Q->Q->O MP}{g:V Q->V Q->O MP}(E:g [] []=S ML)(p:∀I z,g [] (I :: z)=N)(G:∀I z,g (I :: z) []=N)
  (T:∀I z M f C,g (I :: z) (M :: f)=S C->∃r s,A I M=S r/\g z f=S s/\(r&&s)=C)  :
  ∀{f:V Q} {C:MP},g z f=S C->z.length=f.length/\∃H:Z->MP,C=(Ti z.length).all H/\∀(i:Z) I M,z[i]? = S I->f[i]? = S M->A I M=S (H i):=by
 induction z with
 |nil=>intro f C D;induction f using RD with
  |nil=>exact⟨rfl,λY=>ML,(sX (E.symm.trans D)).symm,λi I M B=>nX B⟩
  |cons _ _=>exact nX ((p _ _).symm.trans D)
 |cons I z d=>intro f C D;induction f using RD with
  |nil=>exact nX ((G _ _).symm.trans D)
  |cons M f=>
   refine hF λh=>mX (T _ _ _ _ _ D) λr s n a fB=>?_;clear D E G;subst fB;obtain⟨p,A,rfl,T⟩:=d a;refine h ⟨Nc (· + 1) p,λi=>RY i r A,?_,λi P q X m=>?_⟩;·exact R S0 (R V.range_succ_eq_map (R V.all_cons (R V.all_map rfl)))
   ·induction i using RY with
    |zero=>exact sX X▸sX m▸n
    |succ i=>exact T i P q X m
theorem wQ{f:V Q}(D:qp z f=S am):z.length=f.length/\∃H:Z->MP,am=(Ti z.length).all H/\∀(i:Z) I M,z[i]? = S I->f[i]? = S M->BM I M=S (H i):=tJ (g:=qp) rfl (λY Y=>rfl) (λY Y=>rfl) (λY Y Y Y Y D=>zV D) D
theorem wR{f:V Q}(D:rD z f=S am):z.length=f.length/\∃H:Z->MP,am=(Ti z.length).all H/\∀(i:Z) I M,z[i]? = S I->f[i]? = S M->eqT I M=S (H i):=tJ (g:=rD) rfl (λY Y=>rfl) (λY Y=>rfl) (λY Y Y Y Y D=>zV D) D
theorem wU{M:Q}(D:eqT m M=S am):(∃j A,m=.tup j/\M=.tup A/\qp j A=S am)\/BM m M=S am:=by
 induction m using Wm with
 |tup j=>induction M using Wm with
  |tup A=>exact .inl (qq j A rfl rfl D)
  |_=>exact .inr D
 |_=>exact .inr D
theorem uU(D:itemsOf k m=S au):m=.lst au\/∃H,m=.aE H/\k.L[H]? = S au:=by
 induction m using Wm with
 |lst c=>exact .inl (sX D▸rfl)
 |aE H=>exact .inr (ba H rfl D)
 |_=>exact nX D
theorem FO{M:Q}(D:zw k m M=S am):(∃j A,itemsOf k m=S j/\itemsOf k M=S A/\(j.length=A.length/\rD j A=S am\/j.length≠A.length/\am=MT))\/eqT m M=S am:=by
 revert D;show(match itemsOf k m,itemsOf k M with|some r,S s=>zI r s|none,N=>eqT m M|_,_=>N)=_->_;generalize itemsOf k m=P;generalize itemsOf k M=L;induction P using Ry with
 |none=>induction L using Ry with
  |none=>exact .inr
  |some _=>exact nX
 |some j=>induction L using Ry with
  |none=>exact nX
  |some A=>
   intro D;refine .inl (qq j A rfl rfl ?_);by_cases B:j.length=A.length;·exact .inl ⟨B,(Nb B).symm.trans D⟩
   ·exact .inr ⟨B,(sX ((Nf B).symm.trans D)).symm⟩
theorem bM.get'{w:V MO}(B:bM U x b z w){j:Z}(M:j<w.length):∃I,z[j]? = S I/\VR U x b I w[j]:=by
 refine hF λH=>?_;have h:j<z.length:=by exact RS M (R2 (B.len).symm)
 refine aM (B.get (RB h)) λE D P=>?_;replace D:=(RB M).symm.trans D;obtain rfl:=sX D;exact H (ba _ (RB h) P)
theorem dW{j:M5 MO}(B:Sf d.heap b g n (CL j q)):d.heap.IsTuple n j:=⟨_,B.1,rfl,_,rfl⟩
theorem bb{s:MW}{j:M5 MO}(B:s.heap.get? n=S (listOf j q)):s.heap.IsList n j:=⟨_,B,rfl,_,rfl⟩
theorem wW{j A:V Q}{c:MS}{v o:M5 MO}(k:f.units<NB)(x:d.heap.IsTuple n v)(J:d.heap.IsTuple c o)(M:bM a.params (Sf d.heap b g) b j v.toList)(Y:bM a.params (Sf d.heap b g) b A o.toList)(D:qp j A=S am) :
  RcAt f d (.ref n) (.ref c) am/\RcNeAt f d (.ref n) (.ref c) (!am):=by
 refine hF λh=>?_;obtain⟨p,s,G,T⟩:=wQ D;have t:v.size=o.size:=by exact RI.symm.trans (R RI.symm (M.len.symm.trans (R Y.len.symm p)))
 have l:j.length=v.size:=by exact M.len.trans RI
 have C:=λi y q=>by refine hF λH=>aM (M.get' (j:=i) y) λP X E=>?_;refine aM (Y.get' (j:=i) q) λL m r=>?_;refine H ?_;simpa using(oU (A:=f.in1) (s:=d) E r (T i P L X m)).2.2
 have K:=RcAt.tuples x J k C;have e:=RcNeAt.tuples x J k C;have L:((Ti (min v.size o.size)).all s&&v.size==o.size)=am:=by refine R t.symm ?_;refine R (Z.min_self ..) ?_;refine R G ?_;refine R l ?_;simp
 rw[L] at K e;exact h ⟨K,e⟩
theorem CU{A:Nw}{i:Q}{f:MO}(k:A.units<NB)(c:VR a.params (Sf d.heap b g) b m f)(w:VR a.params (Sf d.heap b g) b i aa)(D:eqT m i=S am):EqAt A d f aa am:=by
 refine hF λh=>?_;rcases wU D with⟨j,n,rfl,rfl,D⟩|D
 ·refine dF c.inv λr v l jQ sx M=>?_;subst jQ;refine dF w.inv λs o x lM e Y=>?_;subst lM;by_cases q:r=s;·subst q;have:=sx.1.symm.trans e.1;injection this with this;injection this with _ _ this;injection this with this;subst this;refine h ?_;exact R (M.at Y D) (EqAt.same _)
  ·exact h (EqAt.of_refs q (wW k (dW sx) (dW e) M Y D).1)
 ·exact h ((oU c w D).2.2)
theorem lN(K:Inv a e g b k d.heap)(c:VR a.params (Sf d.heap b g) b m aa)(D:itemsOf k m=S au) :
  ∃r j f,aa=.ref r/\d.heap.get? r=S (listOf j f)/\bM a.params (Sf d.heap b g) b au j.toList:=by
 refine hF λh=>?_;rcases uU D with rfl|⟨H,rfl,D⟩;·refine dF c.inv λm j f rM C A=>?_;subst rM;exact h (kQ _ j f rfl C.1 A)
 ·refine aM c.inv λm iR J=>?_;clear c;subst iR;exact cg (K.dt.L H au m D J) λj f o A=>h (kQ m j f rfl o A)
theorem wX(K:Inv a e g b k d.heap){I:Q}{B:MO}(L:f.units+64<NB)(c:VR a.params (Sf d.heap b g) b m B)(H:VR a.params (Sf d.heap b g) b I aa)(D:zw k m I=S am) :
  RcAt f d B aa am/\RcNeAt f d B aa (!am):=by
 refine hF λz=>?_;have w:f.units<NB:=by exact Ir L rfl
 rcases FO D with⟨j,A,n,ey,D⟩|D
 ·refine dF (lN K c n) λr v a0 lO t M=>?_;subst lO;refine dF (lN K H ey) λa2 o a1 lP G Y=>?_;subst lP;have x:j.length=v.size:=by exact M.len.trans RI
  have J:A.length=o.size:=by exact Y.len.trans RI
  rcases D with⟨l,D⟩|⟨l,rfl⟩
  ·obtain⟨p,a3,rfl,T⟩:=wR D;have C:=λi y q2=>by exact hF λh=>aM (M.get' (j:=i) y) λP X E=>aM (Y.get' (j:=i) q2) λq e2 v2=>h (CU (A:=f.in1) (RO (show f.units+1<=f.units+64 by exact KA rfl) L) E v2 (T i P q X e2))
   refine z (R x ?_);have s:=x.symm.trans (l.trans J);exact⟨RcAt.lists (bb t) (bb G) s w C,RcNeAt.lists (bb t) (bb G) s w C⟩
  ·have s:=bne_iff_ne.mpr λU=>l (x.trans (U.trans J.symm));exact z ⟨RcAt.lists_lengths (bb t) (bb G) s w,RcNeAt.lists_lengths (bb t) (bb G) s w⟩
 ·rcases wU D with⟨j,A,rfl,rfl,D⟩|D;·refine dF c.inv λr v a0 oV sx M=>?_;subst oV;refine dF H.inv λa2 o a1 oW sy Y=>?_;subst oW;exact z (wW w (dW sx) (dW sy) M Y D)
  ·obtain⟨p,h2,_⟩:=oU c H D;exact z ⟨p,h2⟩
theorem fe(r:MU)(n:NM)(M:M5 Np)(c:NM):Gives (Builtin.«str.__eq__» ⟨[.str r n,.bytes M c],[]⟩) (.val .notImplemented):=.of_wp λw f I t o B=>by obtain⟨s,b,h,a,e⟩:=t;have f1:=PySem.F.sub_bytes_str;wp_walk;exact ba _ rfl B
theorem ff(r:MU)(n:NM)(M:M5 Np)(c:NM):Gives (Builtin.«bytes.__eq__» ⟨[.bytes M c,.str r n],[]⟩) (.val .notImplemented):=by refine .of_wp λw f I t o e=>?_;show MZ w f (Pa (.str r n) (.type "bytes") >>= λy=>_) _ I t;refine MR (OX (Pq t r n) PySem.F.sub_str_bytes ?_);exact λY Y Y=>(ba _ rfl e)
theorem jT(r:MU)(n:NM)(M:M5 Np)(c:NM){o:MP->MW->Prop}(B:o MT d):MZ (MY h a) f (Pr (.str r n) (.bytes M c)) o t d:=by refine Ny ?_;refine PW (λH=>Nh (OL H) nofun) (λY=>?_);refine MR (rc_eq_decline_or (k:=false) (Pq d r n) (Pb d M c) (rfl) PySem.F.sub_bytes_str PySem.F.slot_str_eq PySem.W.FB.slot_bytes_eq (λY e=>PX PySem.F.slot_str_eq (Pq d r n) PySem.F.entry_str_eq (PySem.F.args_str_eq_2 _ _) (fe r n M c) e) (λY e=>PX PySem.W.FB.slot_bytes_eq (Pb d M c) PySem.W.FB.entry_bytes_eq (PySem.W.FB.args_bytes_eq_2 _ _) (ff r n M c) e) (λY e=>NN (rfl:isSame (.str r n) (.bytes M c)=pure MT) e) (.inl rfl) (OB B))
theorem jV(r:MU)(n:NM)(M:M5 Np)(c:NM){o:MP->MW->Prop}(B:o MT d):MZ (MY h a) f (Pr (.bytes M c) (.str r n)) o t d:=by refine Ny ?_;refine PW (λH=>Nh (OL H) nofun) (λY=>?_);refine MR (rc_eq_decline_or (k:=false) (Pb d M c) (Pq d r n) (rfl) PySem.F.sub_str_bytes PySem.W.FB.slot_bytes_eq PySem.F.slot_str_eq (λY e=>PX PySem.W.FB.slot_bytes_eq (Pb d M c) PySem.W.FB.entry_bytes_eq (PySem.W.FB.args_bytes_eq_2 _ _) (ff r n M c) e) (λY e=>PX PySem.F.slot_str_eq (Pq d r n) PySem.F.entry_str_eq (PySem.F.args_str_eq_2 _ _) (fe r n M c) e) (λY e=>NN (rfl:isSame (.bytes M c) (.str r n)=pure MT) e) (.inl rfl) (OB B))
noncomputable def iu.is:iu->MO->MP
 |.str r,E=>MO.isStrOf r E
 |.bw M,.bytes C _=>C==M
 |.bw _,_=>MT
theorem iu.wY{I:iu}(B:I.is aa=ML):(∃r n,I=.str r/\aa=.str r n)\/∃M n,I=.bw M/\aa=.bytes M n:=by
 induction I using iu.casesOn with
 |str r=>obtain⟨n,rfl⟩:=MO.isStrOf_shape B;exact .inl (dI r n rfl rfl)
 |bw M=>induction aa using MO.casesOn<;>first|exact bF B|exact .inr (dI _ _ (Nc iu.bw (OL B).symm) rfl)
theorem iu.el{P:iu->MO->Prop}{I:iu}(B:I.is aa=ML)(p:∀r n,P (.str r) (.str r n))(G:∀M n,P (.bw M) (.bytes M n)):P I aa:=by
 rcases iu.wY B with⟨r,n,rfl,rfl⟩|⟨r,n,rfl,rfl⟩;·exact p r n
 ·exact G r n
noncomputable def fC(l:Nv)(a:Nj):KeyKind l a iu where
 is:=iu.is
 hash:=lg a
 inj E b M ha w:=(iu.el (P:=λb E=>iu.is M E=ML->b=M) ha (λr n w=>by
  cases M with
  |str s=>exact Nc _ (OL w)
  |bw s=>exact nomatch w) λr n w=>by
  cases M with
  |str s=>exact nomatch w
  |bw s=>exact Nc _ (OL w)) w
 byValue H E B:=iu.el (P:=λY E=>carriedByValue E=ML) B (λY Y=>rfl) λY Y=>rfl
 pyHash:=λ{f I t H E o} d=>iu.el (P:=λH E=>o (lg a H) {t with toks:=t.toks+1}->MZ (MY l a) f (pyHash E) o I t) d (λr n B=>Q' B) λr n B=>by
  refine pyHash_slot (T:="bytes") rfl PySem.W.FB.slot_bytes_hash PySem.W.FB.entry_bytes_hash (PySem.W.FB.args_bytes_hash_1 _) (beq_builtin_none _) (.inl rfl) ?_;show MZ _ _ (strHash ⟨r.map (·.toNat)⟩ >>= λK=>(do ret (<-mkInt K))) _ _ t;unfold strHash;refine MR (MR (Qw (M0 (MR (Pt (M0 ⟨_,_,rfl,?_⟩))))));have D:(r.map λc:Np=>c.toNat).isEmpty=r.isEmpty:=by simp[M5.isEmpty]
  simp only[lg] at B;show o (Pp (if(r.map λc:Np=>c.toNat).isEmpty=ML then 0 else _)) _;rw[D];exact B
 eqBool:=λ{f I t b M c E o} k d=>iu.el (P:=λb c=>o (MX (b=M)) t->MZ (MY l a) f (Pr c E) o I t) k (λr n=>iu.el (P:=λM E=>o (MX (iu.str r=M)) t->MZ (MY l a) f (Pr (.str r n) E) o I t) d (λs X B=>wpAny_eqBool_str ((Pw.mpr ⟨iu.str.inj,Nc _⟩:_=MX (r=s))▸B)) λs X B=>jT r n s X B) λr n=>iu.el (P:=λM E=>o (MX (iu.bw r=M)) t->MZ (MY l a) f (Pr (.bytes r n) E) o I t) d (λs X B=>jV s X r n B) λs X B=>eqBool_bytes ((Pw.mpr ⟨λD=>Nc _ (iu.bw.inj D),λD=>Nc _ (M5.toList_inj.mp D)⟩:_=MX (r.toList=s.toList))▸B)
 «strs» H r n E B:=by
  cases H with
  |str s=>rw[<-OL B];cases E<;>rfl
  |bw s=>exact nomatch B
theorem qw{M:Q}(B:BM m M=S am):am=ML↔m=M:=by
 cases wM B with
 |none=>exact⟨λY=>rfl,λY=>rfl⟩
 |bool r s=>exact N'.trans ⟨Nc _,Q.bool.inj⟩
 |int r s=>exact Ra.trans ⟨Nc _,Q.int.inj⟩
 |str r s=>exact N'.trans ⟨Nc _,Q.str.inj⟩
 |bw r s=>exact N'.trans ⟨Nc _,Q.bw.inj⟩
theorem uV:∀{f:V Q} {C:MP},qp z f=S C->(C=ML↔z=f):=by
 induction z with
 |nil=>intro f C B;induction f using RD with
  |nil=>exact sX B▸⟨λY=>rfl,λY=>rfl⟩
  |cons _ _=>exact nX B
 |cons I z d=>intro f C B;induction f using RD with
  |nil=>exact nX B
  |cons M f=>refine mX (zV B) λr s n a bE=>?_;clear B;subst bE;exact RT.trans ((and_congr (qw n) (d a)).trans ⟨λ⟨I,M⟩=>I▸M▸rfl,Uv⟩)
theorem qx{M:Q}(B:eqT m M=S am):am=ML↔m=M:=by
 rcases wU B with⟨j,A,rfl,rfl,B⟩|B;·exact(uV B).trans ⟨Nc _,Q.tup.inj⟩
 ·exact qw B
theorem tK{H:Q}{D:Q×Q}{P:O Z}(B:eF H (D :: y)=S P):(∃M,eqT D.1 H=S M)/\((D.1=H/\P=S 0)\/(D.1≠H/\∃l,eF H y=S l/\l.map (· + 1)=P)):=by
 have B:(match eqT D.1 H with|some ML=>S (S 0)|some MT=>(eF H y).map (·.map (· + 1))|none=>N)=S P:=B;revert B;induction L:eqT D.1 H using Ry with
 |none=>exact nX
 |some M=>induction M using RE with
  |true=>exact λB=>⟨⟨_,rfl⟩,.inl ⟨(qx L).mp rfl,(sX B).symm⟩⟩
  |false=>exact λB=>⟨⟨_,rfl⟩,.inr ⟨λU=>RX ((qx L).mpr U),Sb.mp B⟩⟩
theorem dJ{H:Q}:∀{P:O Z},eF H y=S P->match P with
  |none=>H∉y.map (·.1)
  |some K=>(y.map (·.1))[K]? = S H/\∀i,i<K->(y.map (·.1))[i]?≠S H:=by
 induction y with
 |nil=>exact λB=>sX B▸SA
 |cons D y d=>
  intro P B
  rcases(tK B).2 with⟨X,rfl⟩|⟨j,l,s,rfl⟩
  ·exact⟨Nc S X,λi M=>Nh M (UC _)⟩
  ·have:=d s
   clear B
   induction l using Ry with
   |none=>exact λx=>(RC.mp x).elim (λU=>j U.symm) this
   |some K=>
    refine⟨this.1,λi M=>?_⟩
    induction i using RY with
    |zero=>exact λU=>j (sX U)
    |succ i=>exact this.2 i (Z.lt_of_succ_lt_succ M)
theorem fg{H:Q}{P:O Z}(B:eG H y=S P):keyOk H=ML/\eF H y=S P:=by
 by_cases L:keyOk H=ML;·exact⟨L,(Nb L).symm.trans B⟩
 ·exact nX ((Nf L).symm.trans B)
theorem wZ{H:Q}(B:keyOk H=ML):∃v:DK,v.ok H:=by
 induction H using Wm with
 |str K=>exact⟨.str,_,rfl⟩
 |int K=>exact⟨.int,_,rfl⟩
 |tup w=>exact⟨.tup,_,rfl,B⟩
 |_=>exact Nh B RX
theorem CV{H:Q}(B:eqT m H=S am)(c:ay.ok m)(J:keyOk H=ML):ay.ok H:=by
 induction ay using DK.casesOn with
 |str=>obtain⟨K,rfl⟩:=c;induction H using Wm with
  |str i=>exact⟨_,rfl⟩
  |_=>exact nX B
 |int=>obtain⟨K,rfl⟩:=c;induction H using Wm with
  |int i=>exact⟨_,rfl⟩
  |_=>exact nX B
 |tup=>obtain⟨w,rfl,_⟩:=c;induction H using Wm with
  |tup k=>exact ba _ rfl J
  |_=>exact nX B
theorem DR.kind{H:Q}{c:V Nt}{P:O Z}(h:DR a x b ay y c)(D:eG H y=S P):∃ay:DK,ay.ok H/\DR a x b ay y c:=by
 refine bK (fg D) λJ D=>?_;induction h using DR.casesOn with
 |nil=>obtain⟨e,L⟩:=wZ J;exact ba e L .nil
 |cons p G T X=>refine dD ((tK D).1) λM L=>?_;exact ba ay (CV L p J) (.cons p G T X)
theorem DR.len{c:V Nt}(h:DR a x b ay y c):y.length=c.length:=by
 induction h with
 |nil=>rfl
 |cons _ _ _ _ d=>simp[d]
theorem DR.get{c:V Nt}(h:DR a x b ay y c):∀{i:Z} {p:Q×Q},y[i]? = S p->∃k o,c[i]? = S ⟨gK a p.1,k,o⟩/\ay.ok p.1/\VR a.params x b p.1 k/\VR a.params x b p.2 o:=by
 induction h with
 |nil=>intro i p D;exact nX D
 |cons e G T _ d=>
  intro i p D
  induction i using RY with
  |zero=>obtain rfl:=sX D;exact qr _ _ rfl e G T
  |succ i=>exact d (i:=i) (p:=p) (by exact D)
theorem DR.get'{c:V Nt}(h:DR a x b ay y c){g:Nt}(D:c[ag]? = S g):∃P,y[ag]? = S P/\g.hash=gK a P.1/\ay.ok P.1/\VR a.params x b P.1 g.key/\VR a.params x b P.2 g.val:=by
 have d:ag<y.length:=by refine R h.len ?_;exact(RG.mp D).1
 refine uP (h.get (RB d)) λk o j I M C=>?_;rw[D] at j;cases j;exact KJ _ (RB d) rfl I M C
theorem DR.modify{c:V Nt}(h:DR a x b ay y c):∀{i:Z} {E:Q} {o:MO},VR a.params x b E o->DR a x b ay (y.modify i λD=>(D.1,E)) (c.modify i λD=>{D with val:=o}):=by
 induction h with
 |nil=>intro i E o _;simpa using DR.nil
 |cons p G T X d=>
  intro i E o P
  induction i using RY with
  |zero=>exact DR.cons p G P X
  |succ i=>exact DR.cons p G T (d P)
theorem DR.snoc{c:V Nt}(h:DR a x b ay y c){H:Q}{k o:MO}(p:ay.ok H)(G:VR a.params x b H k)(T:VR a.params x b aw o):DR a x b ay (y++[(H,aw)]) (c++[⟨gK a H,k,o⟩]):=by
 induction h with
 |nil=>exact .cons p G T .nil
 |cons I M C _ d=>exact .cons I M C d
theorem DR.erase{c:V Nt}(h:DR a x b ay y c):∀(K:Z),DR a x b ay (y.eraseIdx K) (c.eraseIdx K):=by
 induction h with
 |nil=>intro K;exact DR.nil
 |cons I M C s d=>
  intro K
  induction K using RY with
  |zero=>exact s
  |succ K=>exact DR.cons I M C (d K)
theorem jW{M:M5 Np}{T:V Z}(B:M.toList.map SM=T):(T.map V0).toArray=M:=by
 subst B;refine R SX ?_;have:(V0 ∘ SM)=id:=by funext r;simp
 refine R this ?_;refine R (V1 ..) rfl
theorem CW(B:VR a.params x b m aa)(D:ky m=ML):(dT m).is aa=ML:=by
 have B:=B.inv;induction m using Wm with
 |str H=>obtain⟨n,rfl,J⟩:=B;exact Pc (sx H)
 |bw T=>obtain⟨M,n,rfl,l⟩:=B;exact N'.mpr (jW l).symm
 |_=>exact Nh D RX
theorem jX:∀{w:V MO},bM a.params x b z w->z.all ky=ML->ItemsAre (fC h a) (z.map dT) w:=by
 induction z with
 |nil=>intro w B _;exact B.qt▸.nil
 |cons I z d=>intro w B D;refine mX B.inv λE c cj p G=>?_;clear B;subst cj;refine bK (RT.mp D) λX m=>?_;exact .cons (CW p X) (d G m)
theorem zW{M:Q}{e:MO}(c:VR a.params x b m e)(w:VR a.params x b M aa)(t:ky m=ML)(f:ky M=ML)(B:dT m=dT M):m=M:=by
 have c:=c.inv;have w:=w.inv;induction m using Wm with
 |str K=>induction M using Wm with
  |str i=>obtain⟨n,_,d⟩:=c;obtain⟨X,_,g⟩:=w;exact Nc _ (rL d g (iu.str.inj B))
  |bw h=>exact nomatch B
  |_=>exact Nh f RX
 |bw T=>induction M using Wm with
  |str i=>exact nomatch B
  |bw h=>refine cg c λC n Y l=>?_;refine cg w λo X Y v=>?_;have:=iu.bw.inj B;rw[jW l,jW v] at this;exact Nc _ (l.symm.trans (this▸v))
  |_=>exact Nh f RX
 |_=>exact Nh t RX
theorem qy:∀{f:V Q} {k w:V MO},bM a.params x b z k->bM a.params x b f w->z.all ky=ML->f.all ky=ML->z.map dT=f.map dT->z=f:=by
 induction z with
 |nil=>intro f k w _ _ _ _ B;exact(V.map_eq_nil_iff.mp B.symm).symm
 |cons I z d=>intro f k w p G X m B;induction f using RD with
  |nil=>exact nomatch B
  |cons M f=>refine hF λo=>?_;refine mX p.inv λY Y du g e=>?_;refine R du ?_;refine mX G.inv λY Y dV H j=>?_;refine R dV ?_;refine bK (RT.mp X) λX c=>?_;refine bK (RT.mp m) λs h=>?_;refine bK (Uv B) λp G=>?_;refine o ?_;refine R (zW g H X s p) ?_;refine R (d e j c h G) rfl
noncomputable def zX:Q->V iu
 |.tup w=>w.map dT
 |_=>[]
theorem lQ{prog:Nv}(w:V Q):Qx (fC prog a) (w.map dT)=gK a (.tup w):=by exact Nc (λT=>Pp (NL.Tuple.tupleHashOf T)) SX
theorem DR.IE{prog:Nv}{c:V Nt}{h:MV}(i:∀I z,x I z->h.get? I=S z)(l:DR a x b .tup y c) :
  ∃j:V (V iu×MS×MO),c=j.map (entryOfKey (Qy (fC prog a)))/\(∀r∈j,IsTupleKey (fC prog a) h r.1 r.2.1)/\j.map (·.1)=y.map λP=>zX P.1:=by
 induction l with
 |nil=>exact jK [] rfl (λY g=>nomatch g) rfl
 |@cons H E k o y c p G T _ d=>
  refine hF λK=>?_;refine mM d λj X m s=>?_;refine aM p λw fB t=>?_;subst fB;refine dF G.inv λI n f i7 C A=>?_;subst i7;refine K ?_;refine jK ((w.map dT,I,o) :: j) ?_ ?_ (Nc (w.map dT :: ·) s);·refine R R5 ?_;refine R X.symm ?_;show _=Nt.mk (Qx (fC prog a) (w.map dT)) _ _ :: c;rw[lQ]
  ·intro r e;rcases RC.mp e with rfl|e;·exact zA _ n f (i _ _ C) rfl rfl (jX A t)
   ·exact m r e
theorem DR.IF{prog:Nv}{d:V Nt}(h:DR a x b .tup y d)(n:(y.map (·.1)).Nodup):(y.map λP=>zX P.1).Nodup:=by unfold V.Nodup at n⊢;rw[V.pairwise_map] at n⊢;refine n.imp_of_mem λ{I M} c w j q=>j ?_;refine hF λA=>?_;refine dD (SJ.mp c) λK t=>?_;refine dD (SJ.mp w) λi f=>?_;refine uP (h.get t) λY Y Y jQ E Y=>?_;refine aM jQ λl p G=>?_;refine uP (h.get f) λY Y Y lM v Y=>?_;refine aM lM λk T X=>?_;refine A ?_;rw[p] at q E;refine R p ?_;rw[T] at q v;refine R T ?_;refine dF E.inv λY Y Y Y Y g=>?_;refine dF v.inv λY Y Y Y Y e=>?_;exact Nc _ (qy g e G X q)
theorem jc{own:V MS}{k:Q}{e:MO}{o:MN->MW->Prop}(g:f.units<NB)(J:VR a.params (Sf d.heap b own) b k e)(z:ay.ok k)(B:∀c,o (gK a k) {d with toks:=d.toks+c}):MZ (MY h a) f (pyHash e) o t d:=by
 induction ay using DK.casesOn with
 |str=>obtain⟨K,rfl⟩:=z;obtain⟨n,rfl,_⟩:=J.inv;exact Q' (B 1)
 |int=>obtain⟨K,rfl⟩:=z;obtain⟨n,rfl⟩:=J.inv;exact wpAny_pyHash_int (B 1)
 |tup=>refine aM z λw rM D=>?_;clear z;subst rM;refine dF J.inv λI j c iR C A=>?_;clear J;subst iR;refine(Qy (fC h a)).pyHash (k:=w.map dT) g (zA _ j c C.1 rfl rfl (jX A D)) ?_;show o (Qx (fC h a) _) _;refine R (lQ ..) ?_;exact B ((w.map dT).length+1)
theorem rN{A:G->az}{T:V G}{M:az}(B:(T.map A)[K]? = S M):∃I,T[K]? = S I/\A I=M:=Sb.mp (RK.symm.trans B)
theorem qz{H:Q}{P:O Z}(c:DR a x b ay y C.toList)(D:eF H y=S P)(A:Nt->MP)(J:∀(K:Z) g (L:Q×Q),C[K]? = S g->y[K]? = S L->(A g=ML↔L.1=H)):C.findIdx? A=P:=by
 have G:=dJ D;have h:∀(K:Z) g,C[K]? = S g->(A g=ML↔(y.map (·.1))[K]? = S H):=λK g z=>by refine aM (c.get' (SK.trans z)) λL r Y=>?_;refine(J K g L z r).trans ?_;refine R RK ?_;refine R r ?_;exact⟨Nc S,sX⟩
 clear D J;induction P using Ry with
 |none=>rw[M5.findIdx?_eq_none_iff];intro g e;obtain⟨K,d,rfl⟩:=M5.mem_iff_getElem.mp e;exact U5.mpr λL=>G (RJ ((h K _ (Tv d)).mp L))
 |some K=>refine bK G λk o=>?_;have d:=TJ (RG.mp k).1 ((Rz _).trans (c.len.trans RI));rw[M5.findIdx?_eq_some_iff_getElem];exact ba d ((h K _ (Tv d)).mpr k) (λi M U=>o i M ((h i _ (Tv (VL M d))).mp U))
theorem DR.one(c:DR a x b ay y C.toList){g:Nt}{L:Q×Q}(E:C[K]? = S g)(r:y[K]? = S L):ay.ok L.1/\VR a.params x b L.1 g.key:=by refine JI (c.get' (SK.trans E)) λw e Y p G Y=>?_;exact sX (e.symm.trans r)▸⟨p,G⟩
theorem DR.mem(c:DR a x b ay y C.toList){g:Nt}(e:g∈C):∃L:Q,g.hash=gK a L/\ay.ok L/\VR a.params x b L g.key:=by refine hF λh=>?_;refine dD (M5.mem_iff_getElem?.mp e) λi M=>?_;refine JI (c.get' (SK.trans M)) λL Y l p G Y=>?_;refine h ?_;exact jK L.1 l p G
theorem hW{own:V MS}{s:MW}{k:Q}{kv:MO}{ep:Z}{H:O Z}{o:O Z->MW->Prop}(hu:f.units<NB)(hd:s.heap.get? A=S (bB C ep))(c:DR a (Sf s.heap b own) b ay y C.toList)(n:(y.map (·.1)).Nodup)
  (J:VR a.params (Sf s.heap b own) b k kv) (z:ay.ok k) (D:eG k y=S H) (B:o H s):MZ (MY h a) f (dictFind A kv (gK a k)) o t s:=by
 refine bK (fg D) λY D=>?_;induction ay using DK.casesOn with
 |str=>
  refine dD z λK lP=>?_;subst lP;refine aM J.inv λa5 rO d=>?_;refine R rO ?_;refine Rb (knd:=PySem.strKind h a) (k:=sx K) (Pc (sx K)) hd rfl (λg e=>?_) ((qz c D _ λi g q E eq=>?_).symm▸B);·refine mM (c.mem e) λq l oV P=>?_;refine hF λa6=>?_;obtain⟨r,w⟩:=oV;subst w;refine aM P.inv λX P Y=>?_;refine a6 ?_;exact ba (sx r) (P▸Pc (sx r)) l
  ·refine bK (c.one E eq) λoW P=>?_;refine dD oW λr w=>?_;rw[w] at P;refine R w ?_;refine aM P.inv λX P M=>?_;refine R P ?_;show(sx r==sx K)=ML↔_;refine R (jR M d) ?_;exact N'.trans ⟨Nc _,Q.str.inj⟩
 |int=>
  refine dD z λK rP=>?_;subst rP;refine dD J.inv λa5 w0=>?_;subst w0;refine Rb (knd:=PySem.intKind h a) (k:=K) (Nn rfl) hd rfl (λg e=>?_) ((qz c D _ λi g q E eq=>?_).symm▸B);·refine mM (c.mem e) λq l CX P=>?_;refine hF λL=>?_;obtain⟨r,w⟩:=CX;subst w;refine dD P.inv λX P=>?_;refine L ?_;exact ba r (P▸Nn rfl) l
  ·refine bK (c.one E eq) λCY P=>?_;refine dD CY λr w=>?_;rw[w] at P;refine R w ?_;refine dD P.inv λX P=>?_;refine R P ?_;exact Ra.trans ⟨Nc _,Q.int.inj⟩
 |tup=>
  have G:=dJ D
  refine aM z λx IG ea=>?_
  clear D z
  subst IG
  refine dF J.inv λI j a2 IH sa vr=>?_
  clear D J
  subst IH
  refine mM (DR.IE (prog:=h) (h:=s.heap) (λI a9 U=>U.1) c) λxs e1 m e3=>?_
  have a0:∀(i:Z) (q:MS×MO),xs[i]? = S (x.map dT,q)->(y.map (·.1))[i]? = S (.tup x):=λi q E=>by
   refine hF λa4=>?_;have p:(xs.map (·.1))[i]? = S (x.map dT):=by refine RK.trans ?_;refine R E ?_;rfl
   rw[e3] at p;refine aM (rN p) λp' a1 p=>?_;refine uP (c.get a1) λkv vv e4 II v Y=>?_;refine aM II λus T h4=>?_;refine a4 ?_;refine RK.trans ?_;refine R a1 ?_;rw[T] at p v;refine dF v.inv λY Y Y Y Y x2=>?_;exact Nc S (T.trans (Nc _ (qy x2 vr h4 ea p)))
  have a7:∀(i:Z),(y.map (·.1))[i]? = S (.tup x)->∃q,xs[i]? = S (x.map dT,q):=λi E=>by
   refine hF λa3=>?_;refine aM (rN E) λp' e4 e5=>?_;have p:(y.map λH=>zX H.1)[i]? = S (x.map dT):=by refine RK.trans ?_;refine R e4 ?_;exact Nc S (Nc zX e5)
   rw[<-e3] at p;refine aM (rN p) λq e6 e7=>?_;refine a3 ?_;exact⟨q.2,e7▸e6⟩
  refine R (lQ (prog:=h) ..).symm ?_
  refine wpAny_dictFind_heap (knd:=Qy (fC h a)) (k:=x.map dT) (xs:=xs) hu (zA _ j a2 sa.1 rfl rfl (jX vr ea)) hd rfl e1 m (e3▸DR.IF (prog:=h) c n) (λa8=>?_) λi q E=>?_
  ·induction H using Ry with
   |none=>exact B
   |some K=>obtain⟨q,eq⟩:=a7 K G.1;exact Nh eq (a8 K q)
  ·induction H using Ry with
   |none=>exact Nh (RJ (a0 i q E)) G
   |some K=>exact(U4 (RG.mp G.1).1 n).mp (G.1.trans (a0 i q E).symm)▸B
structure DictAt(w:Nj)(own:V MS)(r:bH)(s:MW)(d:MS)(as:V (Q×Q))(es:M5 Nt)(ep:Z)(dk:DK):Prop where
 obj:s.heap.get? d=S (bB es ep)
 dr:DR w (Sf s.heap r own) r dk as es.toList
 nd:(as.map (·.1)).Nodup
theorem fD{s:MW}(K:Inv a e g b k s.heap)(D:k.D[H]? = S y)(j:b.D[H]? = S A):∃d T v,DictAt a g b s A y d T v:=dF (K.dt.D H y A D j) λd T v o E c=>⟨d,T,v,o,E,c⟩
theorem DictAt.is{T:Z}(r:DictAt a g b d A y C T ay):d.TypeIs (.ref A) "dict":=⟨_,r.obj,rfl⟩
noncomputable def JL(c:Oa)(T:SP)(y:bH):O Q->O MO->Prop
 |some I,S E=>VR c T y I E
 |none,N=>Nq
 |_,_=>Nx
theorem lR{own:V MS}{T:Z}{H:Q}{j:MO}{e:O Q}{o:O MO->MW->Prop}(k:f.units<NB)(r:DictAt a own b d A y C T ay)(J:VR a.params (Sf d.heap b own) b H j)(D:cW y H=S e)
  (B:∀i E,JL a.params (Sf d.heap b own) b e E->o E {d with toks:=d.toks+i}):MZ (MY h a) f (PY A j) o t d:=by
 refine hF λm=>aM (Sb.mp D) λP x bE=>?_;subst bE;refine aM (r.dr.kind x) λp ok c=>m (Ny (MR (jc (own:=own) k J ok λi=>MR (hW (s:={d with toks:=d.toks+i}) (own:=own) k r.obj c r.nd J ok x ?_))));refine hF λl=>?_;induction P using Ry with
 |none=>exact l (M0 (B i N trivial))
 |some K=>
  have G:=(dJ (fg x).2).1
  replace G:=RK▸G
  refine kA (y[K]?) (λz=>?_) (λq z=>?_)
  ·replace G:=z▸G;cases G
  ·refine uP (c.get z) λg n X Y Y v=>l (MR (OY r.obj rfl (M0 ?_)));have:C[K]? = S ⟨gK a q.1,g,n⟩:=by simpa using X
   refine R this (B i _ ?_);show JL _ _ _ ((y[K]?).map (·.2)) _;exact R z v
theorem gp{own:V MS}{T:Z}{H:Q}{k:MO}(e:f.units+1<NB)(r:DictAt a own b d A y C T ay)(J:VR a.params (Sf d.heap b own) b H k)(D:cW y H=S (S aw))
  (B:∀q o,VR a.params (Sf d.heap b own) b aw o->ai o {d with toks:=d.toks+q}):MZ (MY h a) f (Pd (.ref A) k) ai t d:=by
 refine Ny (MR (PZ r.is (rfl) ?_));refine MR (Ot (name:=Tx "__getitem__") r.is Px (N2 Px r.is entry_dict_getitem ?_ (args_dict_getitem _ _)));show MZ _ _ (PY A k >>= _) _ _ d;refine MR (lR (own:=own) e r J D λq c P=>?_);induction c using Ry with
 |none=>exact P.elim
 |some o=>exact M0 ⟨o,rfl,M0 (B q o P)⟩
theorem w9{H:Q}{P:O Z}(D:eG H y=S P):∃e,cW y H=S e/\e.isSome=P.isSome:=by
 refine⟨_,by unfold cW;refine R D ?_;rfl,?_⟩;refine hF λp=>?_;induction P using Ry with
 |none=>exact p rfl
 |some K=>
  have G:=(dJ (fg D).2).1
  replace G:=RK▸G
  refine kA (y[K]?) (λz=>?_) (λL z=>?_)
  ·replace G:=z▸G;cases G
  ·refine p ?_;simp[z]
theorem iD{own:V MS}{T:Z}{H:Q}{k:MO}{P:O Z}{o:MP->MW->Prop}(i:f.units+1<NB)(v:(A==OC)=MT)(r:DictAt a own b d A y C T ay)(J:VR a.params (Sf d.heap b own) b H k)(D:eG H y=S P)
  (B:∀q,o P.isSome {d with toks:=d.toks+q}):MZ (MY h a) f (contains (.ref A) k) o t d:=by
 refine aM (w9 D) λe X m=>Ny (MR (Ob r.is Qz.lookup ?_));refine MR (wpAny_callSpecialUnlessNone?_slot (name:=Tx "__contains__") r.is Qz (N2 Qz r.is entry_dict_contains ?_ (args_dict_contains _ _)));show MZ _ _ (PY A k >>= _) _ _ d;refine MR (lR (own:=own) i r J X λq c g=>?_);have B:=B q;replace B:=m.symm▸B;induction c using Ry with
 |none=>
  induction e using Ry with
  |some _=>exact g.elim
  |none=>exact MR (wpAny_pendingKey_other v (M0 ⟨_,rfl,OB B⟩))
 |some j=>
  induction e using Ry with
  |none=>exact g.elim
  |some _=>exact M0 ⟨_,rfl,OB B⟩
theorem zY{own:V MS}{T:Z}{H:Q}{k:MO}{P:O Z}(c:f.units+1<NB)(v:(A==OC)=MT)(r:DictAt a own b d A y C T ay)(J:VR a.params (Sf d.heap b own) b H k)(D:eG H y=S P) :
  (∀o I,(∀q,o (.bool P.isSome) {d with toks:=d.toks+q})->MZ (MY h a) f (Py .In k (.ref A)) o I d)/\(∀o I,(∀q,o (.bool !P.isSome) {d with toks:=d.toks+q})->MZ (MY h a) f (Py .NotIn k (.ref A)) o I d):=by
 refine⟨λo I B=>?_,λo I B=>?_⟩;·exact MR (iD (own:=own) c v r J D λq=>M0 (B q))
 ·exact MR (iD (own:=own) c v r J D λq=>M0 (B q))
set_option tactic.hygienic true in
theorem dict_set{own:V MS}{g:V (Q×Q)}{T:Z}{H:Q}{l o:MO}{p:NP->MW->Prop}(k:f.units<NB)(r:DictAt a own b d A y C T ay)(J:VR a.params (Sf d.heap b own) b H l)(P:VR a.params (Sf d.heap b own) b aw o)(D:mS y H aw=S g)
  (B:∀q m E U e,Sx A d.heap m->m.get? A=S (bB E U)->DR a (Sf d.heap b own) b e g E.toList->(g.map (·.1)).Nodup->p () {d with heap:=m,toks:=d.toks+q}):MZ (MY h a) f (dictSet A l o) p t d:=by
 unfold mS at D;have x:y.length=C.size:=by exact r.dr.len.trans RI
 split at D
 ·rename_i K z;refine hF λn=>?_;cases D;refine aM (r.dr.kind z) λe ok c=>?_;have G:=(dJ (fg z).2).1;refine n (Ny (MR (jc (own:=own) k J ok λq=>?_)));refine Ny (MR (hW (s:={d with toks:=d.toks+q}) (own:=own) k r.obj c r.nd J ok z ?_));refine MR (OZ (MR (wpAny_updateDict r.obj rfl (P0 ?_))));refine B q _ (C.modify K λD=>{D with val:=o}) T e (Sq ..) ?_ ?_ ?_;·exact R9 _ r.obj rfl
  ·have:=c.modify (i:=K) P;obtain⟨s⟩:=C;simpa using this
  ·have:(y.modify K λD=>(D.1,aw)).map (·.1)=y.map (·.1):=by
    apply V.ext_getElem?;intro i;refine RK.trans ?_;refine R RK ?_;refine R (V.getElem?_modify ..) ?_;by_cases L:K=i;·subst L;cases y[K]?<;>simp
    ·simp[L]
   exact R this r.nd
 ·rename_i z;split at D
  ·rename_i Y;cases D;refine aM (r.dr.kind z) λe ok c=>?_;have j:=M8 Y;refine Ny (MR (jc (own:=own) k J ok λq=>?_));refine Ny (MR (hW (s:={d with toks:=d.toks+q}) (own:=own) k r.obj c r.nd J ok z ?_));refine MR (OZ (Rc r.obj rfl ?_ (by have:N1=_:=N9;exact x.symm▸qi j rfl) ?_))
   ·refine B q _ (C.push ⟨gK a H,l,o⟩) (T+1) e (Sq ..) ?_ ?_ ?_;·exact R9 _ r.obj rfl
    ·have:=c.snoc ok J P;obtain⟨s⟩:=C;simpa using this
    ·refine R R8 ?_;rw[Sm];refine⟨r.nd,by simp,λI v M w L=>?_⟩;simp at w;subst w;subst L;exact(dJ (fg z).2) v
   ·simp
  ·cases D
 ·cases D
theorem oX{own:V MS}{c:V (Q×Q)}{T:Z}{H:Q}{k o:MO}{g:NP->MW->Prop}(j:f.units+1<NB)(r:DictAt a own b d A y C T ay)(J:VR a.params (Sf d.heap b own) b H k)(P:VR a.params (Sf d.heap b own) b aw o)(D:mS y H aw=S c)
  (B:∀q m E x e,Sx A d.heap m->m.get? A=S (bB E x)->DR a (Sf d.heap b own) b e c E.toList->(c.map (·.1)).Nodup->g () {d with heap:=m,toks:=d.toks+q}):MZ (MY h a) f (Pz (.ref A) k o) g t d:=by refine Ny (MR (PZ r.is (rfl) ?_));refine MR (Ot (name:=Tx "__setitem__") r.is Rd (N2 Rd r.is entry_dict_setitem ?_ (args_dict_setitem _ _ _)));refine MR (QA r.is ?_);show MZ _ _ (dictSet A k o >>= _) _ _ d;exact MR (dict_set (own:=own) j r J P D λq m E x e I M i s=>M0 ⟨.none,rfl,M0 (B q m E x e I M i s)⟩)
theorem uW(A:G->az)(T:V G):∀K:Z,(T.eraseIdx K).map A=(T.map A).eraseIdx K:=by
 induction T with
 |nil=>exact λ_=>rfl
 |cons r T d=>exact λK=>RY K rfl λK=>Nc (A r :: ·) (d K)
theorem w'{T:Z}(v:(A==OC)=MT)(r:DictAt a g b d A y C T ay)(P:y.length<1000)
  (B:∀q n,ai (.int y.length n) {d with toks:=d.toks+q}):MZ (MY h a) f (N3 (.builtin "len") [.ref A]) ai t d:=by
 have s:y.length=C.size:=by exact r.dr.len.trans RI
 refine call_function_entry kind_len plain_len entry_len (args_len1 _) (MR (m:=oneArg "len" _) (M0 ?_));refine MR (m:=QB (.ref A) (Tx "__len__")) (Ot (name:=Tx "__len__") r.is PySem.F.slot_dict_len (N2 PySem.F.slot_dict_len r.is PySem.F.entry_dict_len ?_ (PySem.F.args_dict_len_1 _)));·show MZ _ _ (dictSize A >>= λI=>NL.Dict.pendingCount A >>= λM=>_) _ _ d;refine MR (MR (OY r.obj rfl (M0 ?_)));unfold NL.Dict.pendingCount;refine R (Nf (by refine R v ?_;decide)) ?_;refine MR (M0 (MR (Pt (M0 (ba _ rfl ?_)))));refine MR (Ny (M0 ?_));refine MR (QC ?_);show MZ _ _ (if(((C.size:Z):MN)+((0:Z):MN))≥2 ^ 63 then _ else _) _ _ _;refine R (Nf (mt S6.mp (Uo.mpr (n1 (RS (SD _) (s▸P)) rfl)))) ?_;refine MR (Pt (M0 (ba _ rfl ?_)));have:=B 2 (d.toks+1);rw[s] at this;exact this
theorem m5{own:V MS}{T:Z}{H:Q}{k:MO}{e:O Q}(g:f.units+1<NB)(v:(A==OC)=MT)(r:DictAt a own b d A y C T ay)(J:VR a.params (Sf d.heap b own) b H k)(D:cW y H=S e)
  (B:∀q E,VR a.params (Sf d.heap b own) b (e.getD .none) E->ai E {d with toks:=d.toks+q}):MZ (MY h a) f (N3 (.builtin "dict.get") [.ref A,k]) ai t d:=by
 refine N2 PySem.F.slot_dict_get r.is PySem.F.entry_dict_get ?_ (PySem.F.args_dict_get_2 _ _);show MZ _ _ (PY A k >>= _) _ _ d;refine MR (lR (own:=own) g r J D λq c P=>?_);clear g r J D;induction c using Ry with
 |some E=>induction e using Ry with
  |some I=>exact M0 (ba E rfl (B q E P))
  |none=>exact P.elim
 |none=>induction e using Ry with
  |some _=>exact P.elim
  |none=>exact MR (wpAny_missed_other v (M0 (ba .none rfl (B q _ .none))))
set_option tactic.hygienic true in
theorem m6{own:V MS}{a0:V (Q×Q)}{ep:Z}{H:Q}{k:MO}(hu:f.units+1<NB)(r:DictAt a own b d A y C ep ay)(P:y.length<1000)(J:VR a.params (Sf d.heap b own) b H k)(D:cW y H=S (S aw))(j:uM y H=S a0)
  (B:∀L m E x e o,VR a.params (Sf d.heap b own) b aw o->Sx A d.heap m->m.get? A=S (bB E x)->DR a (Sf d.heap b own) b e a0 E.toList->(a0.map (·.1)).Nodup->ai o {d with heap:=m,toks:=d.toks+L}) :
  MZ (MY h a) f (N3 (.builtin "dict.pop") [.ref A,k]) ai t d:=by
 have s:y.length=C.size:=by exact r.dr.len.trans RI
 unfold uM at j;split at j
 ·rename_i K z
  cases j
  refine aM (r.dr.kind z) λe ok c=>?_
  have G:=(dJ (fg z).2).1
  replace G:=RK▸G
  obtain⟨q,eq⟩:∃q,y[K]? = S q:=by
   induction U:y[K]? using Ry with
   |none=>rw[U] at G;exact nomatch G
   |some q=>exact⟨q,rfl⟩
  have a2:q.2=aw:=by unfold cW at D;rw[z] at D;simp only[Ud,TG,eq,VT] at D;exact D
  refine uP (c.get eq) λg o X Y Y v2=>?_
  have I:C[K]? = S ⟨gK a q.1,g,o⟩:=by simpa using X
  rw[a2] at v2
  refine N2 PySem.F.slot_dict_pop r.is PySem.F.entry_dict_pop ?_ (PySem.F.args_dict_pop_2 _ _)
  refine MR (MR (QA r.is ?_))
  refine M0 ?_
  have p:∀{a1:O Nt->MW->Prop},(∀D v,D.val=o->ai o v->a1 (S D) v)->MZ (MY h a) f.in1 (NL.Dict.takeOut A k) a1 t d:=by
   intro a1 hP;refine Ny (MR (jc (own:=own) hu J ok λL=>MR (hW (s:={d with toks:=d.toks+L}) (own:=own) hu r.obj c r.nd J ok z ?_)));refine MR (OY r.obj rfl ?_);refine R I ?_;refine MR (Rc r.obj rfl ?_ (by have:N1=_:=N9;exact s.symm▸qi P rfl) ?_)
   ·refine M0 (hP _ _ rfl ?_);refine B L _ (C.eraseIdxIfInBounds K) (ep+1) e o v2 (Sq ..) (R9 _ r.obj rfl) ?_ ?_
    ·have:=c.erase K;have q:(C.eraseIdxIfInBounds K).toList=C.toList.eraseIdx K:=by
      unfold Ui;split;·simp
      ·rename_i n;rw[V.eraseIdx_of_length_le (by simpa using n)]
     exact R q this
    ·have:=r.nd;exact R (uW ..) (this.eraseIdx K)
   ·unfold Ui;split;·simp;exact R6 _ 2
    ·simp
  have T:∀M:MP,M=MT->MZ (MY h a) f.in1 (do
    let l<-if M=ML then do rule "dict.pop.empty";pure N else NL.Dict.takeOut A k
    if l.isNone=ML then NL.Dict.missedRemoval A k
    match l,(N:O MO) with
    |some D,_=>do letGo [D.key] [D.val];ret D.val
    |none,S r=>do rule "dict.pop.default";ret r
    |none,N=>do rule "dict.pop.keyerror";P1 (<-newExc (.type "KeyError") [k])) (λT v=>∃aw,T=Fin.done (NG.ret aw)/\ai aw v) t d:=by
   rintro _ rfl
   refine MR (p λD v he hq=>?_)
   exact MR (QC (M0 (ba D.val rfl (R he hq))))
  clear c v2 s G a2 p hu P B eq
  induction e using DK.casesOn with
  |str=>obtain⟨i,rfl⟩:=ok;cases J;exact MR (M0 (T MT rfl))
  |int=>obtain⟨i,rfl⟩:=ok;cases J;exact MR (M0 (T MT rfl))
  |tup=>
   refine aM ok λw bE ea=>?_;subst bE;cases J;refine MR (OY r.obj rfl (MR (M0 ?_)));have:C.isEmpty=MT:=by
    induction U:C.isEmpty using RE with
    |false=>rfl
    |true=>
     have:C = #[]:=by simpa using U
     rw[this] at I;simp at I
   exact T _ this
 ·cases j
set_option tactic.hygienic true in
noncomputable def fS(r:MQ):MP:=by cases r;(case Slice=>exact MT);all_goals exact ML
theorem fU{g c:MQ}{z K:MO}{x i:Oe}(b:d.TypeIs z x)(l:Of (.type x) "__getitem__"=pure (S (.builtin i)))(w:fS c=ML)(B:MZ (MY h a) f (Pd z K) ai t d) :
  MZ (MY h a) f (O0 g c z K) ai t d:=by
 refine MR (R (Rf b.not_modules) (MR (Ob b l ?_)));have P:subscripted c MT z K=operate [z,K] (Pd z K):=by induction c using T3<;>first|rfl|cases w
 have T:MZ (MY h a) f (subscripted c MT z K) (λy e=>MZ (MY h a) f (letTemporaryGo g z y >>= λY=>pure y) ai t e) t d:=by exact R P (Rg (Nk B (λy e p=>MR (Rh (M0 p))) λY Y r=>r))
 first
  |exact M0 (MR T)
  |exact MR (M0 (MR T))
  |exact MR T
theorem tL{a:MN}(B:place a q=S K):(a=K/\K<q/\K<1000)\/(a = -1/\0<q/\K=q - 1):=by refine cA B (λE B=>cA B (λp B=>.inl ?_) λY B=>nX B) λY B=>cA B (λp B=>.inr (fA p.1 p.2 ((sX B).symm))) λY B=>nX B;refine dD (TQ E) λH bE=>?_;clear E;subst bE;exact sX B▸(fA rfl (RU.mp p.1) (RU.mp p.2))
theorem FP(B:K<1000):(K:MN)<2 ^ 63:=MN.lt_trans (RU.mpr B) (by decide)
theorem tM(B:0<q):(-1+(q:MN))=((q - 1:Z):MN):=by refine dD (Z.exists_eq_succ_of_ne_zero (S7 B)) λH cj=>?_;subst cj;exact(Nc (-1 + ·) (MN.natCast_succ H)).trans ((MN.add_comm ..).trans (MN.add_neg_cancel_right ..))
theorem xa{a:MN}(B:place a q=S K):K<q/\-(2 ^ 63)<=a/\a<2 ^ 63/\seqIndex? a q=S K:=by
 rcases tL B with⟨rfl,p,G⟩|⟨rfl,p,rfl⟩;·exact qu p (SW (by decide) (RQ K)) (FP G) (seqIndex_of (RQ K) (RU.mpr p))
 ·have D:=tM p;have G:=V9 p VZ;refine qu G (by decide) (by decide) ?_;show(if(MX (0<=-1+(q:MN))&&MX (-1+(q:MN)<q))=ML then S (-1+(q:MN)).toNat else N)=_;exact R D (Nb (RT.mpr ⟨Nn (RQ _),Nn (RU.mpr G)⟩))
theorem qA{j:M5 MO}{b:MN}{c:NM}(l:d.heap.IsList n j)(B:place b j.size=S K)(D:j[K]? = S aa)(L:ai aa d):MZ (MY h a) f (Pd (.ref n) (.int b c)) ai t d:=by
 rcases tL B with⟨rfl,p,G⟩|⟨rfl,p,rfl⟩;·exact wpAny_getItem_list l (RQ K) (FP G) D L
 ·have m:=tM p;exact wpAny_getItem_list_neg l (by decide) (MN.neg_le_neg (S6.mpr p)) (by decide) (x:=aa) (m.symm▸D) L
theorem lS{j:M5 MO}(c:bM U x b z j.toList)(D:z[K]? = S aw):∃B,j[K]? = S B/\VR U x b aw B:=aM (c.get D) λB a P=>ba B (by simpa using a) P
theorem jL.sub{K v:Q}{U I:MO}{a1 L:MQ}(hu:f.units+64<NB)(iv:Inv a e g b k d.heap)(c:VR a.params (Sf d.heap b g) b m U)(z:VR a.params (Sf d.heap b g) b K I)(r:fS L=ML)(D:aR k m K=S v)
  (M:∀G B,VR a.params (Sf d.heap b g) b v B->ai B {d with toks:=d.toks+G}):MZ (MY h a) f (O0 a1 L U I) ai t d:=by
 have E:=λB P=>by exact M 0 B P
 induction m using Wm with
 |tup w=>induction K using Wm with
  |int H=>refine dF c.inv λm j G du C A=>?_;subst du;refine dD z.inv λn dV=>?_;subst dV;refine iQ D λa0 X p=>aM (lS A p) λB s P=>qj (xa X) λY b1 b2 b3=>?_;rw[show w.length=j.size from A.len.trans RI] at b3;exact fU (ba _ C.1 rfl) slot_tuple_getitem.lookup r (Wd (dW C) b1 b2 b3 s (E B P))
  |_=>exact nX D
 |lst w=>induction K using Wm with
  |int H=>refine dF c.inv λm j G fB C A=>?_;subst fB;refine dD z.inv λn i7=>?_;subst i7;refine iQ D λa0 X p=>aM (lS A p) λB s P=>?_;rw[show w.length=j.size from A.len.trans RI] at X;exact fU (ba _ C.1 rfl) QD.lookup r (qA (bb C.1) X s (E B P))
  |_=>exact nX D
 |aE H=>induction K using Wm with
  |int K=>refine aM c.inv λm jQ J=>?_;subst jQ;refine dD z.inv λn lM=>?_;subst lM;refine iQ D λw i D=>iQ D λa0 X p=>cg (iv.dt.L H w m i J) λj G o A=>aM (lS A p) λB s P=>?_;rw[show w.length=j.size from A.len.trans RI] at X;exact fU (ba _ o rfl) QD.lookup r (qA (bb o) X s (E B P))
  |_=>exact nX D
 |ab H=>exact aM c.inv λm rM J=>R rM (iQ D λl i D=>iQ D λa2 X p=>zT (fD iv i J) λy T dk x=>fU x.is Px.lookup r (gp (own:=g) (E8 hu rfl) x z (X.trans (Nc S p)) M))
 |_=>exact nX D
theorem SE.sub{I K:LE}{x:MQ}(k:f.units+64<NB)(r:SE h a e l c j f i I x)(C:SE h a e l c j f i K s)(w:fS s=ML):SE h a e l c j f i (.sub I K) (.Subscript x s J):=by
 intro g y b t A p G B;refine R wm (P2 ((r g y b t A p G).dg (.refl G.inv) (λI z r1 T U X o1 ε E d=>?_) B));refine R X (R Res.aP ?_);refine(C g r1 z T A p (G.on p o1)).dg o1 (λM H r2 o vb m o2 n L Y=>?_) d;refine R m (R Res.aP ?_);induction D:aR H I M using Ry with
 |none=>exact bX (D▸Y)
 |some v=>exact jL.sub k o2.inv (n.vr E) L w D λq v' P=>.ok (o2.trans (.tok o2.inv)) P
theorem lh{a:Z}{K:MN}(B:0<=K):OM a K=min K.toNat a:=by
 refine dD (TQ B) λH iR=>?_;subst iR;unfold OM;refine R (Nf (TU.mpr B)) ?_;rcases Z.le_total H a with q|q;·exact R (MN.min_eq_left (S6.mpr q)) ((Vg q).symm)
 ·exact R (MN.min_eq_right (S6.mpr q)) ((V2 q).symm)
theorem qB(j:V G)(I a:Z):(j.drop (min I j.length)).take (min a j.length - min I j.length)=(j.take a).drop I:=by
 refine V.drop_take.symm.trans ?_;refine R (show j.take (min a j.length)=j.take a from V.take_eq_take_min.symm) ?_;rcases Z.le_total I j.length with B|B;·rw[Vg B]
 ·have U:(j.take a).length<=j.length:=(V.length_take_le' ..);refine R (V2 B) ?_;refine(Ut U).trans ?_;refine R (Ut (RH U B)) rfl
theorem xb(j:M5 MO)(o d:O MN)(H:∀K,o=S K->0<=K)(h:∀K,d=S K->0<=K):(P4 j o d N).toList=cut j.toList o d:=by
 unfold P4;refine R (sliceBounds_plain ..) ?_;refine R (sliceRange_one (o.elim 0 (OM j.size)) (d.elim j.size (OM j.size))) ((pick_run ..).trans ?_);have p:o.elim 0 (OM j.size)=min (o.elim 0 TR) j.toList.length:=by
  induction o using Ry with
  |none=>simp
  |some K=>exact lh (H K rfl)
 have G:d.elim j.size (OM j.size)=min (d.elim j.toList.length TR) j.toList.length:=by
  induction d using Ry with
  |none=>simp
  |some K=>exact lh (h K rfl)
 refine R p (R G ?_);exact qB j.toList _ _
theorem More.JM{K:bH}{w:V MS}(x:More b K w)(A:∀n∈w,n∈ax)(o:∀n∈g,n∈ax)(t:Sf p b ax n ah):Sf p K g n ah:=(fA t.1 (λU=>(x.mem.mp U).elim (λU=>t.2.2 (A n U)) t.2.1) (λU=>t.2.2 (o n U)))
theorem More.adopt{d:bH}{r:AH}{w:V MS}(x:More b d w)(K:Inv a e ax b k p)(A:∀I∈w,I∈ax)(n:w.Nodup)(o:∀I∈g,I∈ax/\I∉w)(C:oQ a p d r (Sf p d g)):Inv a e g d r p:=⟨λM z D=>⟨(K.keep M z D).1,λU=>(x.mem.mp U).elim (λU=>by exact nX (((K.off M (A M U)).2)▸D)) (K.keep M z D).2⟩,x.perm.nodup_iff.mpr (Sm.mpr (fA n K.wG (λI c M f L=>by subst L;exact(K.off I (A I c)).1 f))),λI c=>⟨λU=>(x.mem.mp U).elim (o I c).2 (K.off I (o I c).1).1,(K.off I (o I c).1).2⟩,λI c=>K.ex I (o I c).1,C⟩
theorem Inv.CZ{own:V MS}(K:Inv a e ax b k p)(A:n∈ax)(H:∀M∈own,M∈ax/\M≠n)
  (o:p.get? n=S (bB C q)) (E:DR a (Sf p b ax) b ay y C.toList) (c:(y.map (·.1)).Nodup):Inv a e own (b.iw n) {k with D:=k.D++[y]} p:=by
 have x:=More.D b n;have r:∀M∈[n],M∈ax:=λM w=>by exact R (Rx.mp w) A
 have T:∀M z,Sf p b ax M z->Sf p (b.iw n) own M z:=λM z t=>x.JM r (λf i=>(H f i).1) t;have f:=K.dt;refine x.adopt K r (M8 rfl) (λM w=>⟨(H M w).1,λU=>(H M w).2 (Rx.mp U)⟩) ⟨f.gW,by simp[bH.iw,f.i9],f.jO,f.ja,λH g M X m=>?_,λH d M X m=>?_,λH g M X m=>?_,λH L h X m=>?_⟩;·exact cg (f.L H g M X m) λj q o E=>dI j q o (E.mono T x.le)
 ·rcases cS X with I|⟨rfl,rfl⟩
  ·rcases cS m with B|⟨rfl,_⟩;·exact dF (f.D H d M I B) λj q h o E c=>kQ j q h o (E.mono T x.le) c
   ·rw[f.i9,Sk (Sd _)] at I;cases I
  ·rcases cS m with B|⟨_,rfl⟩;·rw[<-f.i9,Sk (Sd _)] at B;cases B
   ·exact kQ C q ay o (E.mono T x.le) c
 ·exact f.B H g M X m
 ·obtain⟨o,C,q,G,E⟩:=f.I H L h X m;exact⟨o,C,q,G,E.mono T x.le⟩
theorem Inv.C0{q:MS×MS}{l:dG}{i:Z}(K:Inv a e ax b k p)(f1:q.1∈ax)(f2:q.2∈ax)(n:q.1≠q.2)(H:∀M∈g,M∈ax/\M≠q.1/\M≠q.2)
  (d:p.get? q.1=S (ND (CA l) q.2)) (A:p.get? q.2=S (bB C i)) (E:FR a.params (Sf p b ax) b (bS l) au C.toList):Inv a e g (b.uQ q) {k with I:=k.I++[(l,au)]} p:=by
 have x:=More.I b q;have r:∀M∈[q.1,q.2],M∈ax:=λM w=>by
  rcases RC.mp w with rfl|w;·exact f1
  ·exact R (Rx.mp w) f2
 have T:∀M z,Sf p b ax M z->Sf p (b.uQ q) g M z:=λM z t=>x.JM r (λl s=>(H l s).1) t;have f:=K.dt;refine x.adopt K r (by simp[n]) (λM w=>⟨(H M w).1,λU=>by
  rcases RC.mp U with U|U;·exact(H M w).2.1 U
  ·exact(H M w).2.2 (Rx.mp U)⟩) ⟨f.gW,f.i9,f.jO,by simp[bH.uQ,f.ja],λH au M X m=>?_,λH au M X m=>?_,λH au M X m=>?_,λH P h X m=>?_⟩
 ·exact cg (f.L H au M X m) λj i o E=>dI j i o (E.mono T x.le)
 ·exact dF (f.D H au M X m) λj i h o E c=>kQ j i h o (E.mono T x.le) c
 ·exact f.B H au M X m
 ·rcases cS X with I|⟨rfl,rfl⟩
  ·rcases cS m with B|⟨rfl,_⟩;·obtain⟨o,C,i,G,E⟩:=f.I H P h I B;exact⟨o,C,i,G,E.mono T x.le⟩
   ·rw[f.ja,Sk (Sd _)] at I;cases I
  ·rcases cS m with B|⟨_,rfl⟩;·rw[<-f.ja,Sk (Sd _)] at B;cases B
   ·exact⟨d,C,i,A,E.mono T x.le⟩
theorem uR.cX{own':V MS}(A:uR a g c j w b d.heap)(H:∀M∈own',M∈g\/d.heap.get? M=N)(P:∀M z,d.heap.get? M=S z->X.get? M=S z):uR a own' c j w b X:=by
 have T:∀I z,Sf d.heap b g I z->Sf X b own' I z:=λI z U=>(U.cX H).grow P;refine⟨?_,λr C D=>?_,A.len⟩;·exact aM A.ns λx n v=>ba x (n.keeps P) (λi r E e m s=>aM (v i r E e m s) λB I M=>(ba B I (M.mono T (.refl b))))
 ·exact aM (A.jM r C D) λy f v=>ba y (f.keeps P) (λi E e m s=>aM (v i E e m s) λB I M=>(ba B I (M.mono T (.refl b))))
theorem bk.cX{own':V MS}(p:bk g c j)(H:∀M∈g,M∈own'):bk own' c j:=⟨p.kind,p.glob,p.blt,H _ p.loc,λr C D=>⟨H _ (p.jM r C D).1,(p.jM r C D).2⟩,λI x=>H I (p.zU I x),p.inj,p.E',p.has⟩
theorem cK.cX{own':V MS}(r:cK l g aq p)(H:∀M,g.count M<=own'.count M)(P:∀M z,p.get? M=S z->X.get? M=S z):cK l own' aq X:=⟨λD x=>r.el x λa I z y q M C h o L=>⟨a,I,z,y,q,M,RH C (H I),h,P _ _ o,L⟩⟩
theorem St.cX{own':V MS}(G:St a e g l c j b k w d){tk:Z}(H:∀M∈own',M∈g\/d.heap.get? M=N)(r:∀M,g.count M<=own'.count M)(P:∀M z,d.heap.get? M=S z->X.get? M=S z)(x:∀M∈own',∃z,X.get? M=S z):St a e own' l c j b k w {d with heap:=X,toks:=tk}:=⟨G.inv.cX H P x,G.dS.cX H P,G.live.cX r P⟩
noncomputable def notStar:MQ->MP
 |.Starred ..=>MT
 |_=>ML
theorem bx{D:MQ}{j:V MQ}(B:notStar D=ML):NT (D :: j) c=(MT,eval D c) :: NT j c:=by induction D using T3<;>first|rfl|cases B
inductive m8(prog:Nv)(w:Nj)(g₀:MV)(l:V Ng)(env:Ng)(sl:V (O MU))(A:Nw)(cf:CF):cz->V MQ->Prop
 |nil:m8 prog w g₀ l env sl A cf .nil []
 |cons {e:LE} {es:cz} {x:MQ} {xs:V MQ}:SE prog w g₀ l env sl A cf e x->notStar x=ML->m8 prog w g₀ l env sl A cf es xs->m8 prog w g₀ l env sl A cf (.cons e es) (x :: xs)
theorem m8.run{pos:Ni}{n:cz}{d:V MQ}(r:m8 h a e l c j f i n d):∀g y b t A,bk g c j->St a e g l c j y b A t->jL a e g (MY h a) f l (ID a) (O1 (NW pos (NT d c))) (bp i n A b) y t:=by
 induction r with
 |nil=>intro g y b t A p G B;exact PySem.Calls.spliced_nil (.ok (.refl G.inv) .nil)
 |@cons H n r d q w _ J=>intro g y b t A p G B;refine R fP (R (bx w) (PySem.Calls.spliced_cons ((q g y b t A p G).dg (.refl G.inv) (λI z K k U X o1 Y E D=>?_) B)));refine R X (R Res.aP ?_);refine(J g K z k A p (G.on p o1)).dg o1 (λM C x o P m o2 p2 v s=>?_) D;exact R m (.ok o2 (.cons (p2.vr E) v))
theorem jd{s:MW}(J:ah.isFreed=MT)(K:Inv a e g b k s.heap):Sf (s.heap.push ah) b g s.heap.objs.size ah:=(fA (R4 _ J) (K.fresh (bR _)) (K.no (bR _)))
theorem tO(I:MS)(t:Nl)(U:Sf d.heap b g I t):Sf (d.heap.push ah) b g I t:=U.grow λY Y D=>RA _ D
noncomputable def jY:cz->Z
 |.nil=>0
 |.cons _ y=>jY y+1
theorem je{y:cz}:∀{A:Loc} {b:AH} {vs:V Q} {H':AH},bp i y A b=.ok (vs,H')->vs.length=jY y:=by
 induction y using cz.rec (motive_1:=λY=>Nq) (motive_3:=λY=>Nq) with
 |nil=>intro A b vs H' D;replace D:=zL.symm.trans D;obtain⟨rfl,rfl⟩:=mY D;rfl
 |cons D a _ d=>
  intro A b vs H' B;replace B:=fP.symm.trans B;refine BR (aO i D A b) (λP X=>?_) (λY Y X=>?_) (λX=>?_)
  ·rw[X,Res.aP] at B;refine BR (bp i a A P.2) (λL m=>?_) (λY Y m=>?_) (λm=>?_);·replace B:=m▸B;obtain⟨rfl,rfl⟩:=mY B;show _=jY a+1;refine S0.trans ?_;rw[d (vs:=L.1) (H':=L.2) m]
   ·replace B:=m▸B;cases B
   ·replace B:=m▸B;cases B
  ·replace B:=X▸B;cases B
  ·replace B:=X▸B;cases B
 |_=>trivial
theorem bM.length{w:V MO}(B:bM U x b z w):w.length=z.length:=B.len.symm
theorem SE.tup{y:cz}{d:V MQ}{C:Z}(r:m8 h a e l c j f i y d)(n:jY y<1000):SE h a e l c j f i (.tup y) (.Tuple d C J):=by
 intro g m b t A p G B;refine R lJ (wpAny_Tuple_spliced ((r.run g m b t A p G).dg (.refl G.inv) (λI z K k U X o1 Y E o=>?_) B));refine R X ?_;have s:U.length<1000:=by refine R E.length ?_;refine R (je X) ?_;exact n
 refine⟨by have:N1=_:=N9;exact qi s rfl,.ok (o1.trans (.grown o1.inv λY Y D=>RA _ D)) ?_⟩;exact .tup _ _ U.toArray 0 (jd rfl o1.inv) (E.mono tO (.refl K))
theorem SE.lst{y:cz}{d:V MQ}(r:m8 h a e l c j f i y d)(n:jY y<1000):SE h a e l c j f i (.lst y) (.List d J):=by
 intro g m b t A p G B;replace B:=rE▸B;refine R rE ?_;refine Ri ((r.run g m b t A p G).dg (.refl G.inv) (λI z K k U X o1 Y E o=>?_) B);refine R X ?_;have s:U.length<1000:=by refine R E.length ?_;refine R (je X) ?_;exact n
 refine⟨by have:N1=_:=N9;exact qi s rfl,.ok (o1.trans (.grown o1.inv λY Y D=>RA _ D)) ?_⟩;exact .lst _ _ U.toArray 0 (jd rfl o1.inv) (E.mono tO (.refl K))
theorem SE.emp:SE h a e l c j f i .emp (.List [] J):=by intro g y b t d p G B;refine R CH (Ri (PySem.Calls.spliced_nil ⟨by simp,?_⟩));have A:t.heap.get? t.heap.objs.size=N:=bR _;have P:∀M z,t.heap.get? M=S z->(t.heap.push (listOf #[] 0)).get? M=S z:=λY Y D=>RA _ D;refine .ok (r':=y.mZ t.heap.objs.size) (.mk' (G.inv.CS A P (R4 _ rfl) .nil) ((More.L y _).keep (λM w=>by refine R (Rx.mp w) ?_;exact A) P) (More.L y _).le) ?_;refine .aE _ _ ?_;exact R G.inv.dt.gW.symm fR
theorem hX{M:MP}(B:VR U x b m aa)(D:truthy m=S M):m=.bool M/\aa=.bool M:=by
 induction m using Wm with
 |bool C=>exact sX D▸⟨rfl,B.inv⟩
 |_=>exact nX D
theorem eP:mO i af w k=(aO i af w k).bind λy=>match truthy y.1 with|some M=>.ok (M,y.2)|none=>.bad:=rfl
theorem ST.plain(B:SE h a e l c j f i af aj)(C:∀w,isTrue aj c w=(do let E<-w;standAt aj.pos;PA [E] (PySem.truthy E))):ST h a e l c j f i af aj:=by
 intro g y b t A p G m;refine R eP (isTrue_plain ((B g y b t A p G).dg (.refl G.inv) (λI z K k U X o1 Y d D=>?_) m) (C _));refine R X (hF λo=>kA (truthy I) (λn=>?_) (λM n=>?_));·exact bX (n▸D)
 ·refine bK (hX d n) λbE cj=>?_;clear X d D n b A p G m B C;subst bE;subst cj;exact o (OB (.ok o1 rfl))
noncomputable def rQ:MQ->MP
 |.UnaryOp .Not ..|.BoolOp ..|.IfExp ..|.Compare ..=>ML
 |_=>MT
theorem oY(B:rQ aj=MT)(w:Nm MO):isTrue aj c w=(do let E<-w;standAt aj.pos;PA [E] (PySem.truthy E)):=by
 induction aj using PySem.Expr.casesOn with
 |UnaryOp o s P=>induction o using UnaryOp.casesOn<;>first|rfl|cases B
 |BoolOp=>cases B
 |IfExp=>cases B
 |Compare=>cases B
 |_=>rfl
theorem jL.step{j:Type}{h:Rel G az}{n:Nm az}{s:Res (G×AH)}{A:G×AH->Res (j×AH)}{c:az->MW->Prop}(B:jL a e g T f l h n s b d)(K:Inv a e g b k d.heap)
  (H:∀I i x o M,s=.ok (I,i)->aQ a e g [] b d x i o->h (Sf o.heap x g) x I M->A (I,i)≠.bad->c M o) (w:s.bind A≠.bad):MZ T f n c (EE a e g l (s.bind A).x? b d) d:=
 B.dg (.refl K) (λI i x o M D z Y E m=>H I i x o M D z E m) w
theorem SE.and{I M:LE}{d:V MQ}(r:SE h a e l c j f i I aj)(m:SE h a e l c j f i M (.BoolOp .And (s :: d) J)):SE h a e l c j f i (.and I M) (.BoolOp .And (aj :: s :: d) J):=by
 intro g y b t A p G B;refine R rG (BoolOp_and ((r g y b t A p G).step G.inv (λI z K k U X o1 E D=>?_) B));refine R X (kA (truthy I) (λn=>?_) (λM n=>?_));·replace D:=n▸D;exact bX D
 ·refine bK (hX E n) λdu dV=>?_
  subst du
  clear I X n B r
  subst dV
  refine OB ?_
  induction M using RE with
  |false=>exact .ok o1 E
  |true=>exact(m g K z k A p (G.on p o1)).lift o1 D
theorem SE.or{I M:LE}{d:V MQ}(r:SE h a e l c j f i I aj)(m:SE h a e l c j f i M (.BoolOp .Or (s :: d) J)):SE h a e l c j f i (.or I M) (.BoolOp .Or (aj :: s :: d) J):=by
 intro g y b t A p G B;refine R wu (BoolOp_or ((r g y b t A p G).step G.inv (λI z K k U X o1 E D=>?_) B));refine R X (kA (truthy I) (λn=>?_) (λM n=>?_));·replace D:=n▸D;exact bX D
 ·refine bK (hX E n) λfB i7=>?_
  subst fB
  clear I X n B r
  subst i7
  refine OB ?_
  induction M using RE with
  |true=>exact .ok o1 E
  |false=>exact(m g K z k A p (G.on p o1)).lift o1 D
theorem SE.one{I:LE}{o:Og}(B:SE h a e l c j f i I aj):SE h a e l c j f i I (.BoolOp o [aj] J):=λg y b t A p G d=>BoolOp_one (B g y b t A p G d)
theorem tP{I M:LE}:mO i (.and I M) w k=(mO i I w k).bind λL=>if L.1 then mO i M w L.2 else .ok (MT,L.2):=by
 refine eP.trans ((bL rG).trans (R eP ?_));cases aO i I w k with
 |ok P=>
  dsimp only[Res.aP]
  induction n:truthy P.1 using Ry with
  |none=>rfl
  |some C=>induction C using RE with
   |true=>rfl
   |false=>exact Res.aP.trans (R n rfl)
 |exc _ _=>rfl
 |bad=>rfl
theorem xc{I M:LE}:mO i (.or I M) w k=(mO i I w k).bind λL=>if L.1 then .ok (ML,L.2) else mO i M w L.2:=by
 refine eP.trans ((bL wu).trans (R eP ?_));cases aO i I w k with
 |ok P=>
  dsimp only[Res.aP]
  induction n:truthy P.1 using Ry with
  |none=>rfl
  |some C=>induction C using RE with
   |false=>rfl
   |true=>exact Res.aP.trans (R n rfl)
 |exc _ _=>rfl
 |bad=>rfl
theorem tQ{I:LE}:mO i (.not I) w k=(mO i I w k).bind λL=>.ok (!L.1,L.2):=by
 refine eP.trans ((bL rH).trans (R eP ?_));cases aO i I w k with
 |ok P=>
  dsimp only[Res.aP]
  induction n:truthy P.1 using Ry with
  |none=>rfl
  |some C=>rfl
 |exc _ _=>rfl
 |bad=>rfl
theorem ST.one{I:LE}{o:Og}(B:ST h a e l c j f i I aj):ST h a e l c j f i I (.BoolOp o [aj] J):=by
 intro g y b t A p G d;induction o using Og.casesOn with
 |And=>
  refine isTrue_and (Nk (B g y b t A p G d) (λC k L=>?_) λY Y D=>D)
  induction C using RE with
  |true=>exact isTrue_and_nil L
  |false=>exact L
 |Or=>
  refine isTrue_or (Nk (B g y b t A p G d) (λC k L=>?_) λY Y D=>D)
  induction C using RE with
  |false=>exact isTrue_or_nil L
  |true=>exact L
theorem ST.and{I M:LE}{d:V MQ}(r:ST h a e l c j f i I aj)(m:ST h a e l c j f i M (.BoolOp .And (s :: d) J)):ST h a e l c j f i (.and I M) (.BoolOp .And (aj :: s :: d) J):=by
 intro g y b t A p G B;rw[tP] at B;refine R tP ?_;refine isTrue_and ((r g y b t A p G).step G.inv (λI z K k U X o1 E D=>?_) B);obtain rfl:I=U:=E;refine R X ?_;clear X B r;induction I using RE with
 |true=>exact(m g K z k A p (G.on p o1)).lift o1 D
 |false=>exact .ok o1 rfl
theorem ST.or{I M:LE}{d:V MQ}(r:ST h a e l c j f i I aj)(m:ST h a e l c j f i M (.BoolOp .Or (s :: d) J)):ST h a e l c j f i (.or I M) (.BoolOp .Or (aj :: s :: d) J):=by
 intro g y b t A p G B;rw[xc] at B;refine R xc ?_;refine isTrue_or ((r g y b t A p G).step G.inv (λI z K k U X o1 E D=>?_) B);obtain rfl:I=U:=E;refine R X ?_;clear X B r;induction I using RE with
 |false=>exact(m g K z k A p (G.on p o1)).lift o1 D
 |true=>exact .ok o1 rfl
theorem ST.not{I:LE}(d:ST h a e l c j f i I aj):ST h a e l c j f i (.not I) (.UnaryOp .Not aj J):=by intro g y b t A p G B;rw[tQ] at B;refine R tQ ?_;refine isTrue_not ((d g y b t A p G).step G.inv (λI z K k U X o1 E D=>?_) B);obtain rfl:I=U:=E;exact R X (.ok o1 rfl)
theorem SE.not{I:LE}(B:SE h a e l c j f i I aj):SE h a e l c j f i (.not I) (.UnaryOp .Not aj J):=by
 intro g y b t A p G d;refine R rH (UnaryOp_ ((B g y b t A p G).step G.inv (λI z K k U X o1 E D=>?_) d));refine R X (hF λo=>kA (truthy I) (λn=>?_) (λM n=>?_));·exact bX (n▸D)
 ·refine bK (hX E n) λjQ lM=>?_;subst jQ;clear I X E D n b A p G d B;subst lM;exact o (not_of (OB (.ok o1 (.bool _))))
theorem SE.neg{I:LE}(B:SE h a e l c j f i I aj):SE h a e l c j f i (.neg I) (.UnaryOp .USub aj J):=by intro g y b t A p G d;refine R wx (UnaryOp_ ((B g y b t A p G).step G.inv (λI z K k U X o1 E D=>?_) d));refine R X ?_;clear X b A p G d B;refine dD (FE D) λm L=>?_;subst L;obtain⟨n,rfl⟩:=E.inv;exact Wh (.ok (o1.trans (.tok o1.inv)) (.int _ _))
theorem tR{C I M:LE}:aO i (.ite C I M) w k=(mO i C w k).bind λL=>if L.1 then aO i I w L.2 else aO i M w L.2:=by
 refine rI.trans (R eP ?_);cases aO i C w k with
 |ok P=>
  dsimp only[Res.aP]
  induction n:truthy P.1 using Ry with
  |none=>rfl
  |some C=>induction C using RE<;>rfl
 |exc _ _=>rfl
 |bad=>rfl
theorem SE.ite{C I M:LE}{U:MQ}(d:ST h a e l c j f i C aj)(r:SE h a e l c j f i I s)(n:SE h a e l c j f i M U):SE h a e l c j f i (.ite C I M) (.IfExp aj s U J):=by
 intro g y b t A p G B;rw[tR] at B;refine R tR ?_;refine IfExp_ ((d g y b t A p G).step G.inv (λL z K k m X o1 E D=>?_) B);obtain rfl:L=m:=E;refine R X ?_;clear X B d;induction L using RE with
 |true=>exact(r g K z k A p (G.on p o1)).lift o1 D
 |false=>exact(n g K z k A p (G.on p o1)).lift o1 D
theorem tS{C I M:LE}:mO i (.ite C I M) w k=(mO i C w k).bind λL=>if L.1 then mO i I w L.2 else mO i M w L.2:=by
 refine eP.trans ((bL rI).trans (R eP ?_));cases aO i C w k with
 |ok P=>
  dsimp only[Res.aP]
  induction n:truthy P.1 using Ry with
  |none=>rfl
  |some C=>induction C using RE<;>rfl
 |exc _ _=>rfl
 |bad=>rfl
theorem ST.ite{C I M:LE}{U:MQ}(d:ST h a e l c j f i C aj)(r:ST h a e l c j f i I s)(n:ST h a e l c j f i M U):ST h a e l c j f i (.ite C I M) (.IfExp aj s U J):=by
 intro g y b t A p G B;rw[tS] at B;refine R tS ?_;refine isTrue_IfExp ((d g y b t A p G).step G.inv (λL z K k m X o1 E D=>?_) B);obtain rfl:L=m:=E;refine R X ?_;clear X B d;induction L using RE with
 |true=>exact(r g K z k A p (G.on p o1)).lift o1 D
 |false=>exact(n g K z k A p (G.on p o1)).lift o1 D
noncomputable def jf:zH->CmpOp
 |.eq=>.Eq|.ne=>.NotEq|.lt=>.Lt|.le=>.LtE|.gt=>.Gt|.ge=>.GtE|.is=>.Is|.ku=>.IsNot|.in=>.In|.qn=>.NotIn
structure kR(g₀:MV):Prop where
 mods:∃o,g₀.get? OC=S o
theorem kR.ne(x:kR e)(K:Inv a e g b k d.heap)(B:n∈b.M):(n==OC)=MT:=by refine dD x.mods λz D=>?_;have:=(K.keep _ z D).2;rw[OK];rintro rfl;exact this B
theorem rR(D:gn m au=S am):∃T,m=.bw T:=by
 refine hF λz=>?_;induction m using Wm with
 |bw T=>exact z ⟨T,rfl⟩
 |_=>induction au using RD<;>exact nX D
theorem qC{T:V Z}(D:gn (.bw T) (m :: au)=S am):∃x o,m=.bw x/\gn (.bw T) au=S o/\(x==T||o)=am:=by
 induction m using Wm with
 |bw x=>obtain⟨o,D,B⟩:=Sb.mp D;exact qq x o rfl D B
 |_=>exact nX D
noncomputable def hasB(T:V Z):MO->MP
 |.bytes M _=>M.toList.map SM==T
 |_=>MT
theorem uX{T:V Z}:∀{C:MP} {j:V MO},gn (.bw T) au=S C->bM U x b au j->
  (∀s∈j,∃M n,s=.bytes M n)/\C=j.any (hasB T):=by
 induction au with
 |nil=>intro C j D B;obtain rfl:=B.inv;exact⟨λs J=>(nomatch J),(sX D).symm⟩
 |cons I au d=>
  intro C j D B;refine mX B.inv λY c rM p G=>?_;clear B;subst rM;refine mX (qC D) λa o iR m lO=>?_;clear D;subst iR;subst lO;refine cg p.inv λM n lP v=>?_;clear p;subst lP;refine bK (d m G) λX rO=>?_;clear G m;subst rO;refine⟨λs J=>?_,v▸rfl⟩;rcases RC.mp J with rfl|J;·exact v7 M n rfl
  ·exact X s J
theorem uY(B:VR U x b m aa):isNone m=N\/isNone m=S (aa==.none)/\plainIs aa .none=ML:=VR.casesOn (motive_1:=λm aa Y=>isNone m=N\/isNone m=S (aa==.none)/\plainIs aa .none=ML) B (.inr ⟨rfl,rfl⟩) (λY=>.inr ⟨rfl,rfl⟩) (λY Y=>.inr ⟨rfl,rfl⟩) (λY Y Y=>.inr ⟨rfl,rfl⟩) (λY Y Y Y=>.inr ⟨rfl,rfl⟩) (λY=>.inr ⟨rfl,rfl⟩) (λY=>.inr ⟨rfl,rfl⟩) (λY Y Y=>.inr ⟨rfl,rfl⟩) (λY Y Y=>.inr ⟨rfl,rfl⟩) (λY Y Y=>.inr ⟨rfl,rfl⟩) (λY Y Y Y=>.inr ⟨rfl,rfl⟩) (λY Y Y Y Y Y=>.inr ⟨rfl,rfl⟩) (λY Y Y Y Y Y=>.inr ⟨rfl,rfl⟩) (λY Y Y Y Y Y Y Y Y=>.inr ⟨rfl,rfl⟩) (λY Y Y Y Y Y Y Y Y Y Y Y=>.inl rfl)
theorem is_none{M:Q}{c:MO}(a:VR U x b m c)(w:VR U x b M aa)(D:(match (generalizing:=false) M with|.none=>isNone m|_=>N)=S am):aa=.none/\plainIs c .none=ML/\(c==.none)=am:=by
 induction M using Wm with
 |none=>
  refine⟨w.inv,?_⟩;rcases uY a with B|⟨B,L⟩;·exact nX (B.symm.trans D)
  ·exact⟨L,sX (B.symm.trans D)⟩
 |_=>exact nX D
theorem oZ{M:Q}{c:MO}{f:MN->MN->O MP}(a:VR U x b m c)(w:VR U x b M aa)(D:(match (generalizing:=false) m,M with|.int r,.int s=>f r s|_,_=>N)=S am):∃r s n X,c=.int r n/\aa=.int s X/\f r s=S am:=by
 induction m using Wm with
 |int r=>induction M using Wm with
  |int s=>obtain⟨n,B⟩:=a.inv;obtain⟨X,d⟩:=w.inv;exact Iy r s n X B d D
  |_=>exact nX D
 |_=>exact nX D
theorem FQ{M:Q}(D:E6 k m M=S am):(∃w T,M=.lst w/\m=.bw T/\gn (.bw T) w=S am)\/∃H l P,M=.ab H/\k.D[H]? = S l/\eG m l=S P/\P.isSome=am:=by
 induction M using Wm with
 |lst w=>obtain⟨T,rfl⟩:=rR D;exact .inl (qq w T rfl rfl D)
 |ab H=>exact iQ D λl i X=>wc X λP a s=>.inr (zA H l P rfl i a s)
 |_=>exact nX D
theorem xd{M:Q}{U P:MO}(x:f.units+64<NB)(v:kR e)(K:Inv a e g b k d.heap)(c:VR a.params (Sf d.heap b g) b m U)(w:VR a.params (Sf d.heap b g) b M P)(D:E6 k m M=S am) :
  (∀o I,(∀t,o (.bool am) {d with toks:=d.toks+t})->MZ (MY h a) f (Py .In U P) o I d)/\(∀o I,(∀t,o (.bool !am) {d with toks:=d.toks+t})->MZ (MY h a) f (Py .NotIn U P) o I d):=by
 refine hF λL=>?_;rcases FQ D with⟨vs,T,rfl,rfl,D⟩|⟨H,as,a0,rfl,i,E,rfl⟩
 ·refine dF w.inv λr j t oV sx A=>?_;subst oV;refine cg c.inv λM n oW l=>?_;subst oW;refine bK (uX D A) λp G=>?_;have C:∀s,s∈j->EqAt f.in1 d s (.bytes M n) (hasB T s):=λs z=>by refine mN (p s (M5.mem_toList_iff.mpr z)) λb' X rP=>?_;clear z;subst rP;exact λh a I o B=>PySem.W.eqBool_bytes ((oS rfl l).symm▸B)
  have Y:=G.trans (V3 ..);clear A l p G x D;subst Y;exact L ⟨λo I B=>in_listAt _ (bb sx.1) C (B 0),λo I B=>notIn_listAt _ (bb sx.1) C (B 0)⟩
 ·refine aM w.inv λa1 w0 J=>?_;clear w D;subst w0;exact zT (fD K i J) λy ep dk r=>L (zY (own:=g) (E8 x rfl) (v.ne K (fQ J)) r c E)
theorem tT{l:zH}{M:Q}{U p:MO}(i:f.units+64<NB)(v:kR e)(K:Inv a e g b k d.heap)(c:VR a.params (Sf d.heap b g) b m U)(w:VR a.params (Sf d.heap b g) b M p)(D:cq k l m M=S am)
  (B:∀x,ai (.bool am) {d with toks:=d.toks+x}):MZ (MY h a) f (Py (jf l) U p) ai t d:=by
 have E:ai (.bool am) d:=B 0;induction l using zH.casesOn with
 |eq=>exact(wX K i c w D).1 h a t ai E
 |ne=>refine wc D λo j CX=>?_;subst CX;exact(wX K i c w j).2 h a t ai E
 |is=>obtain⟨rfl,P,rfl⟩:=is_none c w D;exact wpAny_is_plain P E
 |ku=>
  have D:(match (generalizing:=false) M with|.none=>(isNone m).map (!·)|_=>N)=S am:=D
  refine hF λH=>?_
  obtain⟨o,j,rfl⟩:∃o,(match (generalizing:=false) M with|.none=>isNone m|_=>N)=S o/\(!o)=am:=by
   induction M using Wm with
   |none=>exact Sb.mp D
   |_=>exact nX D
  refine fK (is_none c w j) λFU P FV=>?_
  subst FU
  subst FV
  exact H (wpAny_isNot_plain P E)
 |«in»=>exact(xd i v K c w D).1 ai t B
 |qn=>refine wc D λo j CY=>?_;subst CY;exact(xd i v K c w j).2 ai t B
 |lt=>obtain⟨r,s,n,X,rfl,rfl,D⟩:=oZ (f:=wj .lt) c w D;exact Wi ((sX D).symm▸E)
 |le=>obtain⟨r,s,n,X,rfl,rfl,D⟩:=oZ (f:=wj .le) c w D;exact Wj ((sX D).symm▸E)
 |gt=>obtain⟨r,s,n,X,rfl,rfl,D⟩:=oZ (f:=wj .gt) c w D;exact Wk ((sX D).symm▸E)
 |ge=>obtain⟨r,s,n,X,rfl,rfl,D⟩:=oZ (f:=wj .ge) c w D;exact Wl ((sX D).symm▸E)
theorem SE.cmp{z:zH}{I M:LE}(k:f.units+64<NB)(hm:kR e)(r:SE h a e l c j f i I aj)(a0:SE h a e l c j f i M s)(w:P5 (jf z) s=MT):SE h a e l c j f i (.cmp z I M) (.Compare aj [jf z] [s] J):=by
 intro g y b t A p G B;refine R rF (wpAny_Compare1 ((r g y b t A p G).step G.inv (λI d K T U X o1 E H=>?_) B) w);refine R X (R Res.aP ?_);refine(a0 g K d T A p (G.on p o1)).dg o1 (λM L x o P m o2 n v Y=>?_) H;refine R m (R Res.aP ?_);induction D:cq L z I M using Ry with
 |none=>exact bX (D▸Y)
 |some C=>exact tT k hm o2.inv (n.vr E) v D λq=>.ok (o2.trans (.tok o2.inv)) (.bool C)
theorem ST.cmp{z:zH}{I M:LE}(k:f.units+64<NB)(hm:kR e)(r:SE h a e l c j f i I aj)(a0:SE h a e l c j f i M s)(w:P5 (jf z) s=MT):ST h a e l c j f i (.cmp z I M) (.Compare aj [jf z] [s] J):=by
 intro g y b t A p G B;have Y:mO i (.cmp z I M) A b=(aO i I A b).bind λy=>(aO i M A y.2).bind λL=>match cq L.2 z y.1 L.1 with|some E=>.ok (E,L.2)|none=>.bad:=by
  refine eP.trans ((bL rF).trans ?_)
  cases aO i I A b with
  |ok P=>
   dsimp only[Res.aP]
   cases aO i M A P.2 with
   |ok L=>dsimp only[Res.aP];induction(cq L.2 z P.1 L.1) using Ry<;>rfl
   |exc _ _=>rfl
   |bad=>rfl
  |exc _ _=>rfl
  |bad=>rfl
 rw[Y] at B;refine R Y ?_;refine wpAny_isTrue_Compare1 ((r g y b t A p G).step G.inv (λI d K s1 U X o1 v1 T=>?_) B) w;refine R X (R Res.aP ?_);refine(a0 g K d s1 A p (G.on p o1)).dg o1 (λM H2 x o vb m o2 n v H=>?_) T;refine R m (R Res.aP ?_);induction D:cq H2 z I M using Ry with
 |none=>exact bX (D▸H)
 |some C=>exact tT k hm o2.inv (n.vr v1) v D λq=>OB (.ok (o2.trans (.tok o2.inv)) rfl)
structure Fc(K:NA):Prop where
 ga:∀c,c≠.bQ->N8 K (.ref (CA c)) "__getattribute__"=S (S (.builtin "object.__getattribute__"))
 Hv:∀c,c≠.bQ->N8 K (.ref (CA c)) "__getattr__"=S N
 cls:∀c,∃cd,OD K (CA c)=S cd/\cd.hasDict=ML
 IJ:∀c,c≠.bQ->∀k∈bS c,N8 K (.ref (CA c)) (sx k)=S N
 aU:∀c m f,oG c m=S f->m≠26->c≠.bQ/\f<60/\m<NS/\m∉bS c/\N8 K (.ref (CA c)) (sx m)=S (S (.ref (FA f)))
 fn:∀k,k<60->Oc K (.ref (FA k))=S (.type "function")/\Pe K (.ref (FA k))=ML
 BS:∀c,Pe K (.ref (CA c))=ML
 lvl:N8 K (.ref (CA .Mem)) (sx 26)=S (S (.ref 359))/\P6 K (.ref 359) "__get__"=S (S (.builtin "property.__get__"))/\takesIn K (.ref 359)=S ML/\∃rest,recIn K 359 "property"=S (.ref (FA 20) :: rest)
structure C1(K:NA):Prop where
 sa:∀c,c≠.bQ->N8 K (.ref (CA c)) "__setattr__"=S (S (.builtin "object.__setattr__"))/\plainOver K (CA c)=ML
 xe:∀c,c≠.bQ->∀k∈bS c,PB K (CA c) (sx k)=S N
structure uZ(K:NA):Prop where
 ga:N8 K (.ref (CA .bQ)) "__getattribute__"=S (S (.builtin "BaseException.__getattribute__"))
 Hv:N8 K (.ref (CA .bQ)) "__getattr__"=S N
 IJ:∀k∈bS .bQ,N8 K (.ref (CA .bQ)) (sx k)=S N
 sub:mroIn K (CA .bQ) (.type "BaseException")=S ML
 cls:∃cd,OD K (CA .bQ)=S cd/\cd.hasDict=ML
theorem gq:∀C,∀H∈bS C,H<NS:=by intro C;induction C using dG.casesOn<;>decide +kernel
theorem lq:∀C,(bS C).Nodup:=by intro C;induction C using dG.casesOn<;>decide +kernel
theorem C2{I:Z}:∀{T:V Z} {K:Z},Hm I T=S K->T[K]? = S I:=by
 intro T;induction T with
 |nil=>intro _ B;exact nomatch B
 |cons M y f=>
  intro K B;replace B:(if I==M then S 0 else(Hm I y).map (· + 1))=S K:=B;refine v9 (I==M) (λD=>?_) (λD=>?_);·replace B:=D▸B;exact wc B λi p bE=>R bE.symm (f p)
  ·replace B:=D▸B;obtain rfl:=Sl B;refine R (N'.mp D) ?_;rfl
theorem zZ{C:dG}(B:C≠.bQ):Fm C=bS C:=by induction C using dG.casesOn<;>first|rfl|exact(B rfl).elim
theorem nO(I:Z):gG .bQ I=N:=rfl
theorem qD{C:dG}{I:Z}(B:gG C I=S ag):(bS C)[ag]? = S I:=by
 have:C≠.bQ:=λD=>by exact nX (D▸B)
 exact R (zZ this).symm (C2 B)
structure bo(hd:O MO)(n:Z)(A:Nw)(l:V Ng):Prop where
 handled:A.handled=hd
 frames:A.frames=S l
 depth:A.depth+4*n+8<QE
 units:A.units+20*n+200<NB
theorem bo.in1(B:bo bh (q+1) f l):bo bh q f.in1 l:=⟨B.handled,B.frames,KC B.depth,FD B.units rfl⟩
theorem bo.less{x:Z}(B:bo bh q f l)(H:x<=q):bo bh x f l:=⟨B.handled,B.frames,JB H B.depth,JB H B.units⟩
theorem FR.find(n:ae.Nodup)(e:∀H∈ae,H<NS):∀{l:V Q} {y:V Nt} {K H:Z} {I:Q},FR U x b ae l y->ae[K]? = S H->l[K]? = S I->
  ∃D,y.find? (λD=>D.key.isStr (sx H))=S D/\VR U x b I D.val:=by
 induction ae with
 |nil=>intro l y K H I B D;exact nX D
 |cons r ae d=>
  intro l y K H I B D j
  rw[RW] at n
  cases B with
  |@cons _ w P t _ l y p G=>
   induction K using RY with
   |zero=>obtain rfl:=sX D;obtain rfl:=sX j;exact ba ⟨Su U (sx r),.str (sx r) t,P⟩ (by refine Vh.trans ?_;simp[MO.isStr]) p
   |succ K=>
    simp only[V.getElem?_cons_succ] at D j;refine aM (d n.2 (λH J=>e H (.tail _ J)) G D j) λg X m=>ba g ?_ m;refine Vh.trans ?_;have J:=RJ D;have:(MO.str (sx r) t).isStr (sx H)=MT:=by refine(jR (e r (.head _)) (e H (.tail _ J))).trans ?_;rw[OK];rintro rfl;exact n.1 J
    exact R this X
theorem FR.none(e:∀H∈ae,H<NS):∀{l:V Q} {y:V Nt} {H:Z},FR U x b ae l y->H<NS->H∉ae->y.find? (λD=>D.key.isStr (sx H))=N/\y.any (·.refKey)=MT:=by
 induction ae with
 |nil=>intro l y H B _ _;cases B;exact⟨rfl,rfl⟩
 |cons r ae d=>
  intro l y H B J n
  cases B with
  |@cons _ w P t _ l y p G=>
   refine bK (d (λH J=>e H (.tail _ J)) G J λa=>n (.tail _ a)) λX m=>?_;refine⟨?_,by refine VC.trans ?_;refine m.trans ?_;rfl⟩;refine Vh.trans ?_;have:(MO.str (sx r) t).isStr (sx H)=MT:=by refine(jR (e r (.head _)) J).trans ?_;rw[OK];rintro rfl;exact n (.head _)
   exact R this X
theorem VR.handed(B:VR U x b m aa):handedIn aa=ML:=by induction B using VR.casesOn<;>rfl
theorem kE{J:MU}{D:Nt}(B:C.toList.find? (λD=>D.key.isStr J)=S D):PC J (bB C q)=S (S D.val):=by unfold PC;simp only[B]
theorem qE{J:MU}(B:C.toList.find? (λD=>D.key.isStr J)=N)(m:C.toList.any (·.refKey)=MT):PC J (bB C q)=S N:=by unfold PC;simp only[B,m,SU,Oj]
structure iE(s:MW)(x d:MS)(c:dG)(es:M5 Nt)(n:Z):Prop where
 x:s.heap.get? x=S (ND (CA c) d)
 d:s.heap.get? d=S (bB es n)
theorem iE.inst{r:MS}{a:dG}(B:iE d r A a C q):InstAt d.heap r (ND (CA a) A) (CA a) (S (bB C q)):=⟨B.x,rfl,rfl,B.d⟩
theorem iE.tok{r:MS}{a:dG}{b:Z}(B:iE d r A a C q):iE {d with toks:=b} r A a C q:=⟨B.x,B.d⟩
theorem tU{r:MS}{c:dG}{I:Z}{S:SP}{o:MP}(z:Fc v)(n:v.In d.heap)(j:c≠.bQ)(k:iE d r A c C q)(e:FR a.params S b (bS c) au C.toList)(D:gG c I=some ag)(Y:au[ag]? = some aw)
  (l:∀B,VR a.params S b aw B->ai B {d with toks:=d.toks+1}):MZ (MY h a) f (Pf (.ref r) (sx I) o) ai t d:=by
 have J:=qD D;refine aM (e.find (lq c) (gq c) J Y) λg X m=>aM (z.cls c) λK p G=>?_;have M:findObj v (CA c) (some (bB C q)) (sx I)=some (.value g.val):=by refine(oL p).trans ?_;refine(TG ..).trans ?_;refine(oL (z.IJ c j I (RJ J))).trans ?_;refine(TG ..).trans ?_;have i:Wb K (some (bB C q)) (sx I)=some (some g.val):=(Nb G).trans (kE X);show Vl (Wb K (some (bB C q)) (sx I)) _=_;refine(oL i).trans ?_;rfl
 exact get_value n k.inst (z.ga c j) M m.handed (l _ m)
noncomputable def fE:Key->MS
 |.fn H=>FA H
 |.cls C=>CA C
noncomputable def RR(a:Nj)(d:MV)(g:V MS)(T:V Ng)(e:Res (Q×AH))(y:bH)(t:MW):NQ->MW->Prop:=λr v=>match r with
 |.ok (.ret E)=>QQ a d g (lL a) [] e y t E v
 |.ok _=>Nx
 |.error D=>EE a d g T e.x? y t D v
structure iy(prog:Nv)(w:Nj)(g₀:MV)(hd:O MO)(cf:CF)(n:Z):Prop where
 run:∀own l A key args H r s vs,bo hd n A l->Inv w g₀ own r H s.heap->cK l own [] s.heap->bM w.params (Sf s.heap r own) r args vs->cf key args H≠.bad->
  NK (MY prog w) A (.call (.ref (fE key)) ⟨vs,[]⟩) (RR w g₀ own l (cf key args H) r s) s
structure Gr(K:NA)(g₀:MV)(p:Nv)(loose:V MU)(mg mb:MU->O MO):Prop where
 ok:Fc K
 X:K.In g₀
 T:TopRead p loose mg mb g₀
 mods:kR g₀
 err:uZ K
 set:C1 K
noncomputable def eJ:MQ->MP
 |.Call (.Name _ _) [] [] _=>MT
 |_=>ML
theorem gr{I:MU}{w:Nm MO}(B:eJ aj=ML):attributeBase aj I c w=w:=by
 induction aj using PySem.Expr.casesOn with
 |Call A j k P=>
  induction A using PySem.Expr.casesOn with
  |Name J L=>
   induction j using RD with
   |nil=>induction k using RD with
    |nil=>exact Nh B RX
    |cons _ _=>exact Eq.refl w
   |cons _ _=>exact Eq.refl w
  |_=>exact Eq.refl w
 |_=>exact Eq.refl w
theorem Gr.In(C:Gr v e P be bg bf)(K:Inv a e g b k d.heap):v.In d.heap:=C.X.keeps λM z D=>(K.keep M z D).1
theorem SE.gl{env:Ng}{loc:Loc}(C:Gr v e P be bg bf)(o:NZ v NO r=S (S aa))(x:env.kindOf r=S .globalImplicit)(q:(r==("__debug__":MU))=MT)(c:∀b,aO i af loc b=.ok (m,b))(d:∀{T y},VR a.params T y m aa) :
  ∀g y b t,bk g env j->St a e g l env j y b loc t->jL a e g (MY h a) f l (lL a) (eval (.Name r J) env) (aO i af loc b) y t:=by intro g y b t p G B;refine R (c ..) ?_;exact PD p.kind x (P7 (env:=env) (R p.glob (C.T.g.keeps λM z af=>(G.inv.keep M z af).1)) (mg_of C.X C.T.g o) (.ok (.refl G.inv) d)) q
theorem SE.gf{A:Z}(C:Gr v e P be bg bf)(o:NZ v NO r=S (S (.ref (FA A))))(x:c.kindOf r=S .globalImplicit)(q:(r==("__debug__":MU))=MT):SE h a e l c j f i (.gf A) (.Name r J):=λg y b t d p G=>SE.gl (loc:=d) C o x q (λb=>rfl) (.fn A) g y b t p G
theorem SE.gc{C:dG}(d:Gr v e P be bg bf)(o:NZ v NO r=S (S (.ref (CA C))))(x:c.kindOf r=S .globalImplicit)(q:(r==("__debug__":MU))=MT):SE h a e l c j f i (.gc C) (.Name r J):=λg y b t A p G=>SE.gl (loc:=A) d o x q (λb=>rfl) (.cls C) g y b t p G
theorem SE.gi{K:MN}{n:NM}{d:Z}(C:Gr v e P be bg bf)(o:NZ v NO r=S (S (.int K n)))(x:c.kindOf r=S .globalImplicit)(q:(r==("__debug__":MU))=MT):SE h a e l c j f i (.gi d K) (.Name r J):=λg y b t A p G=>SE.gl (loc:=A) C o x q (λb=>rfl) (.int K n) g y b t p G
theorem lu(K:Inv a e g b k d.heap){C:dG}(J:b.I[H]? = S (n,A))(D:k.I[H]? = S (C,au)):∃y q,iE d n A C y q/\FR a.params (Sf d.heap b g) b (bS C) au y.toList:=by refine hF λp=>?_;obtain⟨o,y,q,G,c⟩:=K.dt.I H _ _ D J;exact p (dI y q ⟨o,G⟩ c)
theorem nP(l:handedIn aa=ML)(B:ai aa d):MZ T f (handedOut aa) ai t d:=by exact R (handedOut_of l) (M0 B)
theorem z0{s:MW}{r:MS}{x:Z}{d:MP}(z:Fc v)(c:v.In s.heap)(k:iE s r A .Mem C x)
  (B:NK (MY h a) f.in1 (.call (.ref (FA 20)) ⟨[.ref r],[]⟩) (λy b=>match y with|.ok (.ret E)=>handedIn E=ML/\ai E b|.ok _=>Nx|.error D=>Nx) {s with toks:=s.toks+1}) :
  MZ (MY h a) f (Pf (.ref r) (sx 26) d) ai t s:=by
 refine hF λn=>?_;obtain⟨p,G,T,j,X⟩:=z.lvl;refine aM (z.cls .Mem) λK e m=>?_;have M:findObj v (CA .Mem) (S (bB C x)) (sx 26)=S (.bind (.builtin "property.__get__") (.ref 359)):=by refine(oL e).trans ((oL p).trans ?_);show Vl (P6 v (.ref 359) "__get__") _=_;refine(oL G).trans ?_;show Vl (takesIn v (.ref 359)) _=_;refine(oL T).trans rfl
 refine n (get_bind c k.inst (z.ga .Mem (by decide)) M (z.Hv .Mem (by decide)) (ON (O2 (prop_get (s:={s with toks:=s.toks+1}) c X B) λy b U=>?_)));rcases y with D|(E|_|_|_);·exact U.elim
 ·exact U.elim
 ·exact U.elim
 ·exact U.elim
 ·exact nP U.1 U.2
section
open Builtin Builtin.ObjectAttr
theorem pa:Slot "BaseException" "__getattribute__" "BaseException.__getattribute__":=.of (owner:="BaseException") (n:="__getattribute__") (by refine(Od ..).trans ?_;refine R P8 ?_;kernel_rfl) (by decide +kernel) (by decide +kernel) (by decide +kernel) (by first|exact .inl (by decide +kernel)|exact .inr (rfl +kernel)) (by refine(Ou ..).trans ?_;kernel_rfl)
theorem z8{r:MS}{o:Nl}{I:Z}{w:V Q}{S:SP}{E:MP}(z:uZ v)(y:v.In d.heap)(x:d.heap.get? r=some o)(j:o.cls=.ref (CA .bQ))(P:o.dict=some A)(J:∃w,o.data=.fields w)(H:d.heap.get? A=some (bB C q))
  (T:FR a.params S b (bS .bQ) w C.toList) (D:(bS .bQ)[ag]? = some I) (Y:w[ag]? = some aw)
  (U:∀B,VR a.params S b aw B->ai B {d with toks:=d.toks+1}):MZ (MY h a) f (Pf (.ref r) (sx I) E) ai t d:=by
 refine aM (T.find (lq .bQ) (gq .bQ) D Y) λg X m=>?_;refine aM z.cls λK p G=>?_;have k:InstAt d.heap r o (CA .bQ) (some (bB C q)):=⟨x,j,by obtain⟨w,L⟩:=J;unfold notCls;refine R L rfl,by refine R P ?_;exact H⟩;have fo:findObj v (CA .bQ) (some (bB C q)) (sx I)=some (.value g.val):=by refine(oL p).trans ?_;refine(TG ..).trans ?_;refine(oL (z.IJ I (RJ D))).trans ?_;refine(TG ..).trans ?_;have i:Wb K (some (bB C q)) (sx I)=some (some g.val):=(Nb G).trans (kE X);show Vl (Wb K (some (bB C q)) (sx I)) _=_;refine(oL i).trans ?_;rfl
 clear X K p G x j P J H T D Y w;obtain⟨s,a0,c,n,e⟩:=d;have l:=k.type (M:=MY h a);refine MR (QF (Ny (MR (l.at (MR ((Pg (M:=MY h a) y z.ga).at ?_))))));refine MR ((Pg (M:=MY h a) y z.Hv).at (MR (OO (Ny ?_))));unfold callGetattribute;refine R (show(E&&onTheHeap (MO.builtin "BaseException.__getattribute__"))=MT from UO _) ?_;refine MR (M0 ?_);refine ON (Rj pa.plain PySem.F.entry_bexc_ga ?_);refine @P9 (MY h a) _ _ ⟨s,a0,c,n+1,e⟩ "BaseException.__getattribute__" "BaseException" "__getattribute__" (.ref r) [.str (sx I) n] [] _ (by decide +kernel) (by decide +kernel) (l.andThen (P' y z.sub)) (PySem.F.args_bexc_ga (.ref r) (.str (sx I) n)) ?_;refine MR (M0 (MR (M0 (MR (l.at (MR ((looks_find (M:=MY h a) y k fo).at ?_)))))));refine M0 ?_;exact nP (m.handed) (U _ m)
end
theorem z9:(bS .bQ)[0]? = S 76:=by decide +kernel
theorem lT(C:Gr v e P be bg bf){U:MO}{A:Z}{M:MP}(K:Inv a e g b k d.heap)(c:VR a.params (Sf d.heap b g) b m U)(D:dz k m A=some aw)
  (T:∀B,VR a.params (Sf d.heap b g) b aw B->ai B {d with toks:=d.toks+1}):MZ (MY h a) f (Pf U (sx A) M) ai t d:=by
 refine hF λl=>?_;have r:=C.In K;have G:∀{L:dG} {I:Z},gG L A=some I->L≠.bQ:=λX q=>nX ((nO A).symm.trans (q▸X));induction m using Wm with
 |obj L w=>refine qs c.inv λm Y y x cj s1 o E=>?_;subst cj;exact iQ D λI X p=>l (tU (S:=Sf d.heap b g) C.ok r (G X) ⟨s1.1,o.1⟩ E X p T)
 |aA H=>refine cg c.inv λm Y du J=>?_;subst du;exact iQ D λdV i D=>iQ D λI X p=>cg (lu K J i) λy x a0 E=>l (tU (S:=Sf d.heap b g) C.ok r (G X) a0 E X p T)
 |exc n=>
  refine K1 c.inv λm Y a1 y x xg s j hd hf sd E=>?_;clear G K c;subst xg;by_cases q:A=76;·subst q;obtain rfl:=sX (show some n=some aw from D);exact l (z8 (S:=Sf d.heap b g) C.err r s.1 j hd hf sd.1 E z9 rfl T)
  ·exact nX ((Nf q).symm.trans D)
 |_=>exact nX D
theorem xj{p:Z}(C:Gr v e P be bg bf)(L:iy h a e bh i p)(R:bo bh (p+1) f l){U:MO}{A:Z}{M:MP}(K:Inv a e g b k d.heap)(G:cK l g [] d.heap)(c:VR a.params (Sf d.heap b g) b m U) :
  jL a e g (MY h a) f l (lL a) (Pf U (sx A) M) (aG i k m A) b d:=by
 intro B;refine kA (dz k m A) (λD=>?_) (λE D=>?_)
 ·refine uP (tF D B) λH w q T hf s=>?_;subst q;subst hf;rw[s] at B⊢;refine cg c.inv λm I i7 J=>?_;clear c s D;subst i7;have o:i (.fn 20) [.aA H] k≠.bad:=λq=>B (by rw[q];rfl);refine cg (lu K J T) λy x a0 fr=>z0 C.ok (C.In K) a0 (O2 (L.run g l f.in1 (.fn 20) [.aA H] k b {d with toks:=d.toks+1} [.ref m] R.in1 K G (.cons (.aA H m I J) .nil) o) λa1 s' q=>?_);rcases a1 with D|(E|_|_|_)
  ·refine cg q λn r X Y=>Nh ?_ B
   induction q:i (.fn 20) [.aA H] k using Wn with
   |exc _ _=>rfl
   |ok _=>exact nX (q▸X)
   |bad=>rfl
  ·exact q.elim
  ·exact q.elim
  ·exact q.elim
  ·refine dF q λa' r t X z j=>?_;exact⟨j.handed,a',r,t,by rw[X];rfl,(aQ.tok K).trans z,j⟩
 ·have s:aG i k m A=.ok (E,k):=by unfold aG;rw[D]
  exact s▸lT C K c D λv' j=>.ok (.tok K) j
theorem SE.attr{A:Z}(C:Gr v e P be bg bf)(M:iy h a e bh i q)(R:bo bh (q+1) f l)(d:SE h a e l c j f i af aj)(x:eJ aj=ML):SE h a e l c j f i (.attr af A) (.Attribute aj (sx A) J):=by intro g y b t m p G B;rw[hV] at B⊢;refine Attribute_any_ ((d g y b t m p G).step G.inv (λI z K k U X o1 E D=>?_) B) (by refine(Rk ..).trans ?_;rw[gr x]);rw[X];exact(xj C M R o1.inv (G.live.keep G.inv o1) E).lift o1 D
theorem bC{A:MO}{X:V (MP×Nm MO)}{o:Args->MW->Prop}(s:X.any (·.1)=MT)(B:MZ T f (O1 X) (λw b=>o ⟨w,[]⟩ b) t d):MZ T f (evalArgs A ML X []) o t d:=by
 induction X using RD with
 |nil=>exact λa P h=>(MR (Nk B (λw b U=>M0 U) λY Y D=>D)) a P h
 |cons q j=>obtain⟨M,r⟩:=q;simp only[VC,UD] at s;refine bK s λjQ s=>?_;subst jQ;exact evalArgs_plain B
theorem m8.noStar{pos:Ni}{y:cz}{b:V MQ}(r:m8 h a e l c j f i y b):(NW pos (NT b c)).any (·.1)=MT:=by
 induction r with
 |nil=>rfl
 |cons _ w _ d=>exact R (bx w) d
theorem tV{c:AH}{k:Key}{w:V MO}{X:V Q}(j:iy h a e bh i q)(R:bo bh q f l)(K:Inv a e g b c d.heap)(M:cK l g [] d.heap)(P:bM a.params (Sf d.heap b g) b X w):jL a e g (MY h a) f l (lL a) (N3 (.ref (fE k)) w) (i k X c) b d:=by intro B;refine ON (O2 (j.run g l f k X c b d w R K M P B) λU v L=>?_);rcases U with D|(E|_|_|_)<;>exact L
theorem jg(z:Fc v){k:Key}(B:∀A,k=.fn A->A<60):Pe v (.ref (fE k))=ML:=by
 induction k using Key.casesOn with
 |fn A=>exact(z.fn A (B A rfl)).2
 |cls C=>exact z.BS C
theorem z'{U:MO}{H:Key}(E:VR a.params (Sf d.heap b g) b m U)(D:keyOf m=S H):U=.ref (fE H)/\∀A,H=.fn A->A<60:=by
 induction m using Wm with
 |fn i=>
  by_cases B:i<60;·obtain rfl:=sX ((Nb B).symm.trans D);exact⟨E.inv,λA D=>Key.fn.inj D▸B⟩
  ·exact nX ((Nf B).symm.trans D)
 |cls C=>obtain rfl:=sX D;exact⟨E.inv,λA D=>nomatch D⟩
 |_=>exact nX D
theorem SE.call{a0:LE}{y:cz}{d:V MQ}(C:Gr v e P be bg bf)(M:iy h a e bh i q)(R:bo bh (q+1) f l)(a1:SE h a e l c j f i a0 aj)(s:m8 h a e l c j f i y d)
  (x:∀z I P,aj≠.Attribute z I P):SE h a e l c j f i (.call a0 y) (.Call aj d [] J):=by
 intro g a2 b t A p G T;rw[oH] at T⊢;have he:eval (.Call aj d [] J) c=(do PE J (<-eval aj c) [] (NW J (NT d c)) []):=by induction aj using T3<;>first|rfl|exact Nh rfl (x _ _ _)
 rw[he];refine MR ((a1 g a2 b t A p G).step G.inv (λI H1 K k U X o1 E D=>?_) T);rw[X,Res.aP];induction L:keyOf I using Ry with
 |none=>exact bX (L▸D)
 |some H=>replace D:=L▸D;dsimp only at D⊢;refine bK (z' E L) λlM a3=>?_;clear X E he T a1 x;subst lM;have w:=jg (k:=H) C.ok a3;refine QG (P:=λB=>v.In B) (by rw[s.noStar];rfl) (λB r=>PF w B r) (bC s.noStar ((s.run g K H1 k A p (G.on p o1)).dg o1 (λa4 H2 r2 o vb m o2 n v2 Y=>?_) D));refine⟨C.In o2.inv,?_⟩;rw[m];exact(tV M (R.less (So _)) o2.inv ((G.live.keep G.inv o2)) v2).lift o2 Y
theorem lU{z:MQ}{m:MU}{i:Ni}{j:V MQ}(x:eJ z=ML)(P:(NW J (NT j c)).any (·.1)=MT)(l:(i.endLine==J.line)=ML)(n:j.length<30)
  (B:MZ (MY h a) f (eval z c) (λy k=>∀pl,MZ (MY h a) f (QH y m pl) (λg o=>MZ (MY h a) f (PE J g.1 g.2 (NW J (NT j c)) []) ai t o) t k) t d) :
  MZ (MY h a) f (eval (.Call (.Attribute z m i) j [] J) c) ai t d:=by
 refine R (arm_eval_Call ..) ?_;refine R (gr x) ?_;refine MR (Nk B (λy k p=>MR (NX ?_)) λY Y D=>D);have b:methodCallForm (j.length+([]:V Keyword).length) (NW J (NT j c)) (backToKw J (keywordEach [] c))=ML:=by have:(NW J (NT j c)).all (λL=>!L.1)=ML:=Sh.mpr λL e=>(Ta L.1).mpr (U5.mpr (U6.mp P L e));show((NW J (NT j c)).all (λL=>!L.1)&&ML&&MX (j.length+0+0<30))=ML;exact R this (Nn n)
 unfold methodCall;refine R b (MR (Ny ?_));refine Nk (p _) (λg o G=>?_) λY Y D=>D;exact R (show methodCallPos ML z c i J=pure J from Nb (show(!ML||i.endLine==J.line)=ML from l)) (MR (M0 G))
theorem shadow{d:MS}{c:dG}{x:Z}{S:SP}(A:FR a.params S b (bS c) au C.toList)(e:ag<NS)(n:ag∉bS c):shadowIn (some (bB C x)) (sx ag)=some MT:=by refine bK (A.none (gq c) e n) λp G=>?_;show UE _ (PC (sx ag) (bB C x))=_;exact R (qE p G) rfl
noncomputable def JN:Q->Z->Oe
 |.aE _,x=>if x=44 then "list.append" else "list.pop"
 |_,x=>if x=48 then "dict.get" else "dict.pop"
theorem C3{x:Z}(D:aK k m x=S .bI):(∃H,m=.aE H/\(x=44\/x=51))\/∃H,m=.ab H/\(x=48\/x=51):=by
 induction m using Wm with
 |aE H=>
  by_cases B:x=44\/x=51;·exact .inl ⟨H,rfl,B⟩
  ·exact nX ((Nf B).symm.trans D)
 |ab H=>
  by_cases B:x=48\/x=51;·exact .inr ⟨H,rfl,B⟩
  ·exact nX ((Nf B).symm.trans D)
 |aA H=>
  have D:(match k.I[H]? with|some (C,_)=>if x=26 then N else(oG C x).map .own|none=>N)=S Recv.bI:=D
  revert D
  cases k.I[H]? with
  |none=>exact nX
  |some L=>
   intro D;by_cases B:x=26;·exact nX ((Nb B).symm.trans D)
   ·exact wc ((Nf B).symm.trans D) λA Y L=>nomatch L
 |_=>exact nX D
theorem u0{U:MO}{x:Z}{pl:Nm MP}{l:MO×V MO->MW->Prop}(K:Inv a e g b k d.heap)(c:VR a.params (Sf d.heap b g) b m U)(D:aK k m x=S .bI)(n:∀H,m=.aE H->H<k.L.length)(p:∀H,m=.ab H->H<k.D.length)
  (B:l (.builtin (JN m x),[U]) d):MZ (MY h a) f (QH U (sx x) pl) l t d:=by
 refine hF λA=>?_;have s:sx 44="append":=by decide +kernel
 have w:sx 51="pop":=by decide +kernel
 have r:sx 48="get":=by decide +kernel
 rcases C3 D with⟨H,rfl,q⟩|⟨H,rfl,q⟩
 ·refine aM c.inv λm rM J=>?_;subst rM;refine cg (K.dt.L H _ m (RB (n H rfl)) J) λj z o Y=>?_;refine Wg q (λE=>?_) λi=>?_;·subst E;exact A (s▸Qa ⟨_,o,rfl⟩ PySem.F.plainAttrs_list PySem.F.slot_list_append PySem.F.type_list_append (λM D=>UW D▸⟨_,o,rfl⟩) B)
  ·subst i;exact A (w▸Qa ⟨_,o,rfl⟩ PySem.F.plainAttrs_list PySem.F.slot_list_pop PySem.F.type_list_pop (λM D=>UW D▸⟨_,o,rfl⟩) B)
 ·refine aM c.inv λm iR J=>?_;subst iR;refine wb (K.dt.D H _ m (RB (p H rfl)) J) λy z v o Y=>?_;rcases q with rfl|rfl;·exact A (r▸Qa ⟨_,o,rfl⟩ PySem.F.plainAttrs_dict PySem.F.slot_dict_get PySem.F.type_dict_get (λM D=>UW D▸⟨_,o,rfl⟩) B)
  ·exact A (w▸Qa ⟨_,o,rfl⟩ PySem.F.plainAttrs_dict PySem.F.slot_dict_pop PySem.F.type_dict_pop (λM D=>UW D▸⟨_,o,rfl⟩) B)
theorem Aa(K:Inv a e g b k d.heap){U:MO}(c:VR a.params (Sf d.heap b g) b m U):(∀H,m=.aE H->H<k.L.length)/\∀H,m=.ab H->H<k.D.length:=by
 refine⟨λH D=>?_,λH D=>?_⟩;·subst D;obtain⟨m,_,J⟩:=c.inv;exact K.dt.gW▸(RG.mp J).1
 ·subst D;obtain⟨m,_,J⟩:=c.inv;exact K.dt.i9▸(RG.mp J).1
theorem kF(i:M5 MO)(q:Z)(A:M5 MO->M5 MO):∃B,V' A (listOf i q)=listOf (A i) B:=⟨_,rfl⟩
inductive MC(H:AH):Q->Z->V Q->Q×AH->Prop
 |app {k:Z} {ws:V Q} {x:Q} (e:H.L[k]? = S ws) (h:ws.length<1000):MC H (.aE k) 44 [x] (.none,{H with L:=H.L.set k (ws++[x])})
 |pop {k:Z} {ws:V Q} {x:Q} (e:H.L[k]? = S ws) (h:ws.length<1000) (ex:ws.getLast? = S x):MC H (.aE k) 51 [] (x,{H with L:=H.L.set k ws.dropLast})
 |get {k:Z} {as:V (Q×Q)} {x:Q} {res:O Q} (e:H.D[k]? = S as) (ex:cW as x=S res):MC H (.ab k) 48 [x] (res.getD .none,H)
 |FW {k:Z} {as JO:V (Q×Q)} {x v:Q} (e:H.D[k]? = S as) (h:as.length<1000) (ex:cW as x=S (S v)) (ed:uM as x=S JO):MC H (.ab k) 51 [x] (v,{H with D:=H.D.set k JO})
theorem Ab{x:Z}{L:Q×AH}(D:gH k m x au=S L):MC k m x au L:=by
 induction m using Wm with
 |aE H=>
  refine cA (c:=x=44) D (λB D=>?_) λY D=>cA (c:=x=51) D (λB D=>?_) λY D=>nX D
  ·refine R B ?_;rcases au with _|⟨r,_|⟨s,y⟩⟩;·exact nX D
   ·exact iQ D λf i D=>cA D (λP D=>sX D▸.app i (M8 P)) λY D=>nX D
   ·exact nX D
  ·refine R B ?_;rcases au with _|⟨r,y⟩;·refine iQ D λf i D=>cA D (λP D=>?_) λY D=>nX D;exact wc D λr n D=>D▸.pop i (M8 P) n
   ·exact nX D
 |ab H=>
  refine cA (c:=x=48) D (λB D=>?_) λY D=>cA (c:=x=51) D (λB D=>?_) λY D=>nX D
  ·refine R B ?_;rcases au with _|⟨r,_|⟨s,y⟩⟩;·exact nX D
   ·exact iQ D λl i D=>wc D λe n D=>D▸.get i n
   ·exact nX D
  ·refine R B ?_;rcases au with _|⟨r,_|⟨s,y⟩⟩;·exact nX D
   ·refine iQ D λl i D=>cA D (λP D=>?_) λY D=>nX D;exact iQ D λE n D=>wc D λa d D=>iQ n λe b w=>D▸.FW i (M8 P) (b.trans (Nc S w)) d
   ·exact nX D
 |_=>exact nX D
theorem jZ{x:Z}(B:q<1000)(D:q=x):x<N1:=by have:N1=_:=N9;exact D.symm▸n1 B rfl
theorem pop_list{j:M5 MO}:(j.eraseIdxIfInBounds (j.size - 1)).toList=j.toList.take (j.size - 1):=by
 unfold Ui;by_cases B:j.size - 1<j.size;·refine R (dif_pos B) ?_;refine M5.toList_eraseIdx.trans ?_;refine(V.eraseIdx_eq_take_drop_succ ..).trans ?_;refine R (V.drop_of_length_le (by refine R RI ?_;exact JD)) ?_;exact(Sy ..)
 ·have:j = #[]:=M5.size_eq_zero_iff.mp (KI B);exact R this rfl
theorem u1{va:MO}{us:V MO}{x:Z}(hm:kR e)(hu:f.units+64<NB)(K:Inv a e g b k d.heap)(c:VR a.params (Sf d.heap b g) b m va)(P:bM a.params (Sf d.heap b g) b au us)(D:aK k m x=S .bI) :
  jL a e g (MY h a) f l (lL a) (PySem.call (.builtin (JN m x)) (va :: us)) (.of (gH k m x au)) b d:=by
 intro B;induction L:gH k m x au using Ry with
 |none=>exact bX (L▸B)
 |some q=>
 have U:=Ab L;clear L B D;have c:=c.inv;have w:f.units+1<NB:=E8 hu rfl;induction U using MC.casesOn with
 |app p I=>refine aM c λm lO J=>R lO (aM P.one λa1 lP X=>R lP (cg (K.dt.L _ _ m p J) λj H o A=>QI o (λh' i G=>?_) (Tg (jZ I (A.len.trans RI)))));exact .ok (r':=b) (.mk' (K.CR J i G (R M5.toList_push (A.append (.cons X .nil)))) (.but (a:=m) (λM z q U=>(i.2 M q).trans U) (.inl (kC J))) (.refl b)) .none
 |pop p I n=>
  refine aM c λm rO J=>R rO ?_;obtain rfl:=P.qt;refine hF λt=>cg (K.dt.L _ _ m p J) λj H o A=>?_;have s:=A.len.trans RI;replace n:=V.getLast?_eq_getElem?▸n;refine aM (lS A n) λa3 ey Y=>?_;rw[s] at ey;refine t ?_;show MZ _ _ (PySem.call (.builtin "list.pop") [.ref m]) _ _ _;refine call_meets PySem.F.slot_list_pop (ba _ o rfl) PySem.F.entry_list_pop (PySem.F.args_list_pop_1 _) (MeetsSeq.list_pop_last m j H a3 ey (Tg (jZ I s))) ⟨o,?_⟩;refine dD (kF j H λxs=>xs.eraseIdxIfInBounds (j.size - 1)) λn' a0=>?_;generalize hf:V' (λxs=>xs.eraseIdxIfInBounds (j.size - 1))=a2 at a0⊢;have G:(d.heap.update m a2).get? m=S (listOf (j.eraseIdxIfInBounds (j.size - 1)) n'):=by refine(R9 _ o (by refine R a0 ?_;rfl)).trans ?_;rw[a0]
  have i:Sx m d.heap (d.heap.update m a2):=Sq ..;have z:=aQ.mk' (tk':=d.toks) (own:=g) (fr:=[]) (s:=d) (K.CR J i G (R pop_list (R s.symm (A.take _)))) (.but (a:=m) (λM z q U=>(i.2 M q).trans U) (.inl (kC J))) (.refl b);exact R V.dropLast_eq_take (.ok z (z.vr Y))
 |get p n=>exact aM c λm oV J=>R oV (aM P.one λa1 oW X=>R oW (zT (fD K p J) λy T v r=>m5 (own:=g) w (hm.ne K (fQ J)) r X n λH E P=>.ok (.tok K) P))
 |FW p I n ed=>refine aM c λm rP J=>R rP (aM P.one λa1 w0 X=>R w0 (zT (fD K p J) λy T v r=>m6 (own:=g) w r I X n ed λH h' a7 a8 a6 vv C i G a4 a5=>?_));have z:=aQ.mk' (tk':=d.toks+H) (own:=g) (fr:=[]) (s:=d) (K.FJ J i G a4 a5) (.but (a:=m) (λM z q U=>(i.2 M q).trans U) (.inl (fQ J))) (.refl b);exact .ok z (z.vr C)
theorem ly{prog:Nv}{A:Nw}{E:MO->MW->Prop}(C:Gr v e P be bg bf){U:MO}{x o:Z}{pl:Nm MP}{Q:MO×V MO->MW->Prop}(K:Inv a e g b k d.heap)(c:VR a.params (Sf d.heap b g) b m U)(D:aK k m x=some (.own o))
  (B:Q (.ref (FA o),[U]) d):o<60/\MZ (MY prog a) A (QH U (sx x) pl) Q E d:=by
 induction m using Wm with
 |aA H=>
  refine cg c.inv λm h bE p=>?_
  clear c
  subst bE
  have D:(match k.I[H]? with|some (i,_)=>if x=26 then N else(oG i x).map .own|none=>N)=some (Recv.own o):=D
  revert D
  induction z:k.I[H]? using Ry with
  |none=>exact nX
  |some q=>obtain⟨i,w⟩:=q;refine λD=>cA (c:=x=26) D (λY D=>nX D) λf D=>wc D λr l q=>?_;obtain rfl:=Recv.own.inj q;exact wa (C.ok.aU i x _ l f) λj J t n X=>cg (lu K p z) λy I G s=>⟨J,method_fn (C.In K) G.inst (C.ok.ga i j) (C.ok.Hv i j) X (C.ok.fn _ J).1 (shadow (d:=h) (S:=Sf d.heap b g) s t n) B⟩
 |aE H=>exact cA (c:=x=44\/x=51) D (λY D=>nomatch sX D) λY D=>nX D
 |ab H=>exact cA (c:=x=48\/x=51) D (λY D=>nomatch sX D) λY D=>nX D
 |_=>exact nX D
theorem SE.aU{y:cz}{xs:V MQ}{x:Z}{a1:Ni}(C:Gr v e P be bg bf)(a3:iy h a e bh i q)(R:bo bh (q+1) f l)(d:SE h a e l c j f i af aj)(H:m8 h a e l c j f i y xs)
  (hx:eJ aj=ML) (hl:(a1.endLine==J.line)=ML) (hn:xs.length<30) (a5:∀{A b I r},aO i af A b=.ok (I,r)->aK r I x=S .bI->∀L H2,bp i y A r=.ok (L,H2)->aK H2 I x=S .bI) :
  SE h a e l c j f i (.aU af x y) (.Call (.Attribute aj (sx x) a1) xs [] J):=by
 intro g a4 b t A p G nb;rw[kZ] at nb⊢;refine lU hx H.noStar hl hn ((d g a4 b t A p G).step G.inv (λI z K s1 U X o1 T D pl=>?_) nb);rw[X,Res.aP];refine kA (aK z I x) (λs=>?_) (λrc s=>?_);·replace D:=s▸D;exact bX D
 ·rw[s] at D⊢
  induction rc using Recv.casesOn with
  |own a2=>
   dsimp only at D⊢;refine(ly C o1.inv T s ?_).2;have w:=jg (k:=.fn a2) C.ok λa7 af=>by cases af;exact((ly (Q:=λY Y=>Nq) (E:=λY Y=>Nq) (A:=f) (prog:=h) (pl:=pl) C o1.inv T s trivial).1)
   refine QG (P:=λB=>v.In B) (by simp[H.noStar]) (λB a6=>PF w B a6) (bC H.noStar ((H.run g K z s1 A p (G.on p o1)).dg o1 (λM H2 r2 o vb m o2 n v2 a0=>?_) D));refine⟨C.In o2.inv,?_⟩;rw[m];exact(tV (k:=.fn a2) a3 (R.less (So _)) o2.inv (G.live.keep G.inv o2) (.cons (n.vr T) v2)).lift o2 a0
  |bI=>dsimp only at D⊢;refine bK (Aa o1.inv T) λz1 z2=>u0 o1.inv T s z1 z2 (callWith_builtin H.noStar (bC H.noStar ((H.run g K z s1 A p (G.on p o1)).dg o1 (λM H2 r2 o vb m o2 n v2 a0=>?_) D)));rw[m];exact(u1 C.mods (BQ R.units rfl) o2.inv (n.vr T) v2 (a5 X s M H2 m)).lift o2 a0
theorem nQ{r:AH}{x:Z}(B:aK k m x=S .bI):aK r m x=S .bI:=by
 induction m using Wm with
 |aA H=>
  replace B:(match k.I[H]? with|some (C,_)=>if x=26 then N else(oG C x).map .own|none=>N)=S Recv.bI:=B
  revert B
  induction k.I[H]? using Ry with
  |none=>exact λB=>nomatch B
  |some L=>exact λB=>cA B (λY D=>nX D) λY D=>wc D λA Y L=>nomatch L
 |_=>exact B
noncomputable def qF(c:Oa)(T:SP)(y:bH):O Q->MO->Prop
 |none,E=>E=.none
 |some I,E=>VR c T y I E
theorem qF.mono{f:SP}{K:bH}{I:O Q}(B:qF U x b I aa)(i:∀I z,x I z->f I z)(P:b.le K):qF U f K I aa:=by
 induction I using Ry with
 |none=>exact B
 |some I=>exact VR.mono i P B
noncomputable def SO(l:Nv)(a:Nj)(d:MV)(T:V Ng)(c:Ng)(i:V (O MU))(f:Nw)(e:CF)(z:LO)(r:O MQ):Prop:=∀g y b t A,bk g c i->St a d g T c i y b A t->jL a d g (MY l a) f T (λh y I E=>qF a.params h y I E) (evalPart r c) (zx e z A b) y t
theorem SO.no:SO h a e l c j f i .no N:=λg y b t A p G B=>by exact M0 (.ok (.refl G.inv) rfl)
theorem SO.so(d:SE h a e l c j f i af aj):SO h a e l c j f i (.so af) (S aj):=λg y b t A p G B=>by refine R BP ?_;exact(d g y b t A p G).step G.inv (λI z K k U X o1 E D=>by exact R X (.ok o1 E)) B
theorem part_of{I:O Q}{H:O MN}(B:qF U x b I aa)(D:oE I=S H):IsPart aa H/\∀K,H=S K->0<=K:=by
 induction I using Ry with
 |none=>obtain rfl:=sX D;obtain rfl:aa=.none:=B;exact⟨.none,λK D=>nomatch D⟩
 |some I=>
  induction I using Wm with
  |int K=>refine dD (B).inv λn cj=>?_;clear B;subst cj;exact cA D (λq D=>sX D▸⟨.int K n,λi D=>sX D▸q.1⟩) λY D=>nX D
  |_=>exact nX D
theorem lV{c:MQ}{o i:O MQ}{G:Ni}{z K:MO}{x g:Oe}(b:d.TypeIs z x)(l:Of (.type x) "__getitem__"=pure (S (.builtin g)))(B:MZ (MY h a) f (Pd z K) ai t d) :
  MZ (MY h a) f (O0 c (.Slice o i N G) z K) ai t d:=by
 refine MR (R (Rf b.not_modules) (MR (Ob b l ?_)));have T:MZ (MY h a) f (operate [K,z] (Pd z K)) (λy e=>MZ (MY h a) f (letTemporaryGo c z y >>= λY=>pure y) ai t e) t d:=Rg (Nk B (λy e p=>MR (Rh (M0 p))) λY Y r=>r);first
  |exact M0 (MR T)
  |exact MR (M0 (MR T))
  |exact MR T
theorem Ac{k:V MO}{o d:O MN}(B:bM U x b au k):bM U x b (cut au o d) (cut k o d):=by unfold cut;exact R B.len ((B.take _).drop _)
theorem Ae{M:M5 Np}{T:V Z}{o d:O MN}(B:M.toList.map SM=T)(H:∀K,o=S K->0<=K)(h:∀K,d=S K->0<=K):(PySem.W.KBy.picked M o d).toList.map SM=cut T o d:=by
 refine R (PySem.W.KBc.picked_eq ..) ?_;have p:o.elim 0 (OM M.size)=min (o.elim 0 TR) M.toList.length:=by
  induction o using Ry with
  |none=>simp
  |some K=>exact lh (H K rfl)
 have G:d.elim M.size (OM M.size)=min (d.elim M.toList.length TR) M.toList.length:=by
  induction d using Ry with
  |none=>simp
  |some K=>exact lh (h K rfl)
 refine R p ?_;refine R G ?_;refine R (qB ..) ?_;refine R B.symm ?_;unfold cut;refine V.map_drop.trans ?_;refine R UX ?_;refine R (Rz ..) rfl
theorem FX{M C:O Q}{L:Q×AH}(D:dP k m M C=S L):∃o d,oE M=S o/\oE C=S d/\(match (generalizing:=false) m with
  |.lst w=>if sm w.length then S (.lst (cut w o d),k) else N
  |.bw T=>if sm T.length then S (.bw (cut T o d),k) else N
  |.aE H=>(k.L[H]?).bind λw=>if sm w.length then S (.aE k.L.length,{k with L:=k.L++[cut w o d]}) else N
  |_=>N)=S L:=by
 have D:(match oE M,oE C with
  |some o,S d=>match (generalizing:=false) m with
   |.lst w=>if sm w.length then S (.lst (cut w o d),k) else N
   |.bw T=>if sm T.length then S (.bw (cut T o d),k) else N
   |.aE H=>(k.L[H]?).bind λw=>if sm w.length then S (.aE k.L.length,{k with L:=k.L++[cut w o d]}) else N
   |_=>N
  |_,_=>N)=S L:=D
 revert D
 cases oE M with
 |none=>exact nX
 |some o=>cases oE C with
  |none=>exact nX
  |some d=>exact λD=>(qq o d rfl rfl D)
theorem jL.qh{s:MW}{a4:MQ}{xl xh:O MQ}{sp:Ni}{va L r:MO}{M C:O Q}(K:Inv a e g b k s.heap)(E:VR a.params (Sf s.heap b g) b m va)(v:qF a.params (Sf s.heap b g) b M L)(v3:qF a.params (Sf s.heap b g) b C r) :
  ∀{c s0},aQ a e g [] c s0 b k s->Res.of (dP k m M C)≠.bad->MZ (MY h a) f (QJ "slice" [L,r,.none]) (λK s'=>MZ (MY h a) f (O0 a4 (.Slice xl xh N sp) va K) (QQ a e g (lL a) [] (.of (dP k m M C)) c s0) (EE a e g l (Res.of (dP k m M C)).x? c s0) s') (EE a e g l (Res.of (dP k m M C)).x? c s0) s:=by
 intro c s0 G nb;induction y:dP k m M C using Ry with
 |none=>exact bX (y▸nb)
 |some q=>
  clear nb;obtain⟨a9,H4⟩:=q;refine Ov (mX (FX y) λkl kh x eh y=>?_)
  ·skip
   refine bK (part_of v x) λpl n=>bK (part_of v3 eh) λph nh=>?_
   have a2:∀M z,s.heap.get? M=S z->(s.heap.push {cls:=.type "slice",data:=.fields #[L,r,.none]}).get? M=S z:=λY Y D=>RA _ D
   have i1:=K.push {cls:=.type "slice",data:=.fields #[L,r,.none]}
   have og:∀B,aQ a e g [] b s b k {s with heap:=s.heap.push {cls:=.type "slice",data:=.fields #[L,r,.none]},toks:=B}:=λB=>.grown K a2
   have i:(s.heap.push {cls:=.type "slice",data:=.fields #[L,r,.none]}).IsSliceOf s.heap.objs.size L r .none:=MV.IsSliceOf.new ..
   generalize a8:s.heap.push {cls:=.type "slice",data:=.fields #[L,r,.none]}=X at *
   have a6:∀{w:V Q} {m:MS} {j:M5 MO} {a0:Z},w.length<1000->X.get? m=S (listOf j a0)->bM a.params (Sf X b g) b w j.toList->∀{a3 I:MO->MW->Prop},
     (a3 (.ref X.objs.size) {s with heap:=X.push (listOf (P4 j kl kh N) 0)})->MZ (MY h a) f (O0 a4 (.Slice xl xh N sp) (.ref m) (.ref s.heap.objs.size)) a3 I {s with heap:=X}:=by
    intro w m j a0 P o A a3 I hQ
    have hz:w.length=j.size:=by exact A.len.trans RI
    exact lV (ba _ o rfl) QD.lookup (wpAny_getItem_list_slice (s:={s with heap:=X}) (bb (s:={s with heap:=X}) o) i pl ph .none (by decide) hQ (by have:N1=_:=N9;exact hz.symm▸qi P rfl))
   have d:∀m z,Sf s.heap b g m z->Sf X b g m z:=λm z U=>U.grow a2
   have p:∀{w:V Q} {j:M5 MO},bM a.params (Sf X b g) b w j.toList->bM a.params (Sf X b g) b (cut w kl kh) (P4 j kl kh N).toList:=λA=>by exact R (xb _ _ _ n nh) (Ac A)
   have a1:∀{z:Nl} M t,X.get? M=S t->(X.push z).get? M=S t:=λY Y D=>RA _ D
   induction m using Wm with
   |lst w=>refine dF E.inv λm j a0 du sa A=>R du (cA y (λP y=>?_) λY D=>nX D);have y:=sX y;obtain rfl:=Nc NU.fst y;obtain rfl:=Nc NU.snd y;have T:=A.mono d (.refl b);refine a6 (M8 P) (d _ _ sa).1 T (.ok ((G.trans (og s.toks)).trans (.grown (s:={s with heap:=X}) i1 a1)) ?_);exact .lst _ _ _ 0 (jd (s:={s with heap:=X}) rfl i1) ((p T).mono (λm z U=>U.grow a1) (.refl b))
   |bw lb=>refine cg E.inv λM a7 dV hb=>?_;subst dV;refine cA y (λP y=>?_) λY D=>nX D;have y:=sX y;obtain rfl:=Nc NU.fst y;obtain rfl:=Nc NU.snd y;have P:=M8 P;refine lV (Pb _ _ _) PySem.W.FB.slot_bytes_getitem.lookup (getItem_meets (Pb _ _ _) (rfl) PySem.W.FB.slot_bytes_getitem PySem.W.FB.entry_bytes_getitem (PySem.W.FB.args_bytes_getitem_2 _ _) (PySem.W.KBc.meets_slice2 M a7 _ pl ph) (fA i (RH (PySem.W.KBc.size_picked_le M kl kh) (Tg (jZ P (hb▸(Rz _).trans RI)))) (λt' H=>?_)));exact .ok (G.trans (og H)) (.bw _ t' _ (Ae hb n nh))
   |aE H=>refine aM E.inv λm fB J=>?_;clear x eh pl n ph nh i E v v3;subst fB;refine iQ y λw e0 y=>cA y (λP y=>?_) λY D=>nX D;have y:=sX y;obtain rfl:=Nc NU.fst y;obtain rfl:=Nc NU.snd y;refine cg (K.dt.L H w m e0 J) λj a0 o A=>?_;have T:=A.mono d (.refl b);have a5:X.get? X.objs.size=N:=bR _;refine a6 (M8 P) (a2 _ _ o) T (.ok (r':=b.mZ X.objs.size) ((G.trans (og s.toks)).trans (.mk' (s:={s with heap:=X}) (i1.CS a5 a1 (R4 _ rfl) (p T)) ((More.L b _).keep (λM hb=>by refine R (Rx.mp hb) ?_;exact a5) a1) (More.L b _).le)) ?_);refine .aE _ _ ?_;exact R K.dt.gW.symm fR
   |_=>exact nX y
theorem SE.qh{o d:LO}{xl T:O MQ}{sp:Ni}(ih:SE h a e l c j f i af aj)(il:SO h a e l c j f i o xl)(w:SO h a e l c j f i d T):SE h a e l c j f i (.qh af o d) (.Subscript aj (.Slice xl T N sp) J):=by intro g y b t A p G B;refine R wo (P2 ((ih g y b t A p G).step G.inv (λI z K k va X o1 E D=>?_) B));refine R X (R Res.aP ?_);refine R (arm_eval_Slice ..) (MR ((il g K z k A p (G.on p o1)).dg o1 (λM H2 x s2 P m o2 n v Y=>?_) D));refine R m (R Res.aP ?_);refine MR (Ny ((w g x H2 s2 A p (G.on p o2)).dg o2 (λC H3 H s3 r s o3 L v3 q=>?_) Y));refine R s (MR (Ny (M0 ?_)));exact jL.qh o3.inv (L.vr (n.vr E)) (qF.mono v (λI a0 U=>L.FL U) L.le) v3 o3 q
structure ct(own own' fr fr':V MS)(h h':MV):Prop where
 hs:∀b o,h.get? b=S o->h'.get? b=S o
 sub:∀a∈own,a∈own'
 new:∀c∈own',c∈own\/h.get? c=N
 C4:∀c∈fr',c∈fr\/h.get? c=N
 cnt:∀c,2<=own'.count c->2<=own.count c\/h.get? c=N
 le:∀c,own.count c<=own'.count c
theorem ct.keep{own:V MS}{fr:V MS}{d:V MS}{x:bH}{G:MV}(r:ct own ax fr d p X)(H:dU ax d b X x G):dU own fr b p x G:=
 ⟨λM z D q A=>by refine hF λm=>?_;refine H.el (r.hs M z D) q (λc=>(r.C4 M c).elim A λU=>by replace U:=D.symm.trans U;cases U) λn1 o1 a k=>?_;refine m ?_;exact⟨n1,o1,a,k.imp id λs=>⟨(r.cnt M s.1).elim id λU=>(by replace U:=D.symm.trans U;cases U),s.2⟩⟩⟩
theorem aQ.back{d:V MS}{x:bH}{I:AH}{s:MW}{o:MW}{B:Z}(r:ct g ax aq d s.heap X)(z:aQ a e ax d b {s with heap:=X,toks:=B} x I o):aQ a e g aq b s x I o:=mN z.eq λG M D=>⟨(v7 G M D),z.inv.drop r.sub,r.keep z.keep,z.le⟩
theorem u3(P:∀M z,p.get? M=S z->X.get? M=S z)(C:MS)(U:X.get? C=N):p.get? C=N:=by
 induction L:p.get? C using Ry with
 |none=>rfl
 |some G=>exact nX (U.symm.trans (P _ _ L))
theorem i5.back{d:V MS}{s:MW}{B:Z}{n:Q}{c:AH}{j:MO}{v:MW}(r:ct g ax aq d s.heap X)(z:i5 a e ax d l b {s with heap:=X,toks:=B} n c j v):i5 a e g aq l b s n c j v:=z.map r.sub r.cnt (u3 r.hs) (λY Y=>r.keep) (.refl b)
theorem EE.back{s:MW}{B:Z}{r:O (Q×AH)}{j:MO}{v:MW}(c:ct g ax [] [] s.heap X)(L:EE a e ax l r b {s with heap:=X,toks:=B} j v):EE a e g l r b s j v:=cg L λn d D U=>dI n d D (U.back c)
theorem ct.one{h':MV}(K:Inv a e g b k d.heap)(A:d.heap.get? n=N)(P:∀M z,d.heap.get? M=S z->h'.get? M=S z):ct g (n :: g) [] [] d.heap h':=
 ⟨P,λY x=>.tail _ x,λC x=>(RC.mp x).elim (λD=>.inr (D▸A)) .inl,λY x=>(nomatch x),λC x=>by
  by_cases L:n=C;·exact .inr (L▸A)
  ·exact .inl (by simpa [L] using x),λC=>by refine R Vi ?_;exact R6 _ _⟩
theorem Sf.back(d:∀n∈g,n∈ax)(U:Sf p b ax n ah):Sf p b g n ah:=(fA U.1 U.2.1 (λx=>U.2.2 (d n x)))
inductive rT(prog:Nv)(w:Nj)(g₀:MV)(l:V Ng)(env:Ng)(sl:V (O MU))(A:Nw)(cf:CF):V Z->cz->V (O MQ)->V MQ->Prop
 |nil:rT prog w g₀ l env sl A cf [] .nil [] []
 |cons {k:Z} {ks:V Z} {e:LE} {es:cz} {c:Z} {cp:Ni} {y:MQ} {xs:V (O MQ)} {ys:V MQ}:k<NS->SE prog w g₀ l env sl A cf e y->rT prog w g₀ l env sl A cf ks es xs ys->rT prog w g₀ l env sl A cf (k :: ks) (.cons e es) (S (.Constant (.str (sx k)) c cp) :: xs) (y :: ys)
abbrev K7(a:Nj)(g:V Z):Rel (V Q) (V (MO×MO)):=λT y I E=>bM a.params T y (g.map Q.str) (E.map (·.1))/\bM a.params T y I (E.map (·.2))
theorem rT.run{pos:Ni}{n:cz}{d:V (O MQ)}{L:V MQ}(r:rT h a e l c j f i ae n d L):∀g y b t A,bk g c j->St a e g l c j y b A t->jL a e g (MY h a) f l (K7 a ae) (evalPairs (pairTrees d L c pos)) (bp i n A b) y t:=by
 induction r with
 |nil=>intro g y b t A p G B;exact M0 (.ok (.refl G.inv) ⟨.nil,.nil⟩)
 |@cons H ae a1 n C w s d L J q _ a0=>intro g y b t A p G B;refine R fP ?_;have T:aQ a e g [] y t y b {t with toks:=t.toks+1}:=.tok G.inv;refine MR (PySem.Calls.Constant_str (MR (Ny (MR ?_))));refine(q g y b {t with toks:=t.toks+1} A p (G.on p T)).dg T (λI z K k U X o1 p1 E D=>?_) B;refine R X (R Res.aP ?_);refine MR (NX (M0 (MR (Ny ?_))));refine(a0 g K z k A p (G.on p o1)).dg o1 (λM H2 x o P m o2 p2 v Y=>?_) D;exact R m (M0 (.ok o2 ⟨.cons (.str H _ J) v.1,.cons (p2.vr E) v.2⟩))
theorem rT.IK{y:cz}{b:V (O MQ)}{A:V MQ}(r:rT h a e l c j f i ae y b A):b.all (·.isSome)=ML/\b.length=A.length/\b.length=ae.length/\jY y=ae.length:=by
 induction r with
 |nil=>exact qu rfl rfl rfl rfl
 |cons _ _ _ d=>exact qu (by simp[d.1]) (by simp[d.2.1]) (by simp[d.2.2.1]) (Nc (· + 1) d.2.2.2)
theorem qG{H:Q}{D:Q×Q}(B:eqT D.1 H=S MT):eF H (D :: y)=(eF H y).map (UE (· + 1)):=by show(match eqT D.1 H with|some ML=>S (S 0)|some MT=>(eF H y).map (UE (· + 1))|none=>N)=_;refine R B rfl
theorem xk{H:Q}{D:Q×Q}(B:eqT D.1 H=S ML):eF H (D :: y)=S (S 0):=by show(match eqT D.1 H with|some ML=>S (S 0)|some MT=>(eF H y).map (UE (· + 1))|none=>N)=_;refine R B rfl
theorem u4(B:∀P∈y,∃i,P.1=.str i/\i≠H):eF (.str H) y=S N:=by
 induction y with
 |nil=>rfl
 |cons P y d=>refine aM (B P (.head _)) λi D M=>?_;have L:eqT P.1 (.str H)=S MT:=D▸Nc S (OW M);refine(qG L).trans ?_;exact R (d λL e=>B L (.tail _ e)) rfl
theorem u6{own:V MS}(k:f.units<NB):∀{ks:V Z} {vs:V Q} {K:V (MO×MO)} {s:MW} {as:V (Q×Q)} {y:M5 Nt} {T:Z} {dk:DK} {o:PUnit->MW->Prop},A∈own->DictAt a own b s A as y T dk->(∀P∈as,∃i,P.1=.str i/\i∉ks)->ks.Nodup->as.length+ks.length<1000->
  bM a.params (Sf s.heap b own) b (ks.map Q.str) (K.map (·.1))->bM a.params (Sf s.heap b own) b vs (K.map (·.2))->
  (∀m B L a0 e,Sx A s.heap m->DictAt a own b {s with heap:=m,toks:=B} A (as++(ks.map Q.str).zip vs) L a0 e->o ⟨⟩ {s with heap:=m,toks:=B})->MZ (MY h a) f (storeAll A K) o t s:=by
 intro ks;induction ks with
 |nil=>
  intro vs K s as y T dk o v r _ _ _ p G l
  induction K using RD with
  |cons _ _=>exact nomatch p.qt
  |nil=>refine M0 ?_;have:=l s.heap s.toks y T dk (.refl ..) (by simpa using r);exact this
 |cons H ks ih=>
  intro vs K s as y T dk o v r J n d p G l
  refine hF λa6=>?_
  induction K using RD with
  |nil=>obtain⟨_,_,q,_⟩:=p.inv;exact nomatch q
  |cons kv K=>
   induction vs using RD with
   |nil=>exact nomatch G.qt
   |cons E vs=>
    refine mX p.inv λY Y q1 a1 a2=>mX G.inv λY Y q2 b1 b2=>bK (Uv q1) λcj du=>?_;clear q1 p;subst cj;subst du;refine bK (Uv q2) λdV fB=>?_;clear q2;subst dV;subst fB
    ··skip
      rw[RW] at n
      have c:eG (.str H) as=S N:=by exact u4 λP g=>aM (J P g) λi D M=>(ba i D (λq=>M (q▸.head _)))
      have j:mS as (.str H) E=S (as++[(.str H,E)]):=by
       unfold mS;refine R c ?_;have:sm as.length=ML:=by unfold sm;simp at d⊢;exact RO (R6 _ _) d
       simp only[this,PG]
      refine a6 ?_
      unfold storeAll
      refine R (TX ..) (MR (MR (dict_set (own:=own) k r a1 b1 j λx m L a0 e sb a5 dr a9=>M0 ?_)))
      have w:∀I z,Sf s.heap b own I z->Sf m b own I z:=λI z U=>U.but (a:=A) (λa7 z q U=>(sb.2 a7 q).trans U) (.inr (.inl v))
      refine ih (s:={s with heap:=m,toks:=s.toks+x}) (as:=as++[(.str H,E)]) (vs:=vs) v ⟨a5,dr.mono w (.refl b),a9⟩ ?_ n.2 (by refine R RF ?_;exact FC d) (a2.mono w (.refl b)) (b2.mono w (.refl b)) ?_
      ·intro P g;rcases RM.mp g with g|g;·exact aM (J P g) λi D M=>ba i D (λx=>M (.tail _ x))
       ·exact R (Rx.mp g) (ba H rfl n.1)
      ·intro G a3 C X a8 a4 x2;have:=l G a3 C X a8 (sb.trans a4) (by simpa using x2);exact this
theorem St.but{T:Nj}{tk:Z}(G:St T e ax l c j b k w d)(p:bk g c j)(L:∀D∈l,∀I,D.frame=S I->I∈g)(hd:A∉g)(H:A∈ax)(J:Sx A d.heap X)(hx:∃z,X.get? A=S z):St T e ax l c j b k w {d with heap:=X,toks:=tk}:=by
 have P:∀M z,M≠A->d.heap.get? M=S z->X.get? M=S z:=λM z q U=>(J.2 M q).trans U;have f:∀a z,Sf d.heap b ax a z->Sf X b ax a z:=λa z U=>U.but P (.inr (.inl H));have t:∀M∈g,M≠A:=λM x q=>hd (q▸x);refine⟨G.inv.loose P (.inl H) (G.inv.off A H).1 λY=>hx,⟨?_,λr C D=>?_,G.dS.len⟩,⟨λD x=>?_⟩⟩;·exact aM G.dS.ns λx n v=>ba x (n.sameBut J (t _ p.loc)) (λi r E h m s=>aM (v i r E h m s) λB a M=>(ba B a (M.mono f (.refl b))))
 ·exact aM (G.dS.jM r C D) λov i7 v=>hF λa0=>aM i7 λz o q=>a0 (ba ov (ba z (P _ _ (t _ (p.jM r C D).1) o) q) (λi E h m s=>aM (v i E h m s) λB a M=>(ba B a (M.mono f (.refl b)))))
 ·exact G.live.el x λa I z y K M C q o U=>⟨a,I,z,y,K,M,C,q,P _ _ (t _ (L D x I M)) o,U⟩
theorem cK.C5(r:cK l g aq p):∀D∈l,∀I,D.frame=S I->I∈g:=λD x I L=>by refine r.el x λY n Y Y Y A C Y Y Y=>?_;replace A:=L.symm.trans A;obtain rfl:=sX A;exact Sa.mp (n4 C rfl)
theorem jh{pos:Ni}{y:cz}{xs:V (O MQ)}{ys:V MQ}{P:MO->MW->Prop}(hu:f.units<NB)(r:rT h a e l c j f i ae y xs ys)(n:ae.Nodup)(hl:ae.length<=15)(p:bk g c j)(G:St a e g l c j b k w d)(nb:bp i y w k≠.bad)
  (H:∀J m B r2 I o vs E T dk,bp i y w k=.ok (vs,I)->ae.length=vs.length->d.heap.get? J=N->J∉g->ct g (J :: g) [] [J] d.heap m->aQ a e (J :: g) [J] b {d with heap:=m,toks:=B} r2 I o->St a e (J :: g) l c j r2 I w o->DictAt a (J :: g) r2 o J ((ae.map Q.str).zip vs) E T dk->P (.ref J) o) :
  MZ (MY h a) f (eval (.Dict xs ys pos) c) P (EE a e g l (bp i y w k).x? b d) d:=by
 refine qj r.IK λl1 l2 l3 l4=>?_;have A:d.heap.get? d.heap.objs.size=N:=bR _;have hs:∀M z,d.heap.get? M=S z->(d.heap.push (bB #[] 0)).get? M=S z:=λY Y D=>RA _ D;have q:(d.heap.push (bB #[] 0)).get? d.heap.objs.size=S (bB #[] 0):=R4 _ rfl;have a0:=ct.one (h':=d.heap.push (bB #[] 0)) G.inv A hs;have dn:d.heap.objs.size∉g:=G.inv.no A;have W':ct g (d.heap.objs.size :: g) [] [d.heap.objs.size] d.heap (d.heap.push (bB #[] 0)):=⟨a0.hs,a0.sub,a0.new,λa6 x=>.inr (R (Rx.mp x) A),a0.cnt,a0.le⟩;have a1:St a e (d.heap.objs.size :: g) l c j b k w {d with heap:=d.heap.push (bB #[] 0)}:=
  G.cX (λM x=>a0.new M x) a0.le hs λM x=>by
   rcases RC.mp x with rfl|x;·exact⟨_,q⟩
   ·exact dD (G.inv.ex M x) λz D=>⟨z,hs _ _ D⟩
 have s:=p.cX a0.sub;induction ae using RD with
 |nil=>
  cases r with
  |nil=>refine wpAny_Dict_empty (H d.heap.objs.size (d.heap.push (bB #[] 0)) d.toks b k _ [] #[] 0 .str rfl rfl A dn W' (.refl a1.inv) a1 ⟨q,.nil,TL⟩)
 |cons k0 a2=>
  refine wpAny_Dict_any l1 l2 (by rintro rfl;cases l3) (l3.symm▸n1 hl rfl) ?_;refine Nk (r.run (pos:=pos) (d.heap.objs.size :: g) b k {d with heap:=d.heap.push (bB #[] 0)} w s a1 nb) (λa7 s1 L=>?_) λD s1 L=>L.back a0;refine CM L λvs H1 K X o1 v1 v=>?_;have d1:s1.heap.get? d.heap.objs.size=S (bB #[] 0):=by refine o1.keep.el q (G.inv.fresh A) (λx=>nomatch x) λn1 t e' U=>?_;have:g.count d.heap.objs.size=0:=R1 dn;rw[U.once (by refine R Vi ?_;refine R this ?_;simp)] at e';exact e'
  have a5:(k0 :: a2).length=vs.length:=by refine R (je X) ?_;rw[l4]
  refine u6 (own:=d.heap.objs.size :: g) hu (ks:=k0 :: a2) (vs:=vs) (as:=[]) (dk:=.str) (.head _) ⟨d1,.nil,TL⟩ (λY x=>nomatch x) n (by simp at hl⊢;exact Iq hl rfl) v1 v λm B E a4 a3 sb C=>?_;have cM:=(a1.on s o1).but (tk:=B) p G.live.C5 dn (.head _) sb ⟨_,C.obj⟩;have o2:aQ a e (d.heap.objs.size :: g) [d.heap.objs.size] K s1 K H1 {s1 with heap:=m,toks:=B}:=.mk' cM.inv (.but (a:=d.heap.objs.size) (λM z L U=>(sb.2 M L).trans U) (.inr (.inl (.head _)))) (.refl K);exact H _ _ d.toks K H1 _ vs E a4 a3 X a5 A dn W' (o1.wide.trans o2) cM C
theorem SE.tm{y:cz}{xs:V (O MQ)}{ys:V MQ}(k:f.units<NB)(r:rT h a e l c j f i ae y xs ys)(n:ae.Nodup)(hl:ae.length<=15):SE h a e l c j f i (.tm ae y) (.Dict xs ys J):=by
 intro g a3 b a4 A p G nb;refine R wq ?_;have m:bp i y A b≠.bad:=λL=>nb ((bL L).trans rfl);induction H:bp i y A b using Wn with
 |bad=>exact Nh H m
 |exc a2 H'=>
  have:=jh (pos:=J) (P:=λY Y=>Nx) k r n hl p G m λa0 h' B r2 I o w E T v X=>by replace X:=H.symm.trans X;exact(nomatch X)
  rw[H] at this
  exact Nk this (λY Y a1=>a1.elim) λY Y D=>D
 |ok L=>
  obtain⟨w,I⟩:=L;have:=jh (pos:=J) (P:=QQ a e g (lL a) [] ((bp i y A b).bind λL=>if ae.length=L.1.length then .ok (.ab L.2.D.length,{L.2 with D:=L.2.D++[(ae.map Q.str).zip L.1]}) else .bad) a3 a4) k r n hl p G m λa0 h' B r2 I o w E T v X d a1 dn a5 z cM C=>by refine R X ?_;refine R Res.aP ?_;refine R (Nb d) ?_;have t:=z.back a5;have x:=More.D r2 a0;refine kQ _ _ (r2.iw a0) rfl ⟨t.eq,(cM.inv.CZ (own:=g) (.head _) (λM x=>⟨.tail _ x,λL=>dn (L▸x)⟩) C.obj C.dr C.nd),⟨λM K D q fz=>?_⟩,t.le.trans x.le⟩ (.ab _ _ (by refine R cM.inv.dt.i9.symm ?_;exact fR));refine bK (t.keep.get M K D q fz) λn1 U=>⟨λs=>(x.mem.mp s).elim (λs=>?_) n1,U⟩;rw[Rx.mp s,a1] at D;exact nX D
  rw[H] at this;exact Nk this (λY Y L=>L) λD s' L=>by obtain⟨a2,H',X,_⟩:=L;exact nX X
theorem i5.more{own:V MS}{fr:V MS}{c:V MS}{n:Q}{r:AH}{j:MO}{v:MW}(H:∀C∈fr,C∈c)(f:i5 a e own fr l b d n r j v):i5 a e own c l b d n r j v:=i5.map (h1:=d.heap) (tk1:=d.toks) f (λY x=>x) (λY x=>.inl x) (λY x=>x) (λY Y L=>L.less (λC x=>.inl (H C x)) λY x=>.inl x) (.refl b)
theorem i5.wide{fr:V MS}{n:Q}{r:AH}{j:MO}{v:MW}(c:i5 a e g [] l b d n r j v):i5 a e g fr l b d n r j v:=i5.more (fr:=[]) (λY x=>nomatch x) c
theorem Af:∀{w:V Q} {L:Z×Q},(ae.zip w).find? (λP=>P.1==H)=S L->∃K,eF (.str H) ((ae.map Q.str).zip w)=S (S K)/\(((ae.map Q.str).zip w)[K]?).map (·.2)=S L.2:=by
 induction ae with
 |nil=>exact λD=>nX D
 |cons i ae d=>
  intro w L D
  induction w using RD with
  |nil=>exact nX D
  |cons E w=>
   have D:(match (i==H) with|true=>S (i,E)|false=>(ae.zip w).find? (λP=>P.1==H))=S L:=D
   refine v9 (i==H) (λM=>?_) (λM=>?_)
   ·rw[M] at D;refine aM (d D) λK X m=>ba (K+1) ?_ m;exact(qG (show eqT (.str i) (.str H)=S MT from Nc S M)).trans (R X rfl)
   ·rw[M] at D;exact ba 0 (xk (show eqT (.str i) (.str H)=S ML from Nc S M)) (Nc (λL:Z×Q=>S L.2) (sX D))
theorem u7{L:Z×Q}(D:(ae.zip au).find? (λP=>P.1==H)=S L):cW ((ae.map Q.str).zip au) (.str H)=S (S L.2):=by refine aM (Af D) λK X m=>?_;unfold cW eG;refine R X ?_;exact R m.symm rfl
theorem DictAt.keep{own:V MS}{T:Z}(r:DictAt a own b d A y C T ay)(q:A∉b.M)(c:own.count A<2)(z:aQ a e own [] b d ak bc ap):DictAt a own ak ap A y C T ay:=by refine hF λn=>z.keep.el r.obj q (λx=>nomatch x) λY t j U=>?_;rw[U.once c] at j;exact n ⟨j,r.dr.mono (λY Y U=>z.FL U) z.le,r.nd⟩
theorem SE.pick{es:cz}{xs:V (O MQ)}{ys:V MQ}{dp:Ni}{K:LE}(k:f.units+64<NB)(a2:rT h a e l c j f i ae es xs ys)(nd:ae.Nodup)(hl:ae.length<=15)(d:SE h a e l c j f i K s)(ns:fS s=ML) :
  SE h a e l c j f i (.pick ae es K) (.Subscript (.Dict xs ys dp) s J):=by
 intro g y b t A p G B;rw[oJ] at B;refine R oJ ?_;have m:bp i es A b≠.bad:=λq=>B ((bL q).trans rfl);refine P2 ?_;induction ev:bp i es A b using Wn with
 |bad=>exact Nh ev m
 |exc n r=>
  have:=jh (pos:=dp) (P:=λY Y=>Nx) (Ir k rfl) a2 nd hl p G m λL h' tk r2 I o w E T dk X=>by replace X:=ev.symm.trans X;exact nomatch X
  rw[ev] at this
  exact Nk this (λY Y a4=>a4.elim) λY Y D=>D
 |ok q=>
  obtain⟨w,I⟩:=q;rw[ev] at B;have:=jh (pos:=dp) (P:=λz a6=>MZ (MY h a) f (eval s c) (λiv a3=>MZ (MY h a) f (O0 (.Dict xs ys dp) s z iv) (QQ a e g (lL a) [] ((aO i K A I).bind λy=>gT ae w y.1 y.2) y t) (EE a e g l ((aO i K A I).bind λy=>gT ae w y.1 y.2).x? y t) a3) (EE a e g l ((aO i K A I).bind λy=>gT ae w y.1 y.2).x? y t) a6) (Ir k rfl) a2 nd hl p G m λL h' tk r2 b9 o c1 E T dk X a9 a4 dn a1 z cM C=>by
   replace X:=ev.symm.trans X;refine hF λM=>?_;clear a4 a9 G nd hl;obtain⟨rfl,rfl⟩:=mY X;refine M (Nk (Q:=λiv a3=>MZ (MY h a) f (O0 (.Dict xs ys dp) s (.ref L) iv) (QQ a e g (lL a) [] ((aO i K A I).bind λy=>gT ae w y.1 y.2) y t) (EE a e g l ((aO i K A I).bind λy=>gT ae w y.1 y.2).x? y t) a3) ((d (L :: g) r2 I o A (p.cX a1.sub) cM).step cM.inv (λa5 H3 r3 s3 va e3 o3 v3 a0=>?_) B) (λY Y q=>q) λe' v q=>?_)
   ·refine R e3 (R Res.aP ?_)
    have dc:(L :: g).count L<2:=by refine R Vi ?_;refine R (R1 dn) ?_;simp
    have x3:=C.keep ((cM.inv.off L (.head _)).1) dc o3
    refine dD (CJ a0) λH U=>?_
    clear dn cM C M e3 B dc p a2 d
    subst U
    unfold gT at a0⊢
    refine aM v3.inv λn cj hk=>R cj ?_
    dsimp only at a0⊢
    induction ef:(ae.zip w).find? (λa8=>a8.1==H) using Ry with
    |none=>exact bX (ef▸a0)
    |some q=>refine fU x3.is Px.lookup ns (gp (own:=L :: g) (E8 k rfl) x3 (.str H n hk) (u7 ef) λx vv a7=>?_);exact .ok (((z.trans o3.wide).trans (.tok (tk':=s3.toks+x) o3.inv)).back a1) (a7.mono (λa5 z U=>U.back a1.sub) (.refl _))
   ·refine cg q λn r D U=>?_;exact dI n r D (((U.wide (fr:=[L])).pre z λa5 x=>by refine R (Rx.mp x) ?_;exact .head _).back a1)
  rw[ev] at this;exact Nk this (λY Y q=>q) λD v q=>by obtain⟨n,r,X,_⟩:=q;exact nX X
section
open PySem.Spec Builtin
theorem gX:Slot "bytearray" "__len__" "bytearray.__len__":=.of (owner:="bytearray") (n:="__len__") (by refine(Od ..).trans ?_;refine R P8 ?_;kernel_rfl) (by decide +kernel) (by decide +kernel) (by decide +kernel) (by first|exact .inl (by decide +kernel)|exact .inr (rfl +kernel)) (by refine(Ou ..).trans ?_;kernel_rfl)
theorem ji:Slot "bytearray" "__iter__" "bytearray.__iter__":=.of (owner:="bytearray") (n:="__iter__") (by refine(Od ..).trans ?_;refine R P8 ?_;kernel_rfl) (by decide +kernel) (by decide +kernel) (by decide +kernel) (by first|exact .inl (by decide +kernel)|exact .inr (rfl +kernel)) (by refine(Ou ..).trans ?_;kernel_rfl)
theorem kG:Slot "bytearray" "__setitem__" "bytearray.__setitem__":=.of (owner:="bytearray") (n:="__setitem__") (by refine(Od ..).trans ?_;kernel_rfl) (by decide +kernel) (by decide +kernel) (by decide +kernel) (by first|exact .inl (by decide +kernel)|exact .inr (rfl +kernel)) (by refine(Ou ..).trans ?_;kernel_rfl)
theorem eV:Slot "bytearray" "__init__" "bytearray.__init__":=.of (owner:="bytearray") (n:="__init__") (by refine(Od ..).trans ?_;kernel_rfl) (by decide +kernel) (by decide +kernel) (by decide +kernel) (by first|exact .inl (by decide +kernel)|exact .inr (rfl +kernel)) (by refine(Ou ..).trans ?_;kernel_rfl)
theorem dv:Slot "bytearray_iterator" "__next__" "bytearray_iterator.__next__":=.of (owner:="bytearray_iterator") (n:="__next__") (by refine(Od ..).trans ?_;kernel_rfl) (by decide +kernel) (by decide +kernel) (by decide +kernel) (by first|exact .inl (by decide +kernel)|exact .inr (rfl +kernel)) (by refine(Ou ..).trans ?_;kernel_rfl)
theorem jj:Slot "bytearray_iterator" "__iter__" "bytearray_iterator.__iter__":=.of (owner:="bytearray_iterator") (n:="__iter__") (by refine(Od ..).trans ?_;kernel_rfl) (by decide +kernel) (by decide +kernel) (by decide +kernel) (by first|exact .inl (by decide +kernel)|exact .inr (rfl +kernel)) (by refine(Ou ..).trans ?_;kernel_rfl)
theorem pb:Ow Oh "bytearray.__len__"=S Builtin.«bytearray.__len__»:=PH (by kernel_rfl)
theorem m9:Ow Oh "bytearray.__iter__"=S Builtin.«bytearray.__iter__»:=PH (by kernel_rfl)
theorem pd:Ow Oh "bytearray.__setitem__"=S Builtin.«bytearray.__setitem__»:=PH (by kernel_rfl)
theorem na:Ow Oh "bytearray.__init__"=S Builtin.«bytearray.__init__»:=PH (by kernel_rfl)
theorem iG:Ow Oh "bytearray_iterator.__next__"=S Builtin.«bytearray_iterator.__next__»:=PH (by kernel_rfl)
theorem nc:Ow Oh "bytearray_iterator.__iter__"=S Builtin.«dict_keyiterator.__iter__»:=entryFor_alias (id':="dict_keyiterator.__iter__") (by kernel_rfl) rfl (by decide +kernel) (by kernel_rfl)
theorem qH(I:MO):Ox "bytearray.__len__" ⟨[I],[]⟩:=by kernel_rfl
theorem pe(I:MO):Ox "bytearray.__iter__" ⟨[I],[]⟩:=by unfold Ox;kernel_rfl
theorem qI(I M C:MO):Ox "bytearray.__setitem__" ⟨[I,M,C],[]⟩:=by kernel_rfl
theorem pg(I M:MO):Ox "bytearray.__init__" ⟨[I,M],[]⟩:=by unfold Ox;kernel_rfl
theorem jm(I:MO):Ox "bytearray_iterator.__next__" ⟨[I],[]⟩:=by unfold Ox;kernel_rfl
theorem pj(I:MO):Ox "bytearray_iterator.__iter__" ⟨[I],[]⟩:=by unfold Ox;kernel_rfl
theorem lW{M:M5 Np}(B:d.heap.get? n=S (eH M)):d.TypeIs (.ref n) "bytearray":=(ba _ B rfl)
theorem lX{M:M5 Np}{o:M5 Np->MW->Prop}(B:d.heap.get? n=S (eH M))(L:o M d):MZ T f (We (.ref n)) o t d:=by refine MR (MR (Oy B ?_));exact M0 (M0 L)
theorem C6{M:M5 Np}(w:M.size<1000)(B:d.heap.get? n=S (eH M))(L:ai (.int M.size (d.toks+1)) {d with toks:=d.toks+1+1}):MZ (MY h a) f (N3 (.builtin "len") [.ref n]) ai t d:=by refine call_len_slot (lW B) gX (λb e=>N2 gX (lW B) pb ?_ (qH _)) (M8 rfl) (mt S6.mp (Uo.mpr (n1 w rfl))) L;show MZ _ _ (We (.ref n) >>= λM=>retInt M.size) _ _ d;refine MR (lX B ?_);exact MR (Pt (M0 (ba _ rfl e)))
theorem Ag{M:M5 Np}(B:d.heap.get? n=S (eH M))(H:ai (.ref d.heap.objs.size) {d with heap:=d.heap.push {cls:=.type "bytearray_iterator",data:=.fields #[.ref n,.int 0 0]}}):MZ (MY h a) f (PI (.ref n)) ai t d:=by refine QK (lW B) ji (N2 ji (lW B) m9 ?_ (pe _));show MZ _ _ (do ret (<-QJ "bytearray_iterator" [.ref n,rawInt 0])) _ _ d;exact MR (Ov (M0 ⟨_,rfl,"bytearray_iterator",_,(ba _ (R4 _ rfl) rfl),dv.lookup,H⟩))
noncomputable def fh(B:MV)(k I:MS)(K:Z):Prop:=∃z,B.get? k=S z/\z.cls=.type "bytearray_iterator"/\z.data=.fields #[.ref I,.int K 0]
theorem fh.is{k:MS}(s:fh d.heap k n ag):d.TypeIs (.ref k) "bytearray_iterator":=mM s λz G j Y=>(ba z G j)
theorem Ah{b:MS}(c:fh d.heap b n ag)(B:ai (.ref b) d):MZ (MY h a) f (PI (.ref b)) ai t d:=by refine QK c.is jj (N2 jj c.is nc ?_ (pj _));exact M0 ⟨_,rfl,"bytearray_iterator",_,c.is,dv.lookup,B⟩
theorem Ai{M:M5 Np}{b:MS}{c:Np}{o:O MO->MW->Prop}(e:fh d.heap b n ag)(w:d.heap.get? n=S (eH M))(g:M[ag]? = S c)
  (H:∀m,fh m b n (ag+1)->Sx b d.heap m->o (S (.int (c.toNat:MN) d.toks)) {d with heap:=m,toks:=d.toks+1}):MZ (MY h a) f (OE (.ref b)) o t d:=by refine mM (id e) λz G j q=>?_;refine MR (OO (Ot (name:=PySem.Str.ofString "__next__") e.is dv (N2 dv e.is iG ?_ (jm _))));show MZ _ _ (field (.ref b) 0 >>= _) _ _ d;refine MR (OP G q (x:=.ref n) rfl ?_);refine MR (Oy w ?_);refine MR (OP G q (x:=.int ag 0) rfl ?_);simp only[T2,g];refine MR (PJ G q (Sd _) (MR (Pt (M0 (ba _ rfl (M0 (H _ ?_ (Sq ..))))))));exact⟨_,R9 _ G (TK (Tr q _)),(VU ..).trans j,by refine(Tr q ..).trans ?_;exact rfl⟩
theorem C7{i:Nj}{a:MS}{b:M5 Np}{n:MS}{o:O MO->MW->Prop}(l:f.handled=N)(c:fh d.heap n a ag)(w:d.heap.get? a=S (eH b))(g:b[ag]? = N)
  (H:∀e,MV.ExtBut n d.heap e->o N {d with heap:=e}):MZ (MY h i) f (OE (.ref n)) o t d:=by refine mM (id c) λz G j q=>?_;refine MR (OO (Ot (name:=PySem.Str.ofString "__next__") c.is dv (N2 dv c.is iG ?_ (jm _))));show MZ _ _ (field (.ref n) 0 >>= _) _ _ d;refine MR (OP G q (x:=.ref a) rfl ?_);refine MR (Oy w ?_);refine MR (OP G q (x:=.int ag 0) rfl ?_);simp only[T2,g];refine MR (OZ (MR (PJ G q (So _) (MR (QC ?_)))));refine MR (MR (Ov ?_ (by size_fits)));refine MR (m:=Ph _ _) (NN (a:=MO.none) (by first|rfl|(rw[Ph];rfl)) ?_);refine Ov ?_ (by size_fits);dsimp only[P1];refine MR (QL ?_);refine R (show f.in1.handled=N from l) (MR (M0 (QM ?_)));refine MR (OX (T:="StopIteration") (b:=true) (ba _ (R4 _ rfl) rfl) QN ?_);exact M0 (H _ (((Sq ..).extBut.push _).push _))
theorem xm(l:f.handled=N)(k I:MS)(j:I≠k)(M:M5 Np) :
  Walks h a f k [k,I] [k] M.size (λK E=>∃C c,M[K]? = S C/\E=.int (C.toNat:MN) c) (λK B=>fh B k I K/\B.get? I=S (eH M)) where
 sub:=λM w=>by simp at w;simp[w]
 frame:=λY Y Y G J=>⟨aM (G.1) λz g y=>(ba z (J k (.head _) z g) y),J I (.tail _ (.head _)) _ G.2⟩
 item:=λK t o e d G H=>by refine Ai G.1 G.2 (c:=M[K]) (by simp[d]) λm p b=>?_;exact H _ m (t.toks+1) (dI _ _ (by simp[d]) rfl) ⟨p,(b.2 I j).trans G.2⟩ λM z w D=>b.extBut M z (λB=>w (by simp[B])) D
 done:=λt o e G H=>C7 l G.1 G.2 (by simp) λm x=>H m t.toks λM z w D=>x M z (λB=>w (by simp[B])) D
 self:=λY Y Y Y G H=>Ah G.1 H
end
noncomputable def bz(c:Ng):V MS:=c.locals :: c.cells.map (·.2)
theorem lookup_mem[BEq G][LawfulBEq G]{r:G}{C:az}:∀{T:V (G×az)},T.lookup r=S C->C∈T.map (·.2):=by
 intro T;induction T with
 |nil=>intro D;exact nX D
 |cons i T f=>
  intro D;rw[SH] at D;split at D;·exact sJ D (.head _)
  ·exact .tail _ (f D)
theorem cK.at(r:cK l g aq p)(P:∀M z,M≠n->p.get? M=S z->X.get? M=S z)(c:(∃z y q,X.get? n=S z/\z.data=.dict y q)\/(∀z,p.get? n=S z->∀y q,z.data≠.dict y q)):cK l g aq X:=
 ⟨λD x=>by
  refine hF λm=>r.el x λH I K y q A t v o h=>m ?_;by_cases L:I=n
  ·subst L;rcases c with⟨z,E,B,G,s⟩|U;·exact⟨H,I,z,E,B,A,t,v,G,s⟩
   ·exact Nh h (U K o y q)
  ·exact⟨H,I,K,y,q,A,t,v,P _ _ L o,h⟩⟩
noncomputable def j0(c:Ng)(E:V MS)(r:MU):Prop:=(c.kindOf r=S .local->c.locals∈E)/\∀C,c.kindOf r=S .cell->c.cells.lookup r=S C->C∈E
theorem j0.all:j0 c (bz c) r:=⟨λY=>.head _,λC Y D=>.tail _ (lookup_mem D)⟩
theorem lY{fr:V MS}{sl:V (O MU)}{j:Z}{v':MO}{a8:NP->MW->Prop}(p:bk g c sl)(G:St a e g l c sl b k w d)(E:j0 c fr r)(hj:sl[j]? = S (S r))(J:c.kindOf r=S .local\/c.kindOf r=S .cell)
  (hv:VR a.params (Sf d.heap b g) b aw v') (hQ:∀v,(∀M z,M∉fr->d.heap.get? M=S z->v.heap.get? M=S z)->aQ a e g fr b d b k v->St a e g l c sl b k (w.set j (S aw)) v->a8 () v):MZ T f (Qb c r v') a8 t d:=by
 have a4:∀{B:Z} {C:MU} {a0:Q},sl[B]? = S (S C)->(w.set j (S aw))[B]? = S (S a0)->(C=r/\a0=aw)\/(C≠r/\w[B]? = S (S a0)):=by
  intro B C a0 X m;by_cases q:j=B
  ·subst q;refine hF λA=>?_;replace X:=hj.symm.trans X;cases X;replace m:=Up▸m;refine kA (w[j]?) (λU=>?_) (λc4 U=>?_);·exact nX (U▸m)
   ·refine A ?_;replace m:=U▸m;cases m;exact .inl ⟨rfl,rfl⟩
  ·rw[R7 q] at m;refine .inr ⟨λU=>?_,m⟩;subst U;exact q (p.E' j B _ hj X)
 rcases J with J|J
 ·refine aM G.dS.ns λx n hm=>?_;refine wpAny_storeName_local J n (λh' a6 sb=>?_) (by refine R p.kind ?_;rfl);have P:∀M z,M≠c.locals->d.heap.get? M=S z->h'.get? M=S z:=λM z q U=>(sb.2 M q).trans U;have S':∀I z,Sf d.heap b g I z->Sf h' b g I z:=λI z U=>U.but P (.inr (.inl p.loc));have K:∃z y a7,h'.get? c.locals=S z/\z.data=.dict y a7:=by obtain⟨z,y,ep,o,h,_⟩:=a6;exact zM z y ep o h
  have i:Inv a e g b k h':=G.inv.loose P (.inl p.loc) (G.inv.off _ p.loc).1 λY=>wb K λz Y Y o Y=>⟨z,o⟩;refine hQ _ (λM z q=>P M z λU=>q (by refine R U ?_;exact E.1 J)) (.mk' i (.but (a:=c.locals) P (.inr (.inl (E.1 J)))) (.refl b)) ⟨i,⟨(ba _ a6 (λB C a0 X m s=>?_)),λC a1 D=>?_,by refine Tb.trans ?_;exact G.dS.len⟩,G.live.at P (.inl K)⟩
  ·rcases a4 X m with⟨rfl,rfl⟩|⟨q,a3⟩;·exact ba v' (Nb rfl) (hv.mono S' (.refl b))
   ·refine aM (hm B C a0 X a3 s) λH z1 z2=>?_;exact ba H ((Nf q).trans z1) (z2.mono S' (.refl b))
  ·refine aM (G.dS.jM C a1 D) λov bE hc=>aM bE λz o h=>ba ov (ba z (P _ _ (p.jM C a1 D).2 o) h) (λB a0 X m s=>?_);refine hF λc2=>?_;clear a6 bE K;rcases a4 X m with⟨rfl,rfl⟩|⟨q,a3⟩;·rcases s with s|s<;>(replace s:=J.symm.trans s;cases s)
   ·exact aM (hc B a0 X a3 s) λH z1 z2=>c2 (ba H z1 (z2.mono S' (.refl b)))
 ·refine dD (p.has j r hj (.inl J)) λa1 a2=>aM (G.dS.jM r a1 a2) λc3 L a9=>wpAny_storeName_cell p.kind J a2 L (λh' a5 sb=>?_);have P:∀M z,M≠a1->d.heap.get? M=S z->h'.get? M=S z:=λM z q U=>(sb.2 M q).trans U;have co:=(p.jM r a1 a2).1;have S':∀I z,Sf d.heap b g I z->Sf h' b g I z:=λI z U=>U.but P (.inr (.inl co));have i:Inv a e g b k h':=G.inv.loose P (.inl co) (G.inv.off _ co).1 λY=>aM a5 λz o Y=>⟨z,o⟩;refine hQ _ (λM z q=>P M z λU=>q (by refine R U ?_;exact E.2 a1 J a2)) (.mk' i (.but (a:=a1) P (.inr (.inl (E.2 a1 J a2)))) (.refl b)) ⟨i,⟨?_,λC c' D=>?_,by refine Tb.trans ?_;exact G.dS.len⟩,G.live.at P (.inr λz o y a7 h=>?_)⟩
  ·refine aM G.dS.ns λx n hm=>ba x (n.sameBut sb (S8 (p.jM r a1 a2).2)) (λB C a0 X m s=>?_);refine hF λb9=>?_;clear n sb a9 co E hj hQ;rcases a4 X m with⟨rfl,rfl⟩|⟨q,a3⟩;·replace s:=J.symm.trans s;cases s
   ·exact aM (hm B C a0 X a3 s) λH z1 z2=>b9 (ba H z1 (z2.mono S' (.refl b)))
  ·by_cases q:C=r
   ·subst q;replace D:=a2.symm.trans D;obtain rfl:=sX D;refine ba _ a5 (λB a0 X m s=>?_);refine hF λc1=>?_;clear sb a9 a5 co E hj J hQ;rcases a4 X m with⟨_,rfl⟩|⟨q,_⟩;·exact c1 (ba v' rfl (hv.mono S' (.refl b)))
    ·exact q rfl
   ·refine aM (G.dS.jM C c' D) λov cj hc=>aM cj λz o h=>ba ov (ba z (P _ _ (λU=>q ?_) o) h) (λB a0 X m s=>?_);·subst U;exact p.inj C r _ D a2
    ·rcases a4 X m with⟨rfl,rfl⟩|⟨q',a3⟩;·exact(q rfl).elim
     ·exact aM (hc B a0 X a3 s) λH z1 z2=>ba H z1 (z2.mono S' (.refl b))
  ·refine aM L λo' g' d'=>?_;replace o:=g'▸o;obtain rfl:=sX o;replace h:=d'▸h;cases h
theorem et{fr:V MS}{i:V (O MU)}{loc:Loc}{j:Z}{B:MO}{o:NP->MW->Prop}(p:bk g c i)(G:St a e g l c i b k loc d)(E:j0 c fr r)(M:i[j]? = S (S r))(J:c.kindOf r=S .local\/c.kindOf r=S .cell) (P:VR a.params (Sf d.heap b g) b aw B) (H:∀v,aQ a e g fr b d b k v->St a e g l c i b k (loc.set j (S aw)) v->o () v):MZ T f (Qb c r B) o t d:=lY p G E M J P λv Y=>H v
noncomputable def SrcAt(a:Nj)(g:V MS)(y:bH)(B:MV):Src->MS->Prop
 |.dS w,I=>∃j q,Sf B y g I (listOf j q)/\bM a.params (Sf B y g) y w j.toList
 |.lI H,I=>y.L[H]? = S I
theorem gY{U:MO}{c:Src}(P:VR a.params (Sf d.heap b g) b aw U)(D:srcOf k aw=S (c,H)):∃I,U=.ref I/\SrcAt a g b d.heap c I:=by
 induction aw using Wm with
 |lst w=>refine dF P.inv λI j e du C A=>?_;subst du;refine cA D (λY D=>?_) λY D=>nX D;obtain rfl:=Nc NU.fst (sX D);exact⟨I,rfl,j,e,C,A⟩
 |aE H=>refine aM P.inv λI dV J=>?_;subst dV;refine iQ D λw Y D=>cA D (λY D=>?_) λY D=>nX D;obtain rfl:=Nc NU.fst (sX D);exact ba I rfl J
 |_=>exact nX D
theorem SrcAt.items{c:Src}(K:Inv a e g b k d.heap)(r:SrcAt a g b d.heap c n):∃j q,d.heap.get? n=S (listOf j q)/\
  ∀(i:Z) y,c.at i k=S y->match y with|none=>j[i]? = N|some E=>∃B,j[i]? = S B/\VR a.params (Sf d.heap b g) b E B:=by
 have h:∀{w:V Q} {j:M5 MO},bM a.params (Sf d.heap b g) b w j.toList->∀(i:Z),match w[i]? with|none=>j[i]? = N|some E=>∃B,j[i]? = S B/\VR a.params (Sf d.heap b g) b E B:=by
  intro w j A i
  induction D:w[i]? using Ry with
  |none=>
   have:j.size<=i:=by exact R RI.symm (R A.len.symm (V.getElem?_eq_none_iff.mp D))
   exact Vm this
  |some E=>exact lS A D
 induction c using Src.casesOn with
 |dS w=>refine cg r λj q C A=>?_;exact dI j q C.1 (λi y D=>by obtain rfl:=sX D;exact h A i)
 |lI H=>
  have J:H<k.L.length:=by exact R K.dt.gW.symm ((RG.mp r).1)
  refine cg (K.dt.L H _ n (RB J) r) λj q o A=>?_
  refine dI j q o (λi y D=>?_)
  replace D:(k.L[H]?).map (·[i]?)=S y:=D
  rw[RB J] at D
  have D:=sX D
  subst D
  exact h A i
theorem SrcAt.mono{c:Src}(r:SrcAt a g b p c n)(T:∀n z,Sf p b g n z->Sf X ak ax n z)(H:b.le ak):SrcAt a ax ak X c n:=by
 induction c using Src.casesOn with
 |dS w=>exact cg r λj q C A=>dI j q (T _ _ C) (A.mono T H)
 |lI i=>exact H.L _ _ r
theorem SrcAt.on{s:MW}{c:Src}(r:SrcAt a g b s.heap c n)(z:aQ a e g aq b s ak bc ap)(J:∀n∈aq,n∈g\/s.heap.get? n=N):SrcAt a g ak ap.heap c n:=r.mono (λY Y U=>z.sf J U) z.le
structure cY(w:Nj)(own:V MS)(r:bH)(h:MV)(src:Src)(I:MS)(i:Z):Prop where
 src:∃a,SrcAt w own r h src a/\a≠I/\h.IsListIter I a i
 one:own.count I=1
theorem cY.mem{c:Src}{k:MS}(r:cY a g b p c k ag):k∈g:=Sa.mp (by refine R r.one ?_;decide)
theorem cY.on{s:MW}{d:Src}{c:MS}(K:Inv a e g b k s.heap)(r:cY a g b s.heap d c ag)(z:aQ a e g aq b s ak bc ap)(f:c∉aq)(J:∀I∈aq,I∈g\/s.heap.get? I=N):cY a g ak ap.heap d c ag:=by refine hF λH=>?_;obtain⟨I,X,m,i,o,C,h⟩:=r.src;refine z.keep.el o (K.off c r.mem).1 f λY t G U=>?_;obtain rfl:=U.once (by refine R r.one ?_;decide);exact H ⟨⟨I,X.on z J,m,_,G,C,h⟩,r.one⟩
theorem C8{w:Nj}{n a:MS}{j:M5 MO}{o:O MO->MW->Prop}(l:f.handled=N)(c:d.heap.IsListIter n a ag)(p:d.heap.IsList a j)(k:j[ag]? = N)
  (H:∀i,(∃z,i.get? n=S z)->(∀b z,b≠n->d.heap.get? b=S z->i.get? b=S z)->o N {d with heap:=i}):MZ (MY h w) f (OE (.ref n)) o t d:=by refine hF λr=>mM (id c) λz G v q=>?_;obtain⟨y,e,_,s,g⟩:=id p;refine r ?_;refine MR (OO (Ot (name:=PySem.Str.ofString "__next__") c.typeIs Rl (N2 Rl c.typeIs entry_listiter_next ?_ (args_listiter_next _))));show MZ _ _ (field (.ref n) 0 >>= _) _ _ d;refine MR (OP G q (x:=.ref a) rfl ?_);refine R (Nf (show¬((MO.ref a==MO.none)=ML) from RX)) (MR (OP G q (x:=.int ag 0) rfl ?_));refine MR (wpAny_seqItems e g ?_);simp only[T2,k];refine MR (OZ (MR (PJ G q (Va _) ?_)));refine MR (MR (Ov ?_ (by size_fits)));refine MR (m:=Ph _ _) (NN (a:=MO.none) (by first|rfl|(rw[Ph];rfl)) ?_);refine Ov ?_ (by size_fits);dsimp only[P1];refine MR (QL ?_);refine R (show f.in1.handled=N from l) (MR (M0 (QM ?_)));refine MR (OX (T:="StopIteration") (b:=true) (ba _ (R4 _ rfl) rfl) QN ?_);refine M0 (H _ ⟨_,RA _ (RA _ (R9 _ G (TK (Tr q _))))⟩ λb z L D=>?_);exact RA _ (RA _ ((S9 _ _ (S8 L)).trans D))
theorem j3{w:Src}{n:MS}{y:O Q}{C:O MO->MW->Prop}(l:f.handled=N)(K:Inv a e g b k d.heap)(r:cY a g b d.heap w n ag)(D:w.at ag k=S y)
  (H:∀v,aQ a e g [n] b d b k v->match y with|none=>C N v|some E=>∀B,VR a.params (Sf v.heap b g) b E B->cY a g b v.heap w n (ag+1)->C (S B) v):MZ (MY h a) f (OE (.ref n)) C t d:=by
 refine hF λs=>mM r.src λI X ne c=>cg (X.items K) λj q o J=>?_;have x:=J ag y D;induction y using Ry with
 |none=>exact s (C8 l c (bb o) x λm U P=>H _ (.mk' (K.loose P (.inl r.mem) (K.off n r.mem).1 λY=>U) (.but (a:=n) P (.inr (.inl (.head _)))) (.refl b)))
 |some E=>refine aM x λB T A=>s (wpAny_pyNext_list_item c (bb o) T λm p sb=>?_);have P:∀M z,M≠n->d.heap.get? M=S z->m.get? M=S z:=λM z L U=>(sb.2 M L).trans U;have i:Inv a e g b k m:=K.loose P (.inl r.mem) (K.off n r.mem).1 λY=>aM p λz o Y=>⟨z,o⟩;have G:∀I z,Sf d.heap b g I z->Sf m b g I z:=λI z U=>U.but P (.inr (.inl r.mem));exact H {d with heap:=m} (.mk' (tk':=d.toks) i (.but (a:=n) P (.inr (.inl (.head _)))) (.refl b)) B (A.mono G (.refl b)) ⟨(jK I (X.mono G (.refl b)) ne p),r.one⟩
section
open Sem (wp)
noncomputable def Dk(B m:MV):Prop:=∀I z,B.get? I=S z->∃t,m.get? I=S t/\t.dict=z.dict
theorem Dk.refl(B:MV):Dk B B:=λY z D=>⟨z,D,rfl⟩
theorem Dk.trans{I M C:MV}(r:Dk I M)(s:Dk M C):Dk I C:=λL z D=>aM (r L z D) λo1 X H=>aM (s L o1 X) λo2 m y=>⟨o2,m,y.trans H⟩
theorem Dk.push(B:MV)(z:Nl):Dk B (B.push z):=λY t D=>⟨t,RA _ D,rfl⟩
theorem Dk.update(B:MV)(I:MS)(A:Nl->Nl)(J:∀z,B.get? I=S z->(A z).isFreed=MT/\(A z).dict=z.dict):Dk B (B.update I A):=λM z D=>by
 by_cases L:M=I;·subst L;exact ba _ (R9 _ D (J z D).1) ((J z D).2)
 ·exact ba z ((S9 _ _ (S8 L)).trans D) rfl
theorem lZ(z:Nl)(A:M5 MO->M5 MO):(z.mapFields A).dict=z.dict:=by obtain⟨C,h,a,i⟩:=z;induction a using NY.casesOn<;>rfl
theorem u9(D:p.get? n=S ah):ah.isFreed=MT:=(MV.get?_some_iff.mp D).2
theorem qJ(z:Nl)(sl):({z with slots:=sl}:Nl).isFreed=z.isFreed:=by obtain⟨C,h,a,s⟩:=z;induction a using NY.casesOn<;>rfl
structure cy{α:Type}(t:Nm α):Prop where
 out:∀(M:N0) (Γ:Ctx) (P:α->Ni->MW->Prop) (Ee:MO->Ni->MW->Prop) (p:Ni) (s:MW),wp M Γ t P Ee p s->wp M Γ t (λa p' s'=>P a p' s'/\Dk s.heap s'.heap) Ee p s
namespace cy
theorem pure(I:G):cy (Pure.pure I:Nm G):=⟨λY Y Y Y Y Y B=>⟨B,.refl _⟩⟩
theorem unsupported(a:Oe):cy (PySem.unsupported a:Nm G):=⟨λY Y Y Y Y Y B=>B.elim⟩
theorem bind{x:Nm G}{A:G->Nm az}(e:cy x)(J:∀I,cy (A I)):cy (x >>= A):=⟨λw a c b P t B=>by rw[VM] at B⊢;refine TH w a x (λI l v m=>?_) (λY Y Y r=>r) P t (e.out w a _ b P t B);exact TH w a (A I) (λM n o d=>⟨d.1,m.2.trans d.2⟩) (λY Y Y r=>r) l v ((J I).out w a c b l v m.1)⟩
theorem ite{C:Prop}[OJ C]{n c:Nm G}(h:cy n)(k:cy c):cy (if C then n else c):=by split<;>assumption
theorem load(I:MS):cy (PySem.load I):=⟨λY Y Y Y Y Y B=>by exact aM B λz D B=>⟨z,D,B,.refl _⟩⟩
theorem stack:cy PySem.stack:=⟨λY Y Y Y Y Y B=>by exact⟨B,.refl _⟩⟩
theorem alloc(z:Nl):cy (PySem.alloc z):=⟨λY Y Y Y Y Y B=>by exact⟨B,.push _ _⟩⟩
theorem upd(I:MS)(o:Nl->M5 (O MO)):cy (PySem.update I λz=>{z with slots:=o z}):=⟨λw a c b P t B=>by refine fA B.1 B.2 (.update _ _ _ λz D=>⟨?_,rfl⟩);refine(qJ ..).trans ?_;exact u9 D⟩
theorem field(E:MO)(K:Z):cy (PySem.field E K):=⟨λd a c b P t B=>by rw[wp_field_iff] at B⊢;exact K0 B λI z w r X m s Y B=>⟨I,z,w,r,X,m,s,Y,B,.refl _⟩⟩
theorem setField(E:MO)(K:Z)(r:MO):cy (PySem.setField E K r):=⟨λd a c b P t B=>by rw[wp_setField_iff] at B⊢;refine JK B λI z w X m s Y B=>KN I z w X m s Y B (.update _ _ _ λe D=>?_);replace D:=m▸D;obtain rfl:=sX D;exact⟨TK (Tr s _),lZ _ _⟩⟩
end cy
theorem jq(c:Ng)(o:V Ng):cy (behindIsImport c o):=by unfold behindIsImport;repeat' with_reducible first|assumption|exact cy.pure _|exact cy.unsupported _|exact cy.field _ _|exact cy.load _|exact cy.stack|apply cy.ite|apply cy.bind|intro _|split
theorem fV:cy Rm:=by unfold Rm;repeat' with_reducible first|assumption|exact cy.pure _|exact cy.unsupported _|exact cy.field _ _|exact cy.load _|exact cy.stack|apply cy.ite|apply cy.bind|intro _|split
theorem qK(c:Ng)(K:MP)(T:V Ng):cy (keptBack c K T):=by have:=fV;induction T using RD<;>unfold keptBack<;>repeat' with_reducible first|assumption|exact cy.pure _|exact cy.unsupported _|exact cy.field _ _|exact cy.load _|exact cy.stack|apply cy.ite|apply cy.bind|intro _|split
theorem l0(T:V Ng):cy (readyFrames T):=by
 induction T with
 |nil=>exact cy.pure _
 |cons c o d=>
  have p:=jq c o
  unfold readyFrames
  repeat' with_reducible first|assumption|exact cy.pure _|exact cy.unsupported _|exact cy.field _ _|exact cy.load _|exact cy.stack|exact cy.upd _ _|exact(λK=>qK c K o) _|apply cy.ite|apply cy.bind|intro _|split
theorem l6(T:V Ng):cy (frameObject T):=by
 induction T using RD with
 |nil=>exact cy.pure _
 |cons c o=>
  have:=l0 (c :: o)
  unfold frameObject
  repeat' with_reducible first|assumption|exact cy.pure _|apply cy.bind|intro _
theorem pk:cy frameEnvs:=by unfold frameEnvs;repeat' with_reducible first|assumption|exact cy.pure _|exact cy.stack|apply cy.bind|intro _
theorem rU(c:Ng):cy (frameOf c):=by have p:=pk;unfold frameOf;repeat' with_reducible first|assumption|exact cy.pure _|exact cy.unsupported _|exact(l6) _|apply cy.bind|intro _|split
theorem kT(A:MS)(h:MP):cy (entryPlaceOf A h):=by unfold entryPlaceOf;repeat' with_reducible first|assumption|exact cy.pure _|exact cy.unsupported _|exact cy.field _ _|exact cy.load _|exact cy.stack|apply cy.ite|apply cy.bind|intro _|split
theorem qL(I M C h D:MO)(pl:V MO):cy (EntryCells.newEntry I M C h D pl):=by unfold EntryCells.newEntry QJ newObj newObjAsIs;repeat' with_reducible first|assumption|exact cy.pure _|exact cy.unsupported _|exact cy.alloc _|apply cy.ite|apply cy.bind|intro _|split
theorem jr(D:MO)(c:Ng):cy (noteFrame D c):=by unfold noteFrame;repeat' with_reducible first|assumption|exact cy.pure _|exact cy.unsupported _|exact cy.field _ _|exact cy.setField _ _ _|exact qL _ _ _ _ _ _|exact(rU) _|exact(kT) _ _|apply cy.ite|apply cy.bind|intro _|split
theorem gs(D:MO)(A:O MS):cy (setFlight D A):=by unfold setFlight;repeat' with_reducible first|assumption|exact cy.pure _|exact cy.field _ _|exact cy.setField _ _ _|apply cy.ite|apply cy.bind|intro _|split
theorem l8(D:MO)(c:Ng):cy (OF c D):=by unfold OF;exact cy.bind (jr _ _) λY=>gs _ _
theorem cy.at{n:Nm G}(H:cy n){M:N0}{A:Nw}{o:G->MW->Prop}(B:MZ M A n (λI v=>Dk d.heap v.heap->o I v) t d):MZ M A n o t d:=λa P h=>
 TH M a n (λI l v m=>m.1 m.2) (λY Y Y r=>r) P d (H.out M a _ _ P d (B a P h))
end
noncomputable def Hw(a:Nj)(T:SP)(y:bH):Fl->NG->Prop
 |.next,.next=>Nq
 |.ret E,.ret B=>VR a.params T y E B
 |_,_=>Nx
section
variable(w:Nj)(g₀:MV)(own:V MS)
noncomputable def QS(E:V MS)(o:V Ng)(c:Ng)(i:V (O MU))(a:Res (Fl×Loc×AH))(y:bH)(t:MW):NG->MW->Prop:=λA v=>∃q J r K,a=.ok (q,J,r)/\aQ w g₀ own E y t K r v/\St w g₀ own (c :: o) c i K r J v/\Hw w (Sf v.heap K own) K q A
noncomputable def EF(E:V MS)(T:V Ng)(a:O (Q×AH))(y:bH)(t:MW):MO->MW->Prop:=λj v=>∃n r,a=S (n,r)/\i5 w g₀ own E T y t n r j v
noncomputable def ES(a:N0)(f:Nw)(E:V MS)(o:V Ng)(c:Ng)(r:O (Q×AH))(y:bH)(t:MW):MO->MW->Prop:=λD v=>MZ a f (OF c D) (λY s=>EF w g₀ own E o r y t D s) (λj s=>EF w g₀ own E o r y t j s) v
noncomputable def Aj(a:N0)(f:Nw)(E:V MS)(o:V Ng)(c:Ng)(i:V (O MU))(n:Nm NG)(r:Res (Fl×Loc×AH))(y:bH)(t:MW):Prop:=r≠.bad->MZ a f n (QS w g₀ own E o c i r y t) (ES w g₀ own a f E o c r.x? y t) t
end
noncomputable def SS(l:Nv)(a:Nj)(d:MV)(o:V Ng)(c:Ng)(i:V (O MU))(f:Nw)(e:CF)(G:LS)(r:Na):Prop:=∀g y b t A,bk g c i->St a d g (c :: o) c i y b A t->Aj a d g (MY l a) f (bz c) o c i (exec r c) (cN e G A b) y t
noncomputable def qM(l:Nv)(a:Nj)(d:MV)(o:V Ng)(c:Ng)(i:V (O MU))(f:Nw)(e:CF)(G:dR)(r:V Na):Prop:=∀g y b t A,bk g c i->St a d g (c :: o) c i y b A t->Aj a d g (MY l a) f (bz c) o c i (Oi r c) (aW e G A b) y t
theorem bk.fN(p:bk g c j):∀I∈bz c,I∈g:=λI x=>(RC.mp x).elim (λD=>D▸p.loc) (p.zU I)
theorem EF.no{j:MO}{v:MW}(L:EF a e g aq l N b d j v):Y:=cg L λn r U c=>nX U
theorem EF.pre{r:O (Q×AH)}{j:MO}{v:MW}(z:aQ a e g aq b d ak bc ap)(J:∀I∈aq,I∈g)(L:EF a e g aq l r ak ap j v):EF a e g aq l r b d j v:=cg L λn c D U=>dI n c D (U.pre z J)
theorem EF.wide{fr:V MS}{r:O (Q×AH)}{j:MO}{v:MW}(L:EF a e g [] l r b d j v):EF a e g fr l r b d j v:=cg L λn c D U=>dI n c D U.wide
theorem ES.mono{r C:O (Q×AH)}{K:bH}{v:MW}{h:V MS}(H:∀D n,EF a e g aq o r b d D n->EF a e ax h o C K v D n){D:MO}{n:MW}(L:ES a e g T f aq o c r b d D n):ES a e ax T f h o c C K v D n:=Nk L (λY Y U=>H _ _ U) λY Y U=>H _ _ U
theorem ve{I:MS}{n:Q}{r:AH}{j:MO}{v:MW}{a1:NP->MW->Prop}(a7:f.frames=S (c :: o))(hf:c.frame=S I)(a2:i5 a e g aq (c :: o) b d n r j v)
  (H:∀s,i5 a e g aq o b d n r j s->a1 () s):MZ T f (OF c j) a1 t v:=by
 revert H;refine i5.el (P:=λj v=>(∀s,i5 a e g aq o b d n r j s->a1 () s)->MZ T f (OF c j) a1 t v) a2 λJ K hr ea m a9 z1 z2 z3 z4 z5 z6 X H=>X.el λa5 w k h y q fw fb y1 y2 D y4 Y x y7 f0 f1 f2 f3=>(l8 _ _).at (wpAny_leaves_onW a7 hf fw λG i up dk=>?_);refine aM (dk ea k y1) λa6 g' p=>H _ (.mk J K hr ea G _ z1 z2 z3 z4 z5 z6 (.mk a5 w a6 h y q i (λM z a4=>(fb M z a4).imp id ?_) g' (p.trans y2) D y4 Y x y7 f0 f1 f2 f3));rintro⟨C,⟨E,B,L⟩,l,a3⟩;obtain⟨a8,A⟩:=up M _ a3 λvs U=>by replace U:=L.symm.trans U;cases U
 exact⟨C,(v7 E B L),a8,A⟩
theorem EF.stmt{i:Z}{r:O (Q×AH)}{j:MO}{v:MW}(R:bo bh i f (c :: o))(M:cK (c :: o) g [] p)(q:EF a e g aq (c :: o) r b d j v):ES a e g T f aq o c r b d j v:=by refine hF λl=>cg q λn h du U=>?_;subst du;exact M.el (.head _) λY I Y Y Y J Y Y Y Y=>l (ve R.frames J U λs q=>(dI n h rfl q))
theorem jL.ei{t:Z}{h:Rel G az}{n:Nm az}{s:Res (G×AH)}{A:G×AH->Res (Fl×Loc×AH)}{l:az->MW->Prop}(R:bo bh t f (c :: o))(p:cK (c :: o) g [] ap.heap)(J:∀I∈aq,I∈g)(B:jL a e g T f (c :: o) h n s ak ap)(z:aQ a e g aq b d ak bc ap)
  (H:∀I i x k M,s=.ok (I,i)->aQ a e g aq b d x i k->aQ a e g [] ak ap x i k->h (Sf k.heap x g) x I M->A (I,i)≠.bad->l M k) (w:s.bind A≠.bad) :
  MZ T f n l (ES a e g T f aq o c (s.bind A).x? b d) ap:=by
 refine Nk (B (λq=>w (by refine(bL q).trans ?_;rfl))) (λM v q=>?_) λj v q=>?_;·refine dF q λI i x dV o2 E=>?_;clear B;subst dV;exact H I i x v M rfl (z.trans o2.wide) o2 E w
 ·refine EF.stmt R p (EF.pre z J ?_)
  refine cg q λn r D U=>?_
  clear q R p J B z H w
  induction s using Wn with
  |ok I=>exact nX D
  |bad=>exact nX D
  |exc X m=>obtain⟨rfl,rfl⟩:=sP D;exact dI _ _ rfl U.wide
theorem QS.pre{r:Res (Fl×Loc×AH)}{A:NG}{v:MW}(z:aQ a e g aq b d ak bc ap)(L:QS a e g aq o c j r ak ap A v):QS a e g aq o c j r b d A v:=KZ L λq J f K D t U=>Iy q J f K D (z.trans t) U
theorem Aj.lift{n:Nm NG}{r:Res (Fl×Loc×AH)}(J:∀I∈aq,I∈g)(B:Aj a e g T f aq o c j n r ak ap)(z:aQ a e g aq b d ak bc ap)(h:r≠.bad):MZ T f n (QS a e g aq o c j r b d) (ES a e g T f aq o c r.x? b d) ap:=Nk (B h) (λY Y L=>L.pre z) λY Y L=>L.mono λY Y U=>U.pre z J
theorem qM.nil:qM h a e o c j f i .nil []:=λg y b t A p G B=>by exact Ol (gU .next A b y rfl (.refl G.inv) G trivial)
theorem qM.cons{I:LS}{l:dR}{k:Na}{m:V Na}(C:SS h a e o c j f i I k)(G:qM h a e o c j f i l m):qM h a e o c j f i (.cons I l) (k :: m):=λg y b t A p H B=>by
 rw[fc] at B;refine R fc ?_;have D:cN i I A b≠.bad:=λL=>B ((bL L).trans rfl);refine PK (Nk (C g y b t A p H D) (λx v L=>?_) λw v L=>?_)
 ·refine qs L λq J r K w z d U=>?_
  rw[w,Res.aP] at B⊢
  induction q using Fl.casesOn with
  |next=>
   induction x using SI with
   |next=>exact(G g K r v J p d).lift p.fN z B
   |_=>exact U.elim
  |ret E=>
   induction x using SI with
   |ret v'=>exact gU (.ret E) J r K rfl z d U
   |_=>exact U.elim
 ·refine L.mono λT n U=>cg U λP r X U=>?_
  induction s:cN i I A b using Wn with
  |ok _=>exact nX (s▸X)
  |bad=>exact(D s).elim
  |exc M Y=>replace X:=s▸X;obtain⟨rfl,rfl⟩:=sP X;exact dI _ _ rfl U
theorem SS.exp(R:bo bh q f (c :: o))(m:SE h a e (c :: o) c j f i af s)(d:Pj c=MT)(P:N4 s N J.line c=pure MT):SS h a e o c j f i (.exp af) (.Expr s J):=λg y b t A p G B=>by rw[rJ] at B⊢;refine QO ((m g y b t A p G).ei R G.live p.fN (.refl G.inv) (λI z K k U X o1 l E D=>?_) B) d P;rw[X];exact gU .next A z K rfl o1 (G.on p l) trivial
theorem SS.ret(R:bo bh q f (c :: o))(d:SE h a e (c :: o) c j f i af s):SS h a e o c j f i (.ret af) (.Return (S s) J):=λg y b t A p G B=>by rw[wA] at B⊢;refine wpAny_Return_some ((d g y b t A p G).ei R G.live p.fN (.refl G.inv) (λI z K k U X o1 l E D=>?_) B);rw[X];exact gU (.ret I) A z K rfl o1 (G.on p l) E
theorem SS.asg(R:bo bh q f (c :: o))(d:SE h a e (c :: o) c j f i af s)(M:j[K]? = S (S r))(m:c.kindOf r=S .local\/c.kindOf r=S .cell)
  (P:N4 s (S (.Name r bj)) J.line c=pure MT):SS h a e o c j f i (.asg K af) (.Assign [.Name r bj] s J):=λg y b t A p G B=>by rw[oK] at B⊢;refine wpAny_Assign_Name ((d g y b t A p G).ei R G.live p.fN (.refl G.inv) (λI z x k U X o1 l E D=>?_) B) P;rw[X];exact et p (G.on p l) j0.all M m E λv w n=>(gU .next _ z x rfl (o1.trans w) n trivial)
theorem Ak{C:LE}{I M:dR}:cN i (.ifs C I M) w k=(mO i C w k).bind λL=>if L.1 then aW i I w L.2 else aW i M w L.2:=by
 refine rK.trans (R eP ?_);cases aO i C w k with
 |ok P=>
  dsimp only[Res.aP]
  induction n:truthy P.1 using Ry with
  |none=>rfl
  |some C=>induction C using RE<;>rfl
 |exc _ _=>rfl
 |bad=>rfl
theorem SS.ifs{C:LE}{I M:dR}{n m:V Na}(R:bo bh q f (c :: o))(d:ST h a e (c :: o) c j f i C s)(r:qM h a e o c j f i I n)(w:qM h a e o c j f i M m):SS h a e o c j f i (.ifs C I M) (.If s n m J):=λg y b t A p G B=>by
 rw[Ak] at B⊢;refine wpAny_If ((d g y b t A p G).ei R G.live p.fN (.refl G.inv) (λL z K k U X o1 l E D=>?_) B);obtain rfl:L=U:=E;rw[X];clear B X R d;induction L using RE with
 |true=>exact(r g K z k A p (G.on p l)).lift p.fN o1 D
 |false=>exact(w g K z k A p (G.on p l)).lift p.fN o1 D
open Builtin
theorem pn{j:M5 MO}{H:MN}{g:NM}{r:NP->MW->Prop}(o:d.heap.get? n=S (listOf j q))(E:0<=H)(v:H<j.size)(s:j.size<1000)
  (p:∀m B,m.get? n=S (listOf (j.setIfInBounds H.toNat aa) B)->Sx n d.heap m->r () {d with heap:=m}):MZ (MY h a) f (Pz (.ref n) (.int H g) aa) r t d:=by
 have l:=bb o;refine Ny (MR (PZ l.typeIs (rfl) ?_));refine MR (Ot (name:=Tx "__setitem__") l.typeIs Rn (N2 Rn l.typeIs entry_list_setitem ?_ (args_list_setitem _ _ _)));show MZ _ _ (NL.List.listSubscript? (.int H g) >>= _) _ _ d;refine MR (wpAny_listSubscript_int (fitsIndex_of E (JE v s)) ?_);refine dD (TQ E) λi bE=>?_;clear l E s;subst bE;have M:i<j.size:=by exact RU.mp v
 have b:j[i]? = S j[i]:=Tv M;refine MR (MR (wpAny_seqItemAt o rfl (M0 ?_)));refine R b (hF λe=>dD (kF j q (·.setIfInBounds i aa)) λB k=>?_);have c:(d.heap.update n (V' (·.setIfInBounds i aa))).get? n=S (listOf (j.setIfInBounds i aa) B):=by refine(R9 _ o (by refine R k ?_;rfl)).trans ?_;rw[k]
 refine e (MR (wpAny_setSeqItemAt o rfl ?_));first
  |exact MR (M0 (M0 (fA .none rfl (M0 (p _ B c (Sq ..))))))
  |exact M0 (ba .none rfl (M0 (p _ B c (Sq ..))))
theorem rV{k:Nj}{a:MS}{M:M5 Np}{H z:MN}{n c:NM}{g:NP->MW->Prop}(o:d.heap.get? a=S (eH M))(E:0<=H)(i:H<M.size)(s:M.size<1000)(e:0<=z)(o1:z<256)
  (j:∀m,m.get? a=S (eH (M.setIfInBounds H.toNat z.toNat.toUInt8))->Sx a d.heap m->g () {d with heap:=m}):MZ (MY h k) f (Pz (.ref a) (.int H n) (.int z c)) g t d:=by
 refine Ny (MR (PZ (lW o) (rfl) ?_));refine MR (Ot (name:=Tx "__setitem__") (lW o) kG (N2 kG (lW o) pd ?_ (qI _ _ _)));refine MR (MR (Ob (T:="int") (QP d H n) int_index ?_));refine MR (NN (a:=H) rfl ?_);refine R (Nf (by unfold NL.Bytes.fitsIndex;simp;exact⟨i4 E (by decide),JE i s⟩)) ?_;refine M0 (MR (MR (NN (a:=z) rfl ?_)));refine R (Nf (by simp;exact⟨e,o1⟩)) ?_;refine M0 (MR (lX o ?_));rw[show seqIndex? H M.size=S H.toNat from seqIndex_of E i];refine MR (MR (Oy o ?_));refine MR (QR o ?_);have b:=R9 (V4 (·.setIfInBounds H.toNat z.toNat.toUInt8)) o rfl;refine Qc b ?_ ?_;·show(if(M.setIfInBounds H.toNat z.toNat.toUInt8).size>N1 then S "bytearray:memory" else N)=N;rw[Nf];rw[M5.size_setIfInBounds];exact Tj.mpr (qi s rfl)
 ·exact MR (M0 (M0 ⟨.none,rfl,M0 (j _ b (Sq ..))⟩))
theorem byte_back{z:MN}(E:0<=z)(p:z<256):((z.toNat.toUInt8.toNat:Z):MN)=z:=by refine dD (TQ E) λa cj=>?_;subst cj;exact Nc VH (Z.mod_eq_of_lt (RU.mp p))
theorem tW{z L:Q}{c vi vv:MO}{H':AH}{a1:NP->MW->Prop}(hu:f.units+64<NB)(K:Inv a e g b k d.heap)(p:VR a.params (Sf d.heap b g) b z c)(h2:VR a.params (Sf d.heap b g) b L vi)(T:VR a.params (Sf d.heap b g) b aw vv)(D:dm k z L aw=S H')
  (hQ:∀v,aQ a e g [] b d b H' v->a1 () v):MZ (MY h a) f (Pz c vi vv) a1 t d:=by
 refine hF λE=>?_;have p:=p.inv;induction z using Wm with
 |aE H=>
  refine aM p λI du J=>?_
  subst du
  induction L using Wm with
  |int a0=>refine dD h2.inv λn dV=>?_;subst dV;refine aM (SQ.mp D) λvs i D=>cA D (λq D=>?_) λY D=>nX D;refine cg (K.dt.L H vs I i J) λj a3 o A=>?_;have s:=A.len.trans RI;refine fK q λq0 y P=>E ?_;exact pn o q0 (s▸y) (s▸M8 P) λm B G r=>hQ _ (sX D▸.mk' (K.CR J r G (R UY (A.set a0.toNat T))) (.but (a:=I) (λM z q U=>(r.2 M q).trans U) (.inl (kC J))) (.refl b))
  |_=>exact nX D
 |ab H=>refine aM p λI fB J=>?_;subst fB;exact aM (SQ.mp D) λl i D=>aM (Sb.mp D) λa7 X D=>zT (fD K i J) λes ep dk a2=>E (oX (own:=g) (E8 hu rfl) a2 h2 T X λa3 m a8 x a6 r G a4 a5=>hQ _ (D▸.mk' (K.FJ J r G a4 a5) (.but (a:=I) (λM z q U=>(r.2 M q).trans U) (.inl (fQ J))) (.refl b)))
 |eO H=>
  refine aM p λI i7 J=>?_
  subst i7
  induction L using Wm with
  |int a0=>
   induction aw using Wm with
   |int z=>refine dD h2.inv λn jQ=>?_;subst jQ;refine dD T.inv λa9 lM=>?_;subst lM;refine aM (SQ.mp D) λbs i D=>cA D (λq D=>?_) λY D=>nX D;refine aM (K.dt.B H bs I i J) λM o w=>?_;have s:=w▸(Rz _).trans RI;refine wa q λq0 y P C q4=>E ?_;exact rV o q0 (s▸y) (s▸M8 q4) P C λm G r=>hQ _ (sX D▸.mk' (K.setB J r G (by refine R UY ?_;refine VN.trans ?_;refine R w ?_;refine R (byte_back P C) rfl)) (.but (a:=I) (λM z q U=>(r.2 M q).trans U) (.inl (nN J))) (.refl b))
   |_=>exact nX D
  |_=>exact nX D
 |_=>exact nX D
theorem FR.findIdx(n:ae.Nodup)(e:∀H∈ae,H<NS):∀{l:V Q} {y:V Nt} {K H:Z},FR U x b ae l y->ae[K]? = S H->y.findIdx? (λD=>D.key.isStr (sx H))=S K:=by
 induction ae with
 |nil=>intro l y K H B D;exact nX D
 |cons r ae d=>
  intro l y K H B D
  rw[RW] at n
  cases B with
  |@cons _ w P t _ l y p G=>
   refine Uj.trans ?_
   induction K using RY with
   |zero=>obtain rfl:=sX D;simp[MO.isStr]
   |succ K=>
    have J:H∈ae:=RJ D
    have:(MO.str (sx r) t).isStr (sx H)=MT:=by refine(jR (e r (.head _)) (e H (.tail _ J))).trans ?_;rw[OK];rintro rfl;exact n.1 J
    simp only[this,SU,Oj]
    exact R (d n.2 (λH J=>e H (.tail _ J)) G D) rfl
theorem FR.noRef:∀{l:V Q} {y:V Nt},FR U x b ae l y->y.any (·.refKey)=MT:=by
 induction ae with
 |nil=>intro l y B;cases B;rfl
 |cons r ae d=>
  intro l y B
  cases B with
  |@cons _ w P t _ l y p G=>exact VC.trans ((d G).trans rfl)
theorem tX{g:Nj}{r:bH}{s:MW}{y:MS}{l:dG}{a:Z}{o:MO}{J:NP->MW->Prop}(z:Fc v)(I:C1 v)(w:v.In s.heap)(j:l≠.bQ)(c:a∈bS l)(k:iE s y A l C q)(a0:FR g.params x r ae au C.toList)(e:∀Y∈ae,Y<NS)
  (hz:C.size<500)
  (H:∀m B U n E,E.toList=(match C.toList.findIdx? (λD=>D.key.isStr (sx a)) with|some K=>C.toList.modify K (λD=>{D with val:=o})|none=>C.toList++[⟨Su g.params (sx a),.str (sx a) n,o⟩])->m.get? A=S (bB E U)->Sx A s.heap m->J () {s with heap:=m,toks:=B}) :
  MZ (MY h g) f (PL (.ref y) (sx a) o) J t s:=by
 refine hF λX=>bK (I.sa l j) λp G=>aM (z.cls l) λcd i c2=>X (set_plain w k.inst p (osa_open (s:={s with toks:=s.toks+1}) w k.inst G (I.xe l j a c) λM=>?_));refine MR (M0 (MR (MR (O3 k.x (MR (Nu.here (s:={s with toks:=s.toks+1}) (Qd w i) ?_))))));refine R c2 (M0 (a:=S A) (MR (M0 (MR ?_))));refine MR (MR (Qw (M0 (MR (QF (MR (O3 k.d ?_)))))));have b:C.any (·.refKey)=MT:=by exact V3.symm.trans a0.noRef
 have T:(!C.any (·.key.isStr (sx a))&&C.any (·.refKey))=MT:=by exact R b ((UO ..))
 dsimp only;refine R (aRefKeyMayBeTheName_at ..) (R T ?_);have P:Vn (sx a) (Su g.params (sx a)) (.str (sx a) (s.toks+1)) o (bB C q)=bB (putL (sx a) (Su g.params (sx a)) (.str (sx a) (s.toks+1)) o C.toList).toArray (putN (sx a) C.toList q):=by have:=putName_dict (sx a) (Su g.params (sx a)) (.str (sx a) (s.toks+1)) o C.toList q;exact this
 have d:(s.heap.update A (Vn (sx a) (Su g.params (sx a)) (.str (sx a) (s.toks+1)) o)).get? A=S (bB (putL (sx a) (Su g.params (sx a)) (.str (sx a) (s.toks+1)) o C.toList).toArray (putN (sx a) C.toList q)):=by refine(R9 _ k.d (by refine R P ?_;rfl)).trans ?_;rw[P]
 have L:(putL (sx a) (Su g.params (sx a)) (.str (sx a) (s.toks+1)) o C.toList).length<=C.size+1:=by
  refine R (putL_find ..).symm ?_;split;·simp
  ·simp
 refine Ro k.d ?_;refine MR (Qc d (Rp (by refine R V.size_toArray ?_;refine R N9 ?_;exact n3 (RH L hz) rfl)) ?_);refine M0 (H _ _ (putN (sx a) C.toList q) (s.toks+1) _ ?_ d (Sq ..));refine V.toList_toArray.trans ((putL_find ..).symm.trans ?_);cases V.findIdx? (λD=>D.key.isStr (sx a)) C.toList<;>rfl
noncomputable def isName:MQ->MP
 |.Name ..=>ML
 |_=>MT
noncomputable def j4:MQ->MP
 |.ListComp ..|.SetComp ..|.DictComp ..=>ML
 |_=>MT
theorem eK(B:j4 s=MT)(n:O MQ)(H:Z)(c:Ng):N4 s n H c=pure MT:=by
 induction s using PySem.Expr.casesOn with
 |ListComp|SetComp|DictComp=>exact bF B.symm
 |_=>exact Eq.refl (pure MT)
theorem gZ{n:MQ}(p:∀I M C h,N4 (.ListComp I M C h) (S n) H c=pure MT)(G:∀I M C h,N4 (.SetComp I M C h) (S n) H c=pure MT)(T:∀I M C h D,N4 (.DictComp I M C h D) (S n) H c=pure MT):N4 s (S n) H c=pure MT:=by
 induction s using PySem.Expr.casesOn with
 |ListComp=>exact p _ _ _ _
 |SetComp=>exact G _ _ _ _
 |DictComp=>exact T _ _ _ _ _
 |_=>exact Eq.refl (pure MT)
theorem j5{y:MQ}(m:V MQ)(r:Z)(j:Ni)(H:Z)(c:Ng):N4 y (S (.Tuple m r j)) H c=pure MT:=gZ (λY Y Y Y=>rfl) (λY Y Y Y=>rfl) λY Y Y Y Y=>rfl
theorem hY(r:MQ)(I:MU)(j:Ni)(H:Z)(c:Ng):N4 s (S (.Attribute r I j)) H c=pure MT:=gZ (λY Y Y Y=>rfl) (λY Y Y Y=>rfl) λY Y Y Y Y=>rfl
theorem vf(r K:MQ)(j:Ni)(H:Z)(c:Ng):N4 s (S (.Subscript r K j)) H c=pure MT:=gZ (λY Y Y Y=>rfl) (λY Y Y Y=>rfl) λY Y Y Y Y=>rfl
set_option backward.match.sparseCases true in
noncomputable def nR(w:V MQ):MP:=w.any λ|.Starred ..=>ML|_=>MT
set_option backward.match.sparseCases true in
noncomputable def namesIn(z:MU->O Nz)(l:Z)(m:V MQ):V MU:=m.filterMap λ
 |.Name r p=>if z r==S .local&&p.line==l then S r else N
 |_=>N
noncomputable def FY(z:MU->O Nz)(m w:V MQ):O (O (V MU)):=
 if(!(m.length==2||m.length==3)||w.length != m.length) then S N
 else if nR w then S N
 else
  let a:=namesIn z ((m.head?.map (·.pos.line)).getD 0) m
  if(a.length != m.length||a.eraseDups.length != a.length) then S N
  else if w.all (foldedForSure 8) then S N
  else if w.all (constantsAlone 8) then N else S (S a)
theorem qN{C:Prop}[OJ C]{I M:O G}{r s:az}{e:G}{P:az->Prop}(D:(if C then I else M)=S e)(p:I=S e->P r)(a:M=S e->P s):P (if C then r else s):=by
 by_cases B:C;·exact R (Nb B) (p ((Nb B).symm.trans D))
 ·exact R (Nf B) (a ((Nf B).symm.trans D))
theorem pq{m w:V MQ}{r:Z}{j a:Ni}{e:O (V MU)}(J:c.scope.kind=.function)(D:FY c.kindOf m w=S e):Pk [.Tuple m H j] (.Tuple w r a) c=pure e:=by
 have b:(c.blockKind != .function)=MT:=by unfold Ng.blockKind;exact R J rfl
 show(if(!(m.length==2||m.length==3)||w.length != m.length||c.blockKind != .function)=ML then pure N else if nR w=ML then pure N else
  if((namesIn c.kindOf ((m.head?.map (·.pos.line)).getD 0) m).length != m.length||(namesIn c.kindOf ((m.head?.map (·.pos.line)).getD 0) m).eraseDups.length != (namesIn c.kindOf ((m.head?.map (·.pos.line)).getD 0) m).length)=ML then pure N else
  if w.all (foldedForSure 8)=ML then pure N else if w.all (constantsAlone 8)=ML then unsupported "assign.tuple-of-constant-expressions:order-of-the-stores" else pure (S (namesIn c.kindOf ((m.head?.map (·.pos.line)).getD 0) m)):Nm (O (V MU)))=_
 refine R b ?_;refine R (MP.or_false ..) ?_;have L:∀{I:O (V MU)},S I=S e->(pure I:Nm (O (V MU)))=pure e:=λB=>Nc pure (sX B);exact qN (P:=λU=>U=pure e) D L λD=>qN (P:=λU=>U=pure e) D L λD=>qN (P:=λU=>U=pure e) D L λD=>qN (P:=λU=>U=pure e) D L λD=>qN (P:=λU=>U=pure e) D nX L
theorem K8{m:V MQ}{j:Ni}(B:∀w r a,s≠.Tuple w r a):Pk [.Tuple m H j] s c=pure N:=by induction s using T3<;>first|rfl|exact Nh rfl (B _ _ _)
inductive rW(sl:V (O MU))(env:Ng):V Z->V MQ->V MU->Prop
 |nil:rW sl env [] [] []
 |cons {j:Z} {js:V Z} {x:MU} {q:Ni} {ts:V MQ} {xs:V MU}:sl[j]? = S (S x)->env.kindOf x=S .local\/env.kindOf x=S .cell->rW sl env js ts xs->rW sl env (j :: js) (.Name x q :: ts) (x :: xs)
theorem rW.each{k:V Z}{m:V MQ}{a:V MU}(r:rW j c k m a):(Oz m c).length=m.length/\(Oz m c).findIdx? (·.1)=N/\k.length=m.length/\a.length=m.length:=by
 induction r with
 |nil=>exact qu rfl rfl rfl rfl
 |@cons i k r L m a _ _ _ d=>exact qj d λI M C h=>R (show Oz (.Name r L :: m) c=(MT,OQ (.Name r L) c) :: Oz m c from rfl) (qu (Nc (· + 1) ‹_›) (by simp[Uj,M]) (Nc (· + 1) ‹_›) (Nc (· + 1) ‹_›))
theorem gu{v:V (MO->Nm NP)}:∀{js:V Z} {xs:V MU} {as:V Q} {w:V MO} {y:bH} {b:AH} {k:MW} {loc:Loc} {o:NP->MW->Prop},bk g c j->(∀I∈aq,I∈g)->(∀r∈xs,j0 c aq r)->St a e g l c j y b loc k->v.length=js.length->xs.length=js.length->
  (∀(K i:Z) r,js[K]? = S i->xs[K]? = S r->j[i]? = S (S r)/\(c.kindOf r=S .local\/c.kindOf r=S .cell)/\∀E,∃n,v[K]? = S n/\∀{o:NP->MW->Prop} {t} {k},MZ T f (Qb c r E) o t k->MZ T f (n E) o t k)->
  bM a.params (Sf k.heap y g) y as w->as.length=js.length->(∀A J,de loc js as=S J->aQ a e g aq y k y b A->St a e g l c j y b J A->o () A)->MZ T f (QT v w) o t k:=by
 induction v with
 |nil=>intro js xs as w y b k loc o p M D G X m L P s H;obtain rfl:=Uq.mp X.symm;obtain rfl:=Uq.mp s;obtain rfl:=P.qt;exact M0 (H k loc rfl (.refl G.inv) G)
 |cons n v d=>intro js xs as w y b k loc o p M D G X m L P s H;refine mN (Sw X.symm) λi js bE=>?_;subst bE;refine mN (Sw s) λI as cj=>?_;subst cj;refine mN (Sw m) λr xs du=>?_;subst du;refine mX P.inv λE w dV v1 v2=>?_;clear P;subst dV;refine fK (L 0 i r rfl rfl) λh1 h2 h3=>aM (h3 E) λt' h a1=>?_;obtain rfl:=sX h;refine MR (Ny (a1 (et (loc:=loc) (j:=i) p G (D r (.head _)) h1 h2 v1 λA Y a0=>?_)));exact d (js:=js) (xs:=xs) p M (λa2 x=>D a2 (.tail _ x)) a0 (T4 X) (T4 m) (λK B C q1 q2=>L (K+1) B C q1 q2) (v2.mono (λI z a3=>Y.sf (λI x=>.inl (M I x)) a3) Y.le) (T4 s) λs2 U q o2 cM=>H s2 U q (Y.trans o2) cM
theorem rW.at{A:Nw}{M:N0}{k:V Z}{m:V MQ}{a:V MU}(r:rW j c k m a):∀(K i:Z) s,k[K]? = S i->a[K]? = S s->j[i]? = S (S s)/\(c.kindOf s=S .local\/c.kindOf s=S .cell)/\∀E,∃n,((Oz m c).map (·.2))[K]? = S n/\∀{o:NP->MW->Prop} {I} {t},MZ M A (Qb c s E) o I t->MZ M A (n E) o I t:=by
 induction r with
 |nil=>exact λK i s D=>nX D
 |@cons J k r L m a p G _ d=>
  intro K i s X b
  induction K using RY with
  |zero=>exact sX X▸sX b▸(fA p G (λE=>(ba _ rfl (λe=>assign_Name e))))
  |succ K=>exact d K i s X b
theorem j6{k:V Z}:∀{l:Loc} {a:V Q} {v:Loc},de l k a=S v->a.length=k.length:=by
 induction k with
 |nil=>intro l a v D;induction a using RD with
  |nil=>rfl
  |cons _ _=>exact nX D
 |cons i k d=>intro l a v D;induction a using RD with
  |nil=>exact nX D
  |cons I a=>exact Nc (· + 1) (d (l:=l.set i (S I)) D)
theorem hA(D:MV.ExtBut p.objs.size p X):∀M z,p.get? M=S z->X.get? M=S z:=λM z o=>D M z (Te (SF o)) o
theorem BU{k:V Z}(B:(match (generalizing:=false) m with|.tup a=>(match de w k a with|some v=>Res.ok (Fl.next,v,bc)|none=>.bad)|_=>Res.bad)≠.bad) :
  ∃a v,m=.tup a/\de w k a=S v:=by
 induction m using Wm with
 |tup a=>
  revert B
  show(match de w k a with|some v=>Res.ok (Fl.next,v,bc)|none=>.bad)≠.bad->_
  induction D:de w k a using Ry with
  |none=>exact bX
  |some v=>exact λY=>(dI a v rfl D)
 |_=>exact bX B
theorem SS.qo{tp:Ni}{a0:Z}{R:bo N a0 f (c :: o)}{k:V Z}{m:V MQ}{xs:V MU}(d:SE h a e (c :: o) c j f i af s)(nm:rW j c k m xs)(C:Pk [.Tuple m H tp] s c=pure N):SS h a e o c j f i (.qo k af) (.Assign [.Tuple m H tp] s J):=λg y b t T p G B=>by rw[oM] at B⊢;refine Assign_Tuple ((d g y b t T p G).ei R G.live p.fN (.refl G.inv) (λI z K P U X o1 p1 E D=>?_) B) (j5 m H tp J.line c) C;rw[X,Res.aP];refine qj nm.each λn1 n2 n3 n4=>cg (BU D) λw v fB L=>?_;clear B X D d C;subst fB;dsimp only;rw[L];refine dF E.inv λr xi x i7 sx M=>?_;clear E;subst i7;have l:=j6 L;have dw:=G.on p p1;refine Qe R.handled (dW sx) (n1.trans (n3.symm.trans (l.symm.trans (M.len.trans RI)))) n2 λh' n=>?_;have A:aQ a e g [] K P K z {P with heap:=h'}:=.grown (tk':=P.toks) dw.inv (hA n);refine gu (js:=k) (xs:=xs) (as:=w) (loc:=T) p p.fN (λY Y=>j0.all) (dw.on p A) (Rz _ |>.trans (n1.trans n3.symm)) (n4.trans n3.symm) nm.at (A.CT M) l λs2 a1 q o2 cM=>?_;obtain rfl:=sX (L.symm.trans q);exact gU .next v z K rfl ((o1.trans A.wide).trans o2) cM trivial
theorem Al{T:V G}(B:T.length=2):∃I M,T=[I,M]:=by refine mN (Sw B) λI T jQ=>?_;subst jQ;refine mN (Sw (T4 B)) λM T lM=>?_;subst lM;exact v7 I M (Uq.mp (T4 (T4 B))▸rfl)
theorem C9{T:V G}(B:T.length=3):∃I M C,T=[I,M,C]:=by refine mN (Sw B) λI T rM=>?_;subst rM;exact mN (Al (T4 B)) λM C iR=>R iR (Hq I M C rfl)
theorem bM.rev:∀{w:V MO},bM U x b z w->bM U x b z.reverse w.reverse:=by
 induction z with
 |nil=>intro w B;exact B.qt▸.nil
 |cons I z d=>intro w B;obtain⟨E,c,rfl,p,G⟩:=B.inv;exact R Us (R Us ((d G).append (.cons p .nil)))
theorem vg{k:V Z}(n:k.Nodup)(T:k.length=2\/k.length=3){a v:Loc}(D:de a k z=S v):de a k.reverse z.reverse=S v:=by
 have l:=j6 D;rcases T with T|T;·refine hF λP=>mN (Al T) λI M lO=>?_;subst lO;refine mN (Al (l.trans T)) λr s lP=>?_;subst lP;exact P ((Nc S (Uw _ _ (show I≠M from λq=>(RW.mp n).1 (q▸.head _)).symm)).trans D)
 ·refine zT (C9 T) λI M C rO=>?_;subst rO;refine zT (C9 (l.trans T)) λr s U oV=>?_;clear l T;subst oV;refine bK (RW.mp n) λt n=>(Nc S ?_).trans D;refine R (Uw (i:=C) (j:=M) _ _ (show M≠C from λq=>(RW.mp n).1 (q▸.head _)).symm) ?_;refine(Uw (i:=C) (j:=I) _ _ (show I≠C from λq=>t (q▸.tail _ (.head _))).symm).trans ?_;refine R (Uw (i:=M) (j:=I) _ _ (show I≠M from λq=>t (q▸.head _)).symm) rfl
theorem vh(e:Nv)(a:Nj)(f:Nw){k:V Z}{m:V MQ}{b:V MU}(h:bk g c j)(r:rW j c k m b)(n:b.Nodup):k.Nodup:=by refine qj r.each λY Y n3 n4=>?_;rw[V.nodup_iff_pairwise_ne,V.pairwise_iff_getElem] at n⊢;intro K i p G H D;have d:=(r.at (M:=MY e a) (A:=f) i _ _ (RB G) (RB (l:=b) (n4▸n3▸G))).1;rw[<-D,((r.at (M:=MY e a) (A:=f) K _ _ (RB p) (RB (l:=b) (n4▸n3▸p))).1)] at d;exact n K i (n4▸n3▸p) (n4▸n3▸G) H (Sl (Sl d))
theorem nS{B:Z}{R:bo N B f l}{k:V Z}{ts:V MQ}{z:V MU}{U:MO}{v:Loc}(p:bk g c j)(J:rW j c k ts z)(L:z.Nodup)(T:k.length=2\/k.length=3)(dw:St a e g l c j ak bc w ap)(E:VR a.params (Sf ap.heap ak g) ak (.tup au) U)(G:de w k au=S v) :
  MZ (MY h a) f (unpackItems U z.length N) (λa1 a0=>MZ (MY h a) f (QT (z.reverse.map λB=>bindName c B) a1.reverse) (λY b=>aQ a e g (bz c) ak ap ak bc b/\St a e g l c j ak bc v b) t a0) t ap:=by
 refine qj J.each λn1 n2 n3 n4=>dF E.inv λr xi a3 oW sx D=>?_;clear n1 n2 E;subst oW;have I:=j6 G;have x:=n4.trans n3.symm;rw[show z.length=xi.size from x.trans (I.symm.trans (D.len.trans RI))];refine wpAny_unpackItems_tuple R.handled (dW sx) λm n=>?_;have A:aQ a e g [] ak ap ak bc {ap with heap:=m}:=.grown (tk':=ap.toks) dw.inv (hA n);refine gu (js:=k.reverse) (xs:=z.reverse) (as:=au.reverse) (loc:=w) p p.fN (λY Y=>j0.all) (dw.on p A) ((Rz _).trans (Sr.trans (x.trans Sr.symm))) (Sr.trans (x.trans Sr.symm)) (λK i s y H=>?_) (A.CT D).rev (Sr.trans (I.trans Sr.symm)) λo a4 q o2 cM=>?_;·have d:=TJ (RG.mp y).1 Sr;have C:=(Vw (x▸d)).symm.trans H;rw[x] at C;refine fK (J.at (M:=MY h a) (A:=f) _ i s ((Vw d).symm.trans y) C) λP X Y=>?_;exact fA P X (λa2=>(ba (λB=>bindName c s B) (by refine RK.trans ?_;rw[H];rfl) (λhq=>bindName_ hq)))
 ·obtain rfl:=sX ((vg (vh h a f p J L) T G).symm.trans q);exact⟨A.wide.trans o2,cM⟩
theorem SS.IL{L:Ni}{R:bo N q f (c :: o)}{k:V Z}{m:V MQ}{r:V MU}(d:SE h a e (c :: o) c j f i af s)(M:rW j c k m r)(n:r.Nodup)(T:k.length=2\/k.length=3)(C:Pk [.Tuple m H L] s c=pure (S r)):SS h a e o c j f i (.qo k af) (.Assign [.Tuple m H L] s J):=λg y b t A p G B=>by rw[oM] at B⊢;refine Assign_Tuple_swapped ((d g y b t A p G).ei R G.live p.fN (.refl G.inv) (λI z K s1 P X o1 l E D=>?_) B) (j5 m H L J.line c) C;rw[X,Res.aP];refine cg (BU D) λw v rP x=>?_;clear B X D d C;subst rP;dsimp only;rw[x];exact Nk (nS (R:=R) p M n T (G.on p l) E x) (λY Y U=>Nk U (λY Y U=>(gU .next v z K rfl (o1.trans U.1) U.2 trivial)) λY Y U=>U) λY Y U=>U
theorem xn{a:V Z}{y:cz}:cN i (.gj a y) w k=cN i (.qo a (.tup y)) w k:=by
 refine tA.trans (R oM (R lJ ?_));cases bp i y w k with
 |ok L=>rfl
 |exc _ _=>rfl
 |bad=>rfl
theorem SS.gj{k:V Z}{y:cz}{r:Na}(d:SS h a e o c j f i (.qo k (.tup y)) r):SS h a e o c j f i (.gj k y) r:=λg l b t A p G=>by exact R xn (d g l b t A p G)
theorem xp{z:Q}{c o:MO}{I:Z}{r:AH}{l:NP->MW->Prop}(C:Gr v e P be bg bf)(K:Inv a e g b k d.heap)(p:VR a.params (Sf d.heap b g) b z c)(T:VR a.params (Sf d.heap b g) b aw o)(D:dH k z I aw=S r)
  (H:∀j,aQ a e g [] b d b r j->l () j):MZ (MY h a) f (PL c (sx I) o) l t d:=by
 induction z using Wm with
 |aA a4=>
  refine cg p.inv λa1 L bE J=>R bE (iQ D λcj i D=>iQ D λa3 X D=>cA D (λq D=>?_) λY D=>nX D);refine cg (lu K J i) λy a2 a0 A=>?_;have w:=qD X;have s:y.size<500:=by
   have:(bS cj.1).length<500:=by induction cj.1 using dG.casesOn<;>decide +kernel
   exact R RI.symm (R A.len.2 this)
  refine tX (r:=b) C.ok C.set (C.In K) (λq=>nX ((nO I).symm.trans (q▸X))) (RJ w) a0 A (gq cj.1) s λm B n' n E he G x=>H _ (sX D▸.mk' (K.IB J i x G ?_) (.but (a:=L) (λM z q U=>(x.2 M q).trans U) (.inl (jP J))) (.refl b));refine R he ?_;refine R (A.findIdx (lq cj.1) (gq cj.1) w) ?_;exact A.set T
 |_=>exact nX D
theorem SS.eM{E:LE}{U:MQ}{I:Z}(C:Gr v e P be bg bf)(R:bo bh q f (c :: o))(w:SE h a e (c :: o) c j f i E U)(a1:SE h a e (c :: o) c j f i af s):SS h a e o c j f i (.eM af I E) (.Assign [.Attribute s (sx I) bj] U J):=λg T b t A p G B=>by
 rw[tu] at B⊢;refine QU ((w g T b t A p G).ei R G.live p.fN (.refl G.inv) (λM z K k vb X o1 l v1 D=>?_) B) (hY s (sx I) bj J.line c);rw[X,Res.aP];have dw:=G.on p l;refine(a1 g K z k A p dw).ei R dw.live p.fN o1 (λa0 H x s2 r m o2 n L Y=>?_) D;rw[m,Res.aP];induction y:dH H a0 I M using Ry with
 |none=>exact bX (y▸Y)
 |some d=>exact xp C o2.inv L (n.vr v1) y λs3 o3=>(gU .next A d x rfl (o2.trans o3.wide) ((dw.on p n).on p o3) trivial)
theorem SS.ek{z K E:LE}{U:MQ}(k:f.units+64<NB)(R:bo bh q f (c :: o))(a0:SE h a e (c :: o) c j f i E U)(a2:SE h a e (c :: o) c j f i z aj)(a5:SE h a e (c :: o) c j f i K s):SS h a e o c j f i (.ek z K E) (.Assign [.Subscript aj s bj] U J):=λg a3 b t A p G B=>by
 rw[tw] at B⊢;refine wpAny_Assign_Subscript ((a0 g a3 b t A p G).ei R G.live p.fN (.refl G.inv) (λM H1 r1 s1 P X o1 l v1 D=>?_) B) (vf aj s bj J.line c);rw[X,Res.aP];have dw:=G.on p l;refine(a2 g r1 H1 s1 A p dw).ei R dw.live p.fN o1 (λC I x s2 r m o2 n v Y=>?_) D;rw[m,Res.aP];have cM:=dw.on p n;refine(a5 g x I s2 A p cM).ei R cM.live p.fN o2 (λa1 L H s3 vd T o3 d w a4=>?_) Y;rw[T,Res.aP];induction y:dm L C a1 M using Ry with
 |none=>exact bX (y▸a4)
 |some H4=>exact tW k o3.inv (d.vr v) w (d.vr (n.vr v1)) y λs4 o4=>(gU .next A H4 H rfl (o3.trans o4.wide) ((cM.on p d).on p o4) trivial)
inductive vj(prog:Nv)(w:Nj)(g₀:MV)(l:V Ng)(env:Ng)(sl:V (O MU))(A:Nw)(cf:CF):cz->cz->V MQ->Prop
 |nil:vj prog w g₀ l env sl A cf .nil .nil []
 |cons {o i:LE} {os is:cz} {x y:MQ} {q:Ni} {ts:V MQ}:SE prog w g₀ l env sl A cf o x->SE prog w g₀ l env sl A cf i y->vj prog w g₀ l env sl A cf os is ts->vj prog w g₀ l env sl A cf (.cons o os) (.cons i is) (.Subscript x y q :: ts)
theorem vj.each{n:Z}{b q:cz}{m:V MQ}(r:vj h a e l c j f i b q m):(Oz m c).length=m.length/\(Oz m c).findIdx? (·.1)=N/\namesIn c.kindOf n m=[]:=by
 induction r with
 |nil=>exact fA rfl rfl rfl
 |@cons z K b q r s L m _ _ _ d=>refine fK d λI M C=>R (show Oz (.Subscript r s L :: m) c=(MT,OQ (.Subscript r s L) c) :: Oz m c from rfl) ?_;exact fA (Nc (· + 1) ‹_›) (by simp[Uj,M]) (TP.trans (C))
theorem j7{L:Ni}{o:NP->MW->Prop}(B:MZ T f (PySem.eval aj c) (λy q=>MZ T f (PySem.eval s c) (λK e=>MZ T f (Pz y K aa) o t e) t q) t d):MZ T f (OQ (.Subscript aj s L) c aa) o t d:=R (assign_Subscript ..) (MR (Ny (Nk B (λy q a=>MR (Ny (Nk a (λK e p=>MR (NX (MR (Ny (Nk p (λY Y L=>wpAny_release L) λY Y aj=>aj))))) λY Y aj=>aj))) λY Y aj=>aj)))
theorem vj.run{a4:Z}(hu:f.units+64<NB)(R:bo bh a4 f (c :: o)){n D:cz}{m:V MQ}(r:vj h a e (c :: o) c j f i n D m):∀{g K k y b t A} {l:V Q} {w:V MO},bk g c j->St a e g (c :: o) c j y b A t->bM a.params (Sf t.heap y g) y l w->aQ a e g (bz c) K k y b t->uN i n D l A b≠.bad->
  MZ (MY h a) f (QT ((Oz m c).map (·.2)) w) (λε=>QS a e g (bz c) o c j (uN i n D l A b) K k .next) (ES a e g (MY h a) f (bz c) o c (uN i n D l A b).x? K k) t:=by
 induction r with
 |nil=>
  intro g K k y b t A l w p G P z B
  induction l using RD with
  |nil=>obtain rfl:=P.qt;exact M0 (gU .next A b y rfl z G trivial)
  |cons _ _=>exact bX B
 |@cons a1 li n D r a5 q m a2 J _ d=>
  intro g K k y b t A l w p G P z B
  induction l using RD with
  |nil=>exact bX B
  |cons I l=>
   refine mX P.inv λa3 w du v1 v=>?_;subst du
   ·have T:uN i (.cons a1 n) (.cons li D) (I :: l) A b=((aO i a1 A b).bind λa'=>(aO i li A a'.2).bind λM=>match dm M.2 a'.1 M.1 I with|some H'=>uN i n D l A H'|none=>.bad):=rfl
    rw[T] at B⊢
    refine MR (Ny (j7 ?_))
    refine(a2 g y b t A p G).ei R G.live p.fN z (λM H2 x s2 vb e2 o2 p2 w2 Y=>?_) B
    rw[e2,Res.aP]
    have cM:=G.on p p2
    refine(J g x H2 s2 A p cM).ei R cM.live p.fN o2 (λC E H s3 vc s o3 p3 w3 a0=>?_) Y
    rw[s,Res.aP]
    induction L:dm E M C I using Ry with
    |none=>exact bX (L▸a0)
    |some U=>rw[L] at a0;exact tW hu o3.inv (p3.vr w2) w3 (p3.vr (p2.vr v1)) L λX o4=>d p ((cM.on p p3).on p o4) (o4.CT (p3.CT (p2.CT v))) (o3.trans o4.wide) a0
theorem SS.kN{tp:Ni}{a4:Z}{L T w:cz}{m P:V MQ}{k':Z}{a0:Ni}(hu:f.units+64<NB)(R:bo N a4 f (c :: o))(d:m8 h a e (c :: o) c j f i w P)(r:vj h a e (c :: o) c j f i L T m)(hc:jY w<1000)(hl:jY w=m.length)(h2:0<m.length) :
  SS h a e o c j f i (.kN L T w) (.Assign [.Tuple m H tp] (.Tuple P k' a0) J):=λg a3 b t A p G B=>by
 have Y:cN i (.kN L T w) A b=(aO i (.tup w) A b).bind λq=>match q.1 with|.tup l=>uN i L T l A q.2|_=>.bad:=by
  refine tB.trans ?_;rw[lJ]
  cases bp i w A b with
  |ok q=>rfl
  |exc _ _=>rfl
  |bad=>rfl
 rw[Y] at B⊢;refine hF λa2=>fK (r.each (n:=0)) λn1 n2 ε=>?_;have C:Pk [.Tuple m H tp] (.Tuple P k' a0) c=pure N:=by
  refine pq p.kind ?_;unfold FY;split;·rfl
  ·split;·rfl
   ·rw[Nb];rw[(r.each (n:=(m.head?.map (·.pos.line)).getD 0)).2.2];simp;exact Te h2
 refine a2 (Assign_Tuple ((SE.tup d hc g a3 b t A p G).ei R G.live p.fN (.refl G.inv) (λI z K k U X o1 p1 E D=>?_) B) (j5 (y:=.Tuple P k' a0) m H tp J.line c) C);rw[X];refine aM (FF (lJ.symm.trans X)) λl q e2=>?_;clear X;subst q;refine dF E.inv λx' v x dV sx M=>?_;subst dV;have s:l.length=v.size:=by exact M.len.trans RI
 have dw:=G.on p p1;refine Qe R.handled (dW sx) (n1.trans (hl.symm.trans ((je (vs:=l) (H':=z) e2).symm.trans (M.len.trans RI)))) n2 λh' n=>?_;have a1:aQ a e g [] K k K z {k with heap:=h'}:=.grown (tk':=k.toks) dw.inv (hA n);exact r.run hu R p (dw.on p a1) (a1.CT M) (o1.trans a1.wide) D
theorem uR.back(d:∀I∈g,I∈ax)(A:uR a ax c j w b p):uR a g c j w b p:=by
 have T:∀I z,Sf p b ax I z->Sf p b g I z:=λI z U=>U.back d;refine⟨?_,λr C D=>?_,A.len⟩;·refine aM A.ns λx n v=>?_;exact ba x n (λi r E X m s=>aM (v i r E X m s) λB I M=>(ba B I (M.mono T (.refl b))))
 ·refine aM (A.jM r C D) λy e v=>?_;exact ba y e (λi E X m s=>aM (v i E X m s) λB I M=>(ba B I (M.mono T (.refl b))))
theorem cK.back{own0:V MS}{h0:MV}(t:cK l g [] h0)(a:cK l ax [] p):cK l g [] p:=
 ⟨λD x=>by refine hF λm=>?_;refine t.el x λY I Y Y Y A C Y Y Y=>?_;refine a.el x λH n z y q r Y Y o h=>?_;rw[A] at r;cases r;refine m ?_;exact⟨H,I,z,y,q,A,C,(λx=>nomatch x),o,h⟩⟩
theorem St.back{s:MW}{h0:MV}(d:∀I∈g,I∈ax)(t:cK l g [] h0)(G:St a e ax l c j b k w s):St a e g l c j b k w s:=⟨G.inv.drop d,G.dS.back d,t.back (own0:=g) (h0:=h0) G.live⟩
theorem Hw.mono{f:SP}{I:Fl}{M:NG}(B:Hw a x b I M)(H:∀I z,x I z->f I z):Hw a f b I M:=by induction I using Fl.casesOn<;>induction M using SI<;>first|exact B|exact VR.mono H (.refl b) B
theorem QS.back{d:V MS}{s:MW}{B:Z}{r:Res (Fl×Loc×AH)}{A:NG}{v:MW}{h0:MV}(P:ct g ax aq d s.heap X)(t:cK (c :: o) g [] h0)(L:QS a e ax d o c j r b {s with heap:=X,toks:=B} A v):QS a e g aq o c j r b s A v:=by refine qs L λq J f K D z G U=>?_;exact gU q J f K D (z.back P) (G.back P.sub t) (U.mono λY Y U=>U.back P.sub)
theorem EF.back{d:V MS}{s:MW}{B:Z}{r:O (Q×AH)}{j:MO}{v:MW}(P:ct g ax aq d s.heap X)(L:EF a e ax d l r b {s with heap:=X,toks:=B} j v):EF a e g aq l r b s j v:=by refine cg L λn c D U=>?_;exact dI n c D (U.back P)
theorem ct.more{own:V MS}{ns:V MS}{fr:V MS}(A:∀I∈ns,p.get? I=N)(n:ns.Nodup)(P:∀M z,p.get? M=S z->X.get? M=S z):ct own (ns++own) fr (ns++fr) p X:=
 ⟨P,λY x=>RP _ x,λC x=>(RM.mp x).elim (λD=>.inr (A C D)) .inl,λC x=>(RM.mp x).elim (λD=>.inr (A C D)) .inl,λC x=>by
  rw[R'] at x;by_cases L:C∈ns;·exact .inr (A C L)
  ·rw[R1 L] at x;rw[T5] at x;exact .inl x,λC=>by refine R R' ?_;exact SR _ _⟩
theorem aQ.inc{fr':V MS}(r:aQ a e g aq b d ak bc ap)(H:∀C∈aq,C∈fr'):aQ a e g fr' b d ak bc ap:=r.less λC x=>.inl (H C x)
theorem St.Hx{J:MS}(G:St a e g l c j b k w d)(p:bk g c j)(z:aQ a e g [J] b d ak bc ap)(hI:J∉bz c)(P:g.count J=1):St a e g l c j ak bc w ap:=by
 have T:∀I z,Sf d.heap b g I z->Sf ap.heap ak g I z:=λI K U=>z.sf (λI x=>.inl (by refine R (Rx.mp x) ?_;exact(Sa.mp (by refine R P ?_;decide)))) U;refine⟨z.inv,⟨?_,λr C D=>?_,G.dS.len⟩,⟨λD x=>?_⟩⟩;·refine aM G.dS.ns λx bE H=>?_;refine hF λA=>?_;refine dF bE λK y ep o h U=>?_;refine z.keep.el o (G.inv.off _ p.loc).1 (λx=>hI (by refine R (Rx.mp x).symm ?_;exact .head _)) λY t f q=>?_;refine A ?_;refine ba x (kQ t y ep f (q.data.trans h) U) (λi r E X m s=>?_);refine aM (H i r E X m s) λB I M=>?_;exact ba B I (M.mono T z.le)
 ·refine aM (G.dS.jM r C D) λov cj H=>?_;refine hF λa3=>?_;refine aM cj λK o h=>?_;refine z.keep.el o (G.inv.off _ (p.jM r C D).1).1 (λx=>hI (by refine R (Rx.mp x).symm ?_;exact .tail _ (lookup_mem D))) λY t f q=>?_;refine a3 ?_;refine ba ov (ba t f (q.data.trans h)) (λi E X m s=>?_);refine hF λa1=>?_;refine aM (H i E X m s) λB I M=>?_;refine a1 ?_;exact ba B I (M.mono T z.le)
 ·refine G.live.el x λH L K y a0 a4 n v o h=>?_;refine hF λa2=>?_;obtain⟨_,t,f,U⟩:=z.keep.get L K o (G.inv.off L (Sa.mp (by exact n4 n rfl))).1 λx=>by rw[Rx.mp x,P] at n;exact RV _ n
  refine a2 ?_;exact⟨H,L,t,y,a0,a4,n,v,f,U.data.trans h⟩
theorem nU{H:AH}{loc:Loc}{src:Src}{step:Z->Q->Loc->AH->Res (Fl×Loc×AH)}{m i:Z}{v:Q}{b:Res (Fl×Loc×AH)}(B:b≠.bad)(D:(step i v loc H).bind (λL=>match L.1 with|.next=>bZ step src m (i+1) L.2.1 L.2.2|.ret s=>.ok (.ret s,L.2.1,L.2.2))=b){M:Res (Fl×Loc×AH)}(f:step i v loc H=M):M≠.bad/\
  (∀a r,M=.ok (.next,a,r)->bZ step src m (i+1) a r=b)/\(∀s a r,M=.ok (.ret s,a,r)->b=.ok (.ret s,a,r))/\(∀n r,M=.exc n r->b=.exc n r):=by subst f;refine qu (λL=>B (by refine D.symm.trans ?_;refine(bL L).trans ?_;rfl)) (λa r L=>by refine R D.symm ?_;refine R L ?_;rfl) (λs a r L=>by refine D.symm.trans ?_;refine(bL L).trans ?_;rfl) (λn r L=>by refine D.symm.trans ?_;refine(bL L).trans ?_;rfl)
theorem xq{r0:bH}{s0:MW}{a3:Src}{a0:MS}{M:dR}{xs:V Na}(R:bo N q f (c :: o))(hj:j[K]? = S (S r))(hk:c.kindOf r=S .local\/c.kindOf r=S .cell)(a8:qM h a e o c j f i M xs)
  (p:bk ax c j) (g:a0∉bz c) (a2:Res (Fl×Loc×AH)) (B:a2≠.bad)  (G:St a e ax (c :: o) c j b k w d) (n:cY a ax b d.heap a3 a0 ag) (z:aQ a e ax (a0 :: bz c) r0 s0 b k d)
  (D:bZ (λY a1 T k=>aW i M (T.set K (S a1)) k) a3 H ag w k=a2) :
  NK (MY h a) f (.forLoop (.Name r bj) (.ref a0) xs [] c) (λL v=>match L with|.ok A=>QS a e ax (a0 :: bz c) o c j a2 r0 s0 A v|.error D=>PM (MY h a) f c (ES a e ax (MY h a) f (a0 :: bz c) o c a2.x? r0 s0) D v) d:=by
 refine codeAny_forLoop (λH d=>∃ag w k b,St a e ax (c :: o) c j b k w d/\cY a ax b d.heap a3 a0 ag/\aQ a e ax (a0 :: bz c) r0 s0 b k d/\bZ (λY a1 T k=>aW i M (T.set K (S a1)) k) a3 H ag w k=a2) (λH d a5=>?_) H (gU ag w k b G n z D);refine hF λa9=>?_;refine qs a5 λag w k b G n z D=>?_;clear a5;induction H using RY with
 |zero=>exact B D.symm
 |succ x=>
  rw[Hn] at D;refine kA (a3.at ag k) (λt=>?_) (λy t=>?_);·rw[t] at D;exact B D.symm
  ·rw[t] at D
   refine a9 ?_
   refine j3 R.handled G.inv n t λs1 o1=>?_
   have a4:aQ a e ax (a0 :: bz c) b d b k s1:=o1.inc λC x=>by rw[Rx.mp x];exact .head _
   have dw:=G.Hx p o1 g n.one
   induction y using Ry with
   |none=>dsimp only at D;exact Ol (gU .next w k b D.symm (z.trans a4) dw trivial)
   |some a1=>
    dsimp only at D⊢;intro v' hv b9;refine PN (et (j:=K) p dw j0.all hj hk hv λs2 o2 cM=>?_);refine qj (nU (src:=a3) (step:=λY a1 T k=>aW i M (T.set K (S a1)) k) (m:=x) (i:=ag) (v:=a1) (loc:=w) (H:=k) B D rfl) λb1 b2 b3 b4=>?_;have a6:=(z.trans a4).trans (o2.inc λC x=>.tail _ x);refine Qf (E:=ES a e ax (MY h a) f (a0 :: bz c) o c a2.x? r0 s0) Qg.leaving (Nk (a8 ax b k s2 (w.set K (S a1)) p cM b1) (λA s3 L=>?_) λe' s3 L=>?_)
    ·refine qs L λfl J H' r' X o3 l U=>?_
     refine hF λm=>?_
     have a7:=a6.trans (o3.inc λC x=>.tail a0 x)
     induction fl using Fl.casesOn with
     |next=>
      induction A using SI with
      |next=>refine m ?_;exact⟨x,SD x,ag+1,J,H',r',l,(b9.on dw.inv o2 g λI x=>.inl (p.fN I x)).on cM.inv o3 g λI x=>.inl (p.fN I x),a7,b2 _ _ X⟩
      |_=>exact U.elim
     |ret s=>
      induction A using SI with
      |ret v2=>refine m ?_;exact gU (.ret s) J H' r' (b3 _ _ _ X) a7 l U
      |_=>exact U.elim
    ·refine L.mono λe2 c1 U=>?_;refine cg U λP H' e3 U=>?_;refine EF.pre a6 (λI x=>(RC.mp x).elim (λL=>L▸n.mem) (p.fN I)) (dI P H' ?_ ?_)
     ·refine BR (aW i M (w.set K (S a1)) k) (λY s=>?_) (λt2 H2 s=>?_) (λs=>?_);·exact nX (s▸e3)
      ·replace e3:=s▸e3;refine sQ e3 ?_;rw[b4 _ _ s];rfl
      ·exact(b1 s).elim
     ·exact U.more λC x=>.tail _ x
noncomputable def dX:MQ->MP
 |.Set ..=>ML
 |_=>MT
theorem eY(B:dX s=MT)(E:MO):foldedSetIterable s c E=pure E:=by induction s using T3<;>first|rfl|cases B
structure xr(K:NA)(env:Ng)(x:MU)(v:MO):Prop where
 g:NZ K NO x=S N
 b:QV x=S v
 n:x≠"__name__"
 k:env.kindOf x=S .globalImplicit
 d:(x==("__debug__":MU))=MT
theorem tY{env:Ng}{c:NA}{x:MU}{v:MO}(C:Gr c e P be bg bf)(n:xr c env x v)(p:bk g env j)(K:Inv a e g b k d.heap)(B:ai v d):MZ T f (PySem.eval (.Name x J) env) ai t d:=
 have H:=λM z D=>(K.keep M z D).1
 PD p.kind n.k (loadGlobal_builtin (env:=env) (R p.glob (C.T.g.keeps H)) (mg_none_of C.X C.T.g n.g) (R p.blt (C.T.b.keeps H)) ((C.T.builtins x n.n).trans n.b) B) n.d
set_option genCtorIdx true in
inductive BV|fn(i:Oe)|ty(T:Oe)
noncomputable def BV.val:BV->MO
 |.fn K=>.builtin K
 |.ty x=>.type x
theorem xt{bv:BV}{y:cz}{m:V MQ}(C:Gr v e P be bg bf)(n:xr v c r bv.val)(p:bk g c j)(K:Inv a e g b k d.heap)(o:m8 h a e l c j f i y m)
  (B:MZ (MY h a) f (O1 (NW J (NT m c))) (λw X=>MZ (MY h a) f (N3 bv.val w) ai t X) t d):MZ (MY h a) f (PySem.eval (.Call (.Name r bj) m [] J) c) ai t d:=by
 refine MR (tY C n p K ?_);have s:=o.noStar (pos:=J);clear C n p o;induction bv using BV.casesOn with
 |fn K=>exact PySem.Calls.callWith_builtin (args:=NW J (NT m c)) s (bC s B)
 |ty x=>exact UZ (args:=NW J (NT m c)) s (bC s B)
theorem SE.jt(d:SE h a e l c j f i af s)(w:notStar s=ML):m8 h a e l c j f i (.cons af .nil) [s]:=.cons d w .nil
theorem nV{a:MO->MW->Prop}(H:∀D n,t D n->a D n){D:MO}{n:MW}(L:PM T f c t D n):PM T f c a D n:=Nk L (λY Y U=>H _ _ U) λY Y U=>H _ _ U
theorem dO(p:bk g c j)(K:Inv a e g b k d.heap)(A:d.heap.get? n=N):n∉g/\n∉bz c:=by have L:n∉g:=K.no A;exact⟨L,λx=>L (p.fN n x)⟩
theorem SS.di{a4:Z}{M:dR}{xs:V Na}(R:bo N a4 f (c :: o))(d:SE h a e (c :: o) c j f i af s)(hj:j[K]? = S (S r))(hk:c.kindOf r=S .local\/c.kindOf r=S .cell)(a3:qM h a e o c j f i M xs)(hs:dX s=MT) :
  SS h a e o c j f i (.di K af M) (.For (.Name r bj) s xs [] J):=λg y b t a0 p G B=>by
 rw[tC] at B⊢;refine wpAny_For ((d g y b t a0 p G).ei R G.live p.fN (.refl G.inv) (λI H1 r1 k va X o1 l E D=>?_) B) λa1=>eY hs a1;rw[X,Res.aP];have dw:=G.on p l;induction T:srcOf H1 I using Ry with
 |none=>exact bX (T▸D)
 |some q=>
  obtain⟨a2,x⟩:=q
  replace D:=T▸D
  dsimp only at D⊢
  refine aM (gY E T) λH bE C=>?_
  clear b G B X l E d hs
  subst bE
  refine hF λm=>cg (C.items o1.inv) λa5 n' L Y=>m (Qh (bb L) ?_)
  have A:k.heap.get? k.heap.objs.size=N:=bR _
  refine bK (dO p dw.inv A) λq1 q2=>?_
  have P:=ct.more (own:=g) (fr:=bz c) (ns:=[k.heap.objs.size]) (λM w=>by rw[Rx.mp w];exact A) (M8 rfl) (λM z af=>RA {cls:=.type "list_iterator",data:=.fields #[.ref H,.int 0 0]} af)
  have gI:(k.heap.push {cls:=.type "list_iterator",data:=.fields #[.ref H,.int 0 0]}).get? k.heap.objs.size=S {cls:=.type "list_iterator",data:=.fields #[.ref H,.int 0 0]}:=R4 _ rfl
  have cM:=dw.cX (own':=[k.heap.objs.size]++g) (tk:=k.toks) P.new P.le P.hs λM x=>by
   rcases RM.mp x with x|x;·rw[Rx.mp x];exact⟨_,gI⟩
   ·exact dD (dw.inv.ex M x) λz af=>⟨z,P.hs _ _ af⟩
  have it:cY a ([k.heap.objs.size]++g) r1 ({k with heap:=k.heap.push {cls:=.type "list_iterator",data:=.fields #[.ref H,.int 0 0]},toks:=k.toks}:MW).heap a2 k.heap.objs.size 0:=⟨(jK H (C.mono (λI z U=>(U.cX P.new).grow P.hs) (.refl _)) (λq=>by rw[q,A] at L;exact nX L) (jK _ gI rfl rfl)),by refine R'.trans ?_;rw[R1 q1];simp⟩
  refine O2 (xq R hj hk a3 (p.cX P.sub) q2 _ D cM it (.refl cM.inv) rfl) λU v q=>?_
  cases U with
  |ok A=>exact(QS.back P dw.live q).pre o1
  |error af=>exact nV (λaf n U=>U.mono λaf n U=>(EF.back P U).pre o1 p.fN) q
theorem SS.zu{a9:Z}{C:LE}{M:dR}{xs:V Na}(R:bo bh a9 f (c :: o))(d:ST h a e (c :: o) c j f i C s)(a7:qM h a e o c j f i M xs):SS h a e o c j f i (.zu C M) (.While s xs [] J):=λg y b t A p G B=>by
 rw[wz] at B⊢;generalize e0:gJ _ _ 100 A b=a1 at B⊢;refine wpAny_While (codeAny_whileLoop (λH v=>∃w r K,St a e g (c :: o) c j K r w v/\aQ a e g (bz c) y t K r v/\gJ (λT b=>(aO i C T b).bind λy=>match truthy y.1 with|some n=>.ok (n,y.2)|none=>.bad) (λT b=>aW i M T b) H w r=a1) (λH v hI=>?_) 100 (kQ A b y G (.refl G.inv) e0));refine dF hI λw r K a0 o' D=>?_;clear hI;induction H using RY with
 |zero=>exact Nh D.symm B
 |succ x=>
  rw[Ip] at D;replace D:=(show((aO i C w r).bind λy=>match truthy y.1 with|some n=>.ok (n,y.2)|none=>.bad)=mO i C w r from rfl)▸D;have a2:mO i C w r≠.bad:=λq=>B (D.symm.trans ((bL q).trans rfl));refine Qf (E:=ES a e g (MY h a) f (bz c) o c a1.x? y t) Qg.leaving (Nk (d g K r v w p a0 a2) (λq k U=>?_) λe' k U=>?_)
  ·refine dF U λn z r1 X l cj=>?_
   subst cj
   rw[X,Res.aP] at D
   have dw:=a0.on p l
   have o1:=o'.trans (l.wide (fr:=bz c))
   dsimp only at D
   clear X l d
   induction n using RE with
   |false=>exact Ol (gU .next w z r1 D.symm o1 dw trivial)
   |true=>
    have a5:aW i M w z≠.bad:=λq=>B (D.symm.trans ((bL q).trans rfl))
    refine Qf (E:=ES a e g (MY h a) f (bz c) o c a1.x? y t) Qg.leaving (Nk (a7 g r1 z k w p dw a5) (λa4 s2 U=>?_) λe' s2 U=>?_)
    ·refine qs U λfl a3 I r2 m p2 cM U=>?_
     rw[m] at D
     induction fl using Fl.casesOn with
     |next=>
      induction a4 using SI with
      |next=>exact⟨x,SD x,a3,I,r2,cM,o1.trans p2,D⟩
      |_=>exact U.elim
     |ret a6=>
      induction a4 using SI with
      |ret v2=>exact gU (.ret a6) a3 I r2 D.symm (o1.trans p2) cM U
      |_=>exact U.elim
    ·refine U.mono λm n U=>cg U λP H3 L U=>EF.pre o1 p.fN (dI P H3 ?_ U);refine BR (aW i M w z) (λY s=>?_) (λt2 I s=>?_) (λs=>?_);·exact nX (s▸L)
     ·rw[s] at L D;refine sQ L ?_;rw[<-D];rfl
     ·exact(a5 s).elim
  ·refine EF.stmt R a0.live (EF.pre o' p.fN ?_);refine hF λa8=>cg U λP H3 L U=>a8 (dI P H3 ?_ U.wide);refine BR (mO i C w r) (λY s=>?_) (λt2 I s=>?_) (λs=>?_);·exact nX (s▸L)
   ·rw[s] at L D;refine sQ L ?_;rw[<-D];rfl
   ·exact(a2 s).elim
theorem Inv.part{own:V MS}{fs:V MS}(K:Inv a e ax b k p)(P:∀M z,M∉fs->p.get? M=S z->X.get? M=S z)(g:∀I∈fs,I∈ax)(d:∀M∈own,M∈ax/\(M∈fs->∃z,X.get? M=S z)):Inv a e own b k X:=by
 have T:∀M z,Sf p b ax M z->Sf X b own M z:=λM z U=>(fA (P M z (λx=>U.2.2 (g M x)) U.1) U.2.1 (λx=>U.2.2 (d M x).1));have J:=λM x L=>(K.off M (g M L)).1 x;have C:=K.dt;refine⟨λM z D=>⟨P M z (λx=>by have:=(K.off M (g M x)).2;replace this:=D.symm.trans this;cases this) (K.keep M z D).1,(K.keep M z D).2⟩,K.wG,λI x=>K.off I (d I x).1,λI x=>?_,⟨C.gW,C.i9,C.jO,C.ja,λH w M f m=>?_,λH w M f m=>?_,λH w M f m=>?_,λH L h f m=>?_⟩⟩
 ·by_cases L:I∈fs;·exact(d I x).2 L
  ·obtain⟨z,D⟩:=K.ex I (d I x).1;exact⟨z,P I z L D⟩
 ·refine cg (C.L H w M f m) λj q o E=>?_;exact dI j q (P _ _ (J M (kC m)) o) (E.mono T (.refl b))
 ·refine dF (C.D H w M f m) λj q v o E c=>?_;exact kQ j q v (P _ _ (J M (fQ m)) o) (E.mono T (.refl b)) c
 ·refine aM (C.B H w M f m) λG o E=>?_;exact ba G (P _ _ (J M (nN m)) o) E
 ·obtain⟨o,y,q,i,E⟩:=C.I H L h f m;exact⟨P _ _ (J _ (oR m)) o,y,q,P _ _ (J _ (jP m)) i,E.mono T (.refl b)⟩
theorem St.part{own:V MS}{fs:V MS}{tk:Z}{h0:MV}(eo:bk own c j)(t:cK l own [] h0)(G:St a e ax l c j b k w d)(P:∀M z,M∉fs->d.heap.get? M=S z->X.get? M=S z)(J:∀I∈fs,I∈ax)(H:∀M∈own,M∈ax/\(M∈fs->∃z,X.get? M=S z))
  (p:∀I∈bz c,I∉fs) (h2:∀D∈l,∀f,D.frame=S f->f∉fs):St a e own l c j b k w {d with heap:=X,toks:=tk}:=by
 have T:∀M z,Sf d.heap b ax M z->Sf X b own M z:=λM z U=>(fA (P M z (λx=>U.2.2 (J M x)) U.1) U.2.1 (λx=>U.2.2 (H M x).1));refine⟨G.inv.part P J H,⟨?_,λr C D=>?_,G.dS.len⟩,⟨λD x=>?_⟩⟩;·refine aM G.dS.ns λx bE v=>?_;refine hF λL=>?_;refine wb bE λK y ep o h=>?_;refine L ?_;exact ba x (zM K y ep (P _ _ (p _ (.head _)) o) h) (λi r E g m s=>aM (v i r E g m s) λB I M=>(ba B I (M.mono T (.refl b))))
 ·refine aM (G.dS.jM r C D) λov cj v=>?_;refine hF λa2=>?_;refine aM cj λz o q=>?_;refine a2 ?_;exact ba ov (ba z (P _ _ (p _ (.tail _ (lookup_mem D))) o) q) (λi E g m s=>aM (v i E g m s) λB I M=>(ba B I (M.mono T (.refl b))))
 ·refine t.el x λY f Y Y Y A C Y Y Y=>?_;refine hF λa1=>?_;refine G.live.el x λI n z y a0 M Y Y o U=>?_;replace M:=A.symm.trans M;obtain rfl:=sX M;refine a1 ?_;exact⟨I,f,z,y,a0,A,C,(λx=>nomatch x),P _ _ (h2 D x f A) o,U⟩
structure gw(w:Nj)(own:V MS)(r:bH)(h:MV)(src:Src)(e I:MS)(i:Z):Prop where
 src:∃a old,SrcAt w own r h src a/\a≠I/\a≠e/\h.IsListIter I a i/\IsEnum h e I i old
 one:own.count I=1
 Am:own.count e=1
 ne:e≠I
theorem gw.mem{c:Src}{D k:MS}(r:gw a g b p c D k ag):∀I∈[D,k],I∈g:=λI x=>by
 rcases RC.mp x with rfl|x;·exact Sa.mp (by refine R r.Am ?_;decide)
 ·refine R (Rx.mp x) ?_;exact Sa.mp (by refine R r.one ?_;decide)
theorem gw.on{s:MW}{f:Src}{D d:MS}(K:Inv a e g b k s.heap)(r:gw a g b s.heap f D d ag)(z:aQ a e g aq b s ak bc ap)(i:∀I∈[D,d],I∉aq)(J:∀I∈aq,I∈g\/s.heap.get? I=N):gw a g ak ap.heap f D d ag:=by refine hF λp=>?_;refine Hr r.src λI l X m n du A=>?_;refine mM du λj o C h=>?_;refine z.keep.el o (K.off d (r.mem d (by simp))).1 (i d (by simp)) λY t G U=>?_;obtain rfl:=U.once (by refine R r.one ?_;decide);refine z.keep.el A (K.off D (r.mem D (by simp))).1 (i D (by simp)) λY o2 c U=>?_;rw[U.once (by refine R r.Am ?_;decide)] at c;refine p ?_;exact⟨(E9 I l (X.on z J) m n (jK _ G C h) c),r.one,r.Am,r.ne⟩
theorem vl{tp:Ni}{a2:Src}{a0 D:MS}{j1 T:Z}{X x2:MU}{l p2:Ni}{M:dR}{xs:V Na}{rS:bH}{sS:MW}{h0:MV}{t0 kk:Z}(R:bo N q f (c :: o))(g1:j[j1]? = S (S X))(e6:c.kindOf X=S .local\/c.kindOf X=S .cell)
  (g5:j[T]? = S (S x2)) (g4:c.kindOf x2=S .local\/c.kindOf x2=S .cell) (e9:qM h a e o c j f i M xs)
  (p:bk g c j) (x0:cK (c :: o) g [] sS.heap) (P:ct g ([D,a0]++g) (bz c) ([D,a0]++bz c) sS.heap h0) (hI:∀I∈[D,a0],I∉g) (a3:Res (Fl×Loc×AH)) (B:a3≠.bad) 
  (st:St a e ([D,a0]++g) (c :: o) c j b k w d) (n:gw a ([D,a0]++g) b d.heap a2 D a0 ag) (z:aQ a e ([D,a0]++g) ([D,a0]++bz c) rS {sS with heap:=h0,toks:=t0} b k d)
  (Y:bZ (λH a1 a5 k=>aW i M ((a5.set j1 (S (.int H))).set T (S a1)) k) a2 H ag w k=a3) :
  NK (MY h a) f (.forLoop (.Tuple [.Name X l,.Name x2 p2] kk tp) (.ref D) xs [] c) (λL v=>match L with|.ok A=>QS a e g (bz c) o c j a3 rS sS A v|.error D=>PM (MY h a) f c (ES a e g (MY h a) f (bz c) o c a3.x? rS sS) D v) d:=by
 have a4:=p.cX P.sub;have a7:=λI x L=>hI I L (p.fN I x);have d7:=λen x a6 L U=>hI a6 U (x0.C5 en x a6 L);refine codeAny_forLoop_any (λH d=>∃ag w k b,St a e ([D,a0]++g) (c :: o) c j b k w d/\gw a ([D,a0]++g) b d.heap a2 D a0 ag/\aQ a e ([D,a0]++g) ([D,a0]++bz c) rS {sS with heap:=h0,toks:=t0} b k d/\bZ (λH a1 a5 k=>aW i M ((a5.set j1 (S (.int H))).set T (S a1)) k) a2 H ag w k=a3) (λH d d6=>?_) H (gU ag w k b st n z Y);refine hF λc1=>?_;clear Y z n st;refine hF λd4=>?_;refine qs d6 λag w k b st n z Y=>?_;refine d4 ?_;clear d6 d4;induction H using RY with
 |zero=>exact B Y.symm
 |succ x=>
  rw[Hn] at Y;refine kA (a2.at ag k) (λt=>?_) (λy t=>?_);·rw[t] at Y;exact B Y.symm
  ·rw[t] at Y
   refine Hr n.src λI g7 sa e7 e0 c2 a9=>?_
   refine cg (sa.items st.inv) λh4 n' a8 hj=>?_
   have hx:=hj ag y t
   have c3:=n.mem
   clear hj
   induction y using Ry with
   |none=>dsimp only at Y;refine c1 ?_;refine wpAny_pyNext_enum_end R.handled a9 c2 (bb a8) hx λh' eb=>Ol ?_;have hs:∀M K,M∉[a0]->d.heap.get? M=S K->h'.get? M=S K:=λM K L U=>eb M K (λU=>L (by rw[U];exact .head _)) U;have c4:=st.part (own:=g) (fs:=[a0]) (tk:=d.toks) p x0 hs (λI x=>c3 I (.tail _ x)) (λM x=>⟨P.sub M x,λL=>Nh x (hI M (.tail _ L))⟩) (λI x L=>a7 I x (.tail _ L)) λen x a6 L U=>d7 en x a6 L (.tail _ U);refine gU .next w k b Y.symm ⟨?_,c4.inv,P.keep (z.keep.trans (.but (a:=a0) (λM K L U=>hs M K (λx=>L (Rx.mp x)) U) (.inr (.inl (.tail _ (.head _)))))),z.le⟩ c4 trivial;refine mN z.eq λh1 t1 e1=>?_;clear eb hI;subst e1;exact v7 _ _ rfl
   |some a1=>
    refine hF λg3=>?_;refine aM hx λx' e1 vr=>?_;refine g3 ?_;refine c1 ?_;refine wpAny_pyNext_enum_item a9 c2 (bb a8) e1 n.ne λh1 d3 c8 e4 d9 c7=>?_;refine wpAny_letOwnedTupleGo_enum d3 λG c6 b9=>?_;have hs:∀M K,M∉[D,a0]->d.heap.get? M=S K->G.get? M=S K:=λM K L U=>by have q1:M≠D:=λU=>L (by rw[U];exact .head _);exact(b9.2 M q1).trans (c7 M K q1 (λU=>L (by rw[U];exact .tail _ (.head _))) U)
    have d5:=c8.extBut b9.extBut (S8 n.ne);have g2:∀I∈[D,a0],∃z,G.get? I=S z:=λI x=>by
     clear c1 c2 d3 c8 d9 c7 hx hI;rcases RC.mp x with rfl|x;·exact⟨_,c6⟩
     ·rw[Rx.mp x];obtain⟨z,a8,_⟩:=d5;exact⟨z,a8⟩
    have cM:=st.part (own:=[D,a0]++g) (fs:=[D,a0]) (tk:=d.toks+1) a4 st.live hs c3 (λM x=>⟨x,g2 M⟩) a7 d7;have o2:aQ a e ([D,a0]++g) ([D,a0]++bz c) b d b k {d with heap:=G,toks:=d.toks+1}:=.mk' cM.inv ⟨λM K e1 q A=>⟨q,K,hs M K (λx=>A (RL _ x)) e1,.refl K⟩⟩ (.refl b);have S2:∀I K,Sf d.heap b ([D,a0]++g) I K->Sf G b ([D,a0]++g) I K:=λM K U=>⟨hs M K (λx=>U.2.2 (RL _ x)) U.1,U.2⟩;have nm:rW j c [j1,T] [.Name X l,.Name x2 p2] [X,x2]:=.cons g1 e6 (.cons g5 g4 .nil);refine hF λe5=>?_;refine qj nm.each λn1 n2 n3 n4=>?_;refine e5 ?_;refine Qe R.handled (⟨_,(b9.2 _ (S7 (SF a9))).trans e4,rfl,_,rfl⟩) (by refine n1.trans ?_;rfl) n2 λh3 g6=>?_;have o3:aQ a e ([D,a0]++g) [] b {d with heap:=G,toks:=d.toks+1} b k {d with heap:=h3,toks:=d.toks+1}:=.grown (tk':=d.toks+1) cM.inv (hA g6);refine gu (js:=[j1,T]) (xs:=[X,x2]) (as:=[.int ag,a1]) (loc:=w) a4 a4.fN (λε ε=>j0.all) (cM.on a4 o3) (by refine(Rz ..).trans ?_;rfl) rfl nm.at (.cons (.int _ _) (.cons (o3.vr (vr.mono S2 (.refl b))) .nil)) rfl λs4 g8 L o4 d1=>?_;refine hF λe8=>?_;obtain rfl:=sX L;refine qj (nU (src:=a2) (step:=λH a1 a5 k=>aW i M ((a5.set j1 (S (.int H))).set T (S a1)) k) (m:=x) (i:=ag) (v:=a1) (loc:=w) (H:=k) B Y rfl) λb1 b2 b3 b4=>?_;have d0:aQ a e ([D,a0]++g) (bz c) b {d with heap:=G,toks:=d.toks+1} b k s4:=(o3.wide (fr:=bz c)).trans o4;have c9:=(z.trans o2).trans (d0.inc λC x=>RP [D,a0] x);refine e8 ?_;refine Qf (E:=ES a e g (MY h a) f (bz c) o c a3.x? rS sS) Qg.leaving (Nk (e9 _ b k s4 ((w.set j1 (S (.int ag))).set T (S a1)) a4 d1 b1) (λA s5 L=>?_) λe' s5 L=>?_)
    ·refine qs L λfl J r r' m o5 d8 U=>?_
     refine hF λc5=>?_
     have d2:=c9.trans (o5.inc λC x=>RP [D,a0] x)
     induction fl using Fl.casesOn with
     |next=>
      induction A using SI with
      |next=>refine c5 ?_;exact⟨x,SD x,ag+1,J,r,r',d8,((show gw a ([D,a0]++g) b G a2 D a0 (ag+1) from⟨(E9 I _ (sa.mono S2 (.refl b)) e7 e0 d5 (by exact_mod_cast c6)),n.one,n.Am,n.ne⟩).on (s:={d with heap:=G,toks:=d.toks+1}) cM.inv d0 (λI x L=>a7 I L x) λI x=>.inl (P.sub I (p.fN I x))).on d1.inv o5 (λI x L=>a7 I L x) λI x=>.inl (P.sub I (p.fN I x)),d2,b2 _ _ m⟩
      |_=>exact U.elim
     |ret s=>
      induction A using SI with
      |ret v2=>refine c5 ?_;exact QS.back P x0 (gU (.ret s) J r r' (b3 _ _ _ m) d2 d8 U)
      |_=>exact U.elim
    ·refine L.mono λm g9 U=>?_;refine cg U λtt r e3 U=>?_;refine EF.back P (EF.pre c9 (λI x=>(RM.mp x).elim (λL=>c3 I L) λL=>P.sub I (p.fN I L)) (dI tt r ?_ ?_))
     ·refine BR (aW i M ((w.set j1 (S (.int ag))).set T (S a1)) k) (λε s=>?_) (λt2 H2 s=>?_) (λs=>?_);·exact nX (s▸e3)
      ·replace e3:=s▸e3;refine sQ e3 ?_;rw[b4 _ _ s];rfl
      ·exact(b1 s).elim
     ·exact U.more λC x=>RP _ x
theorem SS.iM{tp:Ni}{cp:Ni}{c3:Z}{j1 T:Z}{X x2:MU}{l p2:Ni}{M:dR}{xs:V Na}(a4:Gr v e P be bg bf)(n:xr v c "enumerate" (.type "enumerate"))(R:bo N c3 f (c :: o))(d:SE h a e (c :: o) c j f i af s)(ns:notStar s=ML)(r:j[j1]? = S (S X))(a3:c.kindOf X=S .local\/c.kindOf X=S .cell)
  (c2:j[T]? = S (S x2)) (a9:c.kindOf x2=S .local\/c.kindOf x2=S .cell) (a5:qM h a e o c j f i M xs) :
  SS h a e o c j f i (.iM j1 T af M) (.For (.Tuple [.Name X l,.Name x2 p2] H tp) (.Call (.Name "enumerate" bj) [s] [] cp) xs [] J):=λg c1 b t a6 p G B=>by
 rw[tD] at B⊢;refine wpAny_For (xt (bv:=.ty "enumerate") a4 n p G.inv (SE.jt d ns) ?_) λE=>eY rfl E;rw[bx ns];refine PySem.Calls.spliced_cons ((d g c1 b t a6 p G).ei R G.live p.fN (.refl G.inv) (λI H1 K k va e1 o1 pp v1 D=>?_) B);rw[e1,Res.aP];have dw:=G.on p pp;induction er:srcOf H1 I using Ry with
 |none=>exact bX (er▸D)
 |some q=>
  obtain⟨b9,x⟩:=q
  replace D:=er▸D
  dsimp only at D⊢
  refine aM (gY v1 er) λa' fB C=>?_
  subst fB
  refine hF λa8=>?_
  refine cg (C.items o1.inv) λc4 n' a0 Y=>?_
  refine a8 ?_
  refine PySem.Calls.spliced_nil (call_enumerate_1 a0 λm a1 a2 hz hs=>wpAny_pyIter_enum a1 ?_)
  have A:∀M∈[k.heap.objs.size+1,k.heap.objs.size],k.heap.get? M=N:=λM w=>by
   rcases RC.mp w with rfl|w;·exact SV (So _)
   ·rw[Rx.mp w];exact bR _
  have L:=ct.more (own:=g) (fr:=bz c) (ns:=[k.heap.objs.size+1,k.heap.objs.size]) A (by simp) hs
  have y:=λI x=>(dO p dw.inv (A I x)).1
  have cM:=dw.cX (own':=[k.heap.objs.size+1,k.heap.objs.size]++g) (tk:=k.toks) L.new L.le L.hs λM x=>by
   rcases RM.mp x with x|x
   ·rcases RC.mp x with rfl|x;·exact⟨_,a1⟩
    ·rw[Rx.mp x];obtain⟨z,a0,_⟩:=a2;exact⟨z,a0⟩
   ·exact dw.inv.FI L.hs x
  have la:=SF a0
  have c0:=λI x=>R1 (y I x)
  have it:gw a ([k.heap.objs.size+1,k.heap.objs.size]++g) K m b9 (k.heap.objs.size+1) k.heap.objs.size 0:=⟨(E9 a' _ (C.mono (λI z U=>(U.cX L.new).grow L.hs) (.refl _)) (Te la) (Te (U3 la)) a2 a1),by rw[R',c0 _ (.tail _ (.head _))];simp,by rw[R',c0 _ (.head _)];simp,Vb _⟩
  refine O2 (vl R r a3 c2 a9 a5 p dw.live L y _ D cM it (.refl cM.inv) rfl) λU s' q=>?_
  cases U with
  |ok A=>exact q.pre o1
  |error af=>exact nV (λaf a7 U=>U.mono λaf a7 U=>U.pre o1 p.fN) q
noncomputable def iH(c:V (MU×MS)):V (MU×Nz)->V (MU×MS)->O (V (MU×MS))
 |[],X=>S X
 |(q,H) :: y,X=>if(H==.free)=ML then(match c.lookup q with|some C=>iH c y ((q,C) :: X)|none=>N) else iH c y X
set_option tactic.hygienic true in
theorem vm{env:Ng}(A:MU×Nz->V (MU×MS)->Nm (O4 (V (MU×MS))))(J:∀q H X,A (q,H) X=if(H==.free)=ML then cellOf env q >>= λC=>pure (.yield ((q,C) :: X)) else pure (.yield X)) :
  ∀{w:V (MU×Nz)} {X v:V (MU×MS)},iH env.cells w X=S v->forIn w X A=pure v:=by
 intro w;induction w with
 |nil=>intro X v D;exact sJ D UP
 |cons L y f=>
  obtain⟨q,H⟩:=L;intro X v D;refine(TX ..).trans ?_;refine R (J ..) ?_;have D:(if(H==.free)=ML then(match env.cells.lookup q with|some C=>iH env.cells y ((q,C) :: X)|none=>N) else iH env.cells y X)=S v:=D;split at D
  ·rename_i L;refine R (Nb L) (kA (env.cells.lookup q) (λs=>?_) (λC s=>?_));·exact nX (s▸D)
   ·rw[s] at D;unfold cellOf;exact R s (f D)
  ·rename_i L;exact R (Nf L) (f D)
theorem ng{b:NC}{v:V (MU×MS)}(D:iH c.cells b.names []=S v):closureFor b c=pure v:=by show(forIn b.names [] _ >>= λa=>pure a)=pure v;refine R (vm (env:=c) _ (λq H X=>by induction H using Vc<;>rfl) D) ?_;rfl
set_option tactic.hygienic true in
theorem rX{cells:V (MU×MS)}:∀{ns:V (MU×Nz)} {acc:V (MU×MS)},(∀r,(r,Tn)∈ns->∃C,cells.lookup r=S C)->(∀r C,acc.lookup r=S C->cells.lookup r=S C)->(∀I∈acc.map (·.2),I∈cells.map (·.2))->
  ∃v,iH cells ns acc=S v/\(∀r C,v.lookup r=S C->cells.lookup r=S C)/\(∀I∈v.map (·.2),I∈cells.map (·.2))/\(∀r,((r,Tn)∈ns\/∃C,acc.lookup r=S C)->∃C,v.lookup r=S C):=by
 intro ns;induction ns with
 |nil=>intro acc _ G T;exact zz acc rfl G T (λr x=>x.elim (λx=>nomatch x) id)
 |cons i y f=>
  obtain⟨q,H⟩:=i;intro acc p G T;rw[show iH cells ((q,H) :: y) acc=if(H==.free)=ML then(match cells.lookup q with|some C=>iH cells y ((q,C) :: acc)|none=>N) else iH cells y acc from rfl];by_cases L:H=.free
  ·subst L;refine dD (p q (.head _)) λC j=>R j ?_;obtain⟨v,D,I,M,h⟩:=f (λr x=>p r (.tail _ x)) (λr o D=>by
    rw[SH] at D;split at D;·rename_i L;refine sJ D ?_;refine R (OL L) ?_;exact j
    ·exact G r o D) (λI x=>by
    rcases RC.mp x with rfl|x;·exact lookup_mem j
    ·exact T I x)
   refine zz v D I M (λr x=>h r ?_);have a:∀r,(∃C,acc.lookup r=S C)->∃o,Ua r ((q,C) :: acc)=S o:=λr ⟨o,D⟩=>by
    refine R SH ?_;split;·exact⟨_,rfl⟩
    ·exact⟨_,D⟩
   rcases x with x|x
   ·rcases RC.mp x with D|x;·cases D;exact .inr ⟨C,by refine SH.trans ?_;simp⟩
    ·exact .inl x
   ·exact .inr (a r x)
  ·refine R (Nf (by simpa using L)) ?_;refine wF (f (λr x=>p r (.tail _ x)) G T) λv D I M h=>zz v D I M (λr x=>h r (x.imp (λx=>?_) id));clear I M h G T p;rcases RC.mp x with D|x;·cases D;exact(L rfl).elim
   ·exact x
theorem xu{g:MU->Nz->Nz}{A:MU×Nz->MU×Nz}(J:∀q k,A (q,k)=(q,g q k))(r:MU)(w:V (MU×Nz)):(w.map A).lookup r=(w.lookup r).map (g r):=by
 induction w with
 |nil=>rfl
 |cons L y d=>
  obtain⟨q,k⟩:=L
  refine R R5 (R (J q k) (SH.trans (R (SH (k:=q) (b:=k)) ?_)))
  induction D:r==q using RE with
  |true=>exact Nc (λs=>S (g s k)) (OL D).symm
  |false=>exact d
theorem ps(c:Ng)(r:MU)(w:V (MU×Nz)):(w.map λ(q,H)=>if(H==Tn&&c.scope.kind==.function&&c.kindOf q==S .cell) then(q,U0) else(q,H)).lookup r =
  (w.lookup r).map λH=>if(H==Tn&&c.scope.kind==.function&&c.kindOf r==S .cell) then U0 else H:=
 xu (g:=λq H=>if(H==Tn&&c.scope.kind==.function&&c.kindOf q==S .cell) then U0 else H) (λq H=>(apply_ite (NU.mk q) ..).symm) r w
theorem fW{a:NC}{v:V (MU×MS)}{M:MS}(r:MU):(Nr a v M c).kindOf r=(a.names.lookup r).map λH=>if(H==Tn&&c.scope.kind==.function&&c.kindOf r==S .cell) then U0 else H:=ps c r a.names
theorem dh{a:NC}{v:V (MU×MS)}{M:MS}(B:a.names.lookup r=S .local):(Nr a v M c).kindOf r=S .local:=by exact(fW ..).trans (R B rfl)
theorem vn{a:NC}{v:V (MU×MS)}{M:MS}(B:a.names.lookup r=S .globalImplicit):(Nr a v M c).kindOf r=S .globalImplicit:=by exact(fW ..).trans (R B rfl)
theorem kind_free{a:NC}{v:V (MU×MS)}{M:MS}(B:a.names.lookup r=S .free):(Nr a v M c).kindOf r=S .cell\/(Nr a v M c).kindOf r=S .free:=by
 refine R (fW ..) ?_;refine R B ?_;refine R (Ud ..) ?_;split;·exact .inl rfl
 ·exact .inr rfl
theorem vo{a:NC}{v:V (MU×MS)}{M:MS}(j:∀s∈a.names,s.2≠.cell)(B:(Nr a v M c).kindOf r=S .cell\/(Nr a v M c).kindOf r=S .free):a.names.lookup r=S .free:=by
 rw[fW] at B;induction D:a.names.lookup r using Ry with
 |none=>rw[D] at B;rcases B with B|B<;>exact nX B
 |some H=>
  rw[D,Ud] at B;by_cases L:H=.free;·rw[L]
  ·have q:(H==Tn)=MT:=by simpa using L
   rw[q] at B;simp only[MP.false_and,SU,Oj,VT] at B;clear q;rcases B with B|B;·subst B;exact Nh rfl (j _ (mem_of_lookup D))
   ·exact(L B).elim
theorem ni{a:NC}{v:V (MU×MS)}{M:MS}(B:(Nr a v M c).kindOf r=S .local):a.names.lookup r=S .local:=by
 rw[fW] at B;induction D:a.names.lookup r using Ry with
 |none=>exact nX (D▸B)
 |some H=>
  rw[D,Ud] at B;split at B;·exact(nomatch B)
  ·exact B
noncomputable def cu(T:Loc)(m:V Z):Loc:=m.foldl (λT i=>T.set i N) T
structure BW(scope:NC)(env:Ng)(sl sl':V (O MU))(ts:V Z):Prop where
 cell:∀y∈scope.names,y.2≠.cell
 kind:scope.kind=.function
 loc:∀x∈scope.names,x.2=.local->scope.names.lookup x.1=S .local
 C':∀x,(x,Tn)∈scope.names->(env.kindOf x=S .cell\/env.kindOf x=S .free)/\∃j:Z,sl[j]? = S (S x)
 slot:∀(j:Z) x,sl'[j]? = S (S x)->(j∈ts/\scope.names.lookup x=S .local)\/(j∉ts/\sl[j]? = S (S x)/\scope.names.lookup x=S .free)
 inj:∀(i j:Z) x,sl'[i]? = S (S x)->sl'[j]? = S (S x)->i=j
 len:sl'.length=sl.length
theorem BW.Dc{l:V (O MU)}{b:NC}(a:BW b c j l ts)(p:bk g c j):∃v,closureFor b c=pure v/\(∀r C,v.lookup r=S C->c.cells.lookup r=S C)/\(∀I∈v.map (·.2),I∈c.cells.map (·.2))/\(∀r,(r,Tn)∈b.names->∃C,v.lookup r=S C):=by refine wF (rX (cells:=c.cells) (ns:=b.names) (acc:=[]) (λr x=>let⟨L,i,D⟩:=a.C' r x;p.has i r D L) (λr C D=>nomatch D) (λI x=>nomatch x)) λv D I M h=>?_;exact zz v (ng D) I M (λr x=>h r (.inl x))
theorem tZ{ts:V Z}{v:Q}:(∃r,ts=[r]/\∀T,fy T ts v=S (T.set r (S v)))\/(∃r s I M,ts=[r,s]/\∀T,fy T ts v=S ((T.set r (S I)).set s (S M)))\/∀T,fy T ts v=N:=by
 rcases ts with _|⟨r,_|⟨s,_|⟨U,y⟩⟩⟩;·exact .inr (.inr λY=>rfl)
 ·exact .inl (ba r rfl (λY=>rfl))
 ·induction v using Wm with
  |tup w=>rcases w with _|⟨I,_|⟨M,_|⟨C,y⟩⟩⟩<;>first|exact .inr (.inr λY=>rfl)|exact .inr (.inl (JG r s I M rfl (λY=>rfl)))
  |_=>exact .inr (.inr λY=>rfl)
 ·exact .inr (.inr λY=>rfl)
theorem t7{r s:Z}{I M C h:O Q}:(((w.set r I).set s M).set r C).set s h=(w.set r C).set s h:=by
 by_cases L:r=s;·subst L;refine R (Tf ..) ?_;refine R (Tf ..) ?_;refine R (Tf ..) ?_;rw[Tf]
 ·refine R (Uw (i:=s) (j:=r) M C (λU=>L U.symm)) ?_;refine(Tf ..).trans ?_;refine R (Tf ..) rfl
theorem qO{m:V Z}:fy (cu w m) m aw=fy w m aw:=by
 refine hF λl=>?_;rcases tZ (ts:=m) (v:=aw) with⟨r,rfl,B⟩|⟨r,s,I,M,rfl,B⟩|B;·refine l ?_;exact(B ..).trans (Nc S (Tf ..))
 ·refine l ?_;refine(B ..).trans ?_;refine R (B ..) ?_;exact Nc S t7
 ·refine l ?_;refine(B ..).trans ?_;refine R (B ..) rfl
theorem qP{m:V Z}{v:Loc}(D:fy w m aw=S v):cu v m=cu w m:=by
 refine hF λE=>?_;rcases tZ (ts:=m) (v:=aw) with⟨r,rfl,B⟩|⟨r,s,I,M,rfl,B⟩|B;·exact E (sX ((B w).symm.trans D)▸Tf ..)
 ·exact E (sX ((B w).symm.trans D)▸t7)
 ·exact nX ((B w).symm.trans D)
theorem fX:∀{m:V Z} {A:Loc},(cu A m)[K]? = S (S aw)->A[K]? = S (S aw)/\K∉m:=by
 intro m;induction m with
 |nil=>intro A D;exact⟨D,λx=>nomatch x⟩
 |cons n m f=>
  intro A D;refine bK (f (show(cu (A.set n N) m)[K]? = S (S aw) from D)) λI M=>?_;clear D;by_cases L:n=K
  ·subst L;replace I:=Up▸I;refine kA (A[n]?) (λU=>?_) (λs U=>?_);·exact nX (U▸I)
   ·replace I:=U▸I;cases I
  ·replace I:=(R7 L).symm.trans I;exact⟨I,λx=>(RC.mp x).elim (λU=>L U.symm) M⟩
theorem hZ:∀{ts:V Z} {loc:Loc},(cu loc ts).length=loc.length
 |[],_=>rfl
 |n :: ts,loc=>by have:=hZ (ts:=ts) (loc:=loc.set n N);simpa [cu] using this
theorem uR.clear{e:V Z}(A:uR a g c j w b p):uR a g c j (cu w e) b p:=by
 refine⟨?_,λr C D=>?_,by refine hZ.trans ?_;exact A.len⟩;·exact aM A.ns λx n v=>ba x n (λi r E X m s=>v i r E X (fX m).1 s)
 ·exact aM (A.jM r C D) λy d v=>ba y d (λi E X m s=>v i E X (fX m).1 s)
inductive An(sl:V (O MU))(scope:NC):V Z->MQ->Prop
 |one {j:Z} {x:MU} {p:Ni}:sl[j]? = S (S x)->scope.names.lookup x=S .local->An sl scope [j] (.Name x p)
 |two {j1 j2:Z} {x1 x2:MU} {p1 p2 tp:Ni} {k:Z}:sl[j1]? = S (S x1)->scope.names.lookup x1=S .local->sl[j2]? = S (S x2)->scope.names.lookup x2=S .local->An sl scope [j1,j2] (.Tuple [.Name x1 p1,.Name x2 p2] k tp)
theorem vp{T v:Loc}{r s:Z}(D:fy T [r,s] aw=S v):∃w,aw=.tup w/\∃I M,w=[I,M]/\de T [r,s] [I,M]=S v:=by
 induction aw using Wm with
 |tup w=>rcases w with _|⟨I,_|⟨M,_|⟨C,y⟩⟩⟩<;>first|exact nX D|exact⟨_,rfl,I,M,rfl,D⟩
 |_=>exact nX D
theorem Ao{z:V (O MU)}{y:NC}{v:V (MU×MS)}{M:MS}{ts:V Z}{a0:MQ}{B:MO}{l':Loc}{o:NP->MW->Prop}(hh:f.handled=N)(tg:An z y ts a0)(p:bk g (Nr y v M c) z)(st:St a e g l (Nr y v M c) z b k w d)(P:VR a.params (Sf d.heap b g) b aw B)(D:fy w ts aw=S l')
  (H:∀K,aQ a e g [M] b d b k K->St a e g l (Nr y v M c) z b k l' K->o () K):MZ (MY h a) f (OQ a0 (Nr y v M c) B) o t d:=by
 refine hF λn=>?_;induction tg using An.casesOn with
 |@one i r a2 L G=>obtain rfl:=sX D;refine n ?_;exact PN (et (j:=i) p st ⟨λY=>.head _,λC q=>by replace q:=(dh G).symm.trans q;cases q⟩ L (.inl (dh G)) P H)
 |@two j1 T X x2 p1 p2 j a3 L G h3 h4=>
  obtain⟨vs,rfl,I,a1,rfl,eb⟩:=vp D;refine dF P.inv λr xi x du sx vx=>?_;clear P D;subst du
  ··skip
    have J:rW z (Nr y v M c) [j1,T] [.Name X p1,.Name x2 p2] [X,x2]:=.cons L (.inl (dh G)) (.cons h3 (.inl (dh h4)) .nil)
    refine qj J.each λn1 n2 n3 n4=>?_
    have s:xi.size=2:=by have:=vx.len;simp at this;exact this.symm
    refine n ?_
    refine Qe hh (dW sx) (by refine R s ?_;rfl) n2 λm ex=>?_
    have A:aQ a e g [] b d b k {d with heap:=m}:=.grown (tk':=d.toks) st.inv (hA ex)
    refine gu (js:=[j1,T]) (xs:=[X,x2]) (as:=[I,a1]) (loc:=w) p (λI x=>by refine R (Rx.mp x) ?_;exact p.loc) (λa4 x=>⟨λY=>.head _,λC q=>by
     clear n r sx n1 n2 n3 n4 ex s hh;refine Wg (RC.mp x) (λE=>?_) λx=>?_;·subst E;replace q:=(dh G).symm.trans q;exact nomatch q
     ·rw[Rx.mp x,dh h4] at q;cases q⟩) (st.on p A) ((Rz ..).trans rfl) rfl J.at (A.CT vx) rfl λs2 U q o2 cM=>H s2 ((aQ.wide A).trans o2) ?_
    exact sX (eb.symm.trans q)▸cM
theorem nj{k:MS}{a:MQ}{o:NP->MW->Prop}(c:d.heap.IsListIter k n ag)(B:o () d):MZ T f (Pl a (.ref k) aa) o t d:=by
 refine mM c λz G j H=>?_;have h:MZ T f (Pl (.List [] ⟨0,0,0,0⟩) (.ref k) aa) o t d:=by
  induction aa using MO.casesOn with
  |ref M=>refine MR (Oy G ?_);refine R j (R H ?_);show MZ _ _ (if(["enumerate","zip","dict_itemiterator","dict_reverseitemiterator","odict_iterator","itertools.zip_longest","itertools.pairwise"].contains "list_iterator"&&_)=ML then _ else _) _ _ d;exact R (Nf (nofun)) (M0 B)
  |_=>exact M0 B
 induction a using T3<;>first|exact M0 B|exact h
noncomputable def Dd(l:Nv)(a:Nj)(d:MV)(T:V Ng)(c:Ng)(i:V (O MU))(f:Nw)(e:CF)(q:LO)(I:V MQ):Prop:=(q=.no/\I=[])\/∃D r,q=.so D/\I=[r]/\ST l a d T c i f e D r
theorem Dd.run{x:LO}{I:V MQ}{o:MP->MW->Prop}(r:Dd h a e l c j f i x I)(p:bk g c j)(G:St a e g l c j b k w d)(D:zy i x w k=.ok (am,bc))(H:∀K v,aQ a e g [] b d K bc v->o am v) :
  MZ (MY h a) f (forIn I ML λam b=>if b=ML then do let z<-isTrue am c (PySem.eval am c);pure (O4.yield z) else pure (O4.yield b)) o t d:=by
 refine hF λm=>?_;rcases r with⟨rfl,rfl⟩|⟨y,s,rfl,rfl,B⟩;·replace D:=Fy.symm.trans D;obtain⟨rfl,rfl⟩:=mY D;exact m (R UP (M0 (H b d (.refl G.inv))))
 ·have D:mO i y w k=.ok (am,bc):=D;refine m (R (TX ..) ?_);refine MR (MR (Nk (B g b k d w p G (by refine R D ?_;nofun)) (λM v q=>?_) λY Y q=>?_));·refine dF q λn C K X o1 dV=>R dV.symm ?_;replace X:=D.symm.trans X;obtain⟨rfl,rfl⟩:=mY X;refine M0 ?_;show MZ _ _ (forIn [] _ _) _ _ _;exact R UP (M0 (H K v o1))
  ·exact cg q λn A X Y=>nX (D▸X)
theorem ju{H v T:MQ}{I:V MQ}{P:NC}{n D:MO}{R:NQ->MW->Prop}(k:Z->MW->Prop)
  (t:∀q d,k q d->MZ (MY h a) f (OE n) (λy X=>match y with
   |none=>R (.ok .next) X
   |some E=>MZ (MY h a) f (Pl v n E) (λY X=>MZ (MY h a) f (OQ v c E) (λY G=>
     MZ (MY h a) f (forIn I ML λC y=>if y=ML then do let z<-isTrue C c (PySem.eval C c);pure (O4.yield z) else pure (O4.yield y)) (λz e=>
      if z=ML then MZ (MY h a) f (PySem.eval H c) (λr j=>
       MZ (MY h a) f (N3 (.builtin "list.append") [D,r]) (λY b=>∃x,x<q/\k x b) (λY Y=>Nx) j) (λY Y=>Nx) e
      else∃x,x<q/\k x e) (λY Y=>Nx) G) (λY Y=>Nx) X) (λY Y=>Nx) X) (λY Y=>Nx) d)
  (q:Z) (B:k q d):NK (MY h a) f (.compLoop (.ListComp H [⟨v,T,I,0⟩] P J) 0 n D c) R d:=by
 refine codeAny_loop rfl k (λq d g=>?_) q B
 refine wpAny_noted ((show∀{i:Type} {w:Nm i} {o:i->MW->Prop} {M:MO->MW->Prop} {d:MW},MZ (MY h a) f w o (λY Y=>Nx) d->MZ (MY h a) f w o M d from λB=>Nk B (λY Y L=>L) λY Y A=>A.elim) ?_)
 rw[compTurn_list]
 refine MR (NX (MR (Nk (t q d g) (λy X U=>?_) λY Y m=>m)))
 induction y using Ry with
 |none=>exact M0 U
 |some E=>
  refine MR (Nk U (λY X U=>?_) λY Y m=>m)
  refine MR (Nk U (λY G K=>MR (Nk K (λz e p=>?_) λY Y m=>m)) λY Y m=>m)
  induction z using RE with
  |false=>exact M0 ⟨rfl,p⟩
  |true=>
   exact MR (MR (Nk p (λr j s=>MR (Nk s (λY b l=>M0 (M0 ⟨rfl,l⟩)) λY Y m=>m)) λY Y m=>m))
noncomputable def AccAt(a:Nj)(g:V MS)(y:bH)(B:MV)(t:MS)(X:V Q):Prop:=∃j q,B.get? t=S (listOf j q)/\bM a.params (Sf B y g) y X j.toList
theorem AccAt.on{s:MW}{t:MS}{X:V Q}(K:Inv a e g b k s.heap)(r:AccAt a g b s.heap t X)(x:t∈g)(C:g.count t<2)(z:aQ a e g aq b s ak bc ap)(T:t∉aq)(J:∀I∈aq,I∈g\/s.heap.get? I=N):AccAt a g ak ap.heap t X:=by refine hF λA=>cg r λj q o E=>z.keep.el o (K.off t x).1 T λY c G U=>?_;rw[U.once C] at G;exact A (dI j q G (E.mono (λY Y U=>z.sf J U) z.le))
noncomputable def br(e:CF)(a:LE)(m:V Z)(q:LO)(A:Loc):Q->AH->Res (O Q×AH):=λE b=>match fy A m E with
 |none=>.bad
 |some v=>((zy e q v b).bind λC=>if C.1 then(aO e a v C.2).bind λr=>.ok (S r.1,r.2) else .ok (N,C.2)).tq
theorem qQ{r:Res G}{A:G->Res az}{M:az}(B:(r.bind A).tq=.ok M):∃I,r=.ok I/\(A I).tq=.ok M:=by
 refine hF λl=>?_;induction r using Wn with
 |ok I=>exact l (ba I rfl B)
 |exc _ _=>cases B
 |bad=>cases B
set_option tactic.hygienic true in
theorem nW{a6:V (O MU)}{loc:Loc}{a3:NC}{cl:V (MU×MS)}{M:MS}{t:MS}{a2:MS}{m:V Z}{d7:NQ->MW->Prop}{a5:Src}{a9:LE}{e0 g2:MQ}{a8:LO}{e8:V MQ}(hh:f.handled=N)(hE:SE h a e l (Nr a3 cl M c) a6 f i a9 s)(hC:Dd h a e l (Nr a3 cl M c) a6 f i a8 e8)(tg:An a6 a3 m e0)
  (eo:bk g (Nr a3 cl M c) a6) (hI:a2∉bz (Nr a3 cl M c)) (hD:t∉bz (Nr a3 cl M c)) (T:g.count t=1) (j:a2≠t) (b9:Res (V Q×AH)) (B:b9≠.bad) {H a0:Z} (hk:H<=1001)
  (G:St a e g l (Nr a3 cl M c) a6 b k (cu loc m) d) (n:cY a g b d.heap a5 a2 a0) (X:AccAt a g b d.heap t []) (ev:bO (br i a9 m a8 loc) a5 H a0 k=b9)
  (hQ:∀c9 vs r K g1 v,b9=.ok (vs,r)->aQ a e g [a2,t,M] b d K r v->AccAt a g K v.heap t vs->St a e g l (Nr a3 cl M c) a6 K r g1 v->d7 (.ok c9) v) :
  NK (MY h a) f (.compLoop (.ListComp s [⟨e0,g2,e8,0⟩] a3 J) 0 (.ref a2) (.ref t) (Nr a3 cl M c)) d7 d:=by
 have a7:=Sa.mp (by refine R T ?_;decide);have cD:g.count t<2:=by refine R T ?_;decide
 refine hF λd9=>?_;obtain⟨Iv,mk,el⟩:∃Iv:Z->MW->Prop,(∀H v a0 r K X,H<=1001->X.length+H<=1001->St a e g l (Nr a3 cl M c) a6 K r (cu loc m) v->cY a g K v.heap a5 a2 a0->aQ a e g [a2,t,M] b d K r v->AccAt a g K v.heap t X->(bO (br i a9 m a8 loc) a5 H a0 r).bind (λq=>.ok (X++q.1,q.2))=b9->Iv H v)/\
   ∀H v,Iv H v->∀c1:Prop,(∀a0 r K X,H<=1001->X.length+H<=1001->St a e g l (Nr a3 cl M c) a6 K r (cu loc m) v->cY a g K v.heap a5 a2 a0->aQ a e g [a2,t,M] b d K r v->AccAt a g K v.heap t X->(bO (br i a9 m a8 loc) a5 H a0 r).bind (λq=>.ok (X++q.1,q.2))=b9->c1)->c1:=
  ⟨λH v=>∀c1:Prop,(∀a0 r K X,H<=1001->X.length+H<=1001->St a e g l (Nr a3 cl M c) a6 K r (cu loc m) v->cY a g K v.heap a5 a2 a0->aQ a e g [a2,t,M] b d K r v->AccAt a g K v.heap t X->(bO (br i a9 m a8 loc) a5 H a0 r).bind (λq=>.ok (X++q.1,q.2))=b9->c1)->c1,λH v a0 r K X I a4 C g6 D A o c1 U=>U a0 r K X I a4 C g6 D A o,λH v U=>U⟩
 refine d9 (ju Iv (λH v e2=>?_) H (mk _ _ a0 k b [] hk (by simpa using hk) G n (.refl G.inv) X ?_))
 ·refine el _ _ e2 _ λi' r K c6 w ha c3 c4 o' ac p=>?_
  clear e2
  induction H using RY with
  |zero=>exact Nh p.symm B
  |succ x=>
   rw[Ky] at p;refine kA (a5.at i' r) (λea=>?_) (λov ea=>?_);·rw[ea] at p;exact Nh p.symm B
   ·rw[ea] at p
    refine j3 hh c3.inv c4 ea λs1 o1=>?_
    have dw:=c3.Hx eo o1 hI c4.one
    have c7:=ac.on c3.inv a7 cD o1 (λx=>j (Rx.mp x).symm) (λI x=>by exact R (Rx.mp x) (.inl c4.mem))
    have d3:=o'.trans (o1.inc (fr':=[a2,t,M]) λC x=>by exact R (Rx.mp x) (.head _))
    induction ov using Ry with
    |none=>rw[Res.aP,Sy] at p;exact hQ _ c6 r K _ _ p.symm d3 c7 dw
    |some d2=>
     dsimp only at p⊢;intro v' hv e7;refine hF λd0=>mM e7.src λa1 Y Y d6=>d0 (nj d6 (hF λe6=>BR (br i a9 m a8 loc d2 r) (λq y=>?_) (λg7 H2 y=>?_) (λy=>?_)))
     ·obtain⟨ox,H2⟩:=q
      rw[y,Res.aP] at p
      unfold br at y
      induction eb:fy loc m d2 using Ry with
      |none=>replace y:=eb▸y;cases y
      |some l'=>
       replace y:=eb▸y
       dsimp only at y
       refine aM (qQ y) λbE e3 y=>?_
       obtain⟨C,E⟩:=bE
       refine e6 ?_
       refine Ao hh tg eo dw hv (by refine qO.trans ?_;exact eb) λs2 o2 cM=>?_
       have f2:∀I∈[M],I∈g\/s1.heap.get? I=N:=λI x=>.inl ((eo.fN) I (R (Rx.mp x) (.head _)))
       have g3:=d3.trans (o2.inc (fr':=[a2,t,M]) λC x=>by exact R (Rx.mp x) (.tail _ (.tail _ (.head _))))
       refine hC.run eo cM e3 λr3 s3 o3=>hF λd4=>?_
       have c2:=cM.on eo o3
       have d8:=(c7.on dw.inv a7 cD o2 (λx=>hD (R (Rx.mp x) (.head _))) f2).on cM.inv a7 cD o3 (λx=>nomatch x) λY x=>nomatch x
       have L:=(e7.on dw.inv o2 (λx=>hI (R (Rx.mp x) (.head _))) f2).on cM.inv o3 (λx=>nomatch x) λY x=>nomatch x
       have d5:=g3.trans (o3.wide (fr:=[a2,t,M]))
       have d1:∀{b:bH} {k:AH} {d:MW},St a e g l (Nr a3 cl M c) a6 b k l' d->St a e g l (Nr a3 cl M c) a6 b k (cu loc m) d:=λU=>by exact R (qP eb).symm ⟨U.inv,U.dS.clear,U.live⟩
       clear v c3 c4 o' ac ea o1 d0 d6 e6 e3 o2 cM dw c7 f2 el
       induction C using RE with
       |false=>obtain⟨rfl,rfl⟩:=mY y;refine d4 (ba x (SD x) (mk _ _ (i'+1) E r3 c6 (VV w) (qi ha rfl) (d1 c2) L d5 d8 ?_));dsimp only at p;refine R p.symm ?_;cases bO (br i a9 m a8 loc) a5 x (i'+1) E<;>rfl
       |true=>
        refine d4 (hF λg4=>aM (qQ y) λcj e4 y=>?_);obtain⟨c9,H4⟩:=cj;obtain⟨rfl,rfl⟩:=mY y;refine g4 ?_;refine Nk (hE g r3 E s3 l' eo c2 (by refine R e4 ?_;nofun)) (λx' s4 q=>?_) λY Y q=>by exact cg q λg7 r e1 Y=>nX (e4▸e1)
        refine dF q λx0 H5 r4 e5 o4 vx=>?_;replace e5:=e4.symm.trans e5;obtain⟨rfl,rfl⟩:=mY e5;have c5:=c2.on eo o4;have g8:=d5.trans (o4.wide (fr:=[a2,t,M]));refine cg (d8.on c2.inv a7 cD o4 (λx=>nomatch x) λY x=>nomatch x) λg9 nn o va=>?_;have hz:c6.length=g9.size:=by exact va.len.trans RI
        refine QI o (λh' sb g'=>?_) (by have:N1=_:=N9;exact hz▸n3 (RH (R6 ..) ha) rfl);have P:∀a4 z,a4∉[t]->s4.heap.get? a4=S z->h'.get? a4=S z:=λa4 z q U=>(sb.2 a4 (λU=>q (R U (.head _)))).trans U;have fl:∀D∈l,∀c8,D.frame=S c8->c8∉[t]:=λD x c8 q U=>by refine c5.live.el x λY L' Y Y Y A C Y Y Y=>?_;replace A:=q.symm.trans A;cases A;rw[Rx.mp U,T] at C;exact RV _ C
        have e9:=c5.part (own:=g) (fs:=[t]) (tk:=s4.toks) eo c5.live P (λI x=>by exact R (Rx.mp x) a7) (λa4 x=>⟨x,λq=>by refine R (Rx.mp q) ?_;exact⟨_,g'⟩⟩) (λI x q=>hD (R (Rx.mp q).symm x)) fl;have o5:aQ a e g [t] r4 s4 r4 H4 {s4 with heap:=h'}:=.mk' (tk':=s4.toks) e9.inv ⟨λa4 ob e1 g5 A=>⟨g5,ob,P a4 ob A e1,.refl ob⟩⟩ (.refl r4);have S5:∀I ob,Sf s4.heap r4 g I ob->Sf h' r4 g I ob:=λa4 ob U=>⟨P a4 ob (λx=>U.2.2 (R (Rx.mp x) a7)) U.1,U.2⟩;refine ba x (SD x) (mk _ _ (i'+1) H4 r4 (c6++[c9]) (VV w) (by refine R RF ?_;exact RH (R2 (TV ..)) ha) (d1 e9) ((L.on c2.inv o4 (λx=>nomatch x) λY x=>nomatch x).on c5.inv o5 (λx=>j (Rx.mp x)) λI x=>by rw[Rx.mp x];exact .inl a7) (g8.trans (o5.inc λC x=>by rw[Rx.mp x];exact .tail _ (.head _))) (dI _ _ g' ?_) ?_);·have:=(va.mono S5 (.refl r4)).append (.cons (vx.mono S5 (.refl r4)) .nil);simpa using this
        ·dsimp only at p
         rw[<-p]
         cases bO (br i a9 m a8 loc) a5 x (i'+1) H4 with
         |ok q=>show Res.ok _=Res.ok _;simp
         |exc _ _=>rfl
         |bad=>rfl
     ·unfold br at y;split at y;·cases y
      ·rename_i q;generalize (Res.bind _ _:Res (O Q×AH))=U at y;induction U using Wn<;>cases y
     ·rw[y] at p;exact B p.symm
 ·rw[ev]
  clear d9 H a0 X a7 cD hh hE hC tg eo hI hD T j hk G n ev hQ
  induction b9 using Wn with
  |ok q=>rfl
  |exc _ _=>rfl
  |bad=>exact bX B
structure rY(w:Nj)(g₀:MV)(own:V MS)(l:V Ng)(env:Ng)(scope:NC)(cl:V (MU×MS))(sl sl':V (O MU))(loc:Loc)(r:bH)(H:AH)(s:MW)(oI:Nl)(I D C:MS)(ts:V Z)(h':MV):Prop where
 we:ct own ([I,D,C]++own) [] ([I,D,C]++[]) s.heap h'
 eo:bk ([I,D,C]++own) (Nr scope cl C env) sl'
 st:∀tk,St w g₀ ([I,D,C]++own) l (Nr scope cl C env) sl' r H (cu loc ts) {s with heap:=h',toks:=tk}
 K9:∀tk,St w g₀ ([I,D,C]++own) l env sl r H loc {s with heap:=h',toks:=tk}
 it:h'.get? I=S oI
 acc:h'.get? D=S (listOf #[] 0)
 new:∀b∈[I,D,C],s.heap.get? b=N
 nd:[I,D,C].Nodup
 Fd:∀b∈[I,D],b∉bz (Nr scope cl C env)
theorem iU{sl:V (O MU)}{sl':V (O MU)}{s:MW}{loc:Loc}{a0:NC}{v:V (MU×MS)}{ts:V Z}{acc0:MO}{a9 a7 a4:MQ}{b9:V MQ}{R:MO->MS->NQ->MW->Prop}{oI:Nl}(c4:oI.isFreed=MT)(c7:∀{o:MO->MW->Prop} {s':MW} {t:MO->MW->Prop},s'.heap.get? s.heap.objs.size=S oI->o (.ref s.heap.objs.size) s'->MZ (MY h a) f (PI (.ref s.heap.objs.size)) o t s')(cs:BW a0 c sl sl' ts)(p:bk g c sl)(G:St a e g l c sl b k loc s)(h1:∀r C,v.lookup r=S C->c.cells.lookup r=S C)(h2:∀I∈v.map (·.2),I∈c.cells.map (·.2))(T:∀r,(r,Tn)∈a0.names->∃C,v.lookup r=S C)
  (hR:∀a5 a2 a3 h' B,rY a e g l c a0 v sl sl' loc b k s oI a5 a2 a3 ts h'->a5=s.heap.objs.size->
   NK (MY h a) f (.compLoop (.ListComp a9 [⟨a7,a4,b9,0⟩] a0 J) 0 (.ref a5) (.ref a2) (Nr a0 v a3 c)) (R (.ref a2) a3) {s with heap:=h',toks:=B}) :
  MZ (MY h a) f (newList []) (λc2 c5=>MZ (MY h a) f (Qi a0 c.globals v [] c.qual N .none (S c)) (λc1 c9=>
   NK (MY h a) f (.compStart (.ListComp a9 [⟨a7,a4,b9,0⟩] a0 J) 0 (.ref s.heap.objs.size) c2 {c1 with scope:=relabel a0 c}) (R c2 c1.locals) c9) t c5) t {s with heap:=s.heap.push oI}:=by
 refine Ov (wpAny_newFunctionEnv cs.cell (by intro a8 hy;simp at hy) (λU w q=>?_) cs.kind);dsimp only at w q;generalize a6:s.heap.push oI=H at w q⊢;generalize d:H.push {cls:=.type "list",dict:=N,data:=.seq ([]:V MO).toArray}=i at w q⊢;have z1:H.objs.size=s.heap.objs.size+1:=by rw[<-a6];exact(Vx ..)
 have z2:i.objs.size=s.heap.objs.size+2:=by rw[<-d,Vx,z1]
 have K:∀M z,M≠i.objs.size->i.get? M=S z->U.get? M=S z:=λM z L D=>(q.2 M L).trans (RA _ D);have gI:=K _ _ (by rw[z2];exact Iw rfl) (by rw[<-d];exact RA _ (by rw[<-a6];exact R4 _ c4));have gD:U.get? H.objs.size=S (listOf #[] 0):=K _ _ (by rw[z1,z2];exact JC rfl) (by rw[<-d];exact R4 _ rfl);have gC:∃z,U.get? i.objs.size=S z:=by obtain⟨z,_,_,c8,_⟩:=w;exact⟨z,c8⟩
 have Y:∀M∈[s.heap.objs.size,H.objs.size,i.objs.size],s.heap.get? M=N:=λM x=>SV (by
  simp only[RC,SA,OG] at x;rcases x with rfl|rfl|rfl;·exact Sd _
  ·rw[z1];exact So _
  ·rw[z2];exact R6 _ _)
 have n:[s.heap.objs.size,H.objs.size,i.objs.size].Nodup:=by rw[z1,z2];simp
 have P:=ct.more (own:=g) (fr:=[]) (ns:=[s.heap.objs.size,H.objs.size,i.objs.size]) Y n (λM z D=>K M z (by rw[z2];exact Te (RS (SF D) (R6 _ _))) (by rw[<-d];exact RA _ (by rw[<-a6];exact RA _ D)));have no:=λM x=>(dO p G.inv (Y M x)).1;have d0:bk ([s.heap.objs.size,H.objs.size,i.objs.size]++g) (Nr a0 v i.objs.size c) sl':=⟨cs.kind,p.glob,p.blt,.tail _ (.tail _ (.head _)),λr C D=>⟨P.sub _ (p.jM r C (h1 r C D)).1,λL=>no C (by rw[L];exact .tail _ (.tail _ (.head _))) (p.jM r C (h1 r C D)).1⟩,λI x=>P.sub _ (p.zU I (h2 I x)),λr a8 C X m=>p.inj r a8 C (h1 r C X) (h1 a8 C m),cs.inj,λa1 r D L=>T r (mem_of_lookup (vo cs.cell L))⟩;have cM:∀B,St a e ([s.heap.objs.size,H.objs.size,i.objs.size]++g) l c sl b k loc {s with heap:=U,toks:=B}:=λB=>G.cX P.new P.le P.hs λM x=>by
  rcases RM.mp x with x|x
  ·simp only[RC,SA,OG] at x;rcases x with rfl|rfl|rfl;·exact⟨_,gI⟩
   ·exact⟨_,gD⟩
   ·exact gC
  ·exact G.inv.FI P.hs x
 have c6:rY a e g l c a0 v sl sl' loc b k s oI s.heap.objs.size H.objs.size i.objs.size ts U:=by
  refine⟨P,d0,λB=>⟨(cM B).inv,⟨(ba _ w (λa1 r E X m e3=>?_)),λr C D=>?_,by rw[hZ,G.dS.len,cs.len]⟩,(cM B).live⟩,cM,gI,gD,Y,n,λM x L=>?_⟩
  ·rcases cs.slot a1 r X with⟨x,_⟩|⟨_,_,L⟩;·exact Nh x (fX m).2
   ·replace L:=(ni e3).symm.trans L;exact nomatch L
  ·refine aM ((cM B).dS.jM r C (h1 r C D)) λy j hm=>ba y j (λa1 E X m e3=>?_);refine hF λA=>?_;rcases cs.slot a1 r X with⟨x,_⟩|⟨_,q1,q2⟩;·exact Nh x (fX m).2
   ·exact A (hm a1 E q1 (fX m).1 (cs.C' r (mem_of_lookup q2)).1)
  ·rcases RC.mp L with L|L
   ·have:M≠i.objs.size:=by
     simp only[RC,SA,OG] at x;rcases x with rfl|rfl;·rw[z2];exact Iw rfl
     ·rw[z1,z2];exact JC rfl
    exact this L
   ·exact no M (by simp only[RC,SA,OG] at x⊢;rcases x with x|x;exact .inl x;exact .inr (.inl x)) (p.zU M (h2 M L))
 have c3:NK (MY h a) f (.compLoop (.ListComp a9 [⟨a7,a4,b9,0⟩] a0 J) 0 (.ref s.heap.objs.size) (.ref H.objs.size) (Nr a0 v i.objs.size c)) (R (.ref H.objs.size) i.objs.size) {s with heap:=U,toks:=s.toks+([]:V (MU×MO)).length}:=hR _ _ _ _ _ c6 rfl;exact codeAny_compStart_list c3 (c7 gI c3)
theorem qR{H:V (O MU)}{Y:NC}{v:V (MU×MS)}{f:MS}{t:MS}{h:MS}{ts:V Z}{L:Nl}{X:V Q}{a0:Loc}{G:MV}{B:Z}{p:MV}(C:rY a e g l c Y v j H w b k d L h t f ts p)(eo:bk g c j)(I:Inv a e g b k d.heap)(z:aQ a e ([h,t,f]++g) [h,t,f] b {d with heap:=p,toks:=B} ak bc ap)(J:AccAt a ([h,t,f]++g) ak ap.heap t X)(D:St a e ([h,t,f]++g) l (Nr Y v f c) H ak bc a0 ap)(r:Sx f ap.heap G) :
  aQ a e g [] b d ak bc {ap with heap:=G}/\VR a.params (Sf G ak g) ak (.lst X) (.ref t):=by
 have s:=λM x=>(dO eo I (C.new M x)).1;have P:∀M K,M∉[f]->ap.heap.get? M=S K->G.get? M=S K:=λM K q U=>(r.2 M (λU=>q (R U (.head _)))).trans U;have m:∀M∈[f],M∈[h,t,f]++g:=λM x=>by exact R (Rx.mp x) (.tail _ (.tail _ (.head _)))
 refine cg J λa1 i o E=>?_;have n:=C.nd;simp only[RW,RC,SA,OG,Om] at n;refine⟨⟨?_,(D.inv.part P m λM x=>⟨C.we.sub M x,λq=>Nh x (s M (by refine R (Rx.mp q) ?_;exact .tail _ (.tail _ (.head _))))⟩),C.we.keep (z.keep.trans ?_),z.le⟩,.lst _ _ a1 i (fA (P t _ (λx=>n.2.1 (Rx.mp x)) o) ((D.inv.off t (RL _ (.tail _ (.head _)))).1) (s t (.tail _ (.head _)))) (E.mono (λM K U=>⟨P M K (λx=>U.2.2 (m M x)) U.1,U.2.1,λx=>U.2.2 (C.we.sub M x)⟩) (.refl ak))⟩;·exact mN z.eq λT y bE=>R bE (v7 G y rfl)
 ·exact⟨λM K e1 i A=>⟨i,K,P M K (λx=>A (R (Rx.mp x) (.tail _ (.tail _ (.head _))))) e1,.refl K⟩⟩
set_option maxHeartbeats 2000000 in
theorem qS{b:Src}(D:srcOf k aw=S (b,H)):H<1000:=by
 induction aw using Wm with
 |lst w=>exact cA D (λB D=>RO (R2 (Nc NU.snd (sX D)).symm) (M8 B)) λY D=>nX D
 |aE q=>exact iQ D λw Y D=>cA D (λB D=>RO (R2 (Nc NU.snd (sX D)).symm) (M8 B)) λY D=>nX D
 |_=>exact nX D
theorem SE.comp{a2:V (O MU)}{c3:Z}{a3:NC}{m:V Z}{a0 n:LE}{L:LO}{a4 a7:MQ}{a8:V MQ}(R:bo N c3 f l)(d:SE h a e l c j f i n a4)(P:dX a4=MT)(cs:BW a3 c j a2 m)(tg:An a2 a3 m a7)
  (hE:∀v M,SE h a e l (Nr a3 v M c) a2 f i a0 s) (hC:∀v M,Dd h a e l (Nr a3 v M c) a2 f i L a8):SE h a e l c j f i (.comp a0 m n L) (.ListComp s [⟨a7,a4,a8,0⟩] a3 J):=by
 intro g y b a1 A p G B;have ev:aO i (.comp a0 m n L) A b=(aO i n A b).bind λy=>match srcOf y.2 y.1 with|none=>.bad|some a1=>(bO (br i a0 m L A) a1.1 (a1.2+1) 0 y.2).bind λq=>.ok (.lst q.1,q.2):=by rfl
 rw[ev] at B⊢;refine wF (cs.Dc p) λv H h1 h2 T=>QW (use:=N) rfl (λa9=>eY P a9) H cs.kind cs.loc ((d g y b a1 A p G).dg (.refl G.inv) (λI z K s1 va X o1 Y E D=>?_) B);rw[X,Res.aP];induction er:srcOf z I using Ry with
 |none=>exact bX (er▸D)
 |some q=>
  obtain⟨a5,x⟩:=q;replace D:=er▸D;dsimp only at D;refine aM (gY E er) λa' cj sa=>?_;clear H X E ev B d P;subst cj;refine cg (sa.items o1.inv) λc7 n' o Y=>Qh (bb o) (iU (R:=λc1 M=>compPost (MY h a) f (EE a e g l ((bO (br i a0 m L A) a5 (x+1) 0 z).bind λq=>.ok (Q.lst q.1,q.2)).x? y a1) N (QQ a e g (lL a) [] ((bO (br i a0 m L A) a5 (x+1) 0 z).bind λq=>.ok (Q.lst q.1,q.2)) y a1) c1 M) (acc0:=.none) (sl:=j) (sl':=a2) (ts:=m) (loc:=A) rfl (λo q=>Rq (jK _ o rfl rfl) q) cs p (G.on p o1) h1 h2 T λk t M h' tk C hI=>?_);have nd:=C.nd;have w:=λc2 x=>R1 (dO p o1.inv (C.new c2 x)).1;have a6:=nd;simp only[RW,RC,SA,OG,Om] at a6;have r:([k,t,M]++g).count k=1:=by refine R'.trans ?_;rw[w k (by simp)];refine nd.count.trans ?_;simp
  have cD:([k,t,M]++g).count t=1:=by rw[R',w t (by simp),nd.count];simp
  have n:cY a ([k,t,M]++g) K ({s1 with heap:=h',toks:=tk}:MW).heap a5 k 0:=⟨(jK a' (sa.mono (λI c4 U=>(U.cX C.we.new).grow C.we.hs) (.refl _)) (λq=>by rw[q,C.new k (.head _)] at o;exact nomatch o) (jK _ C.it rfl rfl)),r⟩;refine nW (loc:=A) R.handled (hE v M) (hC v M) tg C.eo (C.Fd k (.head _)) (C.Fd t (.tail _ (.head _))) cD a6.1.1 _ (λq=>D (by rw[q];rfl)) (SN (qS er)) (C.st tk) n (dI _ _ C.acc .nil) rfl λc6 vs H2 r2 c5 s2 e2 o2 ac cM=>?_;refine hF λb9=>aM cM.dS.ns λmm hn Y=>b9 (ba mm hn (λh2 sb=>?_));refine bK (qR C p o1.inv o2 ac cM sb) λo3 v3=>?_;rw[e2];exact kQ _ _ r2 rfl (o1.trans o3) v3
theorem St.K'{f:V MS}(G:St a e g l c j b k w d)(eo:bk g c j)(z:aQ a e g f b d ak bc ap)(p:∀I∈bz c,I∉f)(h2:∀D∈l,∀n,D.frame=S n->n∉f)(J:∀I∈f,I∈g):St a e g l c j ak bc w ap:=by
 have T:∀I z,Sf d.heap b g I z->Sf ap.heap ak g I z:=λI K U=>z.sf (λI x=>.inl (J I x)) U;refine⟨z.inv,⟨?_,λr C D=>?_,G.dS.len⟩,⟨λD x=>?_⟩⟩;·refine aM G.dS.ns λx bE H=>hF λa0=>dF bE λK y ep o h U=>z.keep.el o (G.inv.off _ eo.loc).1 (p _ (.head _)) λY t L q=>a0 (ba x (kQ t y ep L (q.data.trans h) U) (λi r E X m s=>?_));exact aM (H i r E X m s) λB I M=>ba B I (M.mono T z.le)
 ·refine aM (G.dS.jM r C D) λov cj H=>hF λa4=>aM cj λK o h=>z.keep.el o (G.inv.off _ (eo.jM r C D).1).1 (p _ (.tail _ (lookup_mem D))) λY t L q=>a4 (ba ov (ba t L (q.data.trans h)) (λi E X m s=>?_));exact hF λa2=>aM (H i E X m s) λB I M=>a2 (ba B I (M.mono T z.le))
 ·refine G.live.el x λH n K y a1 A P v o h=>hF λa3=>z.keep.el o (G.inv.off n (Sa.mp (n4 P rfl))).1 (h2 D x n A) λY t L U=>?_;exact a3 ⟨H,n,t,y,a1,A,P,v,L,U.data.trans h⟩
set_option maxHeartbeats 2000000 in
theorem SS.IM{l:V (O MU)}{c6:Z}{a8:NC}{m:V Z}{a3 n:LE}{a2:LO}{b9 c4:MQ}{c5:V MQ}{d1:Ni}(R:bo N c6 f (c :: o))(ih:SE h a e (c :: o) c j f i n b9)(hs:dX b9=MT)(cs:BW a8 c j l m)(P:An l a8 m c4)
  (hE:∀cl M,SE h a e (c :: o) (Nr a8 cl M c) l f i a3 s) (hC:∀cl M,Dd h a e (c :: o) (Nr a8 cl M c) l f i a2 c5) (hj:j[K]? = S (S r)) (hk:c.kindOf r=S .local)
  (H:N4 (.ListComp s [⟨c4,b9,c5,0⟩] a8 d1) (S (.Name r bj)) J.line c=pure ML):SS h a e o c j f i (.asg K (.comp a3 m n a2)) (.Assign [.Name r bj] (.ListComp s [⟨c4,b9,c5,0⟩] a8 d1) J):=λg y b t A p G nb=>by
 have ev:cN i (.asg K (.comp a3 m n a2)) A b=(aO i n A b).bind λy=>match srcOf y.2 y.1 with|none=>.bad|some t=>(bO (br i a3 m a2 A) t.1 (t.2+1) 0 y.2).bind λq=>.ok (.next,A.set K (S (AV.lst q.1)),q.2):=by
  refine oK.trans ((bL tr).trans ?_)
  cases aO i n A b with
  |ok q=>
   dsimp only[Res.aP]
   cases srcOf q.2 q.1 with
   |none=>rfl
   |some U=>
    show Res.bind (Res.bind (bO (br i a3 m a2 A) U.1 (U.2+1) 0 q.2) _) _=Res.bind (bO (br i a3 m a2 A) U.1 (U.2+1) 0 q.2) _
    cases bO (br i a3 m a2 A) U.1 (U.2+1) 0 q.2<;>rfl
  |exc _ _=>rfl
  |bad=>rfl
 rw[ev] at nb⊢;refine wF (cs.Dc p) λcl c7 h1 h2 T=>?_;rw[exec_Assign_Name_used _ _ _ _ H];refine MR (NX (MR ?_));refine MR (Nk (Q:=λY v=>QS a e g (bz c) o c j ((aO i n A b).bind λy=>match srcOf y.2 y.1 with|none=>Res.bad|some t=>(bO (br i a3 m a2 A) t.1 (t.2+1) 0 y.2).bind λq=>Res.ok (Fl.next,A.set K (S (AV.lst q.1)),q.2)) y t .next v) (QW (use:=S (OQ (.Name r bj) c)) (Q:=λY v=>QS a e g (bz c) o c j ((aO i n A b).bind λy=>match srcOf y.2 y.1 with|none=>Res.bad|some t=>(bO (br i a3 m a2 A) t.1 (t.2+1) 0 y.2).bind λq=>Res.ok (Fl.next,A.set K (S (AV.lst q.1)),q.2)) y t .next v) rfl (λd8=>eY hs d8) c7 cs.kind cs.loc ?_) (λY v q=>M0 (M0 q)) λY Y a4=>a4);refine(ih g y b t A p G).ei R G.live p.fN (.refl G.inv) (λI z r1 s1 va e1 o1 pp E D=>?_) nb;rw[e1,Res.aP];induction er:srcOf z I using Ry with
 |none=>exact bX (er▸D)
 |some q=>
  obtain⟨d2,x⟩:=q;replace D:=er▸D;dsimp only at D⊢;generalize c3:((bO (br i a3 m a2 A) d2 (x+1) 0 z).bind λq=>Res.ok (Fl.next,A.set K (S (AV.lst q.1)),q.2))=c8 at D⊢;refine aM (gY E er) λa' du sa=>?_;clear nb c7 E ev ih hs H;subst du;refine cg (sa.items o1.inv) λe6 n' a5 Y=>Qh (bb a5) ?_;have a6:=G.on p pp;refine iU (R:=λe0 M=>compPost (MY h a) f (ES a e g (MY h a) f (bz c) o c c8.x? y t) (S (OQ (.Name r bj) c)) (λY v=>QS a e g (bz c) o c j c8 y t .next v) e0 M) (acc0:=.none) (sl:=j) (sl':=l) (ts:=m) (loc:=A) rfl (λa5 q=>Rq (jK _ a5 rfl rfl) q) cs p a6 h1 h2 T λk a0 M h' B C hI=>?_;have nd:=C.nd;have nI:=λa1 x=>(dO p o1.inv (C.new a1 x)).1;have w:=λa1 x=>R1 (nI a1 x);have a9:=nd;simp only[RW,RC,SA,OG,Om] at a9;have cI:([k,a0,M]++g).count k=1:=by refine R'.trans ?_;rw[w k (by simp)];refine nd.count.trans ?_;simp
  have cD:([k,a0,M]++g).count a0=1:=by refine R'.trans ?_;rw[w a0 (by simp)];refine nd.count.trans ?_;simp
  have n:cY a ([k,a0,M]++g) r1 ({s1 with heap:=h',toks:=B}:MW).heap d2 k 0:=⟨(jK a' (sa.mono (λI e4 U=>(U.cX C.we.new).grow C.we.hs) (.refl _)) (λq=>by rw[q,C.new k (.head _)] at a5;exact nomatch a5) (jK _ C.it rfl rfl)),cI⟩;refine nW (loc:=A) R.handled (hE cl M) (hC cl M) P C.eo (C.Fd k (.head _)) (C.Fd a0 (.tail _ (.head _))) cD a9.1.1 _ (λq=>D (by refine c3.symm.trans ?_;exact(bL q).trans rfl)) (SN (qS er)) (C.st B) n (dI _ _ C.acc .nil) rfl λd4 vs H2 r2 e5 s2 e2 o2 ac cM=>?_;rw[e2] at c3;have d9:=p.cX C.we.sub;have fl:=λa4 x c1 q U=>nI c1 U (a6.live.C5 a4 x c1 q);have c2:∀I∈[M]++g,I∈[k,a0,M]++g:=λI x=>(RM.mp x).elim (λx=>by rw[Rx.mp x];exact .tail _ (.tail _ (.head _))) λx=>RP _ x;refine cg ac λd3 nn gD va=>?_;refine PN (et (j:=K) (fr:=bz c) (p.cX λI x=>RP _ x) (((C.K9 B).K' d9 o2 (λI x q=>nI I q (p.fN I x)) fl λI x=>RL _ x).back c2 (a6.live.cX (λa1=>by rw[R'];exact SR _ _) λY Y a4=>a4)) j0.all hj (.inl hk) (.lst _ _ d3 nn (fA gD ((cM.inv.off a0 (.tail _ (.head _))).1) (λx=>(RM.mp x).elim (λx=>a9.2.1 (Rx.mp x)) (nI a0 (.tail _ (.head _))))) (va.mono (λY Y U=>U.back c2) (.refl r2))) λs3 o3 d0=>?_);refine hF λd5=>aM cM.dS.ns λmm dV Y=>wb dV λoC d6 c9 gC dC=>?_;have CI:=λx=>nI M (.tail _ (.tail _ (.head _))) (p.fN M x);clear G h1 h2 T va pp D sa n' a5 hI e2 ac d3 nn gD dV nd w a9 cI cD n c2 R cs P hE hC hj hk;refine o3.keep.el gC (cM.inv.off M (.tail _ (.tail _ (.head _)))).1 CI λY d7 e3 zC=>d5 (ba mm (kQ d7 d6 c9 e3 (zC.data.trans dC.1) dC.2) (λX sb=>?_));have L:∀a1 ob,a1∉[M]->s3.heap.get? a1=S ob->X.get? a1=S ob:=λa1 ob q U=>(sb.2 a1 (λU=>q (by rw[U];exact .head _))).trans U;have d:St a e g (c :: o) c j r2 H2 (A.set K (S (.lst vs))) {s3 with heap:=X}:=d0.part (own:=g) (fs:=[M]) (tk:=s3.toks) p a6.live L (λI x=>RL _ x) (λa1 x=>⟨RP _ x,λq=>Nh x (nI a1 (by rw[Rx.mp q];exact .tail _ (.tail _ (.head _))))⟩) (λI x q=>CI (by rw[<-Rx.mp q];exact x)) λa4 x c1 q U=>fl a4 x c1 q (by rw[Rx.mp U];exact .tail _ (.tail _ (.head _)));refine gU .next _ H2 r2 c3.symm (o1.trans ⟨?_,d.inv,?_,o2.le.trans o3.le⟩) d trivial;·refine mN o2.eq λh5 t5 fB=>?_;clear y t p o1 cM d0 d5 oC d6 c9 gC dC sb a6 nI fl CI d zC;subst fB;refine mN o3.eq λh6 t6 i7=>?_;subst i7;exact v7 X t6 rfl
  ·have k1:dU ([k,a0,M]++g) ([k,a0,M]++bz c) r1 h' r2 s2.heap:=o2.keep.less (λa7 x=>.inl (RL _ x)) λY x=>.inl x;have k2:dU ([k,a0,M]++g) ([k,a0,M]++bz c) r2 s2.heap r2 s3.heap:=o3.keep.less (λa7 x=>.inl (RP _ x)) λa7 x=>.inl (by rw[R'] at x⊢;have:V.count a7 [M]<=V.count a7 [k,a0,M]:=V.Sublist.count_le a7 (((V.Sublist.refl _).cons _).cons _);exact RH x (Tw this _));exact(ct.more C.new C.nd C.we.hs).keep (k1.trans (k2.trans (⟨λa1 ob e1 c6 d4=>⟨c6,ob,L a1 ob (λx=>d4 (by rw[Rx.mp x];exact .tail _ (.tail _ (.head _)))) e1,.refl ob⟩⟩)))
theorem De{T:Z}(o:d.heap.get? A=S (bB C T)):d.TypeIs (.ref A) "dict":=(ba _ o rfl)
theorem t9{T:Z}(v:(A==OC)=MT)(o:d.heap.get? A=S (bB C T))
  (H:ai (.ref d.heap.objs.size) {d with heap:=d.heap.push {cls:=.type "dict_keyiterator",data:=.fields #[.ref A,.int 0 0,.int C.size 0,.int T 0]}}):MZ (MY h a) f (PI (.ref A)) ai t d:=by have b:=De o;refine QK b PySem.F.slot_dict_iter (N2 PySem.F.slot_dict_iter b PySem.F.entry_dict_iter ?_ (PySem.F.args_dict_iter_1 _));refine MR ?_;refine MR (QA b ?_);refine M0 ?_;show MZ _ _ (NL.Dict.showsAll A >>= _) _ _ d;unfold NL.Dict.showsAll;refine R (Nf (by refine R v ?_;exact RX)) ?_;refine MR (M0 ?_);refine MR (OY o rfl ?_);refine MR (QX o rfl ?_);refine MR (Ov (M0 ⟨_,rfl,"dict_keyiterator",_,(ba _ (R4 _ rfl) rfl),PySem.F.slot_dict_keyiterator_next.lookup,?_⟩));exact H
theorem uc{s:MW}{T:Z}{n:MS}{en:Nt}{d:O MO->MW->Prop}(c:s.heap.IsKeyIter n A ag C.size T)(o:s.heap.get? A=S (bB C T))(x:C[ag]? = S en)
  (H:∀m,m.IsKeyIter n A (ag+1) C.size T->Sx n s.heap m->d (S en.key) {s with heap:=m}):MZ (MY h a) f (OE (.ref n)) d t s:=by refine mM (id c) λz G j b=>?_;refine MR (OO (Ot (name:=Tx "__next__") c.typeIs PySem.F.slot_dict_keyiterator_next (N2 PySem.F.slot_dict_keyiterator_next c.typeIs PySem.F.entry_dict_keyiterator_next ?_ (PySem.F.args_dict_keyiterator_next_1 _))));refine MR (M0 ?_);refine MR ?_;refine MR ?_;refine MR (Qj c.typeIs (M0 ?_));refine MR (wpAny_fieldsOf G b ?_);refine R (show NL.Dict_items.ownsTuple "dict_keyiterator"=MT from rfl) ?_;refine R (Nf (show¬((MO.ref A==MO.none)=ML) from RX)) ?_;refine MR (M0 ?_);refine MR (OY o rfl ?_);refine R (Nf (by simp)) ?_;refine MR (M0 ?_);refine MR (QX o rfl ?_);refine R (Nf (by simp)) ?_;refine M0 ?_;refine dD (U1.mp x) λe bE=>?_;clear o x;subst bE;dsimp only;refine R (show C[TR (ag:MN)]? = S C[ag] from Tv e) ?_;refine MR ?_;refine MR (Qj c.typeIs (M0 ?_));refine MR (Rr c.typeIs ?_);show MZ _ _ (setField (.ref n) 1 (rawInt ((ag:MN)+1)) >>= _) _ _ s;refine MR (PJ G b (M8 rfl) ?_);have p:(s.heap.update n (Wf (·.setIfInBounds 1 (rawInt ((ag:MN)+1))))).IsKeyIter n A (ag+1) C.size T:=(jK _ (R9 _ G (TK (Tr b _))) ((VU ..).trans j) (by refine(Tr b ..).trans ?_;exact rfl));refine MR (Ny ?_);refine MR (Rr (s:={s with heap:=s.heap.update n (Wf (·.setIfInBounds 1 (rawInt ((ag:MN)+1))))}) p.typeIs ?_);exact M0 (M0 (ba _ rfl (M0 (H _ p (Sq ..)))))
theorem xv{i:Z}{n:MS}{o:O MO->MW->Prop}(l:f.handled=N)(c:d.heap.IsKeyIter n A ag C.size i)(g:d.heap.get? A=S (bB C i))(x:C.size<=ag)
  (H:∀e,(∃z,e.get? n=S z)->(∀b z,b≠n->d.heap.get? b=S z->e.get? b=S z)->o N {d with heap:=e}):MZ (MY h a) f (OE (.ref n)) o t d:=by refine mM (id c) λz G j q=>?_;unfold OE;refine MR (OO (Ot (name:=Tx "__next__") c.typeIs PySem.F.slot_dict_keyiterator_next (N2 PySem.F.slot_dict_keyiterator_next c.typeIs PySem.F.entry_dict_keyiterator_next ?_ (PySem.F.args_dict_keyiterator_next_1 _))));refine MR (M0 ?_);refine MR ?_;refine MR ?_;refine MR (Qj c.typeIs (M0 ?_));refine MR (wpAny_fieldsOf G q ?_);refine R (show NL.Dict_items.ownsTuple "dict_keyiterator"=MT from rfl) ?_;show MZ _ _ (if(MO.ref A==MO.none)=ML then _ else _) _ _ d;refine R (Nf (show¬((MO.ref A==MO.none)=ML) from RX)) ?_;refine MR (M0 ?_);refine MR (OY g rfl ?_);refine R (Nf (by simp)) ?_;refine MR (M0 ?_);refine MR (QX g rfl ?_);refine R (Nf (by simp)) ?_;refine M0 ?_;dsimp only;refine R (Nf (TU.mpr (RQ ag))) ?_;refine R (show C[TR (ag:MN)]? = N from Vm x) ?_;dsimp only;refine MR ?_;refine MR (Qj c.typeIs (M0 ?_));show MZ _ _ (setField (.ref n) 0 .none >>= _) _ _ d;refine MR (PJ G q (M8 rfl) ?_);show MZ _ _ (newExc (.type "StopIteration") [] >>= _) _ _ _;refine MR ?_;simp only[newExc,newTuple];refine MR (Ov ?_ (by size_fits));refine MR (m:=Ph _ _) (NN (a:=MO.none) (by first|rfl|(rw[Ph];rfl)) ?_);refine Ov ?_ (by size_fits);dsimp only[P1];refine MR (QL ?_);refine R (show f.in1.handled=N from l) ?_;refine MR (M0 (QM ?_));refine MR (OX (T:="StopIteration") (b:=true) (ba _ (R4 _ rfl) rfl) QN ?_);refine M0 (H _ ⟨_,RA _ (RA _ (R9 _ G (TK (Tr q _))))⟩ λb z L D=>?_);exact RA _ (RA _ ((S9 _ _ (S8 L)).trans D))
theorem ud{es:M5 Nt}{T:Z}{n:MS}(c:d.heap.IsKeyIter n A ag es.size T)(B:ai (.ref n) d):MZ (MY h a) f (PI (.ref n)) ai t d:=wpAny_pyIter_keyiter c B
theorem xw(l:f.handled=N)(k c:MS)(j:c≠k)(y:M5 Nt)(T:Z) :
  Walks h a f k [k,c] [k] y.size (λK E=>∃g,y[K]? = S g/\E=g.key) (λK B=>B.IsKeyIter k c K y.size T/\B.get? c=S (bB y T)) where
 sub:=λM w=>by simp at w;simp[w]
 frame:=λY Y Y G J=>⟨G.1.at λz D=>J k (.head _) z D,J c (.tail _ (.head _)) _ G.2⟩
 item:=λK t o I d G H=>by refine uc G.1 G.2 (en:=y[K]) (by simp[d]) λm p b=>?_;exact H _ m t.toks (ba _ (by simp[d]) rfl) ⟨p,(b.2 c j).trans G.2⟩ λM z w D=>b.extBut M z (λB=>w (by simp[B])) D
 done:=λt o I G H=>xv l G.1 G.2 (Sd _) λm Y x=>H m t.toks λM z w D=>x M z (λB=>w (by simp[B])) D
 self:=λY Y Y Y G H=>ud G.1 H
theorem nq{k:MS}{a:Z}{n:MQ}{o:NP->MW->Prop}(c:d.heap.IsKeyIter k A ag C.size a)(B:o () d):MZ T f (Pl n (.ref k) aa) o t d:=by
 refine mM c λz G j H=>?_;have h:MZ T f (Pl (.List [] ⟨0,0,0,0⟩) (.ref k) aa) o t d:=by
  induction aa using MO.casesOn with
  |ref M=>refine MR (Oy G ?_);refine R j ?_;refine R H ?_;show MZ _ _ (if(["enumerate","zip","dict_itemiterator","dict_reverseitemiterator","odict_iterator","itertools.zip_longest","itertools.pairwise"].contains "dict_keyiterator"&&_)=ML then _ else _) _ _ d;refine R (Nf (M8 rfl)) ?_;exact M0 B
  |_=>exact M0 B
 induction n using T3<;>first|exact M0 B|exact h
theorem l9{A:Z}(C:Gr v e P be bg bf)(p:bk g c j)(E:St a e g l c j b k w d)(H:j[K]? = S (S r))(i:c.kindOf r=S .local\/c.kindOf r=S .cell\/c.kindOf r=S .free)
  (I:(r==("__debug__":MU))=MT) (hc:(r==("__classdict__":MU))=MT) (D:w[K]? = S (S m)) (X:dz k m A=S aw) (U:∀B,VR a.params (Sf d.heap b g) b aw B->ai B {d with toks:=d.toks+1}) :
  MZ (MY h a) f (PySem.eval (.Attribute (.Name r bj) (sx A) J) c) ai t d:=by
 refine Attribute_any_ (O9 ?_ I) (by refine(Rk ..).trans ?_;refine R (gr rfl) rfl);have T:∀B,VR a.params (Sf d.heap b g) b m B->MZ (MY h a) f (Pf B (sx A) ML) ai t d:=λB hv=>lT C E.inv hv X U;rcases i with i|i;·refine hF λo=>?_;refine aM E.dS.ns λx n s=>?_;refine hF λM=>?_;refine aM (s K r m H D i) λB Y G=>?_;refine M ?_;refine o ?_;exact O' p.kind i n Y (T _ G)
 ·refine dD (p.has K r H i) λa0 z=>?_;refine aM (E.dS.jM r a0 z) λy L s=>?_;refine aM (s K m H D i) λB cj G=>?_;clear s C E H I D X U;subst cj;rcases i with i|i;·exact Q7 p.kind i z L (T _ G)
  ·exact Q8 p.kind i z L (T _ G) hc
theorem xx{f:V (Q×Q)}:∀{w:V Q},iC y f=S w->w.length=f.length/\∀(K:Z) L,f[K]? = S L->∃E,w[K]? = S E/\cW y L.1=S (S E):=by
 induction f with
 |nil=>exact λD=>sX D▸⟨rfl,λK L D=>nX D⟩
 |cons M f d=>
  intro w D
  have D:(match (cW y M.1).bind id,iC y f with|some E,S w=>S (E :: w)|_,_=>N)=S w:=D
  revert D
  induction X:(cW y M.1).bind id using Ry with
  |none=>exact nX
  |some E=>induction m:iC y f using Ry with
   |none=>exact nX
   |some c=>
    intro D
    refine sJ D (bK (d m) λr s=>⟨Nc (· + 1) r,λK L D=>?_⟩)
    induction K using RY with
    |zero=>exact sJ D (iQ X λU a Y=>ba E rfl (a.trans (Nc S Y)))
    |succ K=>exact s K L D
theorem kU{E:MS}{J:M5 MO}{nn:Z}{r:MO}{X:V Q}(p:bk g c j)(G:St a e g l c j b k w d)(o:d.heap.get? E=S (listOf J nn))(va:bM a.params (Sf d.heap b g) b X J.toList)(vx:VR a.params (Sf d.heap b g) b m r)(s:X.length<1002)(i:E∈g)(cD:g.count E=1)(T:E∉bz c)
  (H:∀v,(∀M z,M≠E->d.heap.get? M=S z->v.heap.get? M=S z)->aQ a e g [E] b d b k v->St a e g l c j b k w v->AccAt a g b v.heap E (X++[m])->ai .none v):MZ (MY h a) f (N3 (.builtin "list.append") [.ref E,r]) ai t d:=by
 have y:X.length=J.size:=by exact va.len.trans RI
 refine QI o (λh' sb g'=>?_) (by have:N1=_:=N9;exact y.symm▸qi s rfl);have P:∀M z,M∉[E]->d.heap.get? M=S z->h'.get? M=S z:=λM z L U=>(sb.2 M (λU=>L (R U (.head _)))).trans U;have fl:∀D∈l,∀I,D.frame=S I->I∉[E]:=λD x I L U=>by refine G.live.el x λY n Y Y Y A C Y Y Y=>?_;replace A:=L.symm.trans A;obtain rfl:=sX A;rw[Rx.mp U,cD] at C;exact RV _ C
 have B:=G.part (own:=g) (fs:=[E]) (tk:=d.toks) p G.live P (λm x=>by exact R (Rx.mp x) i) (λM x=>⟨x,λL=>by refine R (Rx.mp L) ?_;exact⟨_,g'⟩⟩) (λm x L=>T (R (Rx.mp L).symm x)) fl;have S5:∀m K,Sf d.heap b g m K->Sf h' b g m K:=λM K U=>⟨P M K (λx=>U.2.2 (R (Rx.mp x) i)) U.1,U.2⟩;refine H _ (λM z L=>P M z λx=>L (Rx.mp x)) (.mk' (tk':=d.toks) B.inv ⟨λM K e1 q A=>⟨q,K,P M K A e1,.refl K⟩⟩ (.refl b)) B (dI _ _ g' ?_);have:=(va.mono S5 (.refl b)).append (.cons (vx.mono S5 (.refl b)) .nil);simpa using this
theorem vq{a9:V (O MU)}{a4:NC}{cl:V (MU×MS)}{a2:MS}{t:MS}{a0:MS}{T:Z}{r a3:Z}{sf kx:MU}{p1 p2 p3 p4 p5 p6 p7:Ni}(hu:f.units+64<NB)(hh:f.handled=N)(e9:Gr v e P be bg bf)(g8:a9[K]? = S (S sf))(hx:a9[r]? = S (S kx))(c2:a4.names.lookup kx=S .local)(d7:a4.names.lookup sf=S .free)(c9:K≠r)
  (d1:(sf==("__debug__":MU))=MT) (d2:(sf==("__classdict__":MU))=MT) (d3:(kx==("__debug__":MU))=MT) (p:bk g (Nr a4 cl a2 c) a9) (hI:a0∉bz (Nr a4 cl a2 c)) (hD:t∉bz (Nr a4 cl a2 c)) (mI:g.count a0=1) (mD:g.count t=1) (j:a0≠t)
  (ej:w[K]? = S (S m)) (g1:r<w.length) (ea:dz k m a3=S (.ab H)) (e0:k.D[H]? = S y) (d6:b.D[H]? = S A) (s:y.length<1000) (lv:au.length=y.length) (gv:∀(a1:Z) q,y[a1]? = S q->∃E,au[a1]? = S E/\cW y q.1=S (S E))
  (X:DictAt a g b d A y C T ay) (G:St a e g l (Nr a4 cl a2 c) a9 b k (cu w [r]) d) (e6:d.heap.IsKeyIter a0 A 0 C.size T) (e5:AccAt a g b d.heap t []) :
  NK (MY h a) f (.compLoop (.ListComp (.Subscript (.Attribute (.Name sf p1) (sx a3) p2) (.Name kx p3) p4) [⟨.Name kx p5,.Attribute (.Name sf p6) (sx a3) p7,[],0⟩] a4 J) 0 (.ref a0) (.ref t) (Nr a4 cl a2 c)) (λq s'=>match q with
   |.ok _=>∃e3,aQ a e g [a0,t,a2] b d b k s'/\AccAt a g b s'.heap t au/\St a e g l (Nr a4 cl a2 c) a9 b k e3 s'
   |.error _=>Nx) d:=by
 have a7:=Sa.mp (by refine R mI ?_;decide)
 have i:=Sa.mp (by refine R mD ?_;decide)
 have cD:g.count t<2:=by refine R mD ?_;decide
 have c6:a2∈g:=p.loc
 have ne:∀M∈g,A≠M:=λM x q=>(G.inv.off M x).1 (q▸(fQ d6))
 have L:y.length=C.size:=by exact X.dr.len.trans RI
 have fl:∀(M:MS),g.count M=1->∀D∈l,∀I,D.frame=S I->I∉[M]:=λM cb D x I q U=>by refine G.live.el x λY L' Y Y Y a3 a5 Y Y Y=>?_;replace a3:=q.symm.trans a3;obtain rfl:=sX a3;rw[Rx.mp U,cb] at a5;exact RV _ a5
 refine ju (λx s'=>∃a1,a1+x=C.size+1/\St a e g l (Nr a4 cl a2 c) a9 b k (cu w [r]) s'/\s'.heap.IsKeyIter a0 A a1 C.size T/\s'.heap.get? A=S (bB C T)/\aQ a e g [a0,t,a2] b d b k s'/\AccAt a g b s'.heap t (au.take a1)) (λx s' g7=>?_) (C.size+1) ⟨0,by exact T5 _,G,e6,X.obj,.refl G.inv,by exact e5⟩
 refine KW g7 λa1 hm a6 c8 c5 o' ac=>?_
 have S':∀M ob,Sf d.heap b g M ob->Sf s'.heap b g M ob:=λM ob U=>o'.sf (λM x=>.inl (by simp only[RC,SA,OG] at x;rcases x with rfl|rfl|rfl<;>assumption)) U
 by_cases hi:a1<C.size
 ·have d4:a1<y.length:=L▸hi;refine hF λg3=>?_;obtain⟨q,eq⟩:∃q,y[a1]? = S q:=⟨_,RB d4⟩;refine uP ((X.dr.mono S' (.refl b)).get eq) λkv vv e1 ok vk Y=>?_;have e7:C[a1]? = S ⟨gK a q.1,kv,vv⟩:=by simpa using e1
  refine aM (gv a1 q eq) λE ev eg=>g3 (uc c8 c5 e7 λh1 c3 g6=>?_);have a8:∀M z,M∉[a0]->s'.heap.get? M=S z->h1.get? M=S z:=λM z q U=>(g6.2 M (λU=>q (R U (.head _)))).trans U;have dw:=a6.part (own:=g) (fs:=[a0]) (tk:=s'.toks) p a6.live a8 (λm x=>by exact R (Rx.mp x) a7) (λM x=>⟨x,λq=>by refine R (Rx.mp q) ?_;obtain⟨z,b9,_⟩:=c3;exact⟨z,b9⟩⟩) (λm x q=>hI (R (Rx.mp q).symm x)) (fl a0 mI);have o1:aQ a e g [a0] b s' b k {s' with heap:=h1}:=.mk' (tk':=s'.toks) dw.inv ⟨λM ob e1 c4 a3=>⟨c4,ob,a8 M ob a3 e1,.refl ob⟩⟩ (.refl b);have S1:∀M ob,Sf s'.heap b g M ob->Sf h1 b g M ob:=λM ob U=>o1.sf (λM x=>.inl (R (Rx.mp x) a7)) U;have c1:=ac.on a6.inv i cD o1 (λx=>j (Rx.mp x).symm) λm x=>.inl (R (Rx.mp x) a7);have e4:h1.get? A=S (bB C T):=a8 A _ (λx=>ne a0 a7 (Rx.mp x)) c5;refine nq c3 (PN (lY (j:=r) (fr:=[a2]) p dw ⟨λY=>.head _,λa5 q=>by replace q:=(dh c2).symm.trans q;cases q⟩ hx (.inl (dh c2)) (vk.mono S1 (.refl b)) λo d5 o2 cM=>?_));refine M0 ?_;have f2:∀m∈[a2],m∈g\/({s' with heap:=h1}:MW).heap.get? m=N:=λm x=>.inl (by rw[Rx.mp x];exact c6);have c7:o.heap.get? A=S (bB C T):=d5 A _ (λx=>ne a2 c6 (Rx.mp x)) e4;have g5:o.heap.IsKeyIter a0 A (a1+1) C.size T:=by obtain⟨z,b9,r⟩:=c3;exact ba z (d5 a0 z (λx=>hI (by rw[Rx.mp x];exact .head _)) b9) r
  have lj:((cu w [r]).set r (S q.1))[K]? = S (S m):=by simp only[cu,Ue,V.foldl_nil];rw[R7 (S8 c9),R7 (S8 c9)];exact ej
  have lx:((cu w [r]).set r (S q.1))[r]? = S (S q.1):=by rw[Th (by rw[hZ];exact g1)]
  refine P2 (l9 e9 p cM g8 (.inr (kind_free d7)) d1 d2 lj ea λv' hv=>?_);have o3:aQ a e g [] b o b k {o with toks:=o.toks+1}:=.tok cM.inv;refine O9 ?_ d3;refine hF λg4=>aM (cM.on p o3).dS.ns λmp n e2=>aM (e2 r kx q.1 hx lx (dh c2)) λk' z1 z2=>g4 (O' p.kind (dh c2) n z1 (aM (VR.inv hv) λd' bE e8=>R bE ?_))
  ·refine sJ (d6.symm.trans e8) ?_;have x3:DictAt a g b {o with toks:=o.toks+1} A y C T ay:=⟨c7,X.dr.mono (λM ob U=>(λM ob U=>o2.sf f2 (S1 M ob U)) M ob (S' M ob U)) (.refl b),X.nd⟩;refine fU x3.is Px.lookup rfl (gp (own:=g) (E8 hu rfl) x3 z2 eg λnn v2 d8=>?_);have o4:aQ a e g [] b o b k {o with toks:=o.toks+1+nn}:=.tok cM.inv;refine cg ((c1.on dw.inv i cD o2 (λx=>hD (by rw[Rx.mp x];exact .head _)) f2).on cM.inv i cD o4 (λx=>nomatch x) λY x=>nomatch x) λg9 n2 g2 va=>?_;refine kU p (cM.on p o4) g2 va d8 (by rw[S4];exact RO (Tc ..) (n1 (VL d4 s) rfl)) i mD hD λs5 d0 o5 B d9=>?_;refine⟨x - 1,b7 hm hi,a1+1,b8 hm hi,?_,?_,d0 A _ (ne t i) c7,?_,?_⟩
   ·have:cu ((cu w [r]).set r (S q.1)) [r]=cu w [r]:=by simp only[cu,Ue,V.foldl_nil,Tf]
    rw[<-this];exact⟨B.inv,B.dS.clear,B.live⟩
   ·exact aM g5 λz b9 r=>ba z (d0 a0 z j b9) r
   ·exact(((o'.trans (o1.inc λa5 x=>by rw[Rx.mp x];exact .head _)).trans (o2.inc λa5 x=>by rw[Rx.mp x];exact .tail _ (.tail _ (.head _)))).trans o4.wide).trans (o5.inc λa5 x=>by rw[Rx.mp x];exact .tail _ (.head _))
   ·rw[V.take_add_one,ev];exact d9
 ·refine xv hh c8 c5 (Tj.mp hi) λh1 ex hs=>?_;have a8:∀M z,M∉[a0]->s'.heap.get? M=S z->h1.get? M=S z:=λM z q U=>hs M z (λU=>q (by rw[U];exact .head _)) U;have dw:=a6.part (own:=g) (fs:=[a0]) (tk:=s'.toks) p a6.live a8 (λm x=>by rw[Rx.mp x];exact a7) (λM x=>⟨x,λq=>by rw[Rx.mp q];exact ex⟩) (λm x q=>hI (by rw[<-Rx.mp q];exact x)) (fl a0 mI);have o1:aQ a e g [a0] b s' b k {s' with heap:=h1}:=.mk' (tk':=s'.toks) dw.inv ⟨λM ob e1 c4 a3=>⟨c4,ob,a8 M ob a3 e1,.refl ob⟩⟩ (.refl b);have c1:=ac.on a6.inv i cD o1 (λx=>j (Rx.mp x).symm) λm x=>.inl (by rw[Rx.mp x];exact a7);rw[V.take_of_length_le (RH (R2 (lv.trans L)) (Tj.mp hi))] at c1;exact jK _ (o'.trans (o1.inc λa5 x=>by rw[Rx.mp x];exact .head _)) c1 dw
set_option maxHeartbeats 2000000 in
theorem SE.vals{a2:V (O MU)}{c9:Z}{a4:NC}{r A:Z}{Y kx:MU}{p1 p2 p3 p4 p5 p6 p7:Ni}(hf:A≠26)(a3:Gr v e P be bg bf)(R:bo N c9 f l)(cs:BW a4 c j a2 [r])(hs:j[K]? = S (S Y))(hk:c.kindOf Y=S .local\/c.kindOf Y=S .cell\/c.kindOf Y=S .free)(c5:a2[K]? = S (S Y))(x:a2[r]? = S (S kx))(m:a4.names.lookup kx=S .local)(a6:a4.names.lookup Y=S .free)(c8:K≠r)
  (H:(Y==("__debug__":MU))=MT) (d2:(Y==("__classdict__":MU))=MT) (d3:(kx==("__debug__":MU))=MT) :
  SE h a e l c j f i (.vals (.attr (.var K) A) r) (.ListComp (.Subscript (.Attribute (.Name Y p1) (sx A) p2) (.Name kx p3) p4) [⟨.Name kx p5,.Attribute (.Name Y p6) (sx A) p7,[],0⟩] a4 J):=by
 intro g y b t a0 p G B;have hu:f.units+64<NB:=BQ R.units rfl;refine hF λD=>?_;induction ej:a0[K]? using Ry with
 |none=>exact(B (by refine k9.trans ?_;rw[hV,iN,ej];rfl)).elim
 |some o=>
 refine D (hF λc4=>?_);induction o using Ry with
 |none=>exact(B (by refine k9.trans ?_;rw[hV,iN,ej];rfl)).elim
 |some I=>
 have ev:aO i (.vals (.attr (.var K) A) r) a0 b=(aG i b I A).bind λy=>kz y.2 y.1:=by refine k9.trans ?_;refine(bL hV).trans ?_;rw[iN,ej];rfl
 refine c4 ?_;rw[ev] at B⊢;have ea:∃E,dz b I A=S E:=by
  induction q:dz b I A using Ry with
  |some E=>exact⟨E,rfl⟩
  |none=>exact uP (tF q λU=>B (bL U)) λε ε ε ε U ε=>(hf U).elim
 refine dD ea λE ea=>?_;have er:aG i b I A=.ok (E,b):=by unfold aG;rw[ea]
 rw[er,Res.aP] at B⊢;refine wF (cs.Dc p) λcl a9 h1 h2 T=>QW (use:=N) rfl (λE=>eY rfl E) a9 cs.kind cs.loc (l9 a3 p G hs hk H d2 ej ea λv' hv=>?_);refine JK (CK B) λd5 as vs q e0 hz d ev=>?_;clear B;subst q;rw[ev];refine aM (VR.inv hv) λa8 cj w=>?_;subst cj;refine hF λc6=>bK (xx d) λlv gv=>?_;have o0:aQ a e g [] y t y b {t with toks:=t.toks+1}:=.tok G.inv;have a1:=G.on p o0;refine zT (fD (s:={t with toks:=t.toks+1}) a1.inv e0 w) λes ep dk X=>?_;have s:r<a0.length:=by rw[G.dS.len,<-cs.len];exact(RG.mp x).1
 refine c6 (t9 (a3.mods.ne G.inv (fQ w)) X.obj (iU (s:={t with toks:=t.toks+1}) (R:=λc2 M=>compPost (MY h a) f (EE a e g l (Res.ok (Q.lst vs,b)).x? y t) N (QQ a e g (lL a) [] (.ok (Q.lst vs,b)) y t) c2 M) (acc0:=.none) (sl:=j) (sl':=a2) (ts:=[r]) (loc:=a0) rfl (λc1 q=>ud (es:=es) (jK _ c1 rfl rfl) q) cs p a1 h1 h2 T λk L M h' tk C hI=>?_));have n:=C.nd;have no:=λc3 a7=>R1 (dO p a1.inv (C.new c3 a7)).1;have a5:=n;simp only[RW,RC,SA,OG,Om] at a5;have cI:([k,L,M]++g).count k=1:=by rw[R',no k (by simp),n.count];simp
 have cD:([k,L,M]++g).count L=1:=by rw[R',no L (by simp),n.count];simp
 have b9:DictAt a ([k,L,M]++g) y {t with heap:=h',toks:=tk} a8 as es ep dk:=⟨C.we.hs _ _ X.obj,X.dr.mono (λI d4 U=>(U.cX C.we.new).grow C.we.hs) (.refl y),X.nd⟩;refine O2 (vq hu R.handled a3 c5 x m a6 c8 H d2 d3 C.eo (C.Fd k (.head _)) (C.Fd L (.tail _ (.head _))) cI cD a5.1.1 ej s ea e0 w hz lv gv b9 (C.st tk) (jK _ C.it rfl rfl) (dI _ _ C.acc .nil)) λU s2 q=>hF λc7=>?_;cases U with
 |error d0=>exact q.elim
 |ok A=>refine mM q λd6 o2 ac cM=>aM cM.dS.ns λz hn ε=>c7 (ba z hn (λh2 sb=>?_));exact bK (qR C p a1.inv o2 ac cM sb) λo3 v3=>kQ _ _ y rfl (o0.trans o3) v3
theorem qT:Of (.type "int") "__bytes__"=pure N:=by refine(Od ..).trans ?_;refine R P8 ?_;kernel_rfl
theorem nr{n:NM}(H:∀c,ai (.bytes #[0,0] c) {d with toks:=d.toks+1}) :
  NK (MY h a) f (.call (.builtin "bytes.__new__") ⟨[.type "bytes",.int 2 n],[]⟩) (wants ai t) d:=by
 refine QY (MR (NN (F.bm_newCall _) (M0 ⟨QZ F.bm_plain _,codeAny_builtin F.bm_entry ?_⟩)));refine MR (NN (a:=true) rfl ?_);refine O5 rfl (MR (NN F.bm_sub ?_));refine O5 rfl (MR (NN (F.bm_bind _) ?_));refine MR (NN (a:=()) rfl ?_);refine MR (NN (a:=()) rfl ?_);refine O5 rfl (MR (Ob (QP d 2 n) qT ?_));refine MR (MR (NN (a:=N) rfl (M0 ?_)));refine O5 rfl (MR (Ob (QP d 2 n) F.slot_int_index.lookup ?_));refine O5 rfl ?_;first
  |refine MR (OO (NN (a:=(2:MN)) rfl ?_))
  |(refine MR (MR (OO (NN (a:=(2:MN))) rfl ?_)))
 refine O5 ?_ ?_;·decide +kernel
 dsimp only;refine R (Nf (by decide)) ?_;refine R (Nf (by decide)) ?_;refine O5 ?_ ?_;·decide +kernel
 refine MR (OZ ?_);refine MR (wpAny_mkBytes ?_ (by decide +kernel));refine bm_if_true rfl ?_;first
  |exact M0 (H _)
  |(exact MR (M0 (M0 (H _))))
theorem ma{n:NM}(H:∀c,ai (.bytes #[0,0] c) {d with toks:=d.toks+1}):MZ (MY h a) f (N3 (.type "bytes") [.int 2 n]) ai t d:=by refine callType_codes (Q₁:=λo X=>X.TypeIs o "bytes"/\ai o X) F.bm_called (F.bm_typeCall _) F.entry_object_init (nr λc=>⟨PySem.W.typeIs_bytes _ _ _,H c⟩) λo X U=>?_;exact fA U.1 (F.args_object_init_2 o _) (object_init_meets F.bm_called.init.lookup F.bm_called.made (rfl) h a f.in1 _ X (fA U.1 rfl U.2))
theorem Ap{o:MP->MW->Prop}(e:d.TypeIs (.ref n) "bytearray")(B:o MT d):MZ (MY h a) f (NL.List.listLengthHint (.ref n)) o t d:=by refine MR (Ob e gX.lookup ?_);generalize c:("bytearray.__len__":Oe)=i;wp_delta;refine R (show splitId i=S ("bytearray","__len__") from by subst c;decide +kernel) ?_;subst c;refine MR (OX (T:="bytearray") (b:=true) e (by refine(Ou ..).trans ?_;kernel_rfl) ?_);refine PW (λH=>Nh H (by decide)) (λY=>?_);refine PW (λY=>?_) (λH=>Nh (by decide +kernel) H);refine MR (wpAny_typeOf e ?_);exact M0 B
theorem Df{b:M5 Np}:KdlSrc h a "bytearray" n n b.size (λK E=>∃C c,b[K]? = S C/\E=.int (C.toNat:MN) c) (λB=>B.get? n=S (eH b)) where
 type:=λY v=>(ba _ v rfl)
 there:=λY v=>⟨SF v,SF v⟩
 keep:=λY Y v J=>J n (.inl rfl) _ v
 notList:=rfl
 notTuple:=rfl
 hint:=λY Y Y Y v e=>Ap (ba _ v rfl) e
 iter:=λY Y l v=>(qq _ _ (λY Y e=>Ag v e) (xm l _ n (Te (SF v)) b) ⟨(jK _ (R4 _ rfl) rfl rfl),RA _ v⟩)
theorem Dg{es:M5 Nt}{ep:Z}(v:(n==OC)=MT):KdlSrc h a "dict" n n es.size (λK E=>∃g,es[K]? = S g/\E=g.key) (λB=>B.get? n=S (bB es ep)) where
 type:=λY v=>(ba _ v rfl)
 there:=λY v=>⟨SF v,SF v⟩
 keep:=λY Y v J=>J n (.inl rfl) _ v
 notList:=rfl
 notTuple:=rfl
 hint:=λY Y Y Y v e=>kdl_hint_dict (ba _ v rfl) e
 iter:=λY Y l o=>(qq _ _ (λY Y e=>t9 v o e) (xw l _ n (Te (SF o)) es ep) ⟨(jK _ (R4 _ rfl) rfl rfl),RA _ o⟩)
noncomputable def Aq:BI->O (MU×BV)
 |.len=>S ("len",.fn "len")
 |.min=>S ("min",.fn "min")
 |.max=>S ("max",.fn "max")
 |.abs=>S ("abs",.fn "abs")
 |.int=>S ("int",.ty "int")
 |.bytes=>S ("bytes",.ty "bytes")
 |.list=>S ("list",.ty "list")
 |.tj=>S ("list",.ty "list")
 |_=>N
theorem DR.key:∀{c:V Nt} {K:Z} {g:Nt},DR a x b ay y c->c[K]? = S g->∃L,y[K]? = S L/\VR a.params x b L.1 g.key:=by
 induction y with
 |nil=>intro c K g h D;cases h;exact nX D
 |cons L y d=>
  intro c K g h D
  cases h with
  |cons _ G _ X=>
   induction K using RY with
   |zero=>obtain rfl:=sX D;exact ba _ rfl G
   |succ K=>exact d X D
theorem bM.build:∀{w:V MO},z.length=w.length->(∀(K:Z) E,w[K]? = S E->∃I,z[K]? = S I/\VR U x b I E)->bM U x b z w:=by
 induction z with
 |nil=>intro w D _;cases w with|nil=>exact .nil|cons _ _=>simp at D
 |cons I z d=>
  intro w D B
  induction w using RD with
  |nil=>simp at D
  |cons E w=>refine aM (B 0 E (rfl)) λe X p=>?_;simp at X;refine R X ?_;exact .cons p (d (by simpa using D) λK E D=>by exact B (K+1) E D)
theorem jv(B:sm q=ML):q<1000:=M8 B
set_option tactic.hygienic true in
theorem hB{r s:G}(B:(if am=ML then S r else N)=S s):am=ML/\r=s:=by
 split at B;·rename_i L;exact⟨L,Sl B⟩
 ·exact nomatch B
theorem pw{tk:Z}{items:M5 MO}{C:Z}(K:Inv a e g b k d.heap)(J:∀M z,d.heap.get? M=S z->X.get? M=S z)(o:X.get? d.heap.objs.size=S (listOf items C))
  (E:bM a.params (Sf d.heap b g) b au items.toList):QQ a e g (lL a) [] (.ok (.lst au,k)) b d (.ref d.heap.objs.size) {d with heap:=X,toks:=tk}:=
 .ok (.grown K J) (.lst au _ items C (fA o (K.fresh (bR _)) (K.no (bR _))) (E.mono (λY Y U=>U.grow J) (.refl b)))
theorem px{A:Q->O (Q×AH)}{w:V MO}{L:Q×AH}(D:lH A z=S L)(E:bM U x b z w):∃r c,w=[c]/\VR U x b r c/\A r=S L:=by
 induction z using RD with
 |nil=>exact nX D
 |cons r z=>induction z using RD with
  |nil=>obtain⟨c,rfl,B⟩:=E.one;exact qq r c rfl B D
  |cons _ _=>exact nX D
theorem rZ{A:MN->O (Q×AH)}{r:Q}{c:MO}{L:Q×AH}(D:kP A r=S L)(E:VR U x b r c):∃I n,c=.int I n/\A I=S L:=by
 induction r using Wm with
 |int I=>obtain⟨n,rfl⟩:=E.inv;exact dI I n rfl D
 |_=>exact nX D
theorem pz{A:MN->O (Q×AH)}{w:V MO}{L:Q×AH}(D:lH (kP A) z=S L)(E:bM U x b z w):∃I n,w=[.int I n]/\A I=S L:=by refine hF λH=>?_;obtain⟨r,c,rfl,E,D⟩:=px D E;exact cg (rZ D E) λI n IP D=>H (R IP (dI I n rfl D))
theorem xy{A:MN->MN->O (Q×AH)}{w:V MO}{L:Q×AH}(D:Cz (λr s=>kP (λI=>kP (A I) s) r) z=S L)(E:bM U x b z w):∃I M n c,w=[.int I n,.int M c]/\A I M=S L:=by
 induction z using RD with
 |nil=>exact nX D
 |cons r z=>induction z using RD with
  |nil=>exact nX D
  |cons s z=>induction z using RD with
   |cons _ _=>exact nX D
   |nil=>refine mX E.two λa v CQ p G=>?_;clear E;subst CQ;refine cg (rZ D p) λI n Dh D=>?_;clear p;subst Dh;refine cg (rZ D G) λM c FZ D=>?_;clear G;subst FZ;exact JG I M n c rfl D
theorem Di{A:V Q->O (Q×AH)}{r:Q}{c:MO}{L:Q×AH}(D:CB A r=S L)(E:VR U x b r c):∃T I j q,c=.ref I/\x I (listOf j q)/\bM U x b T j.toList/\A T=S L:=by
 induction r using Wm with
 |lst T=>obtain⟨I,j,q,rfl,p,G⟩:=E.inv;exact gU T I j q rfl p G D
 |_=>exact nX D
inductive r5(H:AH):Q->Q×AH->Prop
 |aE {k:Z} {xs:V Q} (e:H.L[k]? = S xs) (h:xs.length<1000):r5 H (.aE k) (.int xs.length,H)
 |lst {xs:V Q} (h:xs.length<1000):r5 H (.lst xs) (.int xs.length,H)
 |bw {l:V Z} (h:l.length<1000):r5 H (.bw l) (.int l.length,H)
 |ab {k:Z} {xs:V (Q×Q)} (e:H.D[k]? = S xs) (h:xs.length<1000):r5 H (.ab k) (.int xs.length,H)
 |eO {k:Z} {xs:V MN} (e:H.B[k]? = S xs) (h:xs.length<1000):r5 H (.eO k) (.int xs.length,H)
theorem Dj{r:Q}{L:Q×AH}(D:CD k r=S L):r5 k r L:=by
 induction r using Wm with
 |aE H=>obtain⟨j,X,m⟩:=SQ.mp D;obtain⟨B,rfl⟩:=hB m;exact .aE X (jv B)
 |lst j=>obtain⟨B,rfl⟩:=hB D;exact .lst (jv B)
 |bw j=>obtain⟨B,rfl⟩:=hB D;exact .bw (jv B)
 |ab H=>obtain⟨j,X,m⟩:=SQ.mp D;obtain⟨B,rfl⟩:=hB m;exact .ab X (jv B)
 |eO H=>obtain⟨j,X,m⟩:=SQ.mp D;obtain⟨B,rfl⟩:=hB m;exact .eO X (jv B)
 |_=>exact nX D
theorem pA{x:Z}(B:q<1000)(D:q=x):x<=N1:=by have:N1=_:=N9;exact D.symm▸qi B rfl
theorem BX{x:Z}(B:q<1000)(D:q=x):(x:MN)<2 ^ 63:=by exact RU.mpr (n1 (RS (SD _) (D▸B)) rfl)
theorem hG{j:V Q}{a:M5 MO}(B:bM U x b j a.toList):j.length=a.size:=B.len.trans RI
theorem Ar{r:Q}{c:MO}{L:Q×AH}(p:kR e)(K:Inv a e g b k d.heap)(E:VR a.params (Sf d.heap b g) b r c)(D:CD k r=S L) :
  MZ (MY h a) f (N3 (.builtin "len") [c]) (QQ a e g (lL a) [] (.ok L) b d) t d:=by
 have T:∀{q x i:Z} {n:NM},q=x->QQ a e g (lL a) [] (.ok (.int q,k)) b d (.int x n) {d with toks:=i}:=λD=>D▸.ok (.tok K) (.int _ _);have z:=Dj D;clear D;induction z using r5.casesOn with
 |aE D B=>obtain⟨I,rfl,J⟩:=E.inv;obtain⟨j,x,o,A⟩:=K.dt.L _ _ I D J;exact call_len_list (bb o) (BX B (hG A)) (T (hG A))
 |lst B=>obtain⟨I,j,x,rfl,o,A⟩:=E.inv;exact call_len_list (bb o.1) (BX B (hG A)) (T (hG A))
 |bw B=>refine cg E.inv λM n Dh l=>R Dh ?_;have s:=l▸(Rz (as:=M.toList) SM).trans RI;exact len_bytes (s.symm▸qi B rfl) (T s)
 |ab D B=>obtain⟨I,rfl,J⟩:=E.inv;obtain⟨y,w,v,r⟩:=fD K D J;exact w' (p.ne K (fQ J)) r B λq n=>T rfl
 |eO D B=>refine aM E.inv λI wO J=>?_;clear p E;subst wO;refine aM (K.dt.B _ _ I D J) λm o qv=>?_;clear D J K;subst qv;have s:=(Rz (as:=m.toList) λM=>(M.toNat:MN)).trans RI;exact C6 (s▸B) o (T s)
theorem xA{r:Q}{c:MO}{L:Q×AH}(l:f.handled=N)(p:kR e)(K:Inv a e g b k d.heap)(E:VR a.params (Sf d.heap b g) b r c)(D:BN k r=S L) :
  MZ (MY h a) f (N3 (.type "list") [c]) (QQ a e g (lL a) [] (.ok L) b d) t d:=by
 induction r using Wm with
 |ab H=>refine iQ D λj n m=>?_;obtain⟨U,rfl⟩:=hB m;refine aM E.inv λI Dl J=>?_;subst Dl;refine zT (fD K n J) λy T v r=>?_;have s:=r.dr.len.trans RI;refine kdl_call (Dg (es:=y) (ep:=T) (p.ne K (fQ J))) l r.obj (pA (jv U) s) λx B A o w G X=>pw K w G (.build (Rz _ |>.trans <| s.trans <| X.1.symm) λi E D=>aM (X.2 i E (SK▸D)) λen Y wN=>?_);refine R wN (aM (r.dr.key (SK.trans Y)) λL e5 h5=>?_);exact ba L.1 (by refine RK.trans ?_;exact R e5 rfl) h5
 |eO H=>refine iQ D λj n m=>?_;obtain⟨U,rfl⟩:=hB m;refine aM E.inv λI F5 J=>?_;clear p m;refine R F5 (aM (K.dt.B _ j I n J) λq P F'=>?_);clear n;subst F';have s:=(Rz (as:=q.toList) λM=>(M.toNat:MN)).trans RI;refine kdl_call (Df (b:=q)) l P (pA (jv U) s) λx B A o w G X=>pw K w G (.build (Rz _ |>.trans <| s.trans <| X.1.symm) λi E D=>cg (X.2 i E (SK▸D)) λC c Y xg=>?_);refine R xg ?_;exact ba (.int C.toNat) (by refine RK.trans ?_;refine R RK ?_;refine R SK ?_;exact R Y rfl) (.int _ _)
 |_=>exact nX D
theorem xC{C:Prop}[OJ C]{I M:MN}{n c:NM}:VR U x b (.int (if C then M else I)) (if C then .int M c else .int I n):=by
 by_cases B:C;·refine R (Nb B) ?_;refine R (Nb B) ?_;exact .int _ _
 ·refine R (Nf B) ?_;refine R (Nf B) ?_;exact .int _ _
theorem vt{E:MO->MW->Prop}{M:BI}{bv:MU×BV}{C:V MO}{P:Q}{r:AH}(l:f.handled=N)(p:kR e)(K:Inv a e g b k d.heap)(i:bM a.params (Sf d.heap b g) b z C)(D:bA k M z=S (P,r))(w:Aq M=S bv) :
  MZ (MY h a) f (N3 bv.2.val C) (QQ a e g (lL a) [] (.ok (P,r)) b d) E d:=by
 induction M using BI.casesOn with
 |len=>obtain rfl:=sX w;obtain⟨v,c,rfl,i,D⟩:=px D i;exact Ar p K i D
 |list=>obtain rfl:=sX w;obtain⟨v,c,rfl,i,D⟩:=px D i;exact xA l p K i D
 |min=>obtain rfl:=sX w;obtain⟨I,M,n,c,rfl,D⟩:=xy D i;exact sX D▸min_two_ints l λm t J=>.ok (.grown K J) xC
 |max=>obtain rfl:=sX w;obtain⟨I,M,n,c,rfl,D⟩:=xy D i;exact sX D▸max_two_ints l λm t J=>.ok (.grown K J) xC
 |abs=>
  obtain rfl:=sX w;obtain⟨I,n,rfl,D⟩:=pz D i;have L:(if I<0 then -I else I)=((I.natAbs:Z):MN):=by
   split;·rename_i B;exact(MN.ofNat_natAbs_of_nonpos (VK B)).symm
   ·rename_i B;exact(MN.natAbs_of_nonneg (TU.mp B)).symm
  exact sX D▸call_abs_int λc t=>.ok (.tok K) (L▸.int _ _)
 |int=>obtain rfl:=sX w;obtain⟨I,n,rfl,D⟩:=pz D i;exact sX D▸call_int_int (.ok (.refl K) (.int _ _))
 |bytes=>
  obtain rfl:=sX w;obtain⟨I,n,rfl,D⟩:=pz D i;by_cases L:I=2;·subst L;exact sX D▸ma λc=>.ok (.tok K) (.bw _ _ _ rfl)
  ·exact nX ((Nf L).symm.trans D)
 |tj=>obtain rfl:=sX w;obtain⟨v,c,rfl,i,D⟩:=px D i;refine qs (Di D i) λT I j q Ga o A D=>R Ga ?_;obtain⟨U,s⟩:=hB D;refine s▸call_list_seq I (.inl rfl) o.1 rfl rfl (λm X y G=>?_) (pA (jv U) (hG A));have H:=bR d.heap;exact .ok (.mk' (K.CS H y G A) ((More.L b _).keep (λI x=>Rx.mp x▸H) y) (More.L b _).le) (.aE _ _ (R K.dt.gW.symm fR))
 |_=>exact nX w
theorem SE.bq{M:BI}{bv:BV}{y:cz}{d:V MQ}(w:Aq M=S (r,bv))(R:bo N q f l)(C:Gr v e P be bg bf)(n:xr v c r bv.val)(s:m8 h a e l c j f i y d):SE h a e l c j f i (.bq M y) (.Call (.Name r bj) d [] J):=by
 intro g o b t A p G B;rw[i8] at B⊢;refine xt C n p G.inv s ((s.run g o b t A p G).dg (.refl G.inv) (λI z K k U X o1 Y H D=>?_) B);rw[X,Res.aP];induction m:bA z M I using Ry with
 |none=>exact bX (m▸D)
 |some L=>obtain⟨T,x⟩:=L;exact Nk (vt (E:=EE a e g l (Res.ok (T,x)).x? o t) R.handled C.mods o1.inv H m w) (λa0 s' L=>L.pre o1) λY Y L=>L
theorem xD{bv:BV}{i:V MQ}(C:Gr v e P be bg bf)(n:xr v c r bv.val)(p:bk g c j)(K:Inv a e g b k d.heap)(s:(NW J (NT i c)).any (·.1)=MT)
  (B:MZ (MY h a) f (O1 (NW J (NT i c))) (λw X=>MZ (MY h a) f (N3 bv.val w) ai t X) t d):MZ (MY h a) f (PySem.eval (.Call (.Name r bj) i [] J) c) ai t d:=by
 refine MR (tY C n p K ?_);clear C n p;induction bv using BV.casesOn with
 |fn K=>exact PySem.Calls.callWith_builtin (args:=NW J (NT i c)) s (bC s B)
 |ty x=>exact UZ (args:=NW J (NT i c)) s (bC s B)
theorem SE.fJ{tp:Ni}{cp:Ni}{n:Z}(R:bo N n f l)(C:Gr v e P be bg bf)(a1:xr v c "list" (.type "list"))(B':xr v c "range" (.type "range"))(d:SE h a e l c j f i af s)(w:notStar s=ML) :
  SE h a e l c j f i (.bq .fJ (.cons af .nil)) (.Call (.Name "list" bj) [.Call (.Name "range" tp) [s] [] cp] [] J):=by
 intro g a4 b t A p G B;rw[i8] at B⊢;refine xD (bv:=.ty "list") C a1 p G.inv rfl (PySem.Calls.spliced_cons ?_);refine xt (bv:=.ty "range") C B' p G.inv (SE.jt d w) (((SE.jt d w).run g a4 b t A p G).dg (.refl G.inv) (λI H1 K k U e1 o1 Y v1 D=>?_) B);rw[e1,Res.aP];induction m:bA H1 .fJ I using Ry with
 |none=>exact bX (m▸D)
 |some q=>
  obtain⟨a',r⟩:=q;refine hF λH=>?_;refine cg (pz m v1) λx T bE af=>?_;clear e1 v1 D b A p G B C a1 B' d w;subst bE;refine bK (zS af) λcj af=>?_;refine bK cj λy q2=>?_;refine H ?_;rw[<-af];refine call_range_1 ?_;refine PySem.Calls.spliced_nil ?_;have hr:IsRange (k.heap.push {cls:=.type "range",data:=.fields #[.int 0 k.toks,.int x T,.int 1 (k.toks+1)]}) k.heap.objs.size 0 x 1 k.toks T (k.toks+1):=IsRange.new _ _ _ _ _ _ _;have a0:∀M z,k.heap.get? M=S z->(k.heap.push {cls:=.type "range",data:=.fields #[.int 0 k.toks,.int x T,.int 1 (k.toks+1)]}).get? M=S z:=λM z af=>RA _ af;have i1:Inv a e g K _ ({k with heap:=k.heap.push {cls:=.type "range",data:=.fields #[.int 0 k.toks,.int x T,.int 1 (k.toks+1)]},toks:=k.toks+1+1}:MW).heap:=o1.inv.grow a0;refine call_list_range (n:=x.toNat) R.handled hr (small_one (by exact RQ _) (by exact RQ _) (by exact i4 y rfl) (by exact i3 q2 rfl)) (by refine(rangeSize_one ..).trans ?_;exact o7 y) (by exact Tg (n1 ((MN.toNat_lt y).mpr q2) rfl)) λh' tk a2 o a3 g' X=>?_;have o2:aQ a e g [] K k K _ {k with heap:=k.heap.push {cls:=.type "range",data:=.fields #[.int 0 k.toks,.int x T,.int 1 (k.toks+1)]},toks:=k.toks+1+1}:=.grown o1.inv a0;refine(pw (items:=a2) (tk:=tk) i1 a3 g' ?_).pre (o1.trans o2);refine .build (by refine(Rz ..).trans ?_;refine VW.trans ?_;refine X.1.symm.trans ?_;rfl) λL E af=>?_;have e':a2[L]? = S E:=by refine SK.symm.trans ?_;exact af
  refine dD (X.2 L E e') λa5 du=>?_;subst du;have hj:L<x.toNat:=by rw[<-X.1];exact(U1.mp e').1
  refine ba (.int L) (by refine RK.trans ?_;rw[V.getElem?_range hj];rfl) ?_;rw[show(0:MN)+(L:MN)*1=(L:MN) from(MN.zero_add _).trans (MN.mul_one _)];exact .int _ _
theorem SE.gS{tp:Ni}(R:bo N q f l)(C:Gr v e P be bg bf)(n:xr v c "isinstance" (.builtin "isinstance"))(H:xr v c "int" (.type "int"))(d:SE h a e l c j f i af s)(w:notStar s=ML) :
  SE h a e l c j f i (.bq .gS (.cons af .nil)) (.Call (.Name "isinstance" bj) [s,.Name "int" tp] [] J):=by
 intro g y b t A p G B;rw[i8,fP] at B⊢;have M:(NW J (NT [s,.Name "int" tp] c)).any (·.1)=MT:=by rw[bx w];rfl
 refine xD (bv:=.fn "isinstance") C n p G.inv M ?_;rw[bx w];have m:(aO i af A b).bind (λr=>Res.of (bA r.2 .gS [r.1]))≠.bad:=by
  intro L;apply B
  induction Y:aO i af A b using Wn with
  |ok r=>rw[Y] at L;exact L
  |exc _ _=>replace L:=Y▸L;cases L
  |bad=>rfl
 have T:(((aO i af A b).bind λr=>(bp i .nil A r.2).bind λL=>.ok (r.1 :: L.1,L.2)).bind λL=>Res.of (bA L.2 .gS L.1))=(aO i af A b).bind (λr=>Res.of (bA r.2 .gS [r.1])):=by
  induction Y:aO i af A b using Wn with
  |ok r=>rfl
  |exc _ _=>rfl
  |bad=>rfl
 rw[T];refine PySem.Calls.spliced_cons ((d g y b t A p G).dg (.refl G.inv) (λI z K k U X o1 ε E D=>?_) m);refine PySem.Calls.spliced_cons ?_;refine tY (x:="int") (v:=.type "int") C H p o1.inv ?_;refine PySem.Calls.spliced_nil ?_;rw[X];clear X M B T p G R C n H d w;induction I using Wm with
 |lst vs=>obtain⟨I,a0,x,rfl,o,vr⟩:=E.inv;exact IsiPair.list_int o.1 rfl (.ok (o1.trans (.tok o1.inv)) (.bool MT))
 |_=>exact bX D
noncomputable def JP(h:NY):O Q0:=vw NY.ctorIdx 8 h λB=>NY.cls.elim h B λC=>S C
theorem Gb(h:NY):aZ (JP h) λC=>h=.cls C:=dq λB=>NY.cls.elim (motive:=λh=>∀B,aZ (NY.cls.elim (motive:=λ_=>O Q0) h B λC=>S C) λC=>h=.cls C) h B (λC _=>rfl) B
theorem anyC{z:O G}{A:G->MP}(B:z.any A=ML):∃I,z=S I/\A I=ML:=by
 induction z using Ry with
 |none=>exact bF B
 |some I=>exact⟨I,rfl,B⟩
noncomputable def mc(a:NA)(M:MS):MP:=(a.lookup M).any λz=>(JP z.data).any λK=>!K.hasDel&&(z.slots.toList[4]?).join==S (.builtin "Exception.__new__")&&!K.mro.isEmpty&&K.mro.contains (.ref M)&&K.mro.contains (.type "Exception")&&K.mro.contains (.type "BaseException")&& !K.mro.contains (.type "AttributeError")&&!K.mro.contains (.type "NameError")&&P6 a (.ref M) "__call__"==S (S (.builtin "type.__call__"))&&instIn a (.ref M) (.type "type")==S ML
structure r9(M:N0)(h:MV)(C:MS):Prop where
 obj:∃oc od cd sl,h.get? C=S ⟨oc,od,.cls cd,sl⟩/\cd.hasDel=MT/\cd.mro.isEmpty=MT
 mro:∃cd:Q0,(∃oc od sl,h.get? C=S ⟨oc,od,.cls cd,sl⟩)/\Nu M h (mroOf (.ref C)) cd.mro
 made:Nu M h (Bind.madeBy (.ref C)) (S "Exception.__new__")
 base:Nu M h (Bind.staticBase (.ref C)) (.ref C)
 self:Nu M h (Oo (.ref C) (.ref C)) ML
 exc:Nu M h (Oo (.ref C) (.type "Exception")) ML
 La:Nu M h (Oo (.ref C) (.type "BaseException")) ML
 Mb:Nu M h (Oo (.ref C) (.type "AttributeError")) MT
 Mc:Nu M h (Oo (.ref C) (.type "NameError")) MT
 call:Nu M h (Q1 (.ref C) "__call__") (S (.builtin "type.__call__"))
 typ:Nu M h (Pa (.ref C) (.type "type")) ML
set_option tactic.hygienic true in
theorem nY{M:N0}(r:v.In p){n:MS}(D:mc v n=ML):r9 M p n:=by
 refine aM (anyC D) λz G D=>?_;obtain⟨b,J,a,i⟩:=z;refine aM (anyC D) λK q D=>?_;obtain rfl:=ot (Gb a) q;clear q;refine hF λA=>?_;simp only[Tp,Ta,N'] at D;obtain⟨⟨⟨⟨⟨⟨⟨⟨⟨m,s⟩,Y⟩,E⟩,U⟩,g⟩,B⟩,e⟩,h⟩,k⟩:=D;have j:OD v n=S K:=by unfold OD;rw[G]
 have y:Nu M p (mroOf (.ref n)) K.mro:=(Qd r j).andThen .now;obtain⟨C,T,l⟩:∃C T,K.mro=C :: T:=by cases L:K.mro with|nil=>replace Y:=L▸Y;cases Y|cons C T=>exact v7 C T rfl
 have c:Nu M p (Bind.madeBy (.ref n)) (S "Exception.__new__"):=by intro f o I t H L;refine MR (y f _ I t H ?_);refine R l ?_;refine R (TX ..) ?_;refine MR (MR (MR (MR (O3 (H _ _ (r _ _ G)) (M0 ?_)))));refine R SK.symm ?_;refine R s ?_;exact M0 (M0 (M0 L))
 have d:∀{x:MO} {P:MP},K.mro.contains x=P->Nu M p (Oo (.ref n) x) P:=λw=>P' r (by refine(oL j).trans ?_;refine(TG ..).trans ?_;refine(Nf (by refine R Y ?_;decide)).trans ?_;refine R w rfl);refine A ⟨(Iy b J K i (r _ _ G) m Y),(ba K (Hq b J i (r _ _ G)) y),c,?_,d E,d U,d g,d B,d e,looks_specialIn r h,looks_instIn r k⟩;intro f o I t H L;refine MR (y f _ I t H ?_);refine R l ?_;refine R (TX ..) ?_;exact MR (MR (MR (c f _ I t H (M0 (M0 (M0 L))))))
abbrev gP(M n:MS):Nl:={cls:=.ref M,data:=.fields #[.ref n,.none,.none,.none,.bool MT,.none]}
theorem As{M:MS}{H:NQ->MW->Prop}{o:M5 PO}{v:Drawn}{n:Z}{w:OR}{j:V MO}(G:r9 (MY h a) p M)(s:j.length<=N1)
  (e:H (.ok (.ret (.ref (p.objs.size+1)))) ⟨(p.push {cls:=.type "tuple",data:=.seq j.toArray}).push (gP M p.objs.size),o,v,n,w⟩) :
  NK (MY h a) f (.call (.builtin "Exception.__new__") ⟨.ref M :: j,[]⟩) H ⟨p,o,v,n,w⟩:=by
 refine hF λl=>?_
 obtain⟨⟨b,J,K,i,q,m,Y⟩,-,c,g,A,E,D,z,r,C,t⟩:=G
 have x:=PySem.F.excBase_Exception
 have d:=x.ends
 have y:Nu (MY h a) p (Bind.madeHere "BaseException.__new__" (.ref M)) ():=g.andThen (c.andThen (Nu.of_pure (by simp only[Ud,x.canon,Rt,SU,Oj])))
 refine l (codeAny_call_builtin_code (Uk _ x.quiet) ?_)
 have k:=x.noStar
 rw[Q2,x.newKind,x.newSplit]
 repeat (first|dsimp only[Rt,SU,Oj]|lk|wp_step)
 refine PySem.codeAny_builtinAt x.entry (PySem.wpAt_bind (PySem.wpAt_bind (PySem.wpAt_stack λP B=>PySem.wpAt_of_wpAny ?_)))
 wp_walk
 refine PySem.wpAt_of_wpAny ?_
 rw[x.owner]
 repeat (first|lk|wp_step)
 refine Oy (RA _ (RA _ q)) (M0 ?_)
 rw[m]
 refine M0 (M0 ?_)
 show H _ _
 rw[Vx]
 exact e
theorem xE{M:MS}{a1:NQ->MW->Prop}{o:M5 PO}{a0:Drawn}{n:Z}{os:OR}{j:V MO}{i:MO}(G:r9 (MY h a) p M)(s:j.length<=N1)(d:Nu (MY h a) p (Of (.ref M) "__init__") (S i))
  (w:∀A,Nu (MY h a) p (Q3 i A) (i,[A]))
  (e:NK (MY h a) (f.under (.builtin "type.__call__" ⟨.ref M :: j,[]⟩)) (.call i ⟨.ref (p.objs.size+1) :: j,[]⟩) (InitBack (p.objs.size+1) a1) ⟨(p.push {cls:=.type "tuple",data:=.seq j.toArray}).push (gP M p.objs.size),o,a0,n,os⟩) :
  NK (MY h a) f (.call (.ref M) ⟨j,[]⟩) a1 ⟨p,o,a0,n,os⟩:=by
 refine hF λE=>?_;have L:=G;obtain⟨⟨b,J,K,sl,q,m,Y⟩,⟨a6,⟨P,X,l,T⟩,hm⟩,c,g,A,a3,a4,a5,r,C,t⟩:=G;rw[q] at T;cases T;refine E (QY (nd_load q ?_));show MZ _ _ (Qk.viaDunder (.ref M) _) _ _ _;unfold Qk.viaDunder;refine MR (C.at ?_);dsimp only;rw[tc_bind];refine MR (M0 (MR (M0 ?_)));refine M0 (a:=Fin.again (.call (.builtin "type.__call__") ⟨.ref M :: j,[]⟩)) (Vj rfl ?_);refine codeAny_call_builtin_at (Uk _ (by decide +kernel)) Q4 (P9 tc_kind tc_split t (tc_args _ _ _) ?_);unfold Builtin.«type.__call__»;repeat (first|simp only[Y,SU,Oj]|with_reducible refine ON ?_|lk)
 refine As L s ?_;have H:∀I z,p.get? I=S z->((p.push {cls:=.type "tuple",data:=.seq j.toArray}).push (gP M p.objs.size)).get? I=S z:=λI z D=>RA _ (RA _ D);have x:((p.push {cls:=.type "tuple",data:=.seq j.toArray}).push (gP M p.objs.size)).get? (p.objs.size+1)=S (gP M p.objs.size):=by heap_get
 have B:Nu (MY h a) ((p.push {cls:=.type "tuple",data:=.seq j.toArray}).push (gP M p.objs.size)) (PQ (.ref (p.objs.size+1))) (.ref M):=(Nu.ld x).andThen .now;have k:=A.keeps H;have i1:=d.keeps H;have b1:=(w (.ref (p.objs.size+1))).keeps H;unfold Pa QB Q1;repeat (first|with_reducible refine ON ?_|lk)
 refine O2 e λy v U=>?_;rcases y with D|(a2|_|_|_)<;>first|exact U|exact U.elim|skip
 obtain⟨rfl,U⟩:=U;exact M0 (M0 U)
noncomputable def iw(i:V (MU×MO))(L:MU×MO):V (MU×MO):=if(Ua L.1 i).isNone=ML then i++[(L.1,L.2)] else i
theorem vu:∀(p:V (MU×MO)) (i:V (MU×MO)),(forIn p i λr t=>if(Ua r.1 t).isNone=ML then(pure (O4.yield (t++[(r.1,r.2)])):Nm _) else pure (O4.yield t))=pure (p.foldl iw i):=by
 intro p;induction p with
 |nil=>intro i;refine UP.trans ?_;rfl
 |cons L p f=>
  intro i;refine(TX ..).trans ?_;refine R Ue ?_;unfold iw;split;·exact f _
  ·exact f _
theorem gy{a:V MU}(n:a.Nodup):∀{U:V MO} {j:Z} {q:MU},a[j]? = S q->(a.zip U).lookup q=U[j]?:=by
 induction a with
 |nil=>intro U j q D;simp at D
 |cons r c d=>
  intro U j q D
  rw[RW] at n
  induction U using RD with
  |nil=>simp
  |cons E w=>
   induction j using RY with
   |zero=>simp at D;subst D;simp[Ua]
   |succ j=>
    have b:q≠r:=λL=>n.1 (L▸RJ D)
    refine SH.trans ?_;refine R (OW b) ?_
    exact d n.2 D
theorem xF{i:V (MU×MO)}:∀{p:V (MU×MO)},(∀L∈p,(i.lookup L.1).isNone=MT)->p.foldl iw i=i:=by
 intro p;induction p with
 |nil=>intro _;exact rfl
 |cons L p f=>intro B;refine Ue.trans ?_;refine R (show iw i L=i from by unfold iw;exact(Nf (by refine R (B L (.head _)) ?_;exact RX))) ?_;exact f λL x=>B L (.tail _ x)
theorem xG:∀{p i:V (MU×MO)},(p.map (·.1)).Nodup->(∀L∈p,i.lookup L.1=N)->p.foldl iw i=i++p:=by
 intro p;induction p with
 |nil=>intro i _ _;simp
 |cons L p a=>intro i n B;rw[R5,RW] at n;refine Ue.trans ?_;refine R (show iw i L=i++[L] from by unfold iw;exact(Nb (by refine R (B L (.head _)) ?_;rfl))) ?_;rw[a n.2 λP x=>?_];refine R (Sn ..) ?_;rw[V.singleton_append];refine V.lookup_append.trans ?_;refine R (B P (.tail _ x)) ?_;refine SH.trans ?_;refine R (OW (show P.1≠L.1 from λD=>n.1 (D▸R3 (f:=λr:MU×MO=>r.1) x))) ?_;rfl
theorem ny{a:V MU}(n:a.Nodup){U:V MO}(l:a.length=U.length):(a.filterMap λq=>((a.zip U).lookup q).map (q,·))=a.zip U:=by
 have h:∀(H:Z),H<=a.length->((a.drop H).filterMap λq=>((a.zip U).lookup q).map (q,·))=(a.drop H).zip (U.drop H):=by
  intro H
  induction B:a.length - H generalizing H with
  |zero=>intro J;refine R (Ut (by exact Vu B)) ?_;rfl
  |succ x d=>
   intro J;have j:=Z.lt_of_sub_eq_succ B;have e:H<U.length:=by exact l▸j
   refine R (U7 j) ?_;refine R (U7 e) ?_;refine TP.trans ?_;refine R (gy n (RB j)) ?_;refine R (RB e) ?_;exact Nc _ (d (H+1) (b6 B) j)
 exact h 0 (Vo _)
theorem xH{a:V MU}:∀{U t:V MO},a.zip (U++t)=a.zip U++(a.drop U.length).zip t:=by
 induction a with
 |nil=>intro U t;simp
 |cons r j d=>
  intro U t
  induction U using RD with
  |nil=>simp
  |cons E w=>simp[d]
theorem xI{j:V MU}:∀{A:V MO} (H:Z),(j.zip A).drop H=(j.drop H).zip (A.drop H):=by
 induction j with
 |nil=>intro A H;simp
 |cons r j d=>
  intro A H
  induction A using RD with
  |nil=>simp
  |cons s A=>
   induction H using RY with
   |zero=>rfl
   |succ H=>exact d H
structure Pars(fd:NJ)(names:V MU):Prop where
 ar:fd.params.args.map (·.arg)=names
 po:fd.params.posonlyargs=[]
 ko:fd.params.kwonlyargs=[]
 va:fd.params.vararg=N
 ka:fd.params.kwarg=N
 nd:names.Nodup
theorem j8{C:Prop}{r:OJ C}{n D:Nm G}{o:G->MW->Prop}(B:¬C)(H:MZ T f D o t d):MZ T f (if C then n else D) o t d:=(Nf B).symm▸H
section
variable{vals ds:V MO}{names:V MU}(nd:names.Nodup)(h1:vals.length<=names.length)(h2:names.length<=vals.length+ds.length)(h3:ds.length<=names.length)
include nd h1 h2 in
theorem Gd:(names.take (names.length - ds.length)).filter (λn=>(Ua n (names.zip vals)).isNone)=[]:=by rw[V.filter_eq_nil_iff];intro n hn;obtain⟨j,hj,e⟩:=U8.mp hn;refine R (gy nd (j:=j) (by refine(RB (by exact RS hj (T8 ..))).trans ?_;refine R e rfl)) ?_;refine R (RB (RS (RS hj (Tc ..)) (Vt.mpr h2))) ?_;exact RX
include h3 in
theorem Ge:ds.drop (ds.length - names.length)=ds:=by rw[Z.sub_eq_zero_of_le h3];rfl
include nd h1 h2 h3
theorem IQ:¬((!((names.take (names.length - (ds.drop (ds.length - names.length)).length)).filter (λq=>(Ua q (names.zip vals)).isNone)).isEmpty)=ML):=by rw[Ge h3,Gd nd h1 h2];exact RX
theorem Dm:((names.drop (names.length - ds.length)).zip ds).foldl iw (names.zip vals)=names.zip (vals++ds.drop (vals.length+ds.length - names.length)):=by
 have P:(names.drop (names.length - ds.length)).zip ds=((names.drop (names.length - ds.length)).zip ds).take (vals.length+ds.length - names.length)++(names.drop vals.length).zip (ds.drop (vals.length+ds.length - names.length)):=by
  conv=>lhs;rw[<-V.take_append_drop (vals.length+ds.length - names.length) ((names.drop (names.length - ds.length)).zip ds)]
  refine R (xI ..) ?_;refine R V.drop_drop ?_;rw[b1 h2 h3]
 have l:∀L∈((names.drop (names.length - ds.length)).zip ds).take (vals.length+ds.length - names.length),((names.zip vals).lookup L.1).isNone=MT:=λL e=>by obtain⟨i,M,D⟩:=U8.mp e;rw[V5] at D;refine R D.symm ?_;refine R (gy nd (j:=names.length - ds.length+i) (by refine R VX ?_;exact(RB (RS (b2 h2 h3 (RS M (Tc ..))) h1)))) ?_;refine R (RB (b2 h2 h3 (RS M (Tc ..)))) ?_;rfl
 have K:(((names.drop vals.length).zip (ds.drop (vals.length+ds.length - names.length))).map (·.1)).Nodup:=by have:((names.drop vals.length).zip (ds.drop (vals.length+ds.length - names.length))).map (·.1)=names.drop vals.length:=V.map_fst_zip (by refine R TF ?_;refine R TF ?_;exact R2 (b3 h1 h2).symm);refine R this ?_;exact nd.sublist (V.drop_sublist _ _)
 have Y:∀L∈(names.drop vals.length).zip (ds.drop (vals.length+ds.length - names.length)),(names.zip vals).lookup L.1=N:=λL e=>by obtain⟨i,M,D⟩:=V.mem_iff_getElem.mp e;rw[V.length_zip,TF] at M;rw[V5] at D;refine R D.symm ?_;refine(gy nd (j:=vals.length+i) (by refine R VX ?_;exact(RB (b5 (RS M (Tc ..)))))).trans ?_;exact(Sk (by exact R6 _ _))
 refine R P ?_;refine V.foldl_append.trans ?_;refine R (xF l) ?_;refine(xG K Y).trans ?_;rw[xH]
theorem IS:((names++[]).filterMap λq=>((((names.drop (names.length - (ds.drop (ds.length - names.length)).length)).zip (ds.drop (ds.length - names.length))).foldl iw (names.zip vals)).lookup q).map (q,·))=names.zip (vals++ds.drop (vals.length+ds.length - names.length)):=by rw[Ge h3,Dm nd h1 h2 h3,Sy];exact ny nd (by rw[RF,TF];exact(b4 h1 h2).symm)
end
theorem vy{o:NJ}{U:V MO}{a:V MU}{j:V MO}(c:Pars o a)(q:∀(w:N0) (f:Nw) (I:MO->MW->Prop) (r:O (M5 MO)->MW->Prop),(∀z,(z.getD #[]).toList=j->r z d)->MZ w f (Ql o.defaults) r I d)
  (p:U.length<=a.length) (G:a.length<=U.length+j.length) (T:j.length<=a.length):BindsTo d o ⟨U,[]⟩ (a.zip (U++j.drop (U.length+j.length - a.length))):=by intro w f I r H;obtain⟨J,t,⟨P,A,y,k,L,e,df⟩,l,g,gl,v,D,b,x,h,an,K,C,B⟩:=o;obtain⟨i,X,m,s,Y,n⟩:=c;have X:P=[]:=X;have m:k=[]:=m;have s:y=N:=s;have Y:e=N:=Y;have i:A.map (·.arg)=a:=i;subst i X m s Y;refine MR (M0 ?_);refine MR (q _ _ _ _ λz E=>?_);clear q;subst E;refine j8 (λM=>RV _ (RS (M8 ((Tp ..).mp M).1) p)) ?_;refine j8 (IQ n p G T) ?_;refine MR (NN (vu ..) ?_);refine MR (M0 ?_);refine j8 nofun ?_;exact M0 ((IS n p G T).symm▸H)
theorem vz{k:MU->O Nz}{a:V MU}:∀{I:V MO} {x:MU->O MO},r∉a->bindL k (a.zip I) x r=x r:=by
 induction a with
 |nil=>intro _ _ _;rfl
 |cons q w d=>
  intro I x B
  induction I using RD with
  |nil=>rfl
  |cons E b=>
   rw[RC,Om] at B;refine(d B.2).trans ?_;split;·exact Nf B.1
   ·rfl
theorem vA{k:MU->O Nz}{a:V MU}:∀{I:V MO} {x:MU->O MO},r∉a->bindC k (a.zip I) x r=x r:=by
 induction a with
 |nil=>intro _ _ _;rfl
 |cons q w d=>
  intro I x B
  induction I using RD with
  |nil=>rfl
  |cons E b=>
   rw[RC,Om] at B;refine(d B.2).trans ?_;split;·rfl
   ·exact Nf B.1
theorem qU{k:MU->O Nz}{a:V MU}(J:k r=S .local):∀{I:V MO} {x:MU->O MO} {i:Z} {E:MO},a.Nodup->a[i]? = S r->I[i]? = S E->bindL k (a.zip I) x r=S E:=by
 induction a with
 |nil=>exact λ_ D=>nX D
 |cons q w d=>
  intro I x i E n D j
  induction I using RD with
  |nil=>exact nX j
  |cons c b=>
   replace n:=RW.mp n
   induction i using RY with
   |zero=>clear d;obtain rfl:=sX D;refine sJ j ?_;refine(vz n.1).trans ?_;refine R (Nb J) ?_;exact Nb rfl
   |succ i=>exact d n.2 D j
theorem xJ{k:MU->O Nz}{a:V MU}(J:k r≠S .local):∀{I:V MO} {x:MU->O MO} {i:Z} {E:MO},a.Nodup->a[i]? = S r->I[i]? = S E->bindC k (a.zip I) x r=S E:=by
 induction a with
 |nil=>exact λ_ D=>nX D
 |cons q w d=>
  intro I x i E n D j
  induction I using RD with
  |nil=>exact nX j
  |cons c b=>
   replace n:=RW.mp n
   induction i using RY with
   |zero=>clear d;obtain rfl:=sX D;refine sJ j ?_;refine(vA n.1).trans ?_;refine R (Nf J) ?_;exact Nb rfl
   |succ i=>exact d n.2 D j
theorem iI:∀{l:V (MU×MS)},r∈l.map (·.1)->∃C,l.lookup r=S C:=by
 intro l;induction l with
 |nil=>intro B;simp at B
 |cons i y f=>
  intro B
  refine R SH ?_
  induction w:r==i.1 using RE with
  |true=>exact⟨i.2,rfl⟩
  |false=>rw[R5,RC] at B;exact f (B.resolve_left λD=>by simp[D] at w)
theorem nz{C:MS}{T:V (MU×MS)}:(T.map (·.1)).Nodup->(r,C)∈T->T.lookup r=S C:=by
 induction T with
 |nil=>exact λ_ B=>nomatch B
 |cons L y a=>
  obtain⟨H,E⟩:=L;intro n B;rw[R5,RW] at n;refine SH.trans (Wg (RC.mp B) (λD=>?_) λB=>?_);·cases D;simp
  ·have v:=R3 (f:=λL:MU×MS=>L.1) B;have j:r≠H:=λD=>n.1 (D▸v);exact R (OW j) (a n.2 B)
structure cG(fd:NJ)(names:V MU)(sl:V (O MU))(body:V Na):Prop extends Pars fd names where
 body:fd.body=.stmts body
 co:fd.scope.isCoroutine=MT
 gen:fd.scope.isGenerator=MT
 kind:fd.scope.kind=.function
 JQ:fd.closure=[]
 glob:fd.globals=NO
 blt:fd.builtins=Qv
 kinds:∀x∈names,fd.scope.names.lookup x=S .local\/(fd.scope.names.lookup x=S .cell/\x∈(OS 0 fd.scope.names []).map (·.1))
 IT:∀(j:Z) x,j<names.length->sl[j]? = S (S x)->names[j]? = S x
 E':∀(i j:Z) x,sl[i]? = S (S x)->sl[j]? = S (S x)->i=j
 JR:((OS 0 fd.scope.names []).map (·.1)).Nodup
 has:∀(j:Z) x,sl[j]? = S (S x)->fd.scope.names.lookup x=S .cell\/fd.scope.names.lookup x=S .free->x∈(OS 0 fd.scope.names []).map (·.1)
theorem se{a5:Nw}{s:MW}{loc:Loc}{o:NJ}{a2:V MU}{c1:V Na}{ds vals:V MO}{P:Ng->MW->Prop}(a1:cG o a2 j c1)(L:s.heap.NoLimit)
  (d:∀(T:N0) (a5:Nw) (t:MO->MW->Prop) (a9:O (M5 MO)->MW->Prop),(∀z,(z.getD #[]).toList=ds->a9 z s)->MZ T a5 (Ql o.defaults) a9 t s)
  (p:vals.length<=a2.length) (G:a2.length<=vals.length+ds.length) (h3:ds.length<=a2.length)
  (K:Inv a e g b k s.heap) (lv:cK l g [] s.heap) (c8:loc.length=j.length)
  (hv:∀(i:Z) n,loc[i]? = S (S n)->∃E,(vals++ds.drop (vals.length+ds.length - a2.length))[i]? = S E/\VR a.params (Sf s.heap b g) b n E)
  (c5:∀c J s1,c=N6 o s.heap.objs.size n->bk J c j->St a e J (c :: l) c j b k loc s1->(∃h' tk,s1={s with heap:=h',toks:=tk}/\ct g J [] (bz c) s.heap h')->(∀M z,s.heap.get? M=S z->s1.heap.get? M=S z)->
   (∃x,s1.heap.Ns c.locals x/\∀(i:Z) r E,a2[i]? = S r->(vals++ds.drop (vals.length+ds.length - a2.length))[i]? = S E->c.kindOf r=S .local->x r=S E)->
   P c s1) :
  MZ T a5 (PySem.bindArgs o ⟨vals,[]⟩) (λc6 c3=>MZ T a5 (Qi o.scope o.globals o.closure c6 (o.qualname++".<locals>.") (S n) o.code N o.builtins) (λc a8=>a8.heap.NoLimit/\P c a8) t c3) t s:=by
 have c7:(vals++ds.drop (vals.length+ds.length - a2.length)).length=a2.length:=by exact RF.trans (R TF (b4 p G))
 have nm:∀a3,(OS a3 o.scope.names []).map (·.1)=(OS 0 o.scope.names []).map (·.1):=λa3=>cellsFrom_names _ _ _ _ _ rfl;refine vy a1.toPars d p G h3 _ _ _ _ (R a1.JQ (wpAny_newFunctionEnv_cells a1.kind (λr hx=>?_) λc he s1 r=>?_));·have b9:=(V.of_mem_zip hx).1;refine(a1.kinds r.1 b9).imp id λq=>⟨q.1,?_⟩;refine dD (iI (l:=OS (s.heap.objs.size+1) o.scope.names []) (by refine R (nm ..) ?_;exact q.2)) λC D=>?_;exact R D rfl
 ·have A:c.scope=o.scope:=by exact R he rfl
  have H:c.cells=OS (s.heap.objs.size+1) o.scope.names []:=by exact R he rfl
  have c2:c.frame=S c.locals:=by exact R he rfl
  refine mN r.toInCall.same λh' tk bE=>?_;subst bE;have w:∀M z,s.heap.get? M=S z->h'.get? M=S z:=r.toInCall.keep;have B:=SV r.toInCall.fresh;have I:∀C∈c.cells.map (·.2),s.heap.get? C=N/\c.locals<C:=λC hc=>by refine aM (Sj.mp hc) λcj v du=>?_;obtain⟨a0,c'⟩:=cj;refine R du.symm ?_;have:=r.above a0 c' v;exact⟨SV (Tg (RO r.toInCall.fresh this)),this⟩
  have nd:(c.cells.map (·.1)).Nodup:=by refine R H ?_;refine R (nm ..) ?_;exact a1.JR
  have a4:ct g (c.locals :: c.locals :: c.cells.map (·.2)++g) [] (bz c) s.heap h':=by
   refine⟨w,λn x=>RP _ x,λC x=>?_,λC x=>?_,λC x=>?_,λC=>by refine R R' ?_;exact SR _ _⟩
   ·rcases RM.mp x with x|x
    ·rcases RC.mp x with rfl|x;·exact .inr B
     ·rcases RC.mp x with rfl|x;·exact .inr B
      ·exact .inr (I C x).1
    ·exact .inl x
   ·rcases RC.mp x with rfl|x;·exact .inr B
    ·exact .inr (I C x).1
   ·rw[R'] at x;by_cases q:C∈c.locals :: c.locals :: c.cells.map (·.2)
    ·refine .inr ?_;rcases RC.mp q with rfl|q;·exact B
     ·rcases RC.mp q with rfl|q;·exact B
      ·exact(I C q).1
    ·rw[R1 q] at x;rw[T5] at x;exact .inl x
  have c9:=R1 (K.no B);have eo:bk (c.locals :: c.locals :: c.cells.map (·.2)++g) c j:=by
   refine⟨by refine R A ?_;exact a1.kind,by refine R he ?_;exact a1.glob,by refine R he ?_;exact a1.blt,.head _,λa0 C D=>?_,λn x=>?_,λa0 U C X m=>name_of_addr r.apart (mem_of_lookup X) (mem_of_lookup m),a1.E',λi a0 X m=>?_⟩;·have v:=R3 (f:=λq:MU×MS=>q.2) (mem_of_lookup D);exact⟨RL _ (.tail _ (.tail _ v)),S7 (I C v).2⟩
   ·exact RL _ (.tail _ (.tail _ x))
   ·rw[(show∀a0,c.kindOf a0=o.scope.names.lookup a0 from λa0=>by unfold Ng.kindOf;refine R A rfl)] at m;exact iI (by refine R H ?_;refine R (nm ..) ?_;exact a1.has i a0 X m)
  have lt:∀(i:Z) n,loc[i]? = S (S n)->i<a2.length:=λi n D=>by refine aM (hv i n D) λE X Y=>?_;exact R c7.symm ((RG.mp X).1)
  have a6:∀n z,Sf s.heap b g n z->Sf h' b (c.locals :: c.locals :: c.cells.map (·.2)++g) n z:=λn z U=>(U.cX a4.new).grow w;have st:St a e (c.locals :: c.locals :: c.cells.map (·.2)++g) (c :: l) c j b k loc {s with heap:=h',toks:=tk}:=by
   refine⟨K.cX a4.new w λM x=>?_,⟨(ba _ r.toInCall.ns (λi a0 n X m e3=>?_)),λa0 C D=>(ba _ (r.cell a0 C D) (λi n X m e3=>?_)),c8⟩,⟨λD x=>?_⟩⟩
   ·refine wb r.toInCall.ns λoL Y Y gL Y=>?_;rcases RM.mp x with x|x
    ·rcases RC.mp x with rfl|x;·exact⟨oL,gL⟩
     ·rcases RC.mp x with rfl|x;·exact⟨oL,gL⟩
      ·refine aM (Sj.mp x) λdV v fB=>?_;obtain⟨a0,c'⟩:=dV;exact R fB.symm (aM ((λa0 C v=>r.cell a0 C (nz nd v)) a0 c' v) λoc gc Y=>⟨oc,gc⟩)
    ·exact K.FI w x
   ·exact aM (hv i n m) λE e4 U=>ba E (qU e3 a1.nd (a1.IT i a0 (lt i n m) X) e4) (U.mono a6 (.refl b))
   ·exact aM (hv i n m) λE e4 U=>ba E (xJ (by rcases e3 with e3|e3<;>refine R e3 ?_<;>simp) a1.nd (a1.IT i a0 (lt i n m) X) e4) (U.mono a6 (.refl b))
   ·rcases RC.mp x with rfl|x;·refine dF r.toInCall.ns λoL y ep gL dL Y=>?_;refine⟨by refine R A ?_;refine R a1.kind ?_;decide,D.locals,oL,y,ep,c2,?_,(λx=>nomatch x),gL,dL⟩;exact R V6 (R T9 (R T9 (SR _ _)))
    ·exact lv.el x λkk a7 ob y a3 f m1 m2 c4 h=>⟨kk,a7,ob,y,a3,f,RH m1 (a4.le a7),m2,w _ _ c4,h⟩
  refine⟨L.keeps w,c5 c _ _ ?_ eo st (dI h' tk rfl a4) w (ba _ r.toInCall.ns (λi a0 E X m e3=>qU e3 a1.nd X m))⟩;refine he.trans ?_;first|rfl|(rw[a1.glob])
set_option backward.match.sparseCases true in
theorem enter{s:MW}{loc:Loc}{o:NJ}{U:V MU}{a1:V Na}{ds vals:V MO}{R:NQ->MW->Prop}(x:cG o U j a1)(z:f.depth<QE)(ho:s.heap.get? n=S ah)(a4:ah.data=.func o)(L:s.heap.NoLimit)(t:s.heap.CodeRec o.code o.qualname)
  (d:∀(w:N0) (f:Nw) (I:MO->MW->Prop) (a3:O (M5 MO)->MW->Prop),(∀ah,(ah.getD #[]).toList=ds->a3 ah s)->MZ w f (Ql o.defaults) a3 I s)
  (p:vals.length<=U.length) (G:U.length<=vals.length+ds.length) (T:ds.length<=U.length)
  (K:Inv a e g b k s.heap) (lv:cK l g [] s.heap) (a5:loc.length=j.length)
  (hv:∀(i:Z) n,loc[i]? = S (S n)->∃E,(vals++ds.drop (vals.length+ds.length - U.length))[i]? = S E/\VR a.params (Sf s.heap b g) b n E)
  (H:∀c J s1,c=N6 o s.heap.objs.size n->bk J c j->St a e J (c :: l) c j b k loc s1->(∃m B,s1={s with heap:=m,toks:=B}/\ct g J [] (bz c) s.heap m)->(∀M ah,s.heap.get? M=S ah->s1.heap.get? M=S ah)->
   (∃a2,s1.heap.Ns c.locals a2/\∀(i:Z) r E,U[i]? = S r->(vals++ds.drop (vals.length+ds.length - U.length))[i]? = S E->c.kindOf r=S .local->a2 r=S E)->
   MZ (MY h a) (f.deeper c) (Oi a1 c) (λA v=>R (.ok (.ret (match A with|.ret E=>E|_=>.none))) v)
    (λD v=>MZ (MY h a) (f.deeper c) (OF c D) (λY a0=>R (.error D) a0) (λe' a0=>R (.error e') a0) v) s1) :
  NK (MY h a) f (.call (.ref n) ⟨vals,[]⟩) R s:=
 Ru z ho a4 x.co x.gen x.body t (se (P:=λc X=>NK (MY h a) f (.func a1 c) R X) x L d p G T K lv a5 hv λc J s1 y q C q4 q5 q6=>codeAny_func (H c J s1 y q C q4 q5 q6))
structure Au(w:Nj)(g₀:MV)(fd:NJ)(cx:V Q)(ds:V MO):Prop where
 read:(fd.defaults=.none/\ds=[])\/∃T o items n,fd.defaults=.ref T/\g₀.get? T=some o/\o.data=.seq items n/\items.toList=ds
 vals:∀(P:Oa) (S:SP) (r:bH),bM P S r cx ds
theorem Au.reads{c:NJ}{i:V Q}{j:V MO}(t:Au a e c i j)(K:Inv a e g b k d.heap):∀(w:N0) (f:Nw) (I:MO->MW->Prop) (o:O (M5 MO)->MW->Prop),(∀z,(z.getD #[]).toList=j->o z d)->MZ w f (Ql c.defaults) o I d:=by
 intro w f I o H;refine hF λA=>?_;rcases t.read with⟨D,rfl⟩|⟨x,z,l,q,D,m,h,rfl⟩;·refine A ?_;exact R D (M0 (H N rfl))
 ·refine A ?_;refine R D ?_;exact wpAny_seqItems (K.keep x z m).1 h (H (S l) rfl)
set_option tactic.hygienic true in
theorem gz{p n:Z}{d:V Q}(D:bindArgs p d n z=S w):z.length<=p/\p<=z.length+d.length/\w=((z++d.drop (z.length+d.length - p)).map S++UN (n - p) N):=by
 unfold bindArgs at D;split at D;·rename_i L;exact fA L.1 L.2 ((Sl D).symm)
 ·exact nomatch D
theorem pC{I:V Q}{x:Z}(D:(I.map S++UN x N)[K]? = S (S m)):I[K]? = S m:=by
 replace D:=UB▸D;split at D
 ·replace D:=RK▸D
  induction L:I[K]? using Ry with
  |none=>exact nX (L▸D)
  |some M=>replace D:=L▸D;cases D;rfl
 ·replace D:=V.getElem?_replicate▸D;split at D<;>exact nomatch D
theorem uf.at(l:e.NoLimit)(K:Inv a e g b k d.heap):d.heap.NoLimit:=l.keeps λM z D=>(K.keep M z D).1
theorem Dp{c1:Z}{o:NJ}{H:V MU}{a2:V Na}{M:dR}{ds a1:V MO}{a0:V Q}(x:cG o H j a2)(R:bo bh (c1+1) f l)(ho:e.get? n=S ah)(a5:ah.data=.func o)(L:e.NoLimit)(a4:e.CodeRec o.code o.qualname)
  (t:Au a e o a0 ds) (T:a0.length<=H.length) (X:H.length<=j.length)
  (K:Inv a e g b k d.heap) (lv:cK l g [] d.heap) (E:bM a.params (Sf d.heap b g) b z a1) (hb:bindArgs H.length a0 j.length z=S w) (B:aW i M w k≠.bad)
  (a3:∀I,qM h a e l (N6 o I n) j (f.deeper (N6 o I n)) i M a2) :
  NK (MY h a) f (.call (.ref n) ⟨a1,[]⟩) (RR a e g l ((aW i M w k).bind λb=>.ok ((match b.1 with|.ret E=>E|.next=>.none),b.2.2)) b d) d:=by
 refine fK (gz hb) λy q2 hl=>?_;have A:=E.len;have ld:=(t.vals a.params (Sf d.heap b g) b).len;have a6:bM a.params (Sf d.heap b g) b (z++a0.drop (z.length+a0.length - H.length)) (a1++ds.drop (a1.length+ds.length - H.length)):=by rw[A,ld];exact E.append ((t.vals _ _ _).drop _)
 have k0:=λM ah D=>(K.keep M ah D).1;refine enter (loc:=w) x (JA R.depth) (k0 _ _ ho) a5 (uf.at L K) ?_ (t.reads K) (A▸y) (A▸ld▸q2) (ld▸T) K lv ?_ (λc4 n D=>a6.get (pC (hl▸D))) λc3 J s1 he p G r hk b9=>?_;·exact qs a4 λC oc vs a9 e1 m s e4=>gU C oc vs a9 e1 (k0 _ _ m) s e4
 ·rw[hl];exact oO y q2 X
 ·subst he;refine cg r λh' tk bE P=>?_;clear y q2 hl r hk b9 A ld a6 k0 x R ho a5 L a4 t T X K lv hb;subst bE;refine Nk (a3 _ J b k _ _ p G B) (λa7 v q=>?_) λD v q=>?_
  ·refine qs q λfl c2 H' r' D ah a8 U=>R D ?_
   clear D p G a8 B a3
   induction fl using Fl.casesOn with
   |next=>
    induction a7 using SI with
    |next=>exact .ok (ah.back P) .none
    |_=>exact U.elim
   |ret n=>
    induction a7 using SI with
    |ret c=>exact .ok (ah.back P) (VR.mono (λY Y U=>U.back P.sub) (.refl _) U)
    |_=>exact U.elim
  ·have x? : ((aW i M w k).bind λb=>.ok ((match b.1 with|.ret E=>E|.next=>Q.none),b.2.2)).x? = (aW i M w k).x?:=by
    induction(aW i M w k) using Wn<;>rfl
   refine Nk q (λY s2 U=>?_) λm s2 U=>?_
   ·show EE _ _ _ _ _ _ _ _ _;exact R x? (EF.back P U)
   ·show EE _ _ _ _ _ _ _ _ _;exact R x? (EF.back P U)
inductive Av(prog:Nv)(w:Nj)(g₀:MV)(l:V Ng)(env:Ng)(sl:V (O MU))(A:Nw)(cf:CF)(uh:MU):V Z->cz->V Na->Prop
 |nil:Av prog w g₀ l env sl A cf uh [] .nil []
 |cons {f:Z} {fs:V Z} {e:LE} {es:cz} {y:MQ} {xs:V Na} {p1 p2 p3:Ni}:SE prog w g₀ l env sl A cf e y->Av prog w g₀ l env sl A cf uh fs es xs->Av prog w g₀ l env sl A cf uh (f :: fs) (.cons e es) (.Assign [.Attribute (.Name uh p1) (sx f) p2] y p3 :: xs)
theorem FR.xK(e:∀H∈ae,H<NS):∀{l:V Q} {y:V Nt} {H:Z},FR U x b ae l y->H<NS->H∉ae->y.findIdx? (λD=>D.key.isStr (sx H))=O.none:=by
 induction ae with
 |nil=>intro l y H B _ _;cases B;rfl
 |cons r ae d=>
  intro l y H B J n
  rw[RC,Om] at n
  cases B with
  |@cons _ w P t _ l y p G=>
   refine Uj.trans ?_;have:(MO.str (sx r) t).isStr (sx H)=MT:=by refine(jR (e r (.head _)) J).trans ?_;rw[OK];exact λD=>n.1 D.symm
   simp only[this,SU,Oj];refine R (d (λH J=>e H (.tail _ J)) G J n.2) ?_;rfl
theorem jL.bindG{y:Z}{t:Type}{h:Rel G az}{n:Nm az}{s:Res (G×AH)}{A:G×AH->Res t}{l:az->MW->Prop}(R:bo bh y f (c :: o))(p:cK (c :: o) g [] ap.heap)(J:∀I∈aq,I∈g)(B:jL a e g T f (c :: o) h n s ak ap)(z:aQ a e g aq b d ak bc ap)
  (H:∀I i x k M,s=.ok (I,i)->aQ a e g aq b d x i k->aQ a e g [] ak ap x i k->h (Sf k.heap x g) x I M->A (I,i)≠.bad->l M k) (w:s.bind A≠.bad) :
  MZ T f n l (ES a e g T f aq o c (s.bind A).x? b d) ap:=by
 refine Nk (B (λq=>w (by refine(bL q).trans ?_;rfl))) (λM v q=>?_) λj v q=>?_;·refine dF q λI i x bE o2 E=>?_;clear B;subst bE;exact H I i x v M rfl (z.trans o2.wide) o2 E w
 ·refine EF.stmt R p (EF.pre z J ?_)
  refine cg q λn r D U=>?_
  clear q R p J B z H w
  induction s using Wn with
  |ok I=>exact nX D
  |bad=>exact nX D
  |exc X m=>obtain⟨rfl,rfl⟩:=sP D;exact dI _ _ rfl U.wide
noncomputable def pE(c:Ng)(q:MU)(r:MS)(B:MV):Prop:=∃x,B.Ns c.locals x/\x q=S (.ref r)
theorem pE.keep{own:V MS}{fr:V MS}{f:MU}{r:MS}(p:bk own c j)(K:Inv a e own b k d.heap)(s:pE c f r d.heap)(z:aQ a e own fr b d ak bc ap)(n:c.locals∉fr):pE c f r ap.heap:=aM s λx cj D=>dF cj λg y T o h U=>z.keep.el o (K.off _ p.loc).1 n λY t G q=>ba x ⟨t,y,T,G,q.data.trans h,U⟩ D
structure me(w:Nj)(g₀:MV)(own:V MS)(l:V Ng)(env:Ng)(sl:V (O MU))(uh:MU)(x d:MS)(c:dG)(loc:Loc)(ks:V Z)(vs:V Q)(r:bH)(H:AH)(s:MW):Prop where
 st:St w g₀ own l env sl r H loc s
 at':∃es n,iE s x d c es n/\FR w.params (Sf s.heap r own) r ks vs es.toList
 sat:pE env uh x s.heap
structure j9(own:V MS)(env:Ng)(uh:MU)(x d:MS)(c:dG):Prop where
 ix:own.count x=1
 id:own.count d=1
 ne:x≠d
 nx:x∉bz env
 nd:d∉bz env
 ks:env.kindOf uh=S .local
 kd:(uh==("__debug__":MU))=MT
 ce:c≠.bQ
theorem eW(B:g.count n=1):n∈g:=Sa.mp (by refine R B ?_;decide)
theorem me.on{s:MW}{q:MU}{r:MS}{C:dG}(G:j9 g c q r A C)(p:bk g c j)(d:me a e g l c j q r A C w ae au b k s)(z:aQ a e g [] b s ak bc ap):me a e g l c j q r A C w ae au ak bc ap:=by
 refine cg d.at' λy n h i=>?_;have f:∀{I:MS} {K:Nl},g.count I=1->s.heap.get? I=S K->ap.heap.get? I=S K:=λ{I K} B D=>by refine z.keep.el D (d.st.inv.off I (eW B)).1 (λx=>nomatch x) λY t m L=>?_;exact R (L.once (n6 B rfl)).symm m
 exact⟨d.st.on p z,⟨y,n,⟨f G.ix h.x,f G.id h.d⟩,i.mono (λY Y U=>z.FL U) z.le⟩,d.sat.keep p d.st.inv z λx=>nomatch x⟩
theorem nZ{q:MU}{a3:MS}{C:dG}{a0:Z}{fs:V Z}{U:MO}{p1:Ni}{a4:NP->MW->Prop}(a1:Gr v e P be bg bf)(p:bk g c j)(G:j9 g c q a3 A C)(H:me a e g l c j q a3 A C w ae au ak bc ap)(J:ae++a0 :: fs=bS C)(v1:VR a.params (Sf ap.heap ak g) ak m U)
  (a2:∀o,aQ a e g [A] ak ap ak bc o->me a e g l c j q a3 A C w (ae++[a0]) (au++[m]) ak bc o->a4 () o) :
  MZ (MY h a) f (PySem.eval (.Name q p1) c) (λy a5=>MZ (MY h a) f (PL y (sx a0) U) a4 t a5) t ap:=by
 refine aM H.sat λx hn hm=>O9 ?_ G.kd;refine O' p.kind G.ks hn hm (cg H.at' λT b k I=>?_);have hf:a0∈bS C:=by rw[<-J];exact RP _ (.head _)
 have lt:=λa2 x=>gq C a2 (by rw[<-J];exact RL _ x);have d:a0∉ae:=λx=>by have n:=lq C;rw[<-J] at n;exact(Sm.mp n).2.2 a0 x a0 (.head _) rfl
 have s:T.size<500:=by
  have:(bS C).length<500:=by induction C using dG.casesOn<;>decide +kernel
  rw[<-J,RF] at this;rw[<-RI,I.len.2];exact RO (R6 _ _) this
 refine tX (r:=ak) a1.ok a1.set (a1.In H.st.inv) G.ce hf k I lt s λh' B n' a7 E he g' sb=>?_;rw[I.xK lt (gq C a0 hf) d] at he;have i:∀M z,M≠A->ap.heap.get? M=S z->h'.get? M=S z:=λM z L D=>(sb.2 M L).trans D;have o2:aQ a e g [A] ak ap ak bc {ap with heap:=h',toks:=B}:=.mk' (H.st.inv.loose i (.inl (eW G.id)) ((H.st.inv.off A (eW G.id)).1) λY=>⟨_,g'⟩) (.but (a:=A) i (.inr (.inl (.head _)))) (.refl ak);have X:∀M K,Sf ap.heap ak g M K->Sf h' ak g M K:=λM K a6=>o2.sf (λm x=>.inl (by rw[Rx.mp x];exact eW G.id)) a6;refine a2 _ o2 ⟨H.st.Hx p o2 G.nd G.id,⟨E,n',⟨i _ _ G.ne k.x,g'⟩,?_⟩,H.sat.keep p H.st.inv o2 λx=>G.nd (by rw[<-Rx.mp x];exact .head _)⟩;rw[he];exact(I.mono X (.refl ak)).snoc (v1.mono X (.refl ak))
theorem xM{a0:MU}{a2:MS}{C:dG}{fs:V Z}{y:cz}{xs:V Na}(a5:Gr v e P be bg bf)(R:bo bh q f (c :: o))(p:bk g c j)(G:j9 g c a0 a2 A C)(T:Av h a e (c :: o) c j f i a0 fs y xs) :
  ∀{ks:V Z} {vs:V Q} {H:bH} {b:AH} {t:MW},me a e g (c :: o) c j a0 a2 A C w ks vs H b t->ks++fs=bS C->bp i y w b≠.bad->
   MZ (MY h a) f (Oi xs c) (λa1 s'=>a1=.next/\∃k r K,bp i y w b=.ok (k,r)/\aQ a e g [A] H t K r s'/\me a e g (c :: o) c j a0 a2 A C w (bS C) (vs++k) K r s')
    (ES a e g (MY h a) f [A] o c (bp i y w b).x? H t) t:=by
 have a3:∀I∈[A],I∈g:=λI x=>by rw[Rx.mp x];exact eW G.id
 induction T with
 |nil=>intro ks vs H b t s J B;rw[Sy] at J;refine Ol ⟨rfl,[],b,H,rfl,.refl s.st.inv,?_⟩;rw[Sy,<-J];exact s
 |@cons a1 fs a7 y y' xs l p2 p3 a6 T d=>
  intro ks vs H b t s J B;rw[fP] at B⊢;refine PK (QU ((a6 g H b t w p s.st).bindG R s.st.live a3 (.refl s.st.inv) (λI z r1 s1 va X o1 l E a4=>?_) B) (hY (.Name a0 _) (sx a1) _ p3.line c));rw[X,Res.aP];refine nZ a5 p G (s.on G p l) J E λs2 o2 y2=>?_;have Y:bp i y w z≠.bad:=λL=>a4 ((bL L).trans rfl);refine Nk (d y2 (by refine(Sn ..).trans ?_;exact J) Y) (λf' s' L=>?_) λe' s' L=>?_;·obtain⟨rfl,k,r,K,m,o3,D⟩:=L;refine⟨rfl,I :: k,r,K,by rw[m];rfl,(o1.trans o2).trans o3,?_⟩;rw[Sn] at D;exact D
  ·refine L.mono λa8 n U=>cg U λtt r e3 U=>dI tt r ?_ (U.pre (o1.trans o2) a3)
   induction L:bp i y w z using Wn with
   |ok _=>exact nX (L▸e3)
   |bad=>exact Nh L Y
   |exc M H2=>replace e3:=L▸e3;obtain⟨rfl,rfl⟩:=sP e3;rfl
theorem ct.comp{b:V MS}{d:V MS}{c:V MS}{e:V MS}{a:MV}{G:MV}(I:ct g b [] c p a)(M:ct b d [] e a G):ct g d [] c p G:=
 have w:∀{L:MS},a.get? L=N->p.get? L=N:=λ{L} D=>by
  induction U:p.get? L using Ry with
  |none=>rfl
  |some z=>replace D:=(I.hs L z U)▸D;cases D
 ⟨λL z D=>M.hs L z (I.hs L z D),λL x=>M.sub L (I.sub L x),λL x=>(M.new L x).elim (I.new L) λD=>.inr (w D),I.C4,λL x=>(M.cnt L x).elim (I.cnt L) λD=>.inr (w D),λL=>RH (I.le L) (M.le L)⟩
theorem bo.deeper(R:bo bh (q+1) f l):bo bh q (f.deeper c) (c :: l):=⟨R.handled,Nw.frames_deeper R.frames,FD R.depth rfl,FD R.units rfl⟩
theorem bo.make{A:Nw}{M:MS}{U:V MO}(R:bo bh (q+1) A l):bo bh q ((A.under (.builtin "type.__call__" ⟨.ref M :: U,[]⟩)).deeper c) (c :: l):=⟨R.handled,Nw.frames_deeper (A:=A.under (.builtin "type.__call__" ⟨.ref M :: U,[]⟩)) R.frames,Jz R.depth rfl,Jz R.units rfl⟩
noncomputable def mf(C:dG):Res (V Q×AH)->Res (Q×AH):=λL=>L.bind λy=>if fO C then .ok (.obj C y.1,y.2) else .ok (.aA y.2.I.length,{y.2 with I:=y.2.I++[(C,y.1)]})
theorem ui{o:NJ}(H:∀M z,p.get? M=S z->X.get? M=S z)(r:p.CodeRec o.code o.qualname):X.CodeRec o.code o.qualname:=qs r λf b w n a m s Y=>gU f b w n a (H _ _ m) s Y
theorem uj{s:MW}{b9:Loc}{a0:MU}{C:dG}{o:NJ}{a1:V MU}{d0:V Na}{ds a3:V MO}{d:V Q}{r:MS}{P:Ng->MW->Prop}(hc:C≠.bQ)(c9:cG o a1 j d0)(a5:Au a e o d ds)(L:e.NoLimit)(h3:d.length<=a1.length)(X:a1.length<=j.length)
  (n0:a1[0]? = S a0) (kl:o.scope.names.lookup a0=S .local) (kd:(a0==("__debug__":MU))=MT)
  (a9:Inv a e g b k s.heap) (lv:cK l g [] s.heap) (E:bM a.params (Sf s.heap b g) b z a3) (hb:bindArgs a1.length d j.length (.none :: z)=S b9) (hl:w=b9.set 0 N)
  (d2:∀c J m B,c=N6 o ((s.heap.push NI).push (ND (CA C) s.heap.objs.size)).objs.size r->bk J c j->j9 J c a0 (s.heap.objs.size+1) s.heap.objs.size C->me a e J (c :: l) c j a0 (s.heap.objs.size+1) s.heap.objs.size C w [] [] b k {s with heap:=m,toks:=B}->
   ct g J [] [s.heap.objs.size] s.heap m->P c {s with heap:=m,toks:=B}) :
  MZ T f (PySem.bindArgs o ⟨.ref (s.heap.objs.size+1) :: a3,[]⟩) (λd3 d1=>MZ T f (Qi o.scope o.globals o.closure d3 (o.qualname++".<locals>.") (S r) o.code N o.builtins) (λc c3=>c3.heap.NoLimit/\P c c3) t d1) t {s with heap:=(s.heap.push NI).push (ND (CA C) s.heap.objs.size)}:=by
 refine fK (gz hb) λy q2 c6=>?_;rw[S0] at y q2;have A:=E.len;have ld:d.length=ds.length:=(a5.vals a.params (Sf s.heap b g) b).len;have a8:s.heap.get? s.heap.objs.size=N:=bR _;have Y:s.heap.get? (s.heap.objs.size+1)=N:=SV (So _);have a4:∀M a6,s.heap.get? M=S a6->((s.heap.push NI).push (ND (CA C) s.heap.objs.size)).get? M=S a6:=λM a6 D=>RA _ (RA _ D);have gx:((s.heap.push NI).push (ND (CA C) s.heap.objs.size)).get? (s.heap.objs.size+1)=S (ND (CA C) s.heap.objs.size):=by heap_get
 have gd:((s.heap.push NI).push (ND (CA C) s.heap.objs.size)).get? s.heap.objs.size=S NI:=by heap_get
 have W1:ct g ([s.heap.objs.size+1,s.heap.objs.size]++g) [] [s.heap.objs.size] s.heap ((s.heap.push NI).push (ND (CA C) s.heap.objs.size)):=by
  have a2:=ct.more (own:=g) (fr:=[]) (ns:=[s.heap.objs.size+1,s.heap.objs.size]) (λM hb=>by
   rcases RC.mp hb with rfl|hb;·exact Y
   ·rw[Rx.mp hb];exact a8) (by simp) a4
  exact⟨a2.hs,a2.sub,a2.new,λq x=>.inr (by rw[Rx.mp x];exact a8),a2.cnt,a2.le⟩
 have h:∀{I:MS},s.heap.get? I=N->g.count I=0:=λ{I} D=>R1 (a9.no D);have i1:Inv a e ([s.heap.objs.size+1,s.heap.objs.size]++g) b k ((s.heap.push NI).push (ND (CA C) s.heap.objs.size)):=a9.cX W1.new a4 λM x=>by
  rcases RM.mp x with x|x
  ·rcases RC.mp x with rfl|x;·exact⟨_,gx⟩
   ·rw[Rx.mp x];exact⟨_,gd⟩
  ·exact a9.FI a4 x
 have v:cK l ([s.heap.objs.size+1,s.heap.objs.size]++g) [] ((s.heap.push NI).push (ND (CA C) s.heap.objs.size)):=lv.cX W1.le a4;have v1:bM a.params (Sf ((s.heap.push NI).push (ND (CA C) s.heap.objs.size)) b ([s.heap.objs.size+1,s.heap.objs.size]++g)) b z a3:=E.mono (λε ε U=>(U.cX W1.new).grow a4) (.refl b);have tl:bM a.params (Sf ((s.heap.push NI).push (ND (CA C) s.heap.objs.size)) b ([s.heap.objs.size+1,s.heap.objs.size]++g)) b (z++d.drop (z.length+1+d.length - a1.length)) (a3++ds.drop (a3.length+1+ds.length - a1.length)):=by rw[A,ld];exact v1.append ((a5.vals _ _ _).drop _)
 refine se (s:={s with heap:=(s.heap.push NI).push (ND (CA C) s.heap.objs.size)}) (vals:=.ref (s.heap.objs.size+1) :: a3) (loc:=w) c9 (uf.at L i1) (a5.reads i1) (by rw[S0];exact A▸y) (by rw[S0];exact A▸ld▸q2) (ld▸h3) i1 v ?_ (λi I D=>?_) λc J s1 he eo G c7 hk d4=>?_;·rw[hl,c6,Tb];exact oO y q2 X
 ·induction i using RY with
  |zero=>
   replace D:=hl▸D
   refine hF λd5=>?_
   induction b9 using RD with
   |nil=>cases D
   |cons c4 ys=>cases D
  |succ i=>rw[hl,c6] at D;have e2:=pC D;refine aM (tl.get (i:=i) (a:=I) e2) λc8 e3 U=>ba c8 ?_ U;exact e3
 ·subst he;refine cg c7 λm B bE n=>?_;subst bE;have a2:=W1.comp n;have c5:∀{I:MS} {K:Nl},([s.heap.objs.size+1,s.heap.objs.size]++g).count I=1->((s.heap.push NI).push (ND (CA C) s.heap.objs.size)).get? I=S K->J.count I=1:=λ{I K} D a7=>by
   have p:1<=J.count I:=RH (R2 D.symm) (n.le I);have h2:¬2<=J.count I:=λq=>(n.cnt I q).elim (λU=>Nh (RH U (R2 D)) (by decide)) λU=>by replace U:=a7▸U;cases U
   exact Vf (T1 (V7 h2)) p
  have nf:∀{I:MS} {K:Nl},((s.heap.push NI).push (ND (CA C) s.heap.objs.size)).get? I=S K->I∉bz (N6 o ((s.heap.push NI).push (ND (CA C) s.heap.objs.size)).objs.size r):=λ{I K} a7 x=>(n.C4 I x).elim (λU=>nomatch U) λU=>by replace U:=a7▸U;cases U
  have c1:([s.heap.objs.size+1,s.heap.objs.size]++g).count (s.heap.objs.size+1)=1:=by rw[R',h Y,T9,Vy (Iw rfl),V.count_nil]
  have c2:([s.heap.objs.size+1,s.heap.objs.size]++g).count s.heap.objs.size=1:=by rw[R',h a8,Vy (KD rfl),T9,V.count_nil]
  have H:j9 J (N6 o ((s.heap.push NI).push (ND (CA C) s.heap.objs.size)).objs.size r) a0 (s.heap.objs.size+1) s.heap.objs.size C:=⟨c5 c1 gx,c5 c2 gd,Vb _,nf gx,nf gd,kl,kd,hc⟩;have c4:me a e J (N6 o ((s.heap.push NI).push (ND (CA C) s.heap.objs.size)).objs.size r :: l) (N6 o ((s.heap.push NI).push (ND (CA C) s.heap.objs.size)).objs.size r) j a0 (s.heap.objs.size+1) s.heap.objs.size C w [] [] b k {s with heap:=m,toks:=B}:=by refine⟨G,⟨#[],0,⟨hk _ _ gx,hk _ _ gd⟩,.nil⟩,?_⟩;exact aM d4 λx hn hm=>⟨x,hn,hm 0 a0 _ n0 rfl kl⟩
  exact d2 _ J _ _ rfl eo H c4 a2
theorem Aw{s:MW}{c7:Loc}{a5:MU}{C:dG}{o:NJ}{a1:V MU}{a6:V Na}{vs:cz}{ds a8:V MO}{b9:V Q}{r:MS}(c2:Gr v e P be bg bf)(hc:C≠.bQ)(a3:cG o a1 j a6)(R:bo bh (q+1) f l)
  (mk:Qm v (CA C)=ML) (hi:N8 v (.ref (CA C)) "__init__"=S (S (.ref r))) (ht:Oc v (.ref r)=S (.type "function"))
  (ho:e.get? r=S ah) (d2:ah.data=.func o) (c5:e.NoLimit) (d1:e.CodeRec o.code o.qualname) (t:Au a e o b9 ds) (T:b9.length<=a1.length) (X:a1.length<=j.length)
  (n0:a1[0]? = S a5) (kl:o.scope.names.lookup a5=S .local) (kd:(a5==("__debug__":MU))=MT)
  (K:Inv a e g b k s.heap) (lv:cK l g [] s.heap) (c6:bM a.params (Sf s.heap b g) b z a8) (hb:bindArgs a1.length b9 j.length (.none :: z)=S c7) (hl:w=c7.set 0 N) (B:bp i vs w k≠.bad)
  (c9:∀a9,Av h a e (N6 o a9 r :: l) (N6 o a9 r) j ((f.under (.builtin "type.__call__" ⟨.ref (CA C) :: a8,[]⟩)).deeper (N6 o a9 r)) i a5 (bS C) vs a6) :
  NK (MY h a) f (.call (.ref (CA C)) ⟨a8,[]⟩) (RR a e g l (mf C (bp i vs w k)) b s) s:=by
 have c1:v.In s.heap:=c2.In K;have k0:∀M ah,e.get? M=S ah->((s.heap.push NI).push (ND (CA C) s.heap.objs.size)).get? M=S ah:=λM ah D=>RA _ (RA _ (K.keep M ah D).1);obtain⟨hp,a0,p,n,os⟩:=s;refine make_core (makes_of c1 mk) (Pg c1 hi) (λd3=>bind_fn c1 d3 ht) (.inl rfl) (Ru (s:=⟨(hp.push NI).push (ND (CA C) hp.objs.size),a0,p,n,os⟩) (BQ R.depth rfl) (k0 _ _ ho) d2 a3.co a3.gen a3.body (ui k0 d1) (uj (s:=⟨hp,a0,p,n,os⟩) (P:=λc c8=>NK (MY h a) _ (.func a6 c) _ c8) hc a3 t c5 T X n0 kl kd K lv c6 hb hl λc J h' tk he eo a7 d0 a2=>codeAny_func ?_));subst he;refine Nk (xM c2 R.make eo a7 (c9 _) d0 rfl B) (λA s' L=>?_) λD s' L=>?_
 ·obtain⟨rfl,us,H',r',e1,ah,y'⟩:=L
  refine⟨rfl,?_⟩
  rw[e1]
  refine cg y'.at' λy x a4 A=>?_
  have d:aQ a e g [] b ⟨hp,a0,p,n,os⟩ r' H' s':=aQ.back (s:=⟨hp,a0,p,n,os⟩) a2 (ah.inc λC x=>x)
  have mx:hp.objs.size+1∈J:=eW a7.ix
  have md:hp.objs.size∈J:=eW a7.id
  have c4:hp.get? hp.objs.size=N:=bR _
  have c3:hp.get? (hp.objs.size+1)=N:=SV (So _)
  have nx:hp.objs.size+1∉g:=K.no c3
  have nd:hp.objs.size∉g:=K.no c4
  unfold mf
  rw[Res.aP]
  induction hf:fO C using RE with
  |true=>exact .ok d (.obj C us _ _ y x ⟨a4.x,(y'.st.inv.off _ mx).1,nx⟩ ⟨a4.d,(y'.st.inv.off _ md).1,nd⟩ (A.mono (λY Y U=>U.back a2.sub) (.refl _)))
  |false=>
   have iB:Inv a e g (r'.uQ (hp.objs.size+1,hp.objs.size)) {H' with I:=H'.I++[(C,us)]} s'.heap:=y'.st.inv.C0 (q:=(hp.objs.size+1,hp.objs.size)) mx md (Vb _) (λM x=>⟨a2.sub M x,(λD=>nx (by have D:M=hp.objs.size+1:=D;rw[<-D];exact x)),λD=>nd (by have D:M=hp.objs.size:=D;rw[<-D];exact x)⟩) a4.x a4.d A
   have G:=More.I r' (hp.objs.size+1,hp.objs.size)
   refine .ok (r':=r'.uQ (hp.objs.size+1,hp.objs.size)) ⟨d.eq,iB,⟨λM ob D z1 z2=>?_⟩,λH I D=>G.le.L H I (d.le.L H I D),λH I D=>G.le.D H I (d.le.D H I D),λH I D=>G.le.B H I (d.le.B H I D),λH I D=>G.le.I H I (d.le.I H I D)⟩ (.aA _ (hp.objs.size+1) hp.objs.size (by rw[<-y'.st.inv.dt.ja];exact fR))
   refine bK (d.keep.get M ob D z1 z2) λz3 z4=>⟨λU=>(G.mem.mp U).elim (λU=>?_) z3,z4⟩
   rcases RC.mp U with U|U
   ·rw[U,c3] at D;cases D
   ·rw[Rx.mp U,c4] at D;cases D
 ·have E : (mf C (bp i vs w k)).x? = (bp i vs w k).x?:=by
   unfold mf
   cases bp i vs w k with
   |ok L=>rw[Res.aP];induction(fO C) using RE<;>rfl
   |exc _ _=>rfl
   |bad=>rfl
  refine Nk L (λY s2 U=>?_) λm s2 U=>?_
  ·show EE _ _ _ _ _ _ _ _ _;rw[E];exact EF.back (s:=⟨hp,a0,p,n,os⟩) a2 U
  ·show EE _ _ _ _ _ _ _ _ _;rw[E];exact EF.back (s:=⟨hp,a0,p,n,os⟩) a2 U
section
open Builtin.ObjectAttr
noncomputable def IU:V MO:=[.type "Exception",.type "BaseException",.type "object"]
noncomputable def Gf(E:MO):O MS:=vw MO.ctorIdx 10 E λB=>T6 E B λI=>S I
theorem Dq(E:MO):aZ (Gf E) λI=>E=.ref I:=dq λB=>T6 (motive:=λE=>∀B,aZ (T6 (motive:=λ_=>O MS) E B λI=>S I) λI=>E=.ref I) E B (λI _=>rfl) B
noncomputable def ic:V MO->MP
 |[]=>MT
 |E :: y=>((Gf E).any λY=>ic y)||MX (E :: y=IU)
theorem sg(A:MO){T:V MO}(B:ic T=ML):refuseLoop A "__setattr__" T=pure ():=by
 induction T with
 |nil=>exact bF B
 |cons E y d=>
  rcases Sz.mp B with B|B;·exact k0 (P:=λE=>refuseLoop A "__setattr__" (E :: y)=pure ()) (Dq E) B λI B=>((refuseLoop_ref ..).trans (d B))
  ·exact R (M8 B) (PySem.F.store_Exception.passes A)
theorem Ax{T:V MO}(B:ic T=ML):T.contains (.type "object")=ML:=by
 induction T with
 |nil=>exact bF B
 |cons E y d=>
  rcases Sz.mp B with B|B;·refine aM (NR B) λY Y B=>?_;refine V.contains_cons.trans ?_;refine R (d B) ?_;exact(MP.or_true ..)
  ·refine R (M8 B) ?_;decide +kernel
structure vB(K:NA):Prop where
 sa:N8 K (.ref (CA .bQ)) "__setattr__"=S (S (.builtin "object.__setattr__"))
 over:(OD K (CA .bQ)).any (λcd=>ic cd.mro)=ML
 xe:PB K (CA .bQ) (sx 76)=S N
 make:mc K (CA .bQ)=ML
 init:N8 K (.ref (CA .bQ)) "__init__"=S (S (.ref 36))
 fn:Oc K (.ref 36)=S (.type "function")
theorem vC{s:MW}{r:MS}{M:MS}{H:NQ->MW->Prop}{x:Nl}{J:O Nl}{g:MU}{B:NM}{y:O MO}(l:v.In s.heap)(k:InstAt s.heap r x M J)(t:(OD v M).any (λK=>ic K.mro)=ML)(p:PB v M g=S y)
  (z:∀n,MZ (MY h a) f.in1 (match y with|some I=>setByDescriptor I (.ref r) aa|none=>storeInOwnDict (.ref r) (.ref M) (.str g B) g aa n)
   (λT i=>match T with|.done A=>H (.ok A) i|.again o=>o.quiet=ML/\NK (MY h a) f o H i) (λD i=>H (.error D) i) s) :
  NK (MY h a) f (.call (.builtin "object.__setattr__") ⟨[.ref r,.str g B,aa],[]⟩) H s:=by
 have d:=PySem.F.store_object;refine aM (NR t) λK j G=>?_;have m:K.mro.isEmpty=MT:=by cases q:K.mro with|nil=>replace G:=q▸G;cases G|cons _ _=>rfl
 refine Rj d.slot.plain d.entry (@P9 (MY h a) _ _ s "object.__setattr__" "object" "__setattr__" (.ref r) [.str g B,aa] [] _ d.kind d.split (k.type.andThen (P' l (by refine(oL j).trans ?_;refine(TG ..).trans ?_;refine(Nf (by rw[m];decide)).trans ?_;rw[Ax G]))) (d.args (.ref r) (.str g B) aa) ?_);refine iQ p λb c P=>?_;have e:Nu (MY h a) s.heap (storeTaker? b) y:=by
  clear d m t p
  induction b using Ry with
  |none=>exact sJ P .now
  |some I=>refine wc P λn w bE=>?_;clear P;subst bE;refine(looks_takesIn l w).andThen ?_;clear w;induction n using RE<;>exact .now
 rw[osa_eq,refuse_eq];refine MR (MR (k.type.here (MR ((show Nu (MY h a) s.heap (mroOf (.ref M)) K.mro from(Qd l j).andThen .now).here ?_))));rw[sg _ G];refine M0 (MR (k.type.here (MR ((Pg l c).here (MR (e.here ?_))))));exact z _
theorem Ay{s:MW}{r:MS}{n:MS}{o:MO}{e:NP->MW->Prop}(k1:uZ v)(i:vB v)(c:v.In s.heap)(x:s.heap.get? r=S (gP (CA .bQ) n))
  (H:∀m B P,(∀M z,M≠r->s.heap.get? M=S z->m.get? M=S z)->m.get? r=S {gP (CA .bQ) n with dict:=S s.heap.objs.size}->m.get? s.heap.objs.size=S (bB #[⟨Su a.params (sx 76),.str (sx 76) P,o⟩] 1)->e () {s with heap:=m,toks:=B}) :
  MZ (MY h a) f (PL (.ref r) (sx 76) o) e t s:=by have k:InstAt s.heap r (gP (CA .bQ) n) (CA .bQ) N:=⟨x,rfl,rfl,trivial⟩;refine aM k1.cls λK q p=>set_plain c k i.sa (vC (s:={s with toks:=s.toks+1}) c k i.over i.xe λM=>?_);refine MR (M0 (MR (MR (O3 x (MR (Nu.here (s:={s with toks:=s.toks+1}) (Qd c q) ?_))))));refine R p (MR (wpAny_alloc ?_));have l:(s.heap.push NI).get? r=S (gP (CA .bQ) n):=RA _ x;refine MR (QR l ?_);refine M0 (a:=S s.heap.objs.size) ?_;have j:=S7 (SF x);have d:((s.heap.push NI).update r λz=>{z with dict:=S s.heap.objs.size}).get? s.heap.objs.size=S NI:=(S9 _ _ (S8 j)).trans (R4 _ rfl);have g:((s.heap.push NI).update r λz=>{z with dict:=S s.heap.objs.size}).get? r=S {gP (CA .bQ) n with dict:=S s.heap.objs.size}:=R9 _ l rfl;refine MR (M0 (MR ?_));refine MR (MR (Qw (M0 (MR (QF (MR (O3 d ?_)))))));refine R (show(!(#[]:M5 Nt).any (·.key.isStr (sx 76))&&(#[]:M5 Nt).any (·.refKey))=MT from by simp) ?_;have G:=R9 (Vn (sx 76) (Su a.params (sx 76)) (.str (sx 76) (s.toks+1)) o) d (by refine R (show NI=bB #[] 0 from rfl) ?_;exact R (show Vn (sx 76) (Su a.params (sx 76)) (.str (sx 76) (s.toks+1)) o (bB #[] 0)=bB #[⟨Su a.params (sx 76),.str (sx 76) (s.toks+1),o⟩] 1 from rfl) rfl);refine Ro d ?_;refine MR (Qc G (Rp (by refine R N9 ?_;exact Va _)) ?_);refine M0 (H _ _ _ (λM z w D=>?_) ((S9 _ _ j).trans g) G);have b:s.heap.objs.size≠M:=S7 (SF D);exact(S9 _ _ b).trans ((S9 _ _ (S8 w)).trans (RA _ D))
end
structure sh(w:Nj)(h h':MV)(x d tup:MS)(tv:MO):Prop where
 kept:∀b o,h.get? b=S o->h'.get? b=S o
 nx:h.get? x=N
 nd:h.get? d=N
 nt:h.get? tup=N
 dx:d≠x
 tx:tup≠x
 gx:h'.get? x=S {gP (CA .bQ) tup with dict:=S d}
 gd:∃tt,h'.get? d=S (bB #[⟨Su w.params (sx 76),.str (sx 76) tt,tv⟩] 1)
theorem Az{d0:Z}{a0:MU}{a1:MU}{o:NJ}{ds:V MO}{a4:V Q}{n:Q}{i:MO}{R:NQ->MW->Prop}{p1 p2 p3 I:Ni}(C:Gr v e P be bg bf)(k2:vB v)(x:cG o [a0,a1] j [.Assign [.Attribute (.Name a0 p1) (sx 76) p2] (.Name a1 p3) I])(c:bo bh (d0+1) f l)
  (G:e.get? 36=S ah) (a7:ah.data=.func o) (L:e.NoLimit) (a6:e.CodeRec o.code o.qualname) (t:Au a e o a4 ds) (T:a4.length<=2) (X:j.length=2)
  (kl:o.scope.names.lookup a0=S .local) (kt:o.scope.names.lookup a1=S .local) (z:(a0==("__debug__":MU))=MT) (c5:(a1==("__debug__":MU))=MT)
  (K:Inv a e g b k d.heap) (lv:cK l g [] d.heap) (E:VR a.params (Sf d.heap b g) b n i)
  (H:∀m B a3 a8 c8,sh a d.heap m a3 a8 c8 i->R (.ok (.ret (.ref a3))) {d with heap:=m,toks:=B}) :
  NK (MY h a) f (.call (.ref (CA .bQ)) ⟨[i],[]⟩) R d:=by
 have ld:=(t.vals a.params (Sf d.heap b g) b).len;have k0:=λM ah D=>(K.keep M ah D).1;have a2:=C.In K;obtain⟨s,b9,dd,c1,os⟩:=d;have r:∀M ah,s.get? M=S ah->((s.push {cls:=.type "tuple",data:=.seq [i].toArray}).push (gP (CA .bQ) s.objs.size)).get? M=S ah:=λM ah D=>RA _ (RA _ D);have gx:((s.push {cls:=.type "tuple",data:=.seq [i].toArray}).push (gP (CA .bQ) s.objs.size)).get? (s.objs.size+1)=S (gP (CA .bQ) s.objs.size):=by heap_get
 have i1:Inv a e g b k ((s.push {cls:=.type "tuple",data:=.seq [i].toArray}).push (gP (CA .bQ) s.objs.size)):=K.grow r;have A:cK l g [] ((s.push {cls:=.type "tuple",data:=.seq [i].toArray}).push (gP (CA .bQ) s.objs.size)):=lv.cX (λY=>Sd _) r;refine xE (nY a2 k2.make) (by have:N1=_:=N9;simp;exact Va _) (Pg a2 k2.init) (λc6=>bind_fn a2 c6 k2.fn) ?_;refine enter (s:=⟨(s.push {cls:=.type "tuple",data:=.seq [i].toArray}).push (gP (CA .bQ) s.objs.size),b9,dd,c1,os⟩) (vals:=[.ref (s.objs.size+1),i]) (loc:=[N,S n]) x (BQ c.depth rfl) (r _ _ (k0 _ _ G)) a7 (uf.at L i1) ?_ (t.reads i1) (Sd _) (by simp) (by rw[<-ld];exact T) i1 A (by simp[X]) (λa5 c9 D=>?_) λd3 d2 s1 he p st y J c2=>?_;·exact qs a6 λcc oc w n e1 e2 e3 e4=>gU cc oc w n e1 (r _ _ (k0 _ _ e2)) e3 e4
 ·rcases a5 with _|_|a5;·exact nX (sX D)
  ·obtain rfl:=sX (sX D);exact ba i rfl (E.mono (λY Y U=>U.grow r) (.refl b))
  ·exact nX D
 ·subst he;refine cg y λm B bE c7=>?_;clear y c7 ld k0 a2 i1 A x c G a7 L a6 t X K lv E;subst bE;refine aM c2 λd1 hn hm=>PK (QU ?_ (hY (.Name a0 _) (sx 76) _ I.line _));refine O9 (O' p.kind kt hn (hm 1 a1 i rfl rfl kt) ?_) c5;refine O9 (O' p.kind kl hn (hm 0 a0 _ rfl rfl kl) ?_) z;refine Ay C.err k2 (C.In st.inv) (J _ _ gx) λT a9 tt kp c3 c4=>Ol ⟨rfl,H T a9 (s.objs.size+1) m.objs.size s.objs.size ⟨λM ah D=>kp M ah (λq=>?_) (J _ _ (r _ _ D)),SV (So _),?_,bR _,?_,Te (SD _),c3,tt,c4⟩⟩;·have:=SF D;rw[q] at this;exact Nh this (Tj.mpr (So _))
  ·refine SV ?_;have:=SF (J _ _ gx);exact Tg (Z.lt_of_succ_lt this)
  ·exact S7 (SF (J _ _ gx))
theorem nA{K:NA}{M:N0}{r:Nm MO}{o:NG->MW->Prop}(k1:uZ K)(h:Oc K (.ref (CA .bQ))=S (.type "type"))(l:f.handled=N)
  (B:MZ M f r (λE X=>∃D k w,E=.ref D/\K.In X.heap/\X.heap.get? D=S k/\k.cls=.ref (CA .bQ)/\k.data=.fields w/\w[1]? = S .none/\t (.ref D) X) t d):MZ M f (raiseStmt c (S r) N) o t d:=by
 refine MR (Nk B (λE X U=>?_) λY Y r=>r);refine KY U λD k w bE e C j J P y=>R bE ?_;have x:Nu M X.heap (PQ (.ref D)) (.ref (CA .bQ)):=by have:=(Nu.ld (M:=M) (part:=S headPart) C).andThen (f:=λz=>Pure.pure z.cls) (b:=.ref (CA .bQ)) (by exact R j .now);exact this
 have a:∀{o:MP->MW->Prop},o MT X->MZ M f (isType (.ref D)) o t X:=λq=>by refine MR (O3 C ?_);exact R J (M0 q)
 refine MR (M0 ?_);refine MR (Ny ?_);refine MR (MR (a (M0 ?_)));refine MR ((x.andThen (f:=λn=>Oo n (.type "BaseException")) (P' e k1.sub)).here ?_);refine M0 (MR (a ?_));refine MR (MR (x.here (MR ((looks_typeIn e h).here ?_))));refine M0 (MR (MR (OP C J P ?_)));exact M0 (wpAny_raiseNew_none l y)
theorem mh{a:MV}:∀{T:V Ng},cK T g [] p->(∀D∈T,∀I,D.frame=S I->a.get? I=N)->p.FunFrames a T:=by
 intro T;induction T with
 |nil=>intro _ _;trivial
 |cons D T f=>intro M w;refine hF λP=>M.el (.head _) λH I z y q A Y Y o h=>P ?_;exact fA H (qr I z A (w D (.head _) I A) o (λb L=>by replace L:=h.symm.trans L;cases L)) (f ⟨λj x=>M.all j (.tail _ x)⟩ λj x=>w j (.tail _ x))
theorem nB{fr:V MS}{c4:Z}{r:MS}{n:Q}{i:MO}{a4:MS}{B:Z}{a5:NP->MW->Prop}(R:bo bh c4 f (c :: o))(K:Inv a e g b k d.heap)(M:cK (c :: o) g [] d.heap)(E:VR a.params (Sf d.heap b g) b n i)(x:sh a d.heap X r A a4 i)
  (H:∀v,EF a e g fr o (S (n,k)) b d (.ref r) v->a5 () v):MZ T f (OF c (.ref r)) a5 t {d with heap:=X,toks:=B}:=by
 refine hF λa9=>?_;have i2:=K.grow x.kept;have L:=M.cX (λY=>Sd _) x.kept;have xo:r∉g:=K.no x.nx;have xf:r∉(c :: o).filterMap (·.frame):=λa1=>by refine aM (TY.mp a1) λD C J=>M.el C λY a6 z Y Y b9 a2 Y Y Y=>?_;replace J:=b9.symm.trans J;obtain rfl:=sX J;exact xo (Sa.mp (n4 a2 rfl))
 refine M.el (.head _) λY a6 Y Y Y J Y Y Y Y=>dD x.gd λP gd=>a9 ((l8 _ _).at (wpAny_leaving_firstW (base:=hideAll X (r :: (c :: o).filterMap (·.frame))) (a0:=.ref a4) R.frames (mh L (λD C a6 J=>Q5 _ (.tail _ (TY.mpr (ba D C J))))) J x.gx (λa3 z w=>of_hideAll _ w) (Q5 _ (.head _)) rfl rfl rfl λh4 s dk=>?_));refine hF λa7=>qj s λk1 cj k3 k4=>fK cj λY Y k2=>aM (dk r _ x.gx) λc2 G p=>?_;have a8:A∉g:=K.no x.nd;have kS:∀I z,Sf d.heap b g I z->Sf X b g I z:=λI z U=>U.grow x.kept;refine a7 (H _ (dI n k rfl (.mk g b d.heap r h4 B (λY a1=>a1) (λY a1=>.inl a1) K (.refl ..) (.refl b) x.nx (.mk _ (.ref a4) c2 A _ _ (qu k1 (Q5 _ (.head _)) k2 k3) (λa3 z D=>?_) G p x.dx (hideAll_get _ gd ?_) (K.fresh x.nd) a8 (.cons E .nil) x.nx (K.fresh x.nx) xo (K.g0 x.nx)))))
 ·have m:=x.kept _ _ D;by_cases a1:a3∈(c :: o).filterMap (·.frame)
  ·refine .inr (hF λc1=>aM (TY.mp a1) λj C h=>?_);obtain⟨_,L',o',es,n',f',a2,_,g2,y⟩:=L.all j C;rw[h] at f';cases f';replace m:=g2.symm.trans m;obtain rfl:=sX m;refine c1 (fA a2 (v7 es n' y) (hF λc3=>?_));obtain⟨l,q⟩:=k4 a3 _ g2 λvs q=>by replace q:=y.symm.trans q;cases q
   exact c3 ⟨l,q⟩
  ·refine .inl (hideAll_get _ m λU=>(RC.mp U).elim (λU=>?_) a1);rw[U,x.nx] at D;exact nomatch D
 ·intro a1;rcases RC.mp a1 with a1|a1;·exact x.dx a1
  ·refine aM (TY.mp a1) λj C h=>M.el C λY L' o' es n' f' a2 Y g2 y=>?_;rw[h] at f';cases f';replace g2:=x.nd.symm.trans g2;exact nomatch g2
structure j'(prog:Nv)(w:Nj)(g₀:MV)(K:NA):Prop where
 ks:vB K
 ty:Oc K (.ref (CA .bQ))=S (.type "type")
 keep:Pe K (.ref (CA .bQ))=ML
 run:∀(own:V MS) (l:V Ng) (A:Nw) (hd:O MO) (n:Z) (r:bH) (H:AH) (s:MW) (t:Q) (tv:MO) (R:NQ->MW->Prop),bo hd (n+1) A l->Inv w g₀ own r H s.heap->cK l own [] s.heap->VR w.params (Sf s.heap r own) r t tv->
  (∀h' tk x d tup,sh w s.heap h' x d tup tv->R (.ok (.ret (.ref x))) {s with heap:=h',toks:=tk})->NK (MY prog w) A (.call (.ref (CA .bQ)) ⟨[tv],[]⟩) R s
theorem SS.eU{env:Ng}{cp:Ni}{H:MU}(C:Gr v e P be bg bf)(l:j' h a e v)(R:bo N (q+1) f (env :: o))(hg:NZ v NO H=S (S (.ref (CA .bQ))))(hx:env.kindOf H=S .globalImplicit)(c:(H==("__debug__":MU))=MT)(w:notStar s=ML)
  (d:SE h a e (env :: o) env j f i af s):SS h a e o env j f i (.eU af) (.Raise (S (.Call (.Name H bj) [s] [] cp)) N J):=λg y b t A p G nb=>by
 rw[tE] at nb⊢;refine MR (NX ?_);refine nA (K:=v) C.err l.ty R.handled (MR ?_);refine MR (PD p.kind hx (P7 (env:=env) (by rw[p.glob];exact C.T.g.keeps λM z af=>(G.inv.keep M z af).1) (mg_of C.X C.T.g hg) ?_) c);have T:=SE.jt d w;have m:(aO i af A b).bind (λr=>(bp i .nil A r.2).bind λL=>(Res.exc r.1 L.2:Res (Fl×Loc×AH)))≠.bad:=by
  intro L;apply nb
  induction Y:aO i af A b using Wn with
  |ok r=>replace L:=Y▸L;cases L
  |exc _ _=>replace L:=Y▸L;cases L
  |bad=>rfl
 show MZ _ _ (PE cp _ [] (NW cp (NT [s] env)) []) _ _ _;refine QG (P:=λB=>v.In B) (by simp[T.noStar]) (λB a0=>PF l.keep B a0) (bC T.noStar ?_);rw[bx w];refine PySem.Calls.spliced_cons ((d g y b t A p G).ei R G.live p.fN (.refl G.inv) (λI H1 K k U X o1 p1 E D=>?_) nb);refine PySem.Calls.spliced_nil ⟨C.In o1.inv,?_⟩;rw[X];have dw:=G.on p p1;refine ON (l.run g (env :: o) f N q K H1 k I U _ R o1.inv dw.live E λh' tk r a1 n x=>MR (NX (M0 ?_)));exact KO r _ _ rfl (C.In (o1.inv.grow x.kept)) x.gx rfl rfl rfl (nB (fr:=bz env) R o1.inv dw.live E x λs' L=>EF.pre o1 p.fN L)
noncomputable def Fe(g:V MS)(P B:MV):Prop:=∀M z,P.get? M=S z->B.get? M=S z\/(2<=g.count M/\∃i,B.get? M=S {z with slots:=i})
theorem Fe.sf{P:MV}(x:Fe g P p)(U:Sf P b g n ah):Sf p b g n ah:=⟨(x n ah U.1).elim id λL=>Nh (Sa.mp (RS (by decide) L.1)) U.2.2,U.2⟩
theorem Fe.at{P:MV}(x:Fe g P p)(q:n∉g)(D:P.get? n=S ah):p.get? n=S ah:=(x n ah D).elim id λL=>Nh (Sa.mp (RS (by decide) L.1)) q
theorem Inv.slots{P:MV}(K:Inv a e g b k P)(x:Fe g P p):Inv a e g b k p:=by
 have T:∀I z,Sf P b g I z->Sf p b g I z:=λI z U=>x.sf U;have J:∀{I:MS},I∈b.M->I∉g:=λd L=>(K.off _ L).1 d;have C:=K.dt;refine⟨λM z D=>⟨?_,(K.keep M z D).2⟩,K.wG,K.off,λI d=>?_,⟨C.gW,C.i9,C.jO,C.ja,λH w I X m=>?_,λH w I X m=>?_,λH w I X m=>?_,λH f L X m=>?_⟩⟩;·refine x.at (λd=>?_) (K.keep M z D).1;exact nX (((K.off M d).2)▸D)
 ·obtain⟨z,D⟩:=K.ex I d;rcases x I z D with U|⟨_,i,U⟩;·exact⟨_,U⟩
  ·exact⟨_,U⟩
 ·exact cg (C.L H w I X m) λj q o E=>dI j q (x.at (J (kC m)) o) (E.mono T (.refl b))
 ·exact dF (C.D H w I X m) λy q v o E c=>kQ y q v (x.at (J (fQ m)) o) (E.mono T (.refl b)) c
 ·exact aM (C.B H w I X m) λM o E=>ba M (x.at (J (nN m)) o) E
 ·obtain⟨o,y,q,G,E⟩:=C.I H f L X m;exact⟨x.at (J (oR m)) o,y,q,x.at (J (jP m)) G,E.mono T (.refl b)⟩
theorem mi{M:N0}{D:MS}{k:Nl}{o:MP->MW->Prop}(k1:uZ v)(g:vB v)(h:Oc v (.ref (CA .bQ))=S (.type "type"))(r:v.In d.heap)(C:d.heap.get? D=S k)(j:k.cls=.ref (CA .bQ))(B:o ML d):MZ M f (excMatches (.ref D) (.ref (CA .bQ))) o t d:=by
 refine hF λl=>?_;obtain⟨⟨c,J,K,i,q,_,_⟩,_,_,_,A,_,a,_,_,_,_⟩:=nY (M:=M) r g.make;have x:Nu M d.heap (PQ (.ref D)) (.ref (CA .bQ)):=by have:=(Nu.ld (M:=M) (part:=S headPart) C).andThen (f:=λz=>Pure.pure z.cls) (b:=.ref (CA .bQ)) (by exact R j .now);exact this
 have I:∀{o:MP->MW->Prop},o ML d->MZ M f (isType (.ref (CA .bQ))) o t d:=λL=>by refine MR (O3 q ?_);exact M0 L
 refine l ?_;refine MR ((show Nu M d.heap (Pa (.ref (CA .bQ)) (.type "tuple")) MT from(looks_typeIn r h).andThen (f:=λn=>Oo n (.type "tuple")) (Nu.of_pure (by refine(Ou ..).trans ?_;kernel_rfl))).here ?_);refine MR (M0 ?_);refine MR (MR (MR ?_));have E:∀{o:MP->MW->Prop},o ML d->MZ M f (isExcClass (.ref (CA .bQ))) o t d:=λL=>by refine MR (I ?_);exact a.here L
 refine E (M0 (M0 (MR (x.here ?_))));refine MR (MR (MR (A.here ?_)));exact M0 (M0 (M0 B))
theorem bo.marked(R:bo N q f l){D:MS}:bo (S (.ref D)) q (f.mark (S (.ref D))) l:=⟨by show(S (MO.ref D)).or f.handled=_;rfl,R.frames,R.depth,R.units⟩
theorem Dr{eX:CF}(j:eX=λY Y Y=>Res.bad):iy h a e bh eX q:=⟨λg T f G X b y t w Y Y Y Y B=>Nh (by refine R j rfl) B⟩
theorem Ds{P:MV}{c:V MS}{t:MS}{n:MV}{w:MO}{m:MV}(d:VJ n l t (.ref (CA .bQ)) w m)
  (v:∀M z,P.get? M=S z->n.get? M=S z\/(2<=c.count M/\(∃y q,z.data=.dict y q)/\∃i,p.get? M=S {z with slots:=i})) (h:p.UpToSlots m):Fe c P m:=λM z D=>by
 rcases v M z D with U|⟨C,⟨y,q,L⟩,i,U⟩;·exact .inl (d.1 M z U)
 ·obtain⟨I,b⟩:=h M _ U λa s=>by replace s:=L.symm.trans s;cases s
  exact .inr ⟨C,I,b⟩
theorem si{a3:NP->MW->Prop}(p:bk g c j)(G:St a e g l c j b k w d)(hj:j[K]? = S (S r))(hk:c.kindOf r=S .local)
  (hQ:∀v,aQ a e g (bz c) b d b k v->St a e g l c j b k (w.set K N) v->a3 () v):MZ T f (do bindName c r .none;unbindBehindTheSuite c r J) a3 t d:=by
 have a4:∀{B:Z} {C:MU} {L:Q},j[B]? = S (S C)->(w.set K N)[B]? = S (S L)->C≠r/\w[B]? = S (S L):=by
  intro B C L X m;by_cases q:K=B
  ·subst q;refine hF λA=>?_;replace m:=Up.symm.trans m;refine kA (w[K]?) (λU=>?_) (λa8 U=>?_);·exact nX (U▸m)
   ·replace m:=U▸m;cases m
  ·replace m:=(R7 q).symm.trans m;refine⟨λU=>?_,m⟩;subst U;exact q (p.E' K B _ hj X)
 refine aM G.dS.ns λx n hm=>?_;refine wpAny_nameGoes_keeps hk n (by refine R p.kind ?_;rfl) λh' a7 a1 sb=>?_;have P:∀M z,M≠c.locals->d.heap.get? M=S z->h'.get? M=S z:=λM z q U=>(sb.2 M q).trans U;have S':∀I z,Sf d.heap b g I z->Sf h' b g I z:=λI z U=>U.but P (.inr (.inl p.loc));have ob:∃z y a5,h'.get? c.locals=S z/\z.data=.dict y a5:=by obtain⟨z,y,ep,o,h,_⟩:=a1;exact zM z y ep o h
 have i:Inv a e g b k h':=G.inv.loose P (.inl p.loc) (G.inv.off _ p.loc).1 λY=>wb ob λz Y Y o Y=>⟨z,o⟩;refine hQ _ (.mk' i (.but (a:=c.locals) P (.inr (.inl (.head _)))) (.refl b)) ⟨i,⟨(ba _ a1 (λB C L X m s=>?_)),λC a2 D=>?_,by refine Tb.trans ?_;exact G.dS.len⟩,G.live.at P (.inl ob)⟩;·refine bK (a4 X m) λq a0=>?_;refine aM (hm B C L X a0 s) λH z1 z2=>?_;exact ba H (by refine(Nf q).trans ?_;exact z1) (z2.mono S' (.refl b))
 ·refine aM (G.dS.jM C a2 D) λov bE hc=>?_;refine hF λa6=>?_;refine aM bE λz o h=>?_;refine a6 ?_;refine ba ov (ba z (P _ _ (p.jM C a2 D).2 o) h) (λB L X m s=>?_);refine hF λE=>?_;refine bK (a4 X m) λq a0=>?_;refine aM (hc B L X a0 s) λH z1 z2=>?_;refine E ?_;exact ba H z1 (z2.mono S' (.refl b))
theorem SS.kO{env:Ng}{l:LE}{U:MQ}{nm:MU}{p1 p2 p3:Ni}(C:Gr v e P be bg bf)(a6:j' h a e v)(R:bo N q f (env :: o))(ih:SE h a e (env :: o) env j f i af s)
  (g4:∀t:MS,SE h a e (env :: o) env j (f.mark (S (.ref t))) (λY Y Y=>Res.bad) l U) (hj:j[K]? = S (S r)) (hk:env.kindOf r=S .local)
  (hg:NZ v NO nm=S (S (.ref (CA .bQ)))) (hx:env.kindOf nm=S .globalImplicit) (d9:(nm==("__debug__":MU))=MT)
  (d:Pj env=MT) (g5:N4 s N p1.line env=pure MT) (e5:N4 U N p2.line env=pure MT) :
  SS h a e o env j f i (.kO af K l) (.Try [.Expr s p1] [.ExceptHandler (S (.Name nm bj)) (S r) [.Expr U p2] p3] [] [] J):=λg y b a5 A p G B=>by
 rw[oN] at B⊢;have D:aO i af A b≠.bad:=λL=>B (by rw[L]);refine wpAny_Try_except (PK (QO (Nk (ih g y b a5 A p G D) (λc4 s1 L=>?_) λX s1 L=>?_) d g5));·refine dF L λI H1 r1 ev o1 v1=>?_;rw[ev];exact Ol (Ol (gU .next A H1 r1 rfl o1.wide (G.on p o1) trivial))
 ·refine cg L λn H1 ev x1=>?_;refine i5.el x1 λh9 r1 hr t h1 c9 za zb z1 z2 z3 z4 z7=>?_;refine z7.el λh4 a0 oe a4 es ne fw fb H y2 y3 c y5 y6 y7 f0 f1 f2 f3=>?_;have c5:aO i af A b=.exc n H1:=by
   induction L:aO i af A b using Wn with
   |ok _=>exact nX (L▸ev)
   |bad=>exact(D L).elim
   |exc t2 H2=>replace ev:=L▸ev;refine sQ ev ?_;rfl
  rw[c5] at B⊢;dsimp only at B⊢;refine G.live.el (.head _) λY h5 Y Y Y hf Y Y Y Y=>?_;refine(jr _ _).at (wpAny_looks_onW R.frames hf fw λh2 e3 e9 e7=>?_);refine(gs _ _).at (wpAny_landsW e3 λh3 a2 d8 d5=>?_);have k:∀M z,e.get? M=S z->h3.get? M=S z:=λM z af=>by
   rcases fb M z (z1.keep M z af).1 with L|⟨a1,_⟩;·exact a2.1 M z L
   ·exact nX (((z1.off M (Sa.mp (by exact n4 a1 rfl))).2)▸af)
  refine aM a2.there λh7 e6 d1=>?_;refine wpAny_handleBy_cons (codeAny_handlers_test (PD p.kind hx (P7 (env:=env) (by rw[p.glob];exact C.T.g.keeps k) (mg_of C.X C.T.g hg) ?_) d9)) (by intro L;cases L);refine mi C.err a6.ks a6.ty (C.X.keeps k) e6 d1 ?_;refine codeAny_handlers_suite_as ?_;refine(gs _ _).at (lands_againW a2 λm a3 c3 e2=>?_);have T:=Ds a3 fb ((e9.trans d8).trans c3);have o6:aQ a e g [] y a5 r1 H1 {a5 with heap:=m,toks:=c9}:=by
   refine .mk' ((z1.slots T).drop za) ⟨λM z af x q=>?_⟩ z3;refine hF λd0=>?_;obtain⟨m1,o1,X,sm⟩:=z2.get M z af x q;refine d0 ?_;refine⟨m1,?_⟩;refine hF λb9=>?_;rcases T M o1 X with L|⟨a1,c1,L⟩;·refine b9 ?_;exact ba o1 L sm
   ·refine b9 ?_;refine ba _ L (sm.trans (.inr ⟨?_,c1,rfl⟩));exact(zb M a1).elim id λL=>by exact nX (L.symm.trans af)
  refine hF λg1=>?_;refine aM (e7 t oe H) λg8 g2 d2=>?_;refine aM (d5 t g8 g2) λe4 g3 d3=>?_;refine aM (e2 t e4 g3) λc6 g6 d6=>?_;have c8:VR a.params (Sf m r1 g) r1 (.exc n) (.ref t):=by refine hF λe0=>?_;obtain⟨_,_,_,h0,c2,T7,g9,h8,g7,⟨c7,_⟩,d7,_⟩:=id a3;replace g7:=g6.symm.trans g7;obtain rfl:=sX g7;refine e0 ?_;exact .exc n t a4 c6 es ne (fA g6 f1 (λx=>f2 (za t x))) c7 (d6.trans (d3.trans (d2.trans y2))) ⟨c2,d7⟩ (fA (a3.1 a4 _ c) y5 (λx=>y6 (za a4 x))) (y7.mono (λI z U=>⟨(T.sf U).1,U.2.1,λx=>U.2.2 (za I x)⟩) (.refl r1))
  refine g1 ?_;refine et p (G.on p o6) j0.all hj (.inl hk) c8 λs7 o7 a9=>?_;have a7:aO (λY Y Y=>Res.bad) l (A.set K (S (.exc n))) H1≠.bad:=λL=>B (by rw[L];rfl);refine PK (QO (Nk (g4 t g r1 H1 s7 _ p a9 a7) (λc4 w L=>?_) λe8 w L=>?_) d e5);·refine dF L λa8 H8 r8 E o8 v8=>?_;rw[E];refine Ol ?_;refine si p (a9.on p o8) hj hk λs9 o9 d4=>?_;exact gU .next _ H8 r8 rfl (((o6.wide.trans o7).trans o8.wide).trans o9) d4 trivial
  ·refine cg L λt8 H8 E Y=>?_;exfalso;refine BR (aO (λY Y Y=>Res.bad) l (A.set K (S (.exc n))) H1) (λY L=>?_) (λY Y L=>?_) (λL=>?_);·exact nX (L▸E)
   ·exact B (by rw[L];rfl)
   ·exact a7 L
set_option backward.match.sparseCases true
section
open Sem (wp)
noncomputable def cU:N5->MP
 |.builtin J _=>Tz.contains J||["bytearray.__contains__","bytearray.__mod__","bytearray.__rmod__","_struct.pack_into.held","bytearray.find.held"].contains J
 |_=>MT
noncomputable def sj(T:V (N5×Ni)):Prop:=∀L∈T,cU L.1=MT
structure Nd(Γ:Ctx)(A:Nw):Prop where
 within:Γ.In A
 code:cU Γ.code=MT
 below:sj Γ.below
noncomputable def dQ{i:Type}(w:N0)(f:Nw)(n:Nm i)(o:i->MW->Prop)(I:MO->MW->Prop)(t:MW):Prop:=∀a P,Nd a f->wp w a n (λb Y v=>o b v) (λD Y v=>I D v) P t
noncomputable def codeN(w:N0)(f:Nw)(C:N5)(R:NQ->MW->Prop)(t:MW):Prop:=∀a P,a.code=C->a.Below f->sj a.below->wpCode w a R P t
theorem bJ{n:Nm G}{o:G->MW->Prop}(B:MZ T f n o t d):dQ T f n o t d:=λa P q=>B a P q.within
theorem xN{C:N5}{R:NQ->MW->Prop}(B:NK T f C R d):codeN T f C R d:=λa P j w Y=>B a P j w
theorem bt{E:MO->MW->Prop}{n:Nm G}{o b:G->MW->Prop}{c:MO->MW->Prop}(B:dQ T f n o E d)(H:∀I d,o I d->b I d)(y:∀D d,E D d->c D d):dQ T f n b c d:=λa P q=>TH T a n (λI Y d=>H I d) (λD Y d=>y D d) P d (B a P q)
theorem fi{C:N5}{R b:NQ->MW->Prop}(B:codeN T f C R d)(K:∀y d,R y d->b y d):codeN T f C b d:=λa P j w n=>wpCode_mono K (B a P j w n)
theorem qV{I:G}{o:G->MW->Prop}(B:o I d):dQ T f (pure I) o t d:=λY Y Y=>B
theorem bN{x:Nm G}{A:G->Nm az}{o:az->MW->Prop}(B:dQ T f x (λI v=>dQ T f (A I) o t v) t d):dQ T f (x >>= A) o t d:=λa P q=>by exact R (VM ..) (TH T a x (λI l v m=>m a l q) (λY Y Y m=>m) P d (B a P q))
theorem aJ{x:Nm G}{A:G->Nm az}{o:az->MW->Prop}(B:MZ T f x (λI v=>dQ T f (A I) o t v) t d):dQ T f (x >>= A) o t d:=bN (bJ B)
theorem fG{w:V MO}{x:Nm G}{o:G->MW->Prop}(B:dQ T f x o t d):dQ T f (PA w x) o t d:=λa P q=>by exact R (Nm.wp_holding ..) (B a P q)
theorem xO{w:V MO}{x:Nm G}{o:G->MW->Prop}(B:dQ T f x o t d):dQ T f (x.keep w) o t d:=λa P q=>by exact R (Nm.wp_keep ..) (B a P q)
theorem hH{x:Nm G}{H:MO->Nm NP}{o:G->MW->Prop}(B:dQ T f x o (λD v=>MZ T f (H D) (λY s=>t D s) t v) d):dQ T f (x.onRaise H) o t d:=λa P q=>by exact R (Nm.wp_onRaise ..) (TH T a x (λY Y Y m=>m) (λD l v m=>m a l q.within) P d (B a P q))
theorem fj{C:N5}{R:NQ->MW->Prop}(j:cU C=MT)
  (B:dQ T (f.under C) (T.den C) (λb v=>match b with|.done A=>R (.ok A) v|.again o=>o.quiet=ML/\codeN T f o R v) (λD v=>R (.error D) v) d):codeN T f C R d:=λa P z h n=>by
 rw[wpCode_iff_wp,z];refine TH T a _ (λb l v m=>?_) (λY Y Y m=>m) P d (B a P ⟨z▸h.in,by rw[z];exact j,n⟩);cases b with
 |done A=>exact m
 |again o=>exact⟨m.1,m.2 (a.goto o) l rfl (h.goto o) n⟩
theorem Nd.enter{a:Ctx}(q:Nd a f)(C:N5)(B:O MO)(P:Ni):sj (a.enter C B P).below:=λL x=>by
 rcases RC.mp x with rfl|x;·exact q.code
 ·exact q.below L x
theorem pF{C:N5}(j:codeN T f C (λy v=>match y with|.ok (.ret E)=>ai E v|.ok _=>Nx|.error D=>t D v) d):dQ T f (runValue C) ai t d:=λa P q=>by refine R (Nm.wp_runValue ..) ?_;exact j _ P rfl (q.within.enter C N P (by intro r;exact nX r)) (q.enter C N P)
theorem jx{A:MO}{p:V MO}{k:V (MU×MO)}(j:codeN T f (.call A ⟨p,k⟩) (λy v=>match y with|.ok (.ret E)=>ai E v|.ok _=>Nx|.error D=>t D v) d):dQ T f (N3 A p k) ai t d:=pF j
theorem AA{C:N5}{B:O MO}{o:NG->MW->Prop}(j:codeN T (f.mark B) C (λy v=>match y with|.ok A=>o A v|.error D=>t D v) d)(h:B≠S byPass):dQ T f (run C B) o t d:=λa P q=>by refine R (Nm.wp_run ..) ?_;exact j _ P rfl (q.within.enter C B P h) (q.enter C B P)
theorem sk{C:N5}{h:O MO}{o:NG->MW->Prop}(j:codeN T (f.mark h) C (λy v=>match y with|.ok A=>o A v|.error D=>PM T f c t D v) d)(a:h≠S byPass):dQ T f (runOwn C c h) o t d:=hH (AA j a)
theorem pG{A:N5×Ni->MP}{o:MP->MW->Prop}(J:∀L,cU L.1=MT->A L=MT)(B:o MT d):dQ T f (do return(<-stack).any A) o t d:=λa P q=>by
 show o (((a.code,P) :: a.below).any A) d;have:((a.code,P) :: a.below).any A=MT:=by
  rw[U6];intro L x;refine R (MP.not_eq_true ..) ?_;rcases RC.mp x with rfl|x;·exact J _ q.code
  ·exact J _ (q.below L x)
 exact R this B
theorem iJ{o:NG->MW->Prop}(B:o .next d):dQ T f (Oi [] c) o t d:=bJ (Ol B)
theorem hK{G:Na}{j:V Na}{o:NG->MW->Prop}(B:dQ T f (exec G c) (λA v=>match A with|.next=>dQ T f (Oi j c) o t v|A=>o A v) t d):dQ T f (Oi (G :: j) c) o t d:=λa P q=>by refine R (VM ..) (TH T a _ (λA l v m=>?_) (λY Y Y m=>m) _ _ (B a P q));induction A using SI<;>first|exact m a l q|exact m
theorem Dt{a:MQ}{l b:V Na}{o:NG->MW->Prop}(B:MZ T f (isTrue a c (PySem.eval a c)) (λM q=>if M then dQ T f (Oi l c) o t q else dQ T f (Oi b c) o t q) t d):dQ T f (PySem.exec (.If a l b J) c) o t d:=R (exec_If ..) (aJ (NX (aJ (Nk B (λM q K=>by induction M using RE<;>exact K) λY Y r=>r))))
theorem sr{D:MQ}{o:NG->MW->Prop}(B:dQ T f (PySem.eval D c) (λE=>o (.ret E)) t d):dQ T f (PySem.exec (.Return (S D) J) c) o t d:=R (exec_Return_some ..) (aJ (NX (bN (bt B (λE v m=>qV m) λY Y r=>r))))
theorem xP{D:MQ}{o:NG->MW->Prop}(B:dQ (MY h a) f (PySem.eval D c) (λY=>o .next) t d)(b:Pj c=MT)(P:N4 D N J.line c=pure MT):dQ (MY h a) f (PySem.exec (.Expr D J) c) o t d:=R (exec_Expr c D J b P) (aJ (NX (bN (bt B (λE v m=>bJ (wpAny_dropValue m)) λY Y r=>r))))
theorem kV{z:MQ}{b:MU}{g:Ni}{a:MQ}{o:NG->MW->Prop} (B:dQ T f (PySem.eval a c) (λE X=>MZ T f (PySem.eval z c) (λy q=>MZ T f (PL y b E) (λY=>o .next) t q) t X) t d) (P:N4 a (S (.Attribute z b g)) J.line c=pure MT):dQ T f (PySem.exec (.Assign [.Attribute z b g] a J) c) o t d:=R (plainObj_exec_Assign_Attribute z b g a J P) (aJ (NX (bN (bt B (λE X U=>bJ (MR (MR (Ny (Nk U (λy q K=>MR (NX (MR (Ny (Nk K (λY e L=>wpAny_release (M0 L)) λY Y r=>r))))) λY Y r=>r))))) λY Y r=>r))))
theorem oa{P:MV->Prop}{A:MO}{first:V MO}{e:V (MP×Nm MO)}{g:V (O MU×Nm MO)}(a:(e.any (·.1)||g.any (·.1.isNone))=MT)
  (j:∀B,P B->∃H,(H=Keeper.frame\/H=Keeper.machine\/H=Keeper.boundFrame)/\Nu T B (keeperOf A) H)
  (B:MZ T f (evalArgs A ML e g) (λI X=>P X.heap/\dQ T f (N3 A (first++I.pos) I.kw) ai t X) t d):dQ T f (PE J A first e g) ai t d:=by
 refine aJ (Ny (Nk B (λI X U=>aJ (NX ?_)) λY Y r=>r));refine aM (j _ U.1) λH w i=>R a (aJ (i.here ?_));have b:∀{n:Nm MO},dQ T f n ai t X->dQ T f (n >>= λy=>PA [y] point >>= λY=>pure y) ai t X:=λh=>bN (bt h (λy q k=>bJ (MR (Ny (P0 (M0 k))))) λY Y r=>r);have m (c:MO):dQ T f (callMarked c A (first++I.pos) I.kw) ai t X:=by exact xO U.2
 clear i a B;rcases w with rfl|rfl|rfl<;>dsimp only<;>first|exact b U.2|(split<;>first|exact b U.2|exact b (m _))
theorem xQ{A:MO}{X:Args}:cU (.call A X)=MT:=rfl
theorem xR{l:V Na}:cU (.func l c)=MT:=rfl
theorem mj{H:NQ->MW->Prop}{l:V Na}(B:dQ (MY h a) (f.deeper c) (Oi l c) (λA v=>H (.ok (.ret (match A with|.ret E=>E|_=>.none))) v)
   (λD v=>MZ (MY h a) (f.deeper c) (OF c D) (λY s=>H (.error D) s) (λj s=>H (.error j) s) v) d):codeN (MY h a) f (.func l c) H d:=by refine fj xR (aJ (P0 (bN (hH (bt B (λA v m=>?_) λY Y m=>m)))));induction A using SI<;>exact bJ (M0 m)
theorem eS{s:MW}{H:NQ->MW->Prop}{l:V Na}{X:Args}{o:NJ}(z:f.depth<QE)(G:s.heap.get? n=S ah)
  (y:ah.data=.func o) (i:o.scope.isCoroutine=MT) (M:o.scope.isGenerator=MT) (k:o.body=.stmts l) (t:s.heap.CodeRec o.code o.qualname)
  (B:MZ (MY h a) f.in1 (PySem.bindArgs o X) (λr x=>
   MZ (MY h a) f.in1 (Qi o.scope o.globals o.closure r (o.qualname++".<locals>.") (S n) o.code N o.builtins)
    (λc q=>q.heap.NoLimit/\codeN (MY h a) f (.func l c) H q) (λD v=>H (.error D) v) x) (λD v=>H (.error D) v) s) :
  codeN (MY h a) f (.call (.ref n) X) H s:=by refine fj xQ (bJ ?_);show MZ _ f.in1 (Qk (.ref n) X) _ _ s;refine MR (Oy G ?_);refine qs t λC b w T j d g e=>?_;rw[y];dsimp only[callFunction];rw[k,M,i,j];dsimp only;rw[j] at B;refine MR (m:=field (.ref C) 1) (OP d g e (MR (M0 ?_)));exact MR (Nk B (λr x U=>MR (Nk U (λc q K=>MR (wpAny_enterFrame K.1 z (M0 (Vj rfl K.2)))) λY Y p=>p)) λY Y p=>p)
end
set_option backward.match.sparseCases false
abbrev qk:=Loc->AH->Res (Q×AH)
abbrev mP:=Loc->AH->Res (Fl×Loc×AH)
noncomputable def Gg(A o:mP):mP:=λT b=>(A T b).bind λL=>match L.1 with
 |.next=>o L.2.1 L.2.2
 |.ret E=>.ok (.ret E,L.2.1,L.2.2)
noncomputable def Du:mP:=λT b=>.ok (.next,T,b)
noncomputable def JS(e:CF)(C:LE)(A o:mP):mP:=λT b=>(mO e C T b).bind λL=>if L.1 then A T L.2 else o T L.2
noncomputable def Gh(D:qk):mP:=λT b=>(D T b).bind λy=>.ok (.next,T,y.2)
noncomputable def Gi(D:qk):mP:=λT b=>(D T b).bind λy=>.ok (.ret y.1,T,y.2)
noncomputable def BY(e:CF)(h:V Q->AH->Res (Q×AH))(l:cz):qk:=λT b=>(bp e l T b).bind λL=>h L.1 L.2
noncomputable def BZ(e:CF)(h:V Q->AH->Res (Q×AH))(D:LE)(x A:Z)(l:cz):qk:=λT b=>(aO e D T b).bind λy=>match aK y.2 y.1 x with
 |some (.own r)=>if r=A then(bp e l T y.2).bind λL=>h (y.1 :: L.1) L.2 else .bad
 |_=>.bad
noncomputable def B0(w:N0)(f:Nw)(c:Ng):MO->MW->Prop:=λD v=>MZ w f (OF c D) (λY Y=>Nx) (λY Y=>Nx) v
noncomputable def mn(l:Nv)(a:Nj)(d:MV)(T:V Ng)(c:Ng)(i:V (O MU))(f:Nw)(e:qk)(r:MQ):Prop:=∀g y b t A,bk g c i->St a d g T c i y b A t->∀L,e A b=.ok L->∀I,dQ (MY l a) f (PySem.eval r c) (QQ a d g (lL a) [] (.ok L) y t) I t
noncomputable def gM(l:Nv)(a:Nj)(d:MV)(o:V Ng)(c:Ng)(i:V (O MU))(f:Nw)(e:mP)(r:Na):Prop:=∀g y b t A,bk g c i->St a d g (c :: o) c i y b A t->∀L,e A b=.ok L->dQ (MY l a) f (PySem.exec r c) (QS a d g (bz c) o c i (.ok L) y t) (λY Y=>Nx) t
noncomputable def mQ(l:Nv)(a:Nj)(d:MV)(o:V Ng)(c:Ng)(i:V (O MU))(f:Nw)(e:mP)(r:V Na):Prop:=∀g y b t A,bk g c i->St a d g (c :: o) c i y b A t->∀L,e A b=.ok L->dQ (MY l a) f (Oi r c) (QS a d g (bz c) o c i (.ok L) y t) (λY Y=>Nx) t
noncomputable def RN(a:Nj)(d:MV)(g:V MS)(L:Q×AH)(y:bH)(t:MW):NQ->MW->Prop:=λr v=>match r with
 |.ok (.ret E)=>QQ a d g (lL a) [] (.ok L) y t E v
 |_=>Nx
noncomputable def oh(l:Nv)(a:Nj)(d:MV)(q:Z)(G:Key)(h:V Q->AH->Res (Q×AH)):Prop:=∀g T f X b y t w,bo N q f T->Inv a d g y b t.heap->cK T g [] t.heap->bM a.params (Sf t.heap y g) y X w->∀L,h X b=.ok L->codeN (MY l a) f (.call (.ref (fE G)) ⟨w,[]⟩) (RN a d g L y t) t
theorem bU{r:Res G}{A:G->Res az}{M:az}(B:r.bind A=.ok M):∃I,r=.ok I/\A I=.ok M:=by
 induction r using Wn with
 |ok I=>exact ba I rfl B
 |exc _ _=>cases B
 |bad=>cases B
theorem xS{a:Ctx}{n:Nm G}:∀{P:Ni} {t:MW},Nm.wp T a n (λY Y Y=>Nx) (λY Y Y=>Nx) P t->Nx:=by
 induction n with
 |pure I=>intro P t B;exact B
 |raise D=>intro P t B;exact B
 |unsupported _=>intro P t B;exact B
 |finish _=>intro P t B;exact B
 |rule _ H d | «at» _ H d|alloc _ H d|loadIfAlive _ H d|point _ H d|fresh H d|ask H d|os _ _ H d|handled _ H d|newGen _ H d|stack H d|thread H d=>intro P t B;exact d _ B
 |load I _ H d=>intro P t B;obtain⟨z,_,B⟩:=B;exact d _ B
 |update I _ A H d=>intro P t B;exact d _ B.2
 |register _ _ _=>intro P t B;exact B
 |choose _ _ H d=>intro P t B;exact d _ B.2
 |call C q b l H d=>intro P t B;obtain⟨y,v,_,B⟩:=B;exact d _ B
 |genState o H d=>intro P t B;obtain⟨_,_,B⟩:=B;exact d _ B
 |resume o y l H d=>intro P t B;obtain⟨_,v,_,B⟩:=B;exact d _ B
 |yield _ _ _ _ _=>intro P t B;exact B
 |fork _ _ _=>intro P t B;exact B
 |await _ _ _ _ _ _=>intro P t B;exact B
theorem oi{n:Nm G}{o:G->MW->Prop}(B:dQ T f n o (B0 T f c) d):dQ T f n o (λY Y=>Nx) d:=λa P q=>
 TH T a n (λY Y Y U=>U) (λD l v U=>xS (U a l q.within)) P d (B a P q)
theorem ES.B1{D:MO}{n:MW}(L:ES a e g T f aq o c N b d D n):B0 T f c D n:=Nk L (λY Y L=>EF.no L) λY Y L=>EF.no L
theorem gM.Hy{G:LS}{r:Na}(B:SS h a e o c j f i G r):gM h a e o c j f (cN i G) r:=λg y b t A p G L D=>by have:=B g y b t A p G (R D λU=>nomatch U);rw[D] at this;exact oi (bJ (Nk this (λY Y U=>U) λY Y U=>ES.B1 U))
theorem mQ.Hy{G:dR}{r:V Na}(B:qM h a e o c j f i G r):mQ h a e o c j f (aW i G) r:=λg y b t A p G L D=>by have:=B g y b t A p G (R D λU=>nomatch U);rw[D] at this;exact oi (bJ (Nk this (λY Y U=>U) λY Y U=>ES.B1 U))
theorem mn.Hy{n:LE}(B:SE h a e l c j f i n aj):mn h a e l c j f (aO i n) aj:=λg y b t A p G L D I=>by have:=B g y b t A p G (R D λU=>nomatch U);rw[D] at this;exact bJ (Nk this (λY Y U=>U) λY Y L=>EE.no L)
theorem mQ.nil:mQ h a e o c j f Du []:=λg y b t A p G L D=>by exact CP D (iJ (gU .next A b y rfl (.refl G.inv) G trivial))
theorem mQ.cons{w:mP}{C:mP}{r:Na}{s:V Na}(p:gM h a e o c j f w r)(v:mQ h a e o c j f C s):mQ h a e o c j f (Gg w C) (r :: s):=λg y b t A l G L D=>by
 refine hF λH=>aM (bU D) λqW X m=>?_;clear D;obtain⟨q,i,n⟩:=qW;refine H (hK (bt (p g y b t A l G _ X) (λd k z=>?_) λY Y z=>z));refine qs z λY Y Y K x o1 dw z=>?_;clear b A G X p;cases x;induction q using Fl.casesOn with
 |next=>
  cases d with
  |next=>exact bt (v g K n k i l dw L m) (λY Y z=>z.pre o1) λY Y z=>z
  |_=>exact z.elim
 |ret E=>
  cases d with
  |ret B=>refine CP m ?_;exact gU (.ret E) i n K rfl o1 dw z
  |_=>exact z.elim
theorem gM.ifs{B:mP}{E:mP}{C:LE}{q n:V Na}(d:ST h a e (c :: o) c j f i C s)(r:mQ h a e o c j f B q)(w:mQ h a e o c j f E n):gM h a e o c j f (JS i C B E) (.If s q n J):=λg y b t A p G L D=>by
 refine hF λH=>aM (bU D) λqW X m=>?_;obtain⟨M,l⟩:=qW;have:=d g y b t A p G (R X λz=>nomatch z);replace this:=X▸this;refine H (Dt (Nk this (λv k z=>?_) λY Y L=>EE.no L));refine dF z λY Y K x o1 z=>?_;clear D X d;obtain⟨rfl,rfl⟩:=mY x;clear x;obtain rfl:M=v:=z;induction M using RE with
 |true=>exact bt (r g K l k A p (G.on p o1) L m) (λY Y z=>z.pre o1.wide) λY Y z=>z
 |false=>exact bt (w g K l k A p (G.on p o1) L m) (λY Y z=>z.pre o1.wide) λY Y z=>z
theorem gM.exp{D:qk}(i:mn h a e (c :: o) c j f D s)(d:Pj c=MT)(P:N4 s N J.line c=pure MT):gM h a e o c j f (Gh D) (.Expr s J):=λg y b t A p G L D=>by refine aM (bU D) λqW X m=>CP m (xP (bt (i g y b t A p G _ X _) (λE k z=>?_) λY Y z=>z) d P);refine hF λH=>dF z λY Y K x o1 z=>?_;obtain⟨rfl,rfl⟩:=mY x;exact H (gU .next A qW.2 K rfl o1.wide (G.on p o1) trivial)
theorem gM.ret{D:qk}(d:mn h a e (c :: o) c j f D s):gM h a e o c j f (Gi D) (.Return (S s) J):=λg y b t A p G L D=>by refine aM (bU D) λqW X m=>CP m (sr (bt (d g y b t A p G _ X _) (λE k z=>?_) λY Y z=>z));refine hF λH=>dF z λY Y K x o1 z=>?_;obtain⟨rfl,rfl⟩:=mY x;exact H (gU (.ret qW.1) A qW.2 K rfl o1.wide (G.on p o1) z)
theorem runN{c:AH}{k:Key}{i:V Q->AH->Res (Q×AH)}{w:V MO}{X:V Q}{L:Q×AH}(j:oh h a e q k i)(R:bo N q f l)(K:Inv a e g b c d.heap)(M:cK l g [] d.heap)(P:bM a.params (Sf d.heap b g) b X w)(D:i X c=.ok L):dQ (MY h a) f (N3 (.ref (fE k)) w) (QQ a e g (lL a) [] (.ok L) b d) t d:=jx (fi (j g l f X c b d w R K M P L D) λU v n=>by rcases U with D|(E|_|_|_)<;>first|exact n|exact n.elim)
theorem mn.call{env:Ng}{H:Key}{T:V Q->AH->Res (Q×AH)}{y:cz}{d:MU}{U:V MQ}(C:Gr v e P be bg bf)(a2:oh h a e q H T)(R:bo N (q+1) f l)(hk:∀A,H=.fn A->A<60)(s:m8 h a e l env j f i y U)
  (o:NZ v NO d=S (S (.ref (fE H)))) (x:env.kindOf d=S .globalImplicit) (c:(d==("__debug__":MU))=MT):mn h a e l env j f (BY i T y) (.Call (.Name d bj) U [] J):=by intro g a4 b t a0 p G L D I;refine hF λa3=>aM (bU D) λLb X m=>a3 ?_;refine aJ (PD p.kind x (P7 (env:=env) (by rw[p.glob];exact C.T.g.keeps λM a1 D=>(G.inv.keep M a1 D).1) (mg_of C.X C.T.g o) ?_) c);have:=s.run (pos:=J) g a4 b t a0 p G (by rw[X];exact λz=>nomatch z);rw[X] at this;refine oa (P:=λB=>v.In B) (by rw[s.noStar];rfl) (λB r=>PF (jg (k:=H) C.ok hk) B r) (bC s.noStar (Nk this (λw k z=>?_) λY Y L=>EE.no L));refine hF λE=>dF z λY Y K ez o1 z=>?_;obtain⟨rfl,rfl⟩:=mY ez;exact E ⟨C.In o1.inv,bt (runN a2 (R.less (So _)) o1.inv (G.live.keep G.inv o1) z m) (λY Y n=>n.pre o1) λY Y n=>n⟩
theorem AB{o:NJ}{H:V MU}{a1:V Na}{M:mP}{ds U:V MO}{as a0:V Q}{L:Fl×Loc×AH}(x:cG o H j a1)(R:bo N (q+1) f l)(G:e.get? n=S ah)(a7:ah.data=.func o)(a3:e.NoLimit)(a4:e.CodeRec o.code o.qualname)
  (t:Au a e o a0 ds) (T:a0.length<=H.length) (X:H.length<=j.length)
  (K:Inv a e g b k d.heap) (lv:cK l g [] d.heap) (E:bM a.params (Sf d.heap b g) b as U) (hb:bindArgs H.length a0 j.length as=S w) (D:M w k=.ok L)
  (b9:∀I,mQ h a e l (N6 o I n) j (f.deeper (N6 o I n)) M a1) :
  codeN (MY h a) f (.call (.ref n) ⟨U,[]⟩) (RN a e g ((match L.1 with|.ret E=>E|.next=>.none),L.2.2) b d) d:=by
 refine fK (gz hb) λy q2 hl=>?_;have A:=E.len;have ld:=(t.vals a.params (Sf d.heap b g) b).len;have a5:bM a.params (Sf d.heap b g) b (as++a0.drop (as.length+a0.length - H.length)) (U++ds.drop (U.length+ds.length - H.length)):=by rw[A,ld];exact E.append ((t.vals _ _ _).drop _)
 have k0:=λM ah D=>(K.keep M ah D).1;refine eS (JA R.depth) (k0 _ _ G) a7 x.co x.gen x.body ?_ (se (loc:=w) (P:=λc a8=>codeN (MY h a) f (.func a1 c) _ a8) x (uf.at a3 K) (t.reads K) (A▸y) (A▸ld▸q2) (ld▸T) K lv ?_ (λi n D=>a5.get (pC (hl▸D))) λc J s1 he p st r hk c1=>mj ?_);·exact qs a4 λC oc vs a9 e1 m e3 e4=>gU C oc vs a9 e1 (k0 _ _ m) e3 e4
 ·rw[hl];exact oO y q2 X
 ·subst he
  refine cg r λh' B qv a2=>?_
  clear y q2 hl r hk c1 A ld a5 k0 x R G a7 a3 a4 t T X K lv E hb
  subst qv
  refine bt (b9 _ J b k _ _ p st L D) (λa6 v z=>?_) λD v z=>z.elim
  refine hF λs=>?_
  obtain⟨fl,c4,H',r',D,ah,c2,z⟩:=z
  obtain rfl:=Hs D
  induction fl using Fl.casesOn with
  |next=>
   induction a6 using SI with
   |next=>refine s ?_;exact .ok (ah.back a2) .none
   |_=>exact z.elim
  |ret n=>
   induction a6 using SI with
   |ret c3=>refine s ?_;exact .ok (ah.back a2) (VR.mono (λY Y z=>z.back a2.sub) (.refl _) z)
   |_=>exact z.elim
noncomputable def Gk(e:CF)(D:LE)(i:Z)(A:mP):mP:=λT b=>(aO e D T b).bind λy=>match srcOf y.2 y.1 with
 |none=>.bad
 |some t=>bZ (λY E T b=>A (T.set i (S E)) b) t.1 (t.2+1) 0 T y.2
noncomputable def Gm(e:CF)(k:V Z)(I M:LE)(D:qk):mP:=λT b=>(aO e I T b).bind λr=>(aO e M T r.2).bind λs=>(D T s.2).bind λU=>match de T k [r.1,s.1,U.1] with
 |some v=>.ok (.next,v,U.2)
 |none=>.bad
set_option tactic.hygienic true in
theorem mn.aU{a4:Z}{n:LE}{y:cz}{L:V MQ}{x a0:Z}{nf:V AV->AH->Res (AV×AH)}{T:Ni}(C:Gr v e P be bg bf)(a6:oh h a e a4 (.fn a0) nf)(R:bo N (a4+1) f l)(d:SE h a e l c j f i n aj)(a1:m8 h a e l c j f i y L)
  (hx:eJ aj=ML) (hl:(T.endLine==J.line)=ML) (hn:L.length<30):mn h a e l c j f (BZ i nf n x a0 y) (.Call (.Attribute aj (sx x) T) L [] J):=by
 intro g a9 b t A p G q D c2;refine hF λa3=>aM (bU D) λbE X H=>?_;obtain⟨I,z⟩:=bE;clear D;have t1:=d g a9 b t A p G (by rw[X];exact λU=>nomatch U);rw[X] at t1;have hs:=a1.noStar (pos:=J);refine a3 ?_;rw[arm_eval_Call,gr hx];refine aJ (Nk t1 (λva s1 U=>aJ (NX ?_)) λY Y q=>EE.no q);refine hF λa8=>dF U λY Y K ez o1 E=>?_;obtain⟨rfl,rfl⟩:=mY ez;have a2:methodCallForm (L.length+([]:V Keyword).length) (NW J (NT L c)) (backToKw J (keywordEach [] c))=ML:=by have:(NW J (NT L c)).all (λq=>!q.1)=ML:=Sh.mpr λq hq=>(Ta q.1).mpr (U5.mpr (U6.mp hs q hq));show((NW J (NT L c)).all (λq=>!q.1)&&ML&&MX (L.length+0+0<30))=ML;rw[this];exact Nn hn
 refine a8 ?_;unfold methodCall;rw[a2];refine bN (fG ?_);refine hF λa7=>?_;dsimp only at H;refine kA (aK z I x) (λs=>?_) (λrc s=>?_);·replace H:=s▸H;cases H
 ·replace H:=s▸H
  induction rc using Recv.casesOn with
  |bI=>cases H
  |own r=>
   dsimp only at H;split at H;·rename_i w;subst w;refine a7 (bJ ((ly C o1.inv E s ?_).2));rw[show methodCallPos ML _ c T J=pure J from Nb (show(!ML||T.endLine==J.line)=ML from hl)];refine aJ (M0 ?_);refine hF λc1=>aM (bU H) λcj m e3=>?_;have M:=a1.run (pos:=J) g K z s1 A p (G.on p o1) (by rw[m];exact λU=>nomatch U);rw[m] at M;refine c1 ?_;refine oa (P:=λB=>v.In B) (by rw[hs];rfl) (λB b9=>PF (jg (k:=.fn r) C.ok λo D=>by cases D;exact((ly (Q:=λY Y=>Nq) (E:=λY Y=>Nq) (A:=f) (prog:=h) (pl:=pure ML) C o1.inv E s trivial).1)) B b9) (bC hs (Nk M (λvs s2 U=>?_) λY Y q=>EE.no q));refine hF λa5=>dF U λY Y r2 ez o2 U=>?_;obtain⟨rfl,rfl⟩:=mY ez;exact a5 ⟨C.In o2.inv,bt (runN (k:=.fn r) a6 (R.less (So _)) o2.inv (G.live.keep G.inv (o1.trans o2)) (.cons (o2.vr E) U) e3) (λY Y n=>n.pre (o1.trans o2)) λY Y n=>n⟩
   ·exact nomatch H
theorem pH{s:Nm MO}{o:V MO->MW->Prop}(B:dQ T f s (λE v=>o [E] v) t d):dQ T f (O1 [(MT,s)]) o t d:=by refine bN (bt B (λE X U=>?_) λY Y r=>r);exact aJ (M0 (aJ (Ny (PySem.Calls.spliced_nil (bJ (M0 U))))))
theorem jy{s:Nm MO}{j:V (MP×Nm MO)}{o:V MO->MW->Prop}(B:MZ T f s (λE X=>dQ T f (O1 j) (λw q=>o (E :: w) q) t X) t d):dQ T f (O1 ((MT,s) :: j)) o t d:=by refine aJ (Nk B (λE X U=>?_) λY Y r=>r);exact aJ (M0 (bN (fG (bt U (λw q K=>bJ (M0 K)) λY Y r=>r))))
theorem gM.tup{tp:Ni}{a9:Z}{D:qk}{I a0:LE}{L yb z:MQ}{k:V Z}{m:V MQ}{xs:V MU}{k2:Z}{a1:Ni}(R:bo N a9 f (c :: o))(a5:SE h a e (c :: o) c j f i I L)(a8:SE h a e (c :: o) c j f i a0 yb)(a4:mn h a e (c :: o) c j f D z)
  (n:notStar L=ML) (nb:notStar yb=ML) (ne:notStar z=ML) (nm:rW j c k m xs) (nd:xs.Nodup) (T:k.length=3) (C:Pk [.Tuple m H tp] (.Tuple [L,yb,z] k2 a1) c=pure (S xs)) :
  gM h a e o c j f (Gm i k I a0 D) (.Assign [.Tuple m H tp] (.Tuple [L,yb,z] k2 a1) J):=λg y a2 t A p G q D=>by
 refine hF λP=>aM (bU D) λdu X D=>aM (bU D) λdV e2 D=>aM (bU D) λfB s D=>P ?_;induction eb:de A k [du.1,dV.1,fB.1] using Ry with
 |none=>replace D:=eb▸D;cases D
 |some l'=>rw[eb] at D;refine CP D ?_;have B:=a5 g y a2 t A p G (by rw[X];exact λU=>nomatch U);rw[X] at B;refine aJ (NX ?_);refine aJ (M0 ?_);refine bN (aJ (NX (bN ?_)));rw[bx n,bx nb,bx ne];refine jy (Nk B (λua s1 U=>?_) λY Y q=>EE.no q);refine hF λa7=>dF U λY Y r1 x o1 E=>?_;obtain⟨rfl,rfl⟩:=mY x;have dw:=G.on p o1;have M:=a8 g r1 du.2 s1 A p dw (by rw[e2];exact λU=>nomatch U);rw[e2] at M;refine a7 (jy (Nk M (λub s2 U=>?_) λY Y q=>EE.no q));refine hF λa3=>dF U λY Y r2 x o2 v=>?_;obtain⟨rfl,rfl⟩:=mY x;have cM:=dw.on p o2;refine a3 (pH (bt (a4 g r2 dV.2 s2 A p cM _ s _) (λue b U=>?_) λY Y U=>U));refine hF λa6=>dF U λY Y w x o3 v3=>?_;obtain⟨rfl,rfl⟩:=mY x;have l:=cM.on p o3;refine a6 ?_;refine bJ (wpAny_newTuple ?_ (by have:N1=_:=N9;simp;exact SR _ _));rw[C];have o4:aQ a e g [] w b w fB.2 {b with heap:=b.heap.push {cls:=.type "tuple",data:=.seq #[ua,ub,ue]}}:=.grown l.inv λY Y D=>RA _ D;have d:VR a.params (Sf ({b with heap:=b.heap.push {cls:=.type "tuple",data:=.seq #[ua,ub,ue]}}:MW).heap w g) w (.tup [du.1,dV.1,fB.1]) (.ref b.heap.objs.size):=.tup _ _ #[ua,ub,ue] 0 (jd rfl l.inv) (.cons ((o2.trans o3).vr E |> o4.vr) (.cons (o4.vr (o3.vr v)) (.cons (o4.vr v3) .nil)));refine bJ (MR (M0 ?_));exact MR (OZ (MR (Nk (nS (R:=R) p nm nd (.inr T) (l.on p o4) d eb) (λc1 b9 K=>MR (Nk K (λY Y U=>M0 (gU .next l' fB.2 w rfl ((((o1.trans o2).trans o3).trans o4).wide.trans U.1) U.2 trivial)) λY Y r=>r)) λY Y r=>r)))
theorem vD{R:NQ->MW->Prop}{g:MQ}{n:MO}{l:V Na}
  (t:MZ (MY h a) f (OE n) (λy X=>match y with
   |none=>R (.ok .next) X
   |some b=>MZ (MY h a) f (OQ g c b) (λY q=>dQ (MY h a) f (Oi l c) (λA e=>match A with
     |.next|.cont=>codeN (MY h a) f (.forLoop g n l [] c) R e
     |.brk=>R (.ok .next) e
     |.ret b=>R (.ok (.ret b)) e) (λY Y=>Nx) q) (λY Y=>Nx) X) (λY Y=>Nx) d)
  (j:∀b,Pl g n b=pure ()):codeN (MY h a) f (.forLoop g n l [] c) R d:=by
 refine fj rfl ?_
 refine hH (bt (E:=λY Y=>Nx) ?_ (λY Y U=>U) λY Y U=>U.elim)
 refine aJ (NX (aJ (wpAny_onRaise (Nk t (λy X i=>?_) λY Y U=>U.elim))))
 induction y using Ry with
 |none=>exact bJ (M0 ⟨rfl,xN (codeAny_block (Ol i))⟩)
 |some b=>
  refine aJ (NN (j b) ?_)
  refine aJ (Nk i (λY q K=>bN (bt K (λA e p=>?_) λY Y U=>U)) λY Y U=>U)
  induction A using SI with
  |next=>exact bJ (M0 ⟨rfl,p⟩)
  |cont=>exact bJ (M0 ⟨rfl,p⟩)
  |brk=>exact bJ (M0 p)
  |ret b=>exact bJ (M0 p)
theorem vE{r0:bH}{s0:MW}{a7:Z}{a0:mP}{L:Src}{k:MS}{xs:V Na}(R:bo N a7 f (c :: o))(M:j[K]? = S (S r))(J:c.kindOf r=S .local\/c.kindOf r=S .cell)(a5:mQ h a e o c j f a0 xs)
  (p:bk ax c j) (g:k∉bz c) (q:Fl×Loc×AH):∀{H i:Z} {A:Loc} {b:AH} {y:bH} {t:MW},St a e ax (c :: o) c j y b A t->cY a ax y t.heap L k i->aQ a e ax (k :: bz c) r0 s0 y b t->
  bZ (λY E T b=>a0 (T.set K (S E)) b) L H i A b=.ok q->
  codeN (MY h a) f (.forLoop (.Name r bj) (.ref k) xs [] c) (λU v=>match U with|.ok a0=>QS a e ax (k :: bz c) o c j (.ok q) r0 s0 a0 v|.error _=>Nx) t:=by
 intro H;induction H with
 |zero=>intro i A b y t G n z D;cases D
 |succ x d=>
  intro i A b y t G n z D;rw[Hn] at D;refine kA (L.at i b) (λw=>?_) (λov w=>?_);·replace D:=w▸D;cases D
  ·rw[w] at D
   refine vD (j3 R.handled G.inv n w λs1 o1=>?_) (λY=>rfl)
   have a2:aQ a e ax (k :: bz c) y t y b s1:=o1.inc λC x=>by rw[Rx.mp x];exact .head _
   have dw:=G.Hx p o1 g n.one
   induction ov using Ry with
   |none=>refine CP D ?_;exact gU .next A b y rfl (z.trans a2) dw trivial
   |some E=>
    dsimp only at D⊢
    intro B P a6
    refine PN (et (j:=K) p dw j0.all M J P λs2 o2 cM=>?_)
    refine hF λa4=>?_
    refine aM (bU D) λbE X m=>?_
    obtain⟨fl,l3,H3⟩:=bE
    refine a4 ?_
    refine bt (a5 ax y b s2 _ p cM _ X) (λf' s3 U=>?_) λY Y U=>U
    refine hF λa1=>?_
    refine qs U λY Y Y r3 ez o3 l U=>?_
    clear a4 X a5
    cases ez
    have a3:=((z.trans a2).trans (o2.inc λC x=>.tail _ x)).trans (o3.inc λC x=>.tail k x)
    induction fl using Fl.casesOn with
    |next=>
     cases f' with
     |next=>refine a1 ?_;exact d l ((a6.on dw.inv o2 g λI x=>.inl (p.fN I x)).on cM.inv o3 g λI x=>.inl (p.fN I x)) a3 m
     |_=>exact U.elim
    |ret s=>
     cases f' with
     |ret v2=>refine a1 ?_;refine CP m ?_;exact gU (.ret s) l3 H3 r3 rfl a3 l U
     |_=>exact U.elim
theorem gM.di{a2:Z}{A:mP}{n:LE}{xs:V Na}(R:bo N a2 f (c :: o))(d:SE h a e (c :: o) c j f i n s)(hj:j[K]? = S (S r))(hk:c.kindOf r=S .local\/c.kindOf r=S .cell)(l:mQ h a e o c j f A xs)(hs:dX s=MT) :
  gM h a e o c j f (Gk i n K A) (.For (.Name r bj) s xs [] J):=λg y b t a0 p G q D=>by
 refine hF λm=>?_;refine aM (bU D) λcj X D=>?_;obtain⟨I,H1⟩:=cj;have B:=d g y b t a0 p G (by rw[X];exact λU=>nomatch U);rw[X] at B;dsimp only at D;refine m ?_;refine aJ (NX (aJ (Nk B (λva k U=>?_) λY Y q=>EE.no q)));refine dF U λY Y r1 ez o1 E=>?_;obtain⟨rfl,rfl⟩:=mY ez;have dw:=G.on p o1;refine kA (srcOf H1 I) (λH=>?_) (λsq H=>?_);·replace D:=H▸D;cases D
 ·obtain⟨a1,x⟩:=sq
  replace D:=H▸D
  refine aM (gY E H) λL du C=>?_
  clear G m X ez E H B d
  subst du
  refine cg (C.items o1.inv) λa3 n' T Y=>?_
  refine aJ (NN (eY hs _) (aJ (NX (aJ (Ny (Qh (bb T) ?_))))))
  have f0:k.heap.get? k.heap.objs.size=N:=bR _
  refine bK (dO p dw.inv f0) λq1 q2=>?_
  have P:=ct.more (own:=g) (fr:=bz c) (ns:=[k.heap.objs.size]) (λM w=>by rw[Rx.mp w];exact f0) (M8 rfl) (λM z D=>RA {cls:=.type "list_iterator",data:=.fields #[.ref L,.int 0 0]} D)
  have gI:(k.heap.push {cls:=.type "list_iterator",data:=.fields #[.ref L,.int 0 0]}).get? k.heap.objs.size=S {cls:=.type "list_iterator",data:=.fields #[.ref L,.int 0 0]}:=R4 _ rfl
  have cM:=dw.cX (own':=[k.heap.objs.size]++g) (tk:=k.toks) P.new P.le P.hs λM x=>by
   rcases RM.mp x with x|x;·rw[Rx.mp x];exact⟨_,gI⟩
   ·refine dD (dw.inv.ex M x) λz D=>?_;exact⟨z,P.hs _ _ D⟩
  have it:cY a ([k.heap.objs.size]++g) r1 ({k with heap:=k.heap.push {cls:=.type "list_iterator",data:=.fields #[.ref L,.int 0 0]},toks:=k.toks}:MW).heap a1 k.heap.objs.size 0:=⟨(jK L (C.mono (λI z U=>(U.cX P.new).grow P.hs) (.refl _)) (λq=>by rw[q,f0] at T;exact nomatch T) (jK _ gI rfl rfl)),by refine R'.trans ?_;rw[R1 q1];simp⟩
  refine sk (h:=N) (fi (vE R hj hk l (p.cX P.sub) q2 q cM it (.refl cM.inv) D) λU v n=>?_) nofun
  cases U with
  |ok A=>exact(QS.back P dw.live n).pre o1.wide
  |error D=>exact n.elim
set_option backward.match.sparseCases true
theorem iK{H:NQ->MW->Prop}{K:Oe}{X:Args}{M:NL}(x:cU (.builtin K X)=MT)(w:Ow Oh K=S M)
  (B:dQ (MY h a) (f.under (.builtin K X)) (M X) (λT v=>match T with|.done A=>H (.ok A) v|.again o=>o.quiet=ML/\codeN (MY h a) f o H v) (λD v=>H (.error D) v) d):codeN (MY h a) f (.builtin K X) H d:=by refine fj x ?_;show dQ _ _ (match Ow Oh K with|some M=>M X|none=>PySem.unsupported ((withoutEnding? K "#data").getD K)) _ _ d;rw[w];exact B
theorem fk{H:NQ->MW->Prop}{K:Oe}{X:Args}{M:NL}(e:(N5.builtin K X).quiet=ML)(x:cU (.builtin K X)=MT)(w:Ow Oh K=S M) (B:MZ (MY h a) f.in1 (Q2 K X) (λY b=>dQ (MY h a) (f.under (.builtin K X)) (M X) (λT v=>match T with|.done A=>H (.ok A) v|.again o=>o.quiet=ML/\codeN (MY h a) f o H v) (λD v=>H (.error D) v) b) (λD v=>H (.error D) v) d):codeN (MY h a) f (.call (.builtin K) X) H d:=fj rfl (aJ (Nk B (λY b U=>bJ (M0 (Vj e (iK x w U)))) λY Y m=>m))
theorem xT{X:Args}:cU (.builtin "type.__call__" X)=MT:=by show(Tz.contains "type.__call__"||_)=MT;decide +kernel
theorem uk{H:NQ->MW->Prop}{s:MW}{i:Nw}{b o init:MO}{j:V MO}(d:Nu (MY h a) s.heap (Pa o b) ML)(g:Nu (MY h a) s.heap (Q1 o "__init__") (S init))(w:Nu (MY h a) s.heap (Q3 init o) (init,[o]))
  (e:codeN (MY h a) f (.call init ⟨o :: j,[]⟩) (λy v=>match y with|.ok (.ret E)=>E=.none/\H (.ok (.ret o)) v|.ok _=>Nx|.error D=>H (.error D) v) s) :
  dQ (MY h a) f (do
   let M<-Pa o b
   if(!M)=ML then do
     rule "type.call.new-gave-other-type"
     ret o
    else do
     let y<-PA [o] (QB o (Tx "__init__") j)
     match y with
      |none=>ret o
      |some y=>
       if(y != MO.none)=ML then do
        rule "type.call.init-returned-value"
        let q<-PySem.typeNameOf y
        raiseErrorMade "TypeError" (toString "__init__() should return None, not '"++toString q++toString "'")
        ret o
       else ret o) (λT v=>match T with|.done A=>H (.ok A) v|.again c=>c.quiet=ML/\codeN (MY h a) i c H v) (λD v=>H (.error D) v) s:=by
 refine aJ (d.here ?_)
 refine bN (fG ?_)
 refine aJ (g.here ?_)
 refine fG (aJ (w.here ?_))
 refine bN (jx (fi e λy v U=>?_))
 rcases y with D|(E|_|_|_)<;>first|exact U|exact U.elim|skip
 obtain⟨rfl,U⟩:=U
 refine bJ (M0 ?_)
 exact bJ (M0 U)
theorem su{M:MS}{y:NQ->MW->Prop}{o:M5 PO}{r:Drawn}{n:Z}{e:OR}{j:V MO}{i:MO}(G:Makes (MY h a) p M)(d:Nu (MY h a) p (Of (.ref M) "__init__") (S i))
  (w:∀A,Nu (MY h a) p (Q3 i A) (i,[A])) (E:(S i != S (MO.builtin "object.__init__"))=ML)
  (v:codeN (MY h a) (f.under (.builtin "type.__call__" ⟨.ref M :: j,[]⟩)) (.call i ⟨.ref (p.objs.size+1) :: j,[]⟩) (InitBack (p.objs.size+1) y) ⟨(p.push NI).push (ND M p.objs.size),o,r,n,e⟩) :
  codeN (MY h a) f (.call (.ref M) ⟨j,[]⟩) y ⟨p,o,r,n,e⟩:=by
 refine hF λl=>?_;have L:=G;obtain⟨⟨b,J,K,I,q,X,m,Y⟩,c,g,A,T,C,t⟩:=G;refine l (fj rfl (bJ (nd_load q ?_)));show MZ _ _ (Qk.viaDunder (.ref M) _) _ _ _;refine MR (C.at ?_);refine MR (M0 (MR (M0 ?_)));refine M0 (a:=Fin.again (.call (.builtin "type.__call__") ⟨.ref M :: j,[]⟩)) (Vj rfl ?_);refine fk (Uk _ (by decide +kernel)) xT Q4 (P9 tc_kind tc_split t (tc_args _ _ _) ?_);unfold Builtin.«type.__call__»;dsimp only;rw[Nf (show¬((MO.ref M==MO.type "type")=ML) from RX)];refine aJ ((show Nu (MY h a) p (mroOf (.ref M)) K.mro from((Nu.ld (part:=N) q).andThen .now).andThen .now).at ?_);rw[Nf (by rw[Y];exact RX)];refine aJ (c.at ?_);dsimp only;refine aJ (M0 ?_);refine aJ (Ny (ON (new_K L d (.inl E) ?_)));have H:∀k z,p.get? k=S z->((p.push NI).push (ND M p.objs.size)).get? k=S z:=λk z D=>RA _ (RA _ D);have x:((p.push NI).push (ND M p.objs.size)).get? (p.objs.size+1)=S (ND M p.objs.size):=by heap_get
 have B:Nu (MY h a) ((p.push NI).push (ND M p.objs.size)) (PQ (.ref (p.objs.size+1))) (.ref M):=(Nu.ld x).andThen .now;exact uk (s:=⟨(p.push NI).push (ND M p.objs.size),o,r,n,e⟩) (B.andThen (f:=λn=>Oo n (.ref M)) (A.keeps H)) (B.andThen (f:=λn=>Of n "__init__") (d.keeps H)) ((w (.ref (p.objs.size+1))).keeps H) v
set_option backward.match.sparseCases false
theorem xU:mroOf (.type "bytearray")=pure [.type "bytearray",.type "object"]:=by refine(mroOf_type ..).trans ?_;kernel_rfl
theorem nC:Of (.type "bytearray") "__new__"=pure (S (.builtin "bytearray.__new__")):=by refine(Od ..).trans ?_;kernel_rfl
theorem AD:Bind.madeBy (.type "bytearray")=pure (S "bytearray.__new__"):=madeBy_type xU nC (by decide +kernel)
theorem qX(I:MO):checkTypeCall "bytearray" ⟨[I],[]⟩=pure ():=by kernel_rfl
theorem sz(I:MO):Q2 "bytearray.__new__" ⟨[.type "bytearray",I],[]⟩=pure ():=by kernel_rfl
theorem pJ:Ow Oh "bytearray.__new__"=S Builtin.«list.__new__»:=entryFor_alias (id':="list.__new__") (by kernel_rfl) rfl (by decide +kernel) (by kernel_rfl)
theorem pK:plainId "bytearray.__new__"=ML:=by decide +kernel
theorem sA:Oo (.type "bytearray") (.type "bytearray")=pure ML:=by refine(Ou ..).trans ?_;kernel_rfl
theorem AE(E:MO):NL.Bytes.bindOptional "bytearray.__init__" "bytearray" ["source","encoding","errors"] [E] []=pure [S E,N,N]:=by kernel_rfl
theorem sC:Of (.type "bytearray") "__release_buffer__"=pure (S (.builtin "bytearray.__release_buffer__")):=by refine(Od ..).trans ?_;kernel_rfl
theorem sD:Of (.type "bytes") "__index__"=pure N:=by refine(Od ..).trans ?_;kernel_rfl
theorem hL:Of (.type "bytes") "__buffer__"=pure (S (.builtin "bytes.__buffer__")):=by refine(Od ..).trans ?_;kernel_rfl
theorem pM:Of (.type "bytes") "__release_buffer__"=pure N:=by refine(Od ..).trans ?_;kernel_rfl
theorem xV{X:Args}:cU (.builtin "bytearray.__init__" X)=MT:=by show(Tz.contains "bytearray.__init__"||_)=MT;decide +kernel
theorem Dv(B:ai (.ref d.heap.objs.size) {d with heap:=d.heap.push (eH #[])}) :
  NK (MY h a) f (.call (.builtin "bytearray.__new__") ⟨[.type "bytearray",aa],[]⟩) (wants ai t) d:=by
 refine QY (MR (NN (sz aa) (M0 ⟨QZ pK _,codeAny_builtin_stack pJ rfl λP G=>?_⟩)))
 have H:=sA
 have b:("bytearray.__new__".splitOn ".__new__").headD ""="bytearray":=by exact R split_bytearray rfl
 obtain⟨s,o,g,c,e⟩:=d
 dsimp only;rw[b]
 wp_walk
 exact B
set_option tactic.hygienic true in
theorem qY{o:MP->MW->Prop}(B:o MT d):dQ (MY h a) f (NL.Bytes.exported (.ref n)) o t d:=by
 refine pG (λL e=>?_) B;obtain⟨C,P⟩:=L;induction C using N5.casesOn;case builtin K l=>
  obtain⟨y,b⟩:=UD.mp (show(Tz.contains K||["bytearray.__contains__","bytearray.__mod__","bytearray.__rmod__","_struct.pack_into.held","bytearray.find.held"].contains K)=MT from e)
  clear e
  have q:∀H,["bytearray.__contains__","bytearray.__mod__","bytearray.__rmod__","_struct.pack_into.held","bytearray.find.held"].contains H=ML->¬K=H:=λH J D=>RX ((D▸b).symm.trans J)
  obtain⟨p,k⟩:=l
  delta NL.Bytes.exported.match_1
  refine(PS (q "bytearray.__contains__" (by decide +kernel))).trans ?_
  refine(PS (q "bytearray.__mod__" (by decide +kernel))).trans ?_
  refine(PS (q "bytearray.__rmod__" (by decide +kernel))).trans ?_
  refine(PS (q "_struct.pack_into.held" (by decide +kernel))).trans ?_
  refine(PS (q "bytearray.find.held" (by decide +kernel))).trans ?_
  induction p using RD with
  |nil=>rfl
  |cons E c=>exact Vv.mpr (.inr y)
 all_goals rfl
theorem mq{o:MP->MW->Prop}(c:d.TypeIs (.ref n) "bytearray")(B:o MT d):MZ (MY h a) f (NL.Bytes.ownRelease (.ref n)) o t d:=by refine MR (MR (Ob c sC ?_));dsimp only;refine R (Nf (by decide +kernel)) ?_;refine OX (T:="bytearray") (b:=true) c (by refine R (show("bytearray.__release_buffer__".dropRight ("__release_buffer__".length+1))="bytearray" from by decide +kernel) ?_;exact sA) ?_;exact M0 B
theorem qZ{b0 b1:M5 Np}{A:M5 Np->M5 Np}{b:NP->MW->Prop}(o:d.heap.get? n=S (eH b0))(D:A b0=b1)(s:b1.size<1000)(B:∀m,m.get? n=S (eH b1)->Sx n d.heap m->b () {d with heap:=m}):MZ (MY h a) f (NL.Bytes.write (.ref n) A) b t d:=by
 refine MR (Oy o ?_);refine MR (QR o ?_);have G:(d.heap.update n (V4 A)).get? n=S (eH b1):=by refine(R9 _ o rfl).trans ?_;exact R D.symm rfl
 refine Qc G ?_ (B _ G (Sq ..));exact(Nf (Tj.mpr (qi s rfl)))
theorem AF{i:Nj}{s:MW}{a:MS}{b:M5 Np}{c:NM}{R:Fin->MW->Prop}(o:s.heap.get? a=S (eH #[]))(g:b.size<1000)(B:∀m,m.get? a=S (eH b)->Sx a s.heap m->R (.done (.ret .none)) {s with heap:=m}) :
  dQ (MY h i) f (Builtin.«bytearray.__init__» ⟨[.ref a,.bytes b c],[]⟩) R t s:=by refine aJ (mq ((ba _ o rfl)) ?_);refine aJ (NN (AE _) ?_);refine aJ (NN (a:=()) rfl ?_);refine aJ (NN (a:=()) rfl ?_);refine bN (bN (qY ?_));refine bJ (MR ?_);refine MR (Oy o (M0 (M0 ?_)));refine bJ (MR (qZ o (b1:=#[]) rfl (by decide) λp d y=>?_));refine MR (NN (a:=N) rfl ?_);refine MR (M0 ?_);refine MR (Ob (PySem.W.typeIs_bytes _ _ _) sD ?_);refine MR (MR (Ob (PySem.W.typeIs_bytes _ _ _) hL ?_));dsimp only;refine MR (MR (Ob (PySem.W.typeIs_bytes _ _ _) hL ?_));dsimp only;rw[Nf (by decide +kernel)];refine OX (T:="bytes") (b:=true) (PySem.W.typeIs_bytes _ _ _) (by rw[show("bytes.__buffer__".dropRight ("__buffer__".length+1))="bytes" from by decide +kernel];exact F.bm_sub) ?_;refine MR (Ob (PySem.W.typeIs_bytes _ _ _) hL ?_);refine MR (MR (MR (Ob (PySem.W.typeIs_bytes _ _ _) pM (M0 (M0 ?_)))));refine MR (MR (M0 ?_));refine M0 (M0 ?_);refine MR (OZ ?_);refine MR (qZ d (b1:=b) rfl g λG A e=>?_);exact M0 (B G A (y.trans e))
noncomputable def B2(e:CF)(D:LE):qk:=λT b=>(aO e D T b).bind λy=>.of (bA y.2 .mR [y.1])
theorem AG{M:M5 Np}{c:NM}{H:NQ->MW->Prop}(s:M.size<1000)(b:∀m,(∀C z,d.heap.get? C=S z->m.get? C=S z)->m.get? d.heap.objs.size=S (eH M)->H (.ok (.ret (.ref d.heap.objs.size))) {d with heap:=m}) :
  codeN (MY h a) f (.call (.type "bytearray") ⟨[.bytes M c],[]⟩) H d:=by refine fj rfl (bJ (M0 (Vj (Uk _ (by decide +kernel)) (iK xT Q4 ?_))));dsimp only;refine aJ (NN (qX _) ?_);refine aJ (NN xU ?_);refine aJ (NN AD ?_);refine aJ (M0 ?_);refine aJ (Ny (ON (Dv ?_)));have o:(d.heap.push (eH #[])).get? d.heap.objs.size=S (eH #[]):=R4 _ rfl;have x:Nu (MY h a) ({d with heap:=d.heap.push (eH #[])}:MW).heap (PQ (.ref d.heap.objs.size)) (.type "bytearray"):=(Nu.ld (part:=S headPart) o).andThen .now;refine uk (init:=.builtin "bytearray.__init__") (s:={d with heap:=d.heap.push (eH #[])}) (x.andThen (f:=λn=>Oo n (.type "bytearray")) (Nu.of_pure sA)) (x.andThen (f:=λn=>Of n "__init__") (Nu.of_pure eV.lookup)) (Nu.of_pure (eV.bind _)) (fk (QZ eV.plain _) xV na (eV.check _ _ _ _ _ _ _ _ (ba _ o rfl) (pg _ _) ?_));refine AF (s:={d with heap:=d.heap.push (eH #[])}) o s λm G r=>⟨rfl,b m (λC z D=>?_) G⟩;exact(r.2 C (Te (SF D))).trans (RA _ D)
theorem mr{x:Oe}{first:V MO}{X:V (MP×Nm MO)}(a:X.any (·.1)=MT)
  (B:MZ T f (evalArgs (.type x) ML X []) (λI b=>dQ T f (N3 (.type x) (first++I.pos) I.kw) ai t b) t d):dQ T f (PE J (.type x) first X []) ai t d:=by refine aJ (Ny (Nk B (λI b U=>aJ (NX ?_)) λY Y r=>r));refine R a (aJ (M0 ?_));exact bN (bt U (λy q P=>bJ (MR (Ny (P0 (M0 P))))) λY Y r=>r)
set_option tactic.hygienic true in
theorem mn.mR{n:LE}(C:Gr v e P be bg bf)(a3:xr v c "bytearray" (.type "bytearray"))(d:SE h a e l c j f i n s)(w:notStar s=ML):mn h a e l c j f (B2 i n) (.Call (.Name "bytearray" bj) [s] [] J):=by
 intro g y b t A p G q D a5;refine aM (bU D) λbE X m=>?_;clear D;obtain⟨I,z⟩:=bE;have B:=d g y b t A p G (R X λU=>nomatch U);replace B:=X▸B;refine aJ (tY C a3 p G.inv ?_);have T:=SE.jt d w;refine mr T.noStar (bC T.noStar ?_);refine R (bx w) (PySem.Calls.spliced_cons (Nk B (λva k U=>?_) λY Y q=>EE.no q));refine hF λa0=>dF U λY Y K ez o1 E=>?_;clear X U B T b A p G C d w;cases ez;refine a0 (PySem.Calls.spliced_nil (hF λa2=>?_));dsimp only at m;clear a0;induction I using Wm with
 |bw r=>
  refine cg (VR.inv E) λM a6 cj H=>?_;clear E;subst cj;have m:Res.of (if sm r.length then S (Q.eO z.B.length,{z with B:=z.B++[r.map VH]}) else N)=.ok q:=m;split at m;·rename_i hz;obtain rfl:=Hs m;have a4:=jv hz;have a1:=Nc Uu H;rw[Rz,show M.toList.length=M.size from RI] at a1;refine a2 (jx (AG (a1.symm▸n1 a4 rfl) λh' L o=>?_));have f0:=bR k.heap;exact .ok (r':=K.wH k.heap.objs.size) (o1.trans (.mk' (tk':=k.toks) (o1.inv.IC (bs:=r.map VH) f0 L o (R H.symm (R SX rfl))) ((More.B K k.heap.objs.size).keep (own:=g) (fr:=[]) (λI x=>by exact R (Rx.mp x) f0) L) (More.B K k.heap.objs.size).le)) (.eO _ _ (R o1.inv.dt.jO.symm fR))
  ·exact nomatch m
 |_=>cases m
noncomputable def Hz:V qk->Loc->AH->Res (V Q×AH)
 |[],_,b=>.ok ([],b)
 |D :: y,T,b=>(D T b).bind λr=>(Hz y T r.2).bind λL=>.ok (r.1 :: L.1,L.2)
inductive pN(prog:Nv)(w:Nj)(g₀:MV)(l:V Ng)(env:Ng)(sl:V (O MU))(A:Nw)(uh:MU):V Z->V qk->V Na->Prop
 |nil:pN prog w g₀ l env sl A uh [] [] []
 |cons {f:Z} {fs:V Z} {e:qk} {es:V qk} {y:MQ} {xs:V Na} {p1 p2 p3:Ni}:mn prog w g₀ l env sl A e y->pN prog w g₀ l env sl A uh fs es xs->pN prog w g₀ l env sl A uh (f :: fs) (e :: es) (.Assign [.Attribute (.Name uh p1) (sx f) p2] y p3 :: xs)
theorem vF{a3:Z}{H:MU}{a1:MS}{C:dG}{fs:V Z}{es:V qk}{xs:V Na}(a2:Gr v e P be bg bf)(R:bo N a3 f (c :: o))(p:bk g c j)(G:j9 g c H a1 A C)(T:pN h a e (c :: o) c j f H fs es xs) :
  ∀{L:V Z} {vs k:V Q} {y:bH} {b r:AH} {t:MW},me a e g (c :: o) c j H a1 A C w L vs y b t->L++fs=bS C->Hz es w b=.ok (k,r)->
   dQ (MY h a) f (Oi xs c) (λa0 s'=>a0=.next/\∃K,aQ a e g [A] y t K r s'/\me a e g (c :: o) c j H a1 A C w (bS C) (vs++k) K r s') (λY Y=>Nx) t:=by
 induction T with
 |nil=>intro L vs k y b r t s J ev;refine bK (mY ev) λDl IV=>?_;subst Dl;subst IV;rw[Sy] at J;refine iJ ⟨rfl,y,.refl s.st.inv,?_⟩;rw[Sy,<-J];exact s
 |@cons a0 fs a4 es i xs l n p3 B T d=>intro L vs k y b r t s J ev;refine aM (bU ev) λbE X m=>?_;obtain⟨I,H1⟩:=bE;refine aM (bU m) λcj e3 e4=>?_;clear m R T;obtain⟨M,H2⟩:=cj;obtain⟨rfl,rfl⟩:=mY e4;refine hK (kV (bt (B g y b t w p s.st _ X _) (λU s1 z=>?_) λY Y z=>z) (hY (.Name H _) (sx a0) _ p3.line c));refine dF z λY Y r1 x l E=>?_;obtain⟨rfl,rfl⟩:=mY x;refine nZ a2 p G (s.on G p l) J E λs2 o2 y2=>?_;refine bt (d y2 (by refine(Sn ..).trans ?_;exact J) e3) (λf' s' q=>?_) λY Y q=>q;obtain⟨rfl,K,o3,D⟩:=q;refine⟨rfl,K,(l.wide.trans o2).trans o3,?_⟩;rw[Sn] at D;exact D
theorem xW{J:Loc}{a1:MU}{C:dG}{o:NJ}{a0:V MU}{a3:V Na}{vs:V qk}{us:V Q}{H':AH}{ds U:V MO}{a4:V Q}{r:MS}(a7:Gr v e P be bg bf)(hc:C≠.bQ)(x:cG o a0 j a3)(R:bo N (q+1) f l)(fz:fO C=ML)
  (mk:Qm v (CA C)=ML) (hi:N8 v (.ref (CA C)) "__init__"=S (S (.ref r))) (ht:Oc v (.ref r)=S (.type "function"))
  (G:e.get? r=S ah) (c6:ah.data=.func o) (b9:e.NoLimit) (c5:e.CodeRec o.code o.qualname) (t:Au a e o a4 ds) (T:a4.length<=a0.length) (X:a0.length<=j.length)
  (n0:a0[0]? = S a1) (kl:o.scope.names.lookup a1=S .local) (kd:(a1==("__debug__":MU))=MT)
  (K:Inv a e g b k d.heap) (lv:cK l g [] d.heap) (E:bM a.params (Sf d.heap b g) b z U) (hb:bindArgs a0.length a4 j.length (.none :: z)=S J) (hl:w=J.set 0 N) (ev:Hz vs w k=.ok (us,H'))
  (c3:∀I,pN h a e (N6 o I r :: l) (N6 o I r) j ((f.under (.builtin "type.__call__" ⟨.ref (CA C) :: U,[]⟩)).deeper (N6 o I r)) a1 (bS C) vs a3) :
  codeN (MY h a) f (.call (.ref (CA C)) ⟨U,[]⟩) (RN a e g (.obj C us,H') b d) d:=by have a6:=a7.In K;have k0:∀M ah,e.get? M=S ah->((d.heap.push NI).push (ND (CA C) d.heap.objs.size)).get? M=S ah:=λM ah D=>RA _ (RA _ (K.keep M ah D).1);obtain⟨s,a5,p,n,os⟩:=d;refine su (makes_of a6 mk) (Pg a6 hi) (λc7=>bind_fn a6 c7 ht) rfl (eS (s:=⟨(s.push NI).push (ND (CA C) s.objs.size),a5,p,n,os⟩) (BQ R.depth rfl) (k0 _ _ G) c6 x.co x.gen x.body (ui k0 c5) (uj (s:=⟨s,a5,p,n,os⟩) (P:=λc c2=>codeN (MY h a) _ (.func a3 c) _ c2) hc x t b9 T X n0 kl kd K lv E hb hl λc c8 m B he eo H c4 a9=>mj ?_));subst he;refine bt (vF a7 R.make eo H (c3 _) c4 rfl ev) (λA s' L=>?_) λD s' L=>L.elim;obtain⟨rfl,r',ah,i⟩:=L;refine⟨rfl,?_⟩;exact cg i.at' λy a2 a8 A=>.ok (aQ.back (s:=⟨s,a5,p,n,os⟩) a9 (ah.inc λC a2=>a2)) (.obj C us _ _ y a2 ⟨a8.x,(i.st.inv.off _ (eW H.ix)).1,K.no (SV (So _))⟩ ⟨a8.d,(i.st.inv.off _ (eW H.id)).1,K.no (bR _)⟩ (A.mono (λY Y c1=>c1.back a9.sub) (.refl _)))
noncomputable def bV(r:MQ):O MU:=vw SG 23 r λB=>MQ.Name.elim r B λI P=>S I
noncomputable def iV(r:MQ):O OT:=vw SG 19 r λB=>MQ.Constant.elim r B λC H P=>S C
noncomputable def hM(r:MQ):O (MQ×MU):=vw SG 20 r λB=>TB r B λs I P=>S (s,I)
noncomputable def pO(r:MQ):O (MQ×MU×Ni):=vw SG 20 r λB=>TB r B λs I P=>S (s,I,P)
noncomputable def hO(r:MQ):O (MQ×V MQ×Ni):=vw SG 16 r λB=>MQ.Call.elim r B λA j k P=>bif k.isEmpty then S (A,j,P) else N
noncomputable def sE(r:MQ):O (MQ×MQ):=vw SG 21 r λB=>MQ.Subscript.elim r B λI K P=>S (I,K)
noncomputable def jz(r:MQ):O (V MQ):=vw SG 25 r λB=>MQ.Tuple.elim r B λj H P=>S j
noncomputable def Dw(r:MQ):O (V MQ):=vw SG 24 r λB=>MQ.List.elim r B λj P=>S j
noncomputable def xX(r:MQ):O (V (O MQ)×V MQ):=vw SG 6 r λB=>MQ.Dict.elim r B λg w P=>S (g,w)
noncomputable def Gn(r:MQ):O (MQ×O8×MQ):=vw SG 2 r λB=>MQ.BinOp.elim r B λI z M P=>S (I,z,M)
noncomputable def Dx(r:MQ):O (MQ×CmpOp×MQ):=vw SG 15 r λB=>MQ.Compare.elim r B λI e f P=>(l1 e).bind λz=>(l1 f).map λM=>(I,z,M)
noncomputable def vBool(r:MQ):O (Og×MQ×MQ×V MQ×Ni):=vw SG 0 r λB=>TM r B λz j P=>j.head?.bind λs=>j.tail.head?.map λU=>(z,s,U,j.tail.tail,P)
noncomputable def HA(r:MQ):O (UnaryOp×MQ):=vw SG 3 r λB=>MQ.UnaryOp.elim r B λz s P=>S (z,s)
noncomputable def IW(r:MQ):O (MQ×MQ×MQ):=vw SG 5 r λB=>MQ.IfExp.elim r B λI M C P=>S (I,M,C)
noncomputable def q7(r:MQ):O (MQ×MQ×MQ×V MQ×NC×MN):=vw SG 8 r λB=>MQ.ListComp.elim r B λs G g P=>(l1 G).map λo=>(s,o.target,o.iter,o.ifs,g,o.is_async)
noncomputable def xY(r:MQ):O (O MQ×O MQ):=vw SG 26 r λB=>MQ.Slice.elim r B λI M C P=>bif C.isNone then S (I,M) else N
theorem bu(r:MQ):aZ (bV r) λI=>∃P,r=.Name I P:=dq λB=>MQ.Name.elim (motive_1:=λr=>∀B,aZ (MQ.Name.elim (motive_1:=λ_=>O MU) r B λI P=>S I) λI=>∃P,r=.Name I P) r B (λI P _=>⟨_,rfl⟩) B
theorem fY(r:MQ):aZ (iV r) λI=>∃L:Z×Ni,r=.Constant I L.1 L.2:=dq λB=>MQ.Constant.elim (motive_1:=λr=>∀B,aZ (MQ.Constant.elim (motive_1:=λ_=>O OT) r B λC H P=>S C) λI=>∃L:Z×Ni,r=.Constant I L.1 L.2) r B (λC H P _=>⟨(_,_),rfl⟩) B
theorem fH(r:MQ):aZ (hM r) λI=>∃P,r=.Attribute I.1 I.2 P:=dq λB=>TB (motive_1:=λr=>∀B,aZ (TB (motive_1:=λ_=>O (MQ×MU)) r B λs I P=>S (s,I)) λI=>∃P,r=.Attribute I.1 I.2 P) r B (λs I P _=>⟨_,rfl⟩) B
theorem mv(r:MQ):aZ (pO r) λI=>r=.Attribute I.1 I.2.1 I.2.2:=dq λB=>TB (motive_1:=λr=>∀B,aZ (TB (motive_1:=λ_=>O (MQ×MU×Ni)) r B λs I P=>S (s,I,P)) λI=>r=.Attribute I.1 I.2.1 I.2.2) r B (λs I P _=>rfl) B
theorem eA(r:MQ):aZ (hO r) λI=>r=.Call I.1 I.2.1 [] I.2.2:=dq λB=>MQ.Call.elim (motive_1:=λr=>∀B,aZ (MQ.Call.elim (motive_1:=λ_=>O (MQ×V MQ×Ni)) r B λA j k P=>bif k.isEmpty then S (A,j,P) else N) λI=>r=.Call I.1 I.2.1 [] I.2.2) r B (λA j k P _=>by
  induction k using RD with
  |nil=>exact rfl
  |cons _ _=>exact RZ) B
theorem ke(r:MQ):aZ (sE r) λI=>∃P,r=.Subscript I.1 I.2 P:=dq λB=>MQ.Subscript.elim (motive_1:=λr=>∀B,aZ (MQ.Subscript.elim (motive_1:=λ_=>O (MQ×MQ)) r B λI K P=>S (I,K)) λI=>∃P,r=.Subscript I.1 I.2 P) r B (λI K P _=>⟨_,rfl⟩) B
theorem fL(r:MQ):aZ (jz r) λI=>∃L:Z×Ni,r=.Tuple I L.1 L.2:=dq λB=>MQ.Tuple.elim (motive_1:=λr=>∀B,aZ (MQ.Tuple.elim (motive_1:=λ_=>O (V MQ)) r B λj H P=>S j) λI=>∃L:Z×Ni,r=.Tuple I L.1 L.2) r B (λj H P _=>⟨(_,_),rfl⟩) B
theorem xZ(r:MQ):aZ (Dw r) λI=>∃P,r=.List I P:=dq λB=>MQ.List.elim (motive_1:=λr=>∀B,aZ (MQ.List.elim (motive_1:=λ_=>O (V MQ)) r B λj P=>S j) λI=>∃P,r=.List I P) r B (λj P _=>⟨_,rfl⟩) B
theorem um(r:MQ):aZ (xX r) λI=>∃P,r=.Dict I.1 I.2 P:=dq λB=>MQ.Dict.elim (motive_1:=λr=>∀B,aZ (MQ.Dict.elim (motive_1:=λ_=>O (V (O MQ)×V MQ)) r B λg w P=>S (g,w)) λI=>∃P,r=.Dict I.1 I.2 P) r B (λg w P _=>⟨_,rfl⟩) B
theorem Dy(r:MQ):aZ (Gn r) λI=>∃P,r=.BinOp I.1 I.2.1 I.2.2 P:=dq λB=>MQ.BinOp.elim (motive_1:=λr=>∀B,aZ (MQ.BinOp.elim (motive_1:=λ_=>O (MQ×O8×MQ)) r B λI z M P=>S (I,z,M)) λI=>∃P,r=.BinOp I.1 I.2.1 I.2.2 P) r B (λI z M P _=>⟨_,rfl⟩) B
theorem x5(r:MQ):aZ (Dx r) λI=>∃P,r=.Compare I.1 [I.2.1] [I.2.2] P:=dq λB=>MQ.Compare.elim (motive_1:=λr=>∀B,aZ (MQ.Compare.elim (motive_1:=λ_=>O (MQ×CmpOp×MQ)) r B λI e f P=>(l1 e).bind λz=>(l1 f).map λM=>(I,z,M)) λI=>∃P,r=.Compare I.1 [I.2.1] [I.2.2] P) r B (λI e f P _=>by rcases e with _|⟨z,_|⟨o2,e⟩⟩<;>rcases f with _|⟨M,_|⟨b2,f⟩⟩<;>first|exact RZ|exact⟨_,rfl⟩) B
theorem lz(r:MQ):aZ (vBool r) λI=>r=.BoolOp I.1 (I.2.1 :: I.2.2.1 :: I.2.2.2.1) I.2.2.2.2:=dq λB=>TM (motive_1:=λr=>∀B,aZ (TM (motive_1:=λ_=>O (Og×MQ×MQ×V MQ×Ni)) r B λz j P=>j.head?.bind λs=>j.tail.head?.map λU=>(z,s,U,j.tail.tail,P)) λI=>r=.BoolOp I.1 (I.2.1 :: I.2.2.1 :: I.2.2.2.1) I.2.2.2.2) r B (λz j P _=>by rcases j with _|⟨s,_|⟨U,y⟩⟩<;>first|exact RZ|exact rfl) B
theorem x8(r:MQ):aZ (HA r) λI=>∃P,r=.UnaryOp I.1 I.2 P:=dq λB=>MQ.UnaryOp.elim (motive_1:=λr=>∀B,aZ (MQ.UnaryOp.elim (motive_1:=λ_=>O (UnaryOp×MQ)) r B λz s P=>S (z,s)) λI=>∃P,r=.UnaryOp I.1 I.2 P) r B (λz s P _=>⟨_,rfl⟩) B
theorem B3(r:MQ):aZ (IW r) λI=>∃P,r=.IfExp I.1 I.2.1 I.2.2 P:=dq λB=>MQ.IfExp.elim (motive_1:=λr=>∀B,aZ (MQ.IfExp.elim (motive_1:=λ_=>O (MQ×MQ×MQ)) r B λI M C P=>S (I,M,C)) λI=>∃P,r=.IfExp I.1 I.2.1 I.2.2 P) r B (λI M C P _=>⟨_,rfl⟩) B
theorem pP(r:MQ):aZ (q7 r) λI=>∃P,r=.ListComp I.1 [⟨I.2.1,I.2.2.1,I.2.2.2.1,I.2.2.2.2.2⟩] I.2.2.2.2.1 P:=dq λB=>MQ.ListComp.elim (motive_1:=λr=>∀B,aZ (MQ.ListComp.elim (motive_1:=λ_=>O (MQ×MQ×MQ×V MQ×NC×MN)) r B λs G g P=>(l1 G).map λo=>(s,o.target,o.iter,o.ifs,g,o.is_async)) λI=>∃P,r=.ListComp I.1 [⟨I.2.1,I.2.2.1,I.2.2.2.1,I.2.2.2.2.2⟩] I.2.2.2.2.1 P) r B (λs G g P _=>by rcases G with _|⟨⟨n,K,f,I⟩,_|⟨o,y⟩⟩<;>first|exact RZ|exact⟨_,rfl⟩) B
theorem x9(r:MQ):aZ (xY r) λI=>∃P,r=.Slice I.1 I.2 N P:=dq λB=>MQ.Slice.elim (motive_1:=λr=>∀B,aZ (MQ.Slice.elim (motive_1:=λ_=>O (O MQ×O MQ)) r B λI M C P=>bif C.isNone then S (I,M) else N) λI=>∃P,r=.Slice I.1 I.2 N P) r B (λI M C P _=>by
  induction C using Ry with
  |none=>exact⟨_,rfl⟩
  |some _=>exact RZ) B
noncomputable def IX(r:MQ):O MQ:=vw SG 0 r λB=>TM r B λz j P=>l1 j
theorem Gp(r:MQ):aZ (IX r) λs=>∃L:Og×Ni,r=.BoolOp L.1 [s] L.2:=dq λB=>TM (motive_1:=λr=>∀B,aZ (TM (motive_1:=λ_=>O MQ) r B λz j P=>l1 j) λs=>∃L:Og×Ni,r=.BoolOp L.1 [s] L.2) r B (λz j P _=>by rcases j with _|⟨s,_|⟨U,y⟩⟩<;>first|exact RZ|exact⟨(z,P),rfl⟩) B
noncomputable def zB(r:MQ):MQ:=(IX r).getD r
theorem Gq(r:MQ):zB r=r\/∃z P,r=.BoolOp z [zB r] P:=by
 have B:=Gp r;unfold zB;revert B;cases IX r with
 |none=>exact λY=>.inl rfl
 |some s=>exact λ⟨L,D⟩=>.inr (v7 L.1 L.2 D)
theorem B4{P:MQ->Prop}(B:P (zB aj))(H:∀z s a,P s->P (.BoolOp z [s] a)):P aj:=by
 rcases Gq aj with D|⟨z,a,D⟩;·exact D▸B
 ·exact D▸H z _ a B
set_option genCtorIdx true in
inductive Kd|loc|cell|C'|glob
 deriving O7
noncomputable def Gs(c:Ng)(r:MU):Kd->Prop
 |.loc=>c.kindOf r=S .local
 |.cell=>c.kindOf r=S .cell
 |.C'=>c.kindOf r=S .cell\/c.kindOf r=S .free
 |.glob=>c.kindOf r=S .globalImplicit
structure Cx where
 names:V (MU×Nz)
 comp:MP
 sl:V (O MU)
noncomputable def Lc(c:MP):Nz->O Kd
 |.local=>S .loc
 |.cell=>if c then N else S .cell
 |.free=>S .C'
 |.globalImplicit=>S .glob
 |_=>N
noncomputable def Cx.kd(C:Cx)(r:MU):O Kd:=(C.names.lookup r).bind (Lc C.comp)
variable{E:Cx}
theorem Cx.Gu{H:Kd}(n:c.kindOf r=E.names.lookup r)(D:E.kd r=S H):Gs c r H:=by
 refine iQ D λa X m=>?_;have s:=n.trans X;clear X n D;induction a using Vc with
 |«local»=>exact sX m▸s
 |cell=>
  revert m
  cases E.comp with
  |true=>exact nX
  |false=>exact λm=>sX m▸s
 |free=>exact sX m▸US s
 |globalImplicit=>exact sX m▸s
 |_=>exact nX m
noncomputable def fZ(C:Cx)(c:Ng):Prop:=∀r H,C.kd r=S H->Gs c r H
noncomputable def Cx.slot(C:Cx)(i:Z)(r:MU):MP:=MX (C.sl[i]? = S (S r))
theorem Cx.lA(B:E.slot K r=ML):E.sl[K]? = S (S r):=M8 B
noncomputable def cZ(r:MU):MP:=!(r==("__debug__":MU))&&!(r==("__classdict__":MU))
theorem bG(B:cZ r=ML):(r==("__debug__":MU))=MT:=nF (RT.mp B).1
theorem ie(B:cZ r=ML):(r==("__classdict__":MU))=MT:=nF (RT.mp B).2
noncomputable def Kd.isVar:Kd->MP
 |.glob=>MT
 |_=>ML
noncomputable def Kd.isDst:Kd->MP
 |.loc|.cell=>ML
 |_=>MT
noncomputable def Cx.var(C:Cx)(i:Z)(r:MU):MP:=C.slot i r&&cZ r&&(C.kd r).any Kd.isVar
noncomputable def Cx.dst(C:Cx)(i:Z)(r:MU):MP:=C.slot i r&&(C.kd r).any Kd.isDst
theorem Cx.pQ(z:fZ E c)(B:E.var K r=ML):E.sl[K]? = S (S r)/\(c.kindOf r=S .local\/c.kindOf r=S .cell\/c.kindOf r=S .free)/\cZ r=ML:=
 gV B λT X G=>by
  refine fA (Cx.lA T) ?_ X;refine aM (NR G) λH D G=>?_;have U:=z r H D;clear T X D z B;induction H using Kd.casesOn with
  |loc=>exact .inl U
  |cell=>exact .inr (.inl U)
  |C'=>exact .inr U
  |glob=>exact bF G
theorem Cx.pR(z:fZ E c)(B:E.dst K r=ML):E.sl[K]? = S (S r)/\(c.kindOf r=S .local\/c.kindOf r=S .cell):=
 an B λp G=>by
  refine⟨Cx.lA p,?_⟩;refine aM (NR G) λH D G=>?_;have U:=z r H D;induction H using Kd.casesOn with
  |loc=>exact .inl U
  |cell=>exact .inr U
  |_=>exact bF G
deriving instance DecidableEq for BV
set_option genCtorIdx true in
inductive GV|fn(k:Z)|cls(c:dG)|int(i:MN)|bi(b:BV)
 deriving O7
noncomputable def Ld:V (MU×GV):=[("Thing",GV.cls .Thing),("Text",GV.cls .Text),("Row",GV.cls .Row),("DictBody",GV.cls .Dict),("Span",GV.cls .Span),("Limits",GV.cls .Cy),("VmSave",GV.cls .jN),("Memory",GV.cls .Mem),("PsError",GV.cls .bQ),("GRAIN",GV.int 1000000),("READ_ONLY",GV.int 2),("UNLIMITED",GV.int 3),("ITEM_COST",GV.int 8),("ENTRY_COST",GV.int 16),("MOST_COST",GV.int 16777216),("len",GV.bi (.fn "len")),("min",GV.bi (.fn "min")),("max",GV.bi (.fn "max")),("abs",GV.bi (.fn "abs")),("int",GV.bi (.ty "int")),("bytes",GV.bi (.ty "bytes")),("bytearray",GV.bi (.ty "bytearray")),("list",GV.bi (.ty "list")),("range",GV.bi (.ty "range")),("enumerate",GV.bi (.ty "enumerate")),("isinstance",GV.bi (.fn "isinstance"))]
noncomputable def AI:V (MU×GV):=(fnName.zipIdx.filterMap λL=>match L.1 with|(H,N)=>S (sx H,GV.fn L.2)|_=>N)++Ld
noncomputable def JT(a:NA)(r:MU):GV->Prop
 |.fn H=>NZ a NO r=S (S (.ref (FA H)))/\H<60
 |.cls C=>NZ a NO r=S (S (.ref (CA C)))
 |.int K=>∃n,NZ a NO r=S (S (.int K n))
 |.bi M=>NZ a NO r=S N/\QV r=S M.val/\r≠"__name__"
noncomputable def rB(a:NA):Prop:=∀L∈AI,JT a L.1 L.2/\cZ L.1=ML
theorem kH{E:G}{T:V (MU×G)}(B:T.lookup r=S E):(r,E)∈T:=by
 induction T with
 |nil=>exact nX B
 |cons L y d=>
  rw[SH] at B;refine v9 (r==L.1) (λD=>?_) (λD=>?_);·rw[D] at B;exact .tail _ (d B)
  ·rw[D] at B;exact N'.mp D▸sX B▸.head _
noncomputable def Cx.Dz(C:Cx)(r:MU):O GV:=if C.kd r=S .glob then AI.lookup r else N
theorem Cx.kg{a:GV}(z:fZ E c)(o:rB v)(B:E.Dz r=S a):c.kindOf r=S .globalImplicit/\JT v r a/\cZ r=ML:=by
 by_cases D:E.kd r=S .glob;·exact⟨z r _ D,o _ (kH ((Nb D).symm.trans B))⟩
 ·exact nX ((Nf D).symm.trans B)
noncomputable def Cx.bi(C:Cx)(r:MU)(M:BV):MP:=MX (C.Dz r=S (.bi M))
theorem Cx.mw{M:BV}(z:fZ E c)(o:rB v)(B:E.bi r M=ML):xr v c r M.val:=fK (Cx.kg z o (M8 B)) λH bE pl=>fK bE λd A g=>⟨d,A,g,H,bG pl⟩
noncomputable def oj:Og->MP|.And=>ML|_=>MT
noncomputable def B5(z:wi)(o:O8):MP:=MX (o=wK z)
noncomputable def ya(C:Cx)(g:NC)(m:V (Z×MU)):V (O MU):=C.sl.zipIdx.map λL=>(m.lookup L.2).or (L.1.bind λr=>if g.names.lookup r=S .free then S r else N)
noncomputable def DA(C:Cx)(g:NC)(l:V (O MU))(m:V Z):MP:=g.names.all (λL=>MX (L.2≠.cell))&&MX (g.kind=.function)&&g.names.all (λL=>MX (L.2≠.local)||MX (g.names.lookup L.1=S .local))&& g.names.all (λL=>MX (L.2≠.free)||((MX (C.kd L.1=S .cell)||MX (C.kd L.1=S .C'))&&C.sl.contains (S L.1)))&& l.zipIdx.all (λL=>L.1.isNone||L.1.any λr=>(m.contains L.2&&MX (g.names.lookup r=S .local))||(!m.contains L.2&&C.slot L.2 r&&MX (g.names.lookup r=S .free)))&& MX ((l.filterMap λL=>L).Nodup)&&MX (l.length=C.sl.length)
inductive It|E(e:LE)(x:MQ)|T(e:LE)(x:MQ)|Es(es:cz)(xs:V MQ)|O(o:LO)(x:Option MQ)|P(ks:V Z)(vs:cz)(xs:V (Option MQ))(ys:V MQ)
noncomputable def iW(r:MQ)(m:V Z):V (Z×MU):=(((bV r).bind λJ=>(l1 m).map λi=>[(i,J)]).or (((jz r).bind l2).bind λL=>(bV L.1).bind λI=>(bV L.2).bind λM=>(l2 m).map λi=>[(i.1,I),(i.2,M)])).getD []
noncomputable def DB(l:V (O MU))(g:NC)(m:V (Z×MU)):MP:=m.all λL=>MX (l[L.1]? = S (S L.2))&&MX (g.names.lookup L.2=S .local)
noncomputable def Ff:cz->O LE
 |.cons D .nil=>S D
 |_=>N
noncomputable def sF(D:LE):O Z:=by induction D using LE.casesOn with|var r=>exact S r|_=>exact N
noncomputable def Fg(D:LE):O (Z×Z):=by induction D using LE.casesOn with|attr D I=>exact(sF D).map λi=>(i,I)|_=>exact N
theorem yc(D:LE):aZ (sF D) λi=>D=.var i:=by induction D using LE.casesOn<;>first|exact RZ|rfl
theorem B6(D:LE):aZ (Fg D) λL=>D=.attr (.var L.1) L.2:=by
 induction D using LE.casesOn with
 |attr D A=>
  have B:=yc D
  revert B
  show _->aZ ((sF D).map _) _
  cases sF D with
  |none=>exact λY=>RZ
  |some i=>exact λB=>Nc (LE.attr · A) B
 |_=>exact RZ
theorem yd(y:cz):aZ (Ff y) λD=>y=.cons D .nil:=by rcases y with _|⟨D,_|⟨m,a⟩⟩<;>first|exact RZ|rfl
noncomputable def Gv(H:OT):O (V Np):=vw OT.ctorIdx 6 H λB=>OT.bytes.elim H B λM=>S M
theorem DC(H:OT):aZ (Gv H) λM=>H=.bytes M:=dq λB=>OT.bytes.elim (motive:=λH=>∀B,aZ (OT.bytes.elim (motive:=λ_=>O (V Np)) H B λM=>S M) λM=>H=.bytes M) H B (λM _=>rfl) B
noncomputable def Le(h:It->MP):cz->V MQ->MP
 |.nil,j=>j.isEmpty
 |.cons D y,j=>match j with
  |[]=>MT
  |r :: j=>notStar r&&h (.E D r)&&h (.Es y j)
noncomputable def cO(h:It->MP):LO->O MQ->MP
 |.no,r=>r.isNone
 |.so D,r=>r.any λr=>h (.E D r)
noncomputable def cP(h:It->MP):V Z->cz->V (O MQ)->V MQ->MP
 |[],w,j,A=>(match w with|.nil=>ML|_=>MT)&&j.isEmpty&&A.isEmpty
 |H :: g,w,j,A=>match w with
  |.nil=>MT
  |.cons E w=>match j with
   |[]=>MT
   |r :: j=>match A with
    |[]=>MT
    |s :: A=>r.any λr=>MX (H<NS)&&(iV r).any (λL=>MX (L=.str (sx H)))&&h (.E E s)&&h (.P g w j A)
noncomputable def cT(h:It->MP)(r:MQ):LE->MP
 |.and I M=>(vBool r).any λL=>oj L.1&&h (.T I L.2.1)&&h (.T M (.BoolOp .And (L.2.2.1 :: L.2.2.2.1) L.2.2.2.2))
 |.or I M=>(vBool r).any λL=>!oj L.1&&h (.T I L.2.1)&&h (.T M (.BoolOp .Or (L.2.2.1 :: L.2.2.2.1) L.2.2.2.2))
 |.not I=>(HA r).any λL=>MX (L.1=.Not)&&h (.T I L.2)
 |.cmp z I M=>(Dx r).any λL=>MX (L.2.1=jf z)&&!(P5 (jf z) L.2.2)&&h (.E I L.1)&&h (.E M L.2.2)
 |.ite n I M=>(IW r).any λL=>h (.T n L.1)&&h (.T I L.2.1)&&h (.T M L.2.2)
 |D=>!(rQ r)&&h (.E D r)
noncomputable def cB(h:It->MP)(C:Cx)(l:cz)(J:MU)(j:V MQ):BI->MP
 |.fJ=>(Ff l).any λD=>(l1 j).any λs=>(hO s).any λn=>(bV n.1).any λb=>(l1 n.2.1).any λU=>MX (J=("list":MU))&&C.bi "list" (.ty "list")&&MX (b=("range":MU))&&C.bi "range" (.ty "range")&&notStar U&&h (.E D U)
 |.gS=>(Ff l).any λD=>(l2 j).any λL=>(bV L.2).any λb=>MX (J=("isinstance":MU))&&C.bi "isinstance" (.fn "isinstance")&&MX (b=("int":MU))&&C.bi "int" (.ty "int")&&notStar L.1&&h (.E D L.1)
 |M=>(Aq M).any λbv=>MX (J=bv.1)&&C.bi J bv.2&&h (.Es l j)
noncomputable def IY(A:LE->MQ->MP)(f:V MQ):LO->MP
 |.no=>f.isEmpty
 |.so D=>(l1 f).any (A D)
noncomputable def cE(h:Cx->It->MP)(C:Cx)(r:MQ):LE->MP
 |.and I M=>(vBool r).any λL=>oj L.1&&h C (.E I L.2.1)&&h C (.E M (.BoolOp .And (L.2.2.1 :: L.2.2.2.1) L.2.2.2.2))
 |.or I M=>(vBool r).any λL=>!oj L.1&&h C (.E I L.2.1)&&h C (.E M (.BoolOp .Or (L.2.2.1 :: L.2.2.2.1) L.2.2.2.2))
 |.kM=>(iV r).any λH=>MX (H=.none)
 |.qg M=>(iV r).any λH=>MX (H=.bool M)
 |.int K=>(iV r).any λH=>MX (H=.int K)
 |.str H=>(iV r).any λL=>MX (L=.str (sx H))&&MX (H<NS)
 |.bw T=>(iV r).any λH=>(Gv H).any λM=>MX (M.map SM=T)
 |.var i=>(bV r).any λJ=>C.var i J
 |.gf A=>(bV r).any λJ=>MX (C.Dz J=S (.fn A))
 |.gc v=>(bV r).any λJ=>MX (C.Dz J=S (.cls v))
 |.gi _ K=>(bV r).any λJ=>MX (C.Dz J=S (.int K))
 |.attr D I=>(hM r).any λL=>MX (L.2=sx I)&&eJ L.1&&h C (.E D L.1)
 |.call A l=>(hO r).any λL=>(hM L.1).isNone&&h C (.E A L.1)&&h C (.Es l L.2.1)
 |.bq M l=>(hO r).any λL=>(bV L.1).any λJ=>cB (h C) C l J L.2.1 M
 |.aU D x l=>(hO r).any λL=>(pO L.1).any λb=>MX (b.2.1=sx x)&&eJ b.1&&(b.2.2.endLine==L.2.2.line)&&MX (L.2.1.length<30)&&h C (.E D b.1)&&h C (.Es l L.2.1)
 |.sub I K=>(sE r).any λL=>fS L.2&&h C (.E I L.1)&&h C (.E K L.2)
 |.qh D o d=>(sE r).any λL=>(xY L.2).any λb=>h C (.E D L.1)&&h C (.O o b.1)&&h C (.O d b.2)
 |.pick g w K=>(sE r).any λL=>(xX L.1).any λb=>fS L.2&&decide g.Nodup&&MX (g.length<=15)&&h C (.P g w b.1 b.2)&&h C (.E K L.2)
 |.tup y=>(jz r).any λj=>MX (jY y<1000)&&h C (.Es y j)
 |.lst y=>(Dw r).any λj=>MX (jY y<1000)&&h C (.Es y j)
 |.emp=>(Dw r).any λj=>j.isEmpty
 |.tm g w=>(xX r).any λb=>decide g.Nodup&&MX (g.length<=15)&&h C (.P g w b.1 b.2)
 |.bin z I M=>(Gn r).any λL=>B5 z L.2.1&&h C (.E I L.1)&&h C (.E M L.2.2)
 |.cmp z I M=>(Dx r).any λL=>MX (L.2.1=jf z)&&!(P5 (jf z) L.2.2)&&h C (.E I L.1)&&h C (.E M L.2.2)
 |.not I=>(HA r).any λL=>MX (L.1=.Not)&&h C (.E I L.2)
 |.neg I=>(HA r).any λL=>MX (L.1=.USub)&&h C (.E I L.2)
 |.ite b I M=>(IW r).any λL=>h C (.T b L.1)&&h C (.E I L.2.1)&&h C (.E M L.2.2)
 |.comp a m e q=>(q7 r).any λL=>cC h C a m e q L.1 L.2.1 L.2.2.1 L.2.2.2.1 L.2.2.2.2.1 L.2.2.2.2.2
 |.vals D H=>(q7 r).any λL=>cV C D H L.1 L.2.1 L.2.2.1 L.2.2.2.1 L.2.2.2.2.1 L.2.2.2.2.2
where
 cC (h:Cx->It->MP) (C:Cx) (a:LE) (m:V Z) (e:LE) (q:LO) (s b K:MQ) (fs:V MQ) (sc:NC) (n:MN):MP:=
  (MX (n=0)&&!(dX K)&&h C (.E e K)&&MX ((iW b m).map (·.1)=m)&&!m.isEmpty&&DA C sc (ya C sc (iW b m)) m&&DB (ya C sc (iW b m)) sc (iW b m))&&
  h ⟨sc.names,ML,ya C sc (iW b m)⟩ (.E a s)&&IY (λD s=>h ⟨sc.names,ML,ya C sc (iW b m)⟩ (.T D s)) fs q
 cV (C:Cx) (D:LE) (H:Z) (s b K:MQ) (fs:V MQ) (sc:NC) (n:MN):MP:=
  (Fg D).any λk=>(sE s).any λI=>(hM I.1).any λM=>(bV M.1).any λY=>(bV I.2).any λc=>(bV b).any λp=>(hM K).any λG=>(bV G.1).any λX=>
   (MX (M.2=sx k.2)&&MX (G.2=sx k.2)&&MX (X=Y)&&MX (p=c)&&fs.isEmpty&&MX (n=0))&&
   (MX (k.2≠26)&&MX (k.1≠H)&&DA C sc (ya C sc [(H,c)]) [H]&&C.var k.1 Y)&&(MX (sc.names.lookup Y=S .free)&&MX (sc.names.lookup c=S .local)&&cZ c&&
   MX ((ya C sc [(H,c)])[k.1]? = S (S Y))&&MX ((ya C sc [(H,c)])[H]? = S (S c)))
noncomputable def AJ(h:Cx->It->MP)(C:Cx):It->MP
 |.Es y j=>Le (h C) y j
 |.O z r=>cO (h C) z r
 |.P g w j A=>cP (h C) g w j A
 |.T D r=>cT (h C) (zB r) D
 |.E D r=>cE h C (zB r) D
noncomputable def fu:Z->Cx->It->MP
 |0,_,_=>MT
 |q+1,C,n=>AJ (fu q) C n
theorem SE.bw{M:V Np}:SE h a e l c j f i (.bw (M.map SM)) (.Constant (.bytes M) H J):=λg y b t A p G B=>by exact Constant_bytes (.ok (.tok G.inv) (.bw _ _ _ rfl))
theorem pS{T:V (O MU)}(B:T.contains (S r)=ML):∃i:Z,T[i]? = S (S r):=by have:=Ts.mp B;exact SJ.mp this
theorem om{T:V (O MU)}(B:(T.filterMap λL=>L).Nodup):∀(K i:Z) r,T[K]? = S (S r)->T[i]? = S (S r)->K=i:=by
 induction T with
 |nil=>intro K i r D;exact nX D
 |cons I T d=>
  intro K i r X m
  have n:(T.filterMap λL=>L).Nodup:=by
   induction I using Ry with
   |none=>exact B
   |some s=>exact(RW.mp (show(s :: T.filterMap λL=>L).Nodup from B)).2
  have w:∀{i:Z},I=S r->T[i]? = S (S r)->Nx:=λ{i} t D=>by subst t;exact(RW.mp (show(r :: T.filterMap λL=>L).Nodup from B)).1 (TY.mpr (ba (S r) (RJ D) rfl))
  induction K using RY with
  |zero=>
   induction i using RY with
   |zero=>rfl
   |succ i=>simp at X m;exact(w X m).elim
  |succ K=>
   induction i using RY with
   |zero=>simp at X m;exact(w m X).elim
   |succ i=>simp at X m;refine R (d n K i r X m) rfl
theorem HB{I M:MP}(B:(I||M)=ML)(q:I≠ML):M=ML:=(Sz.mp B).resolve_left q
theorem dN{P:Prop}[OJ P](B:¬P):decide P≠ML:=λU=>B (M8 U)
theorem uo{g:NC}{l:V (O MU)}{m:V Z}(z:fZ E c)(B:DA E g l m=ML):BW g c E.sl l m:=
 FG B λp G T X k a Y=>by
  refine⟨λs x=>M8 (Sh.mp p s x),M8 G,λr x D=>M8 (HB (Sh.mp T r x) (dN λU=>U D)),λr x=>?_,λi r D=>?_,om (M8 a),M8 Y⟩
  ·refine an (HB (Sh.mp X _ x) (dN λU=>U rfl)) λy q=>⟨?_,pS q⟩;rcases Sz.mp y with D|D;·exact .inl (z r _ (M8 D))
   ·exact z r _ (M8 D)
  ·have x:(S r,i)∈l.zipIdx:=UQ.mpr D;rcases Sz.mp (Sh.mp k _ x) with D|D;·exact bF D
   ·rcases Sz.mp D with D|D;·exact an D λy q=>.inl ⟨Ts.mp y,M8 q⟩
    ·exact gV D λy q C=>.inr ⟨λU=>RX ((nF y).symm.trans (Ts.mpr U)),Cx.lA q,M8 C⟩
theorem lB{g:NC}{v:V (MU×MS)}{M:MS}(l:V (O MU)):fZ ⟨g.names,ML,l⟩ (Nr g v M c):=by
 intro r H B;refine iQ B λs X m=>?_;induction s using Vc with
 |«local»=>exact sX m▸dh X
 |free=>exact sX m▸kind_free X
 |globalImplicit=>exact sX m▸vn X
 |_=>exact nX m
theorem AK{m:V Z}{l:V (Z×G)}(B:l.map (·.1)=m)(q:m.isEmpty=MT):l≠[]:=by rintro rfl;subst B;cases q
inductive DE:MQ->V Z->V (Z×MU)->Prop
 |one {x:MU} {j:Z} (p:Ni):DE (.Name x p) [j] [(j,x)]
 |two {x y:MU} {i j:Z} (p1 p2:Ni) (k:Z) (p:Ni):DE (.Tuple [.Name x p1,.Name y p2] k p) [i,j] [(i,x),(j,y)]
 |no {x:MQ} {ts:V Z}:DE x ts []
theorem DF(r:MQ)(m:V Z):DE r m (iW r m):=by
 unfold iW;induction X:bV r using Ry with
 |some J=>
  obtain⟨P,rfl⟩:=ot (bu r) X
  induction b:l1 m using Ry with
  |some i=>obtain rfl:=ot (oP m) b;exact .one P
  |none=>exact .no
 |none=>
  induction b:jz r using Ry with
  |none=>exact .no
  |some j=>
   obtain⟨L,rfl⟩:=ot (fL r) b
   show DE _ _ (O.getD ((l2 j).bind _) [])
   induction s:l2 j using Ry with
   |none=>exact .no
   |some a=>
    obtain rfl:=ot (zP j) s
    show DE _ _ (O.getD ((bV a.1).bind _) [])
    induction Y:bV a.1 using Ry with
    |none=>exact .no
    |some I=>
     obtain⟨l,K⟩:=ot (bu _) Y
     induction E:bV a.2 using Ry with
     |none=>exact .no
     |some M=>
      obtain⟨n,x⟩:=ot (bu _) E
      induction U:l2 m using Ry with
      |none=>exact .no
      |some i=>obtain rfl:=ot (zP m) U;refine R K (R x ?_);exact .two l n L.1 L.2
theorem AL{g:NC}{l:V (O MU)}{n:MQ}{m:V Z}(B:DB l g (iW n m)=ML)(D:(iW n m).map (·.1)=m)(d:m.isEmpty=MT):An l g m n:=by
 revert B D;have j:∀{T:V (Z×MU)} {L:Z×MU},DB l g T=ML->L∈T->l[L.1]? = S (S L.2)/\g.names.lookup L.2=S .local:=λ{T L} B x=>
  an (Sh.mp B _ x) λc b=>⟨M8 c,M8 b⟩
 generalize a:iW n m=T;have U:=a▸DF n m;clear a;induction U using DE.casesOn with
 |one P=>exact λB Y=>let L:=j B (.head _);.one L.1 L.2
 |two f e H P=>exact λB Y=>let L:=j B (.head _);let w:=j B (.tail _ (.head _));.two L.1 L.2 w.1 w.2
 |no=>exact λY D=>Nh rfl (AK (l:=([]:V (Z×MU))) D d)
noncomputable def Good(l:Nv)(a:Nj)(d:MV)(T:V Ng)(c:Ng)(i:V (O MU))(f:Nw)(e:CF):It->Prop
 |.E D r=>SE l a d T c i f e D r
 |.T D r=>ST l a d T c i f e D r
 |.Es y j=>m8 l a d T c i f e y j
 |.O z r=>SO l a d T c i f e z r
 |.P g w j A=>rT l a d T c i f e g w j A
theorem ye{z:wi}{o:O8}(B:B5 z o=ML):o=wK z:=M8 B
theorem q8{z:Og}(B:oj z=ML):z=.And:=by induction z using Og.casesOn<;>first|rfl|cases B
theorem uq{z:Og}(B:(!oj z)=ML):z=.Or:=by induction z using Og.casesOn<;>first|rfl|cases B
theorem AM{g:It->MP}{w:cz}{d:V (O MQ)}{A:V MQ}(K:∀{D r},g (.E D r)=ML->SE h a e l c j f i D r)(b:∀{ae w d A},g (.P ae w d A)=ML->rT h a e l c j f i ae w d A)
  (B:cP g ae w d A=ML):rT h a e l c j f i ae w d A:=by
 induction ae using RD with
 |nil=>induction w using cz.casesOn with
  |nil=>induction d using RD with
   |nil=>induction A using RD with
    |nil=>exact .nil
    |cons _ _=>exact bF B
   |cons _ _=>exact bF B
  |cons _ _=>exact bF B
 |cons H ae=>induction w using cz.casesOn with
  |nil=>exact bF B
  |cons E w=>induction d using RD with
   |nil=>exact bF B
   |cons r d=>induction A using RD with
    |nil=>exact bF B
    |cons s A=>induction r using Ry with
     |none=>exact bF B
     |some r=>exact wC B λp G T X=>k1 (P:=λr=>rT h a e l c j f i _ _ (S r :: _) _) (fY r) G λL k B=>dE B▸(.cons (M8 p) (K T) (b X))
theorem AN{A:It->MP}{t:cz}{x:MU}{d:V MQ}{M:BI}(R:bo N q f l)(C:Gr v e P be bg bf)(o:rB v)(z:fZ E c)(K:∀{D r},A (.E D r)=ML->SE h a e l c j f i D r)(I:∀{y d},A (.Es y d)=ML->m8 h a e l c j f i y d)
  (B:cB A E t x d M=ML):SE h a e l c j f i (.bq M t) (.Call (.Name x bj) d [] J):=by
 have g:∀{M},((Aq M).any λbv=>MX (x=bv.1)&&E.bi x bv.2&&A (.Es t d))=ML->SE h a e l c j f i (.bq M t) (.Call (.Name x bj) d [] J):=λB=>by exact aM (NR B) λbv w B=>gV B λp G T=>SE.bq (w.trans (Nc S (NU.ext (M8 p).symm rfl))) R C (Cx.mw z o G) (I T)
 induction M using BI.casesOn with
 |fJ=>
  exact k0 (P:=λt=>SE h a e l c j f i (.bq _ t) _) (yd t) B λD B=>k0 (P:=λd=>SE h a e l c j f i _ (.Call _ d [] _)) (oP d) B λs B=>k0 (P:=λs=>SE h a e l c j f i _ (.Call _ [s] [] _)) (eA s) B λn B=>
   k1 (P:=λs=>SE h a e l c j f i _ (.Call _ [.Call s _ [] _] [] _)) (bu n.1) B λb P B=>k0 (P:=λs=>SE h a e l c j f i _ (.Call _ [.Call _ s [] _] [] _)) (oP n.2.1) B λU B=>
   zR B λp G T X k m=>dE p▸(dE T▸(SE.fJ R C (Cx.mw z o G) (Cx.mw z o X) (K m) k))
 |gS=>
  exact k0 (P:=λt=>SE h a e l c j f i (.bq _ t) _) (yd t) B λD B=>k0 (P:=λd=>SE h a e l c j f i _ (.Call _ d [] _)) (zP d) B λL B=>k1 (P:=λs=>SE h a e l c j f i _ (.Call _ [_,s] [] _)) (bu L.2) B λb P B=>
   zR B λp G T X k m=>dE p▸(dE T▸(SE.gS R C (Cx.mw z o G) (Cx.mw z o X) (K m) k))
 |_=>exact g B
theorem ur{prog:Nv}{w:Nj}{g₀:MV}{l:V Ng}{A:Nw}{cf:CF}{go:Cx->It->MP}{a d:LE}{m:V Z}{q:LO}{n K:MQ}{f:V MQ}{g:NC}{H:MN}(h:∀{D r},go E (.E D r)=ML->SE prog w g₀ l c E.sl A cf D r)
  (I:∀{g b v M D r},go ⟨g.names,ML,b⟩ (.E D r)=ML->SE prog w g₀ l (Nr g v M c) b A cf D r) (i:∀{g b v M D r},go ⟨g.names,ML,b⟩ (.T D r)=ML->ST prog w g₀ l (Nr g v M c) b A cf D r)
  (z:fZ E c) (B:cE.cC go E a m d q s n K f g H=ML):MX (H=0)=ML/\SE prog w g₀ l c E.sl A cf d K/\dX K=MT/\BW g c E.sl (ya E g (iW n m)) m/\An (ya E g (iW n m)) g m n/\
   (∀v M,SE prog w g₀ l (Nr g v M c) (ya E g (iW n m)) A cf a s)/\∀v M,Dd prog w g₀ l (Nr g v M c) (ya E g (iW n m)) A cf q f:=
 gV B λB J j=>FG B λp G T X k e Y=>⟨p,h T,nF G,uo z e,AL Y (M8 X) (nF k),λv M=>I J,λv M=>by
  induction q using LO.casesOn with
  |no=>induction f using RD with
   |nil=>exact .inl ⟨rfl,rfl⟩
   |cons _ _=>exact bF j
  |so D=>exact k0 (P:=λf=>Dd prog w g₀ l _ _ A cf _ f) (oP f) j λs B=>.inr (qq _ _ rfl rfl (i B))⟩
theorem AO{n K:MQ}{m:V MQ}{g:NC}{x:MN}(C:Gr v e P be bg bf)(R:bo N q f l)(z:fZ E c)(B:cE.cV E af H s n K m g x=ML):SE h a e l c E.sl f i (.vals af H) (.ListComp s [⟨n,K,m,x⟩] g J):=
 k0 (P:=λaf=>SE h a e l c E.sl f i (.vals af H) _) (B6 af) B λk B=>k1 (P:=λs=>SE h a e l c E.sl f i _ (.ListComp s _ _ _)) (ke s) B λI P B=>
 k1 (P:=λs=>SE h a e l c E.sl f i _ (.ListComp (.Subscript s _ _) _ _ _)) (fH I.1) B λa0 P B=>k1 (P:=λs=>SE h a e l c E.sl f i _ (.ListComp (.Subscript (.Attribute s _ _) _ _) _ _ _)) (bu a0.1) B λY P B=>
 k1 (P:=λs=>SE h a e l c E.sl f i _ (.ListComp (.Subscript _ s _) _ _ _)) (bu I.2) B λkx P B=>k1 (P:=λs=>SE h a e l c E.sl f i _ (.ListComp _ [⟨s,_,_,_⟩] _ _)) (bu n) B λp P B=>
 k1 (P:=λs=>SE h a e l c E.sl f i _ (.ListComp _ [⟨_,s,_,_⟩] _ _)) (fH K) B λG P B=>k1 (P:=λs=>SE h a e l c E.sl f i _ (.ListComp _ [⟨_,.Attribute s _ _,_,_⟩] _ _)) (bu G.1) B λX P B=>
 gV B λha w j=>zR ha λA U L M y t=>wC w λb1 b2 b3 b4=>zQ j λc1 o T b c5=>by refine fK (Cx.pQ z b4) λr D d=>?_;obtain rfl:=Tq.mp y;exact dE A▸(dE U▸(dE L▸(dE M▸(dE t▸(SE.vals (M8 b1) C R (uo z b3) r D (M8 b) (M8 c5) (M8 o) (M8 c1) (M8 b2) (bG d) (ie d) (bG T))))))
set_option maxHeartbeats 4000000 in
theorem eQ{prog:Nv}{w:Nj}{l:V Ng}{A:Nw}{a7:Nv}(a8:Gr v e a7 be bg bf)(o:rB v)(CC:iy prog w e N i q)(R:bo N (q+1) A l):∀(x:Z) (C:Cx) (c:Ng) (n:It),fZ C c->fu x C n=ML->Good prog w e l c C.sl A i n:=by
 have k:A.units+64<NB:=BQ R.units rfl;have R0:=R.less (So _);intro x;induction x with
 |zero=>exact λC c n z B=>bF B
 |succ x d=>
  intro C c n z B
  have K:∀{D r},fu x C (.E D r)=ML->SE prog w e l c C.sl A i D r:=λB=>d C c _ z B
  have iT:∀{D r},fu x C (.T D r)=ML->ST prog w e l c C.sl A i D r:=λB=>d C c _ z B
  have iS:∀{y j},fu x C (.Es y j)=ML->m8 prog w e l c C.sl A i y j:=λB=>d C c _ z B
  have iO:∀{I r},fu x C (.O I r)=ML->SO prog w e l c C.sl A i I r:=λB=>d C c _ z B
  have iP:∀{ks vs j ys},fu x C (.P ks vs j ys)=ML->rT prog w e l c C.sl A i ks vs j ys:=λB=>d C c _ z B
  induction n using It.casesOn with
  |Es y j=>
   induction y using cz.casesOn with
   |nil=>induction j using RD with
    |nil=>exact .nil
    |cons _ _=>exact bF B
   |cons D y=>induction j using RD with
    |nil=>exact bF B
    |cons r j=>exact gV B λp G H=>.cons (K G) p (iS H)
  |O I r=>
   induction I using LO.casesOn with
   |no=>induction r using Option.casesOn with
    |none=>exact .no
    |some _=>exact bF B
   |so D=>induction r using Option.casesOn with
    |none=>exact bF B
    |some r=>exact .so (K B)
  |P ks vs j ys=>exact AM K iP B
  |T D r=>
   have B:cT (fu x C) (zB r) D=ML:=B
   refine B4 (P:=λr=>ST prog w e l c C.sl A i D r) ?_ λY Y Y=>ST.one
   generalize zB r=r at B
   have pl:∀{D:LE},(!(rQ r)&&fu x C (.E D r))=ML->ST prog w e l c C.sl A i D r:=λB=>an B λp G=>.plain (K G) (oY (nF p))
   induction D using LE.casesOn with
   |and I M=>exact k0 (lz r) B λL B=>gV B λp G H=>(q8 p).symm▸ST.and (iT G) (iT H)
   |or I M=>exact k0 (lz r) B λL B=>gV B λp G H=>(uq p).symm▸ST.or (iT G) (iT H)
   |not I=>exact k1 (x8 r) B λL a7 B=>an B λp G=>dE p▸(ST.not (iT G))
   |cmp t I M=>exact k1 (x5 r) B λL a7 B=>wC B λp G H X=>dE p▸(ST.cmp k a8.mods (K H) (K X) (nF G))
   |ite n I M=>exact k1 (B3 r) B λL a7 B=>gV B λp G H=>ST.ite (iT p) (iT G) (iT H)
   |_=>exact pl B
  |E D r=>
   have B:cE (fu x) C (zB r) D=ML:=B
   refine B4 (P:=λr=>SE prog w e l c C.sl A i D r) ?_ λY Y Y=>SE.one
   generalize zB r=r at B
   induction D using LE.casesOn with
   |and I M=>exact k0 (lz r) B λL B=>gV B λp G H=>(q8 p).symm▸SE.and (K G) (K H)
   |or I M=>exact k0 (lz r) B λL B=>gV B λp G H=>(uq p).symm▸SE.or (K G) (K H)
   |kM=>exact k1 (fY r) B λL a7 B=>dE B▸SE.kM
   |qg M=>exact k1 (fY r) B λL a7 B=>dE B▸SE.qg
   |int a9=>exact k1 (fY r) B λL a7 B=>dE B▸SE.int
   |str b9=>exact k1 (fY r) B λL a7 B=>an B λp G=>dE p▸(SE.str (M8 G))
   |bw M=>exact k1 (fY r) B λL a7 B=>k0 (P:=λL=>SE prog w e l c C.sl A i _ (.Constant L _ _)) (DC L) B λM B=>M8 B▸SE.bw
   |var b9=>exact k1 (bu r) B λL a7 B=>by obtain⟨g,b,f⟩:=Cx.pQ z B;exact SE.name g b (bG f) (ie f)
   |gf c1=>exact k1 (bu r) B λL a7 B=>by obtain⟨g,b,f⟩:=Cx.kg z o (M8 B);exact SE.gf a8 b.1 g (bG f)
   |gc c4=>exact k1 (bu r) B λL a7 B=>by obtain⟨g,b,f⟩:=Cx.kg z o (M8 B);exact SE.gc a8 b g (bG f)
   |gi J a9=>exact k1 (bu r) B λL a7 B=>by obtain⟨g,⟨_,b⟩,f⟩:=Cx.kg z o (M8 B);exact SE.gi a8 b g (bG f)
   |attr D I=>exact k1 (fH r) B λL a7 B=>gV B λp G H=>dE p▸(SE.attr a8 CC R (K H) G)
   |call c1 as=>exact k0 (eA r) B λL B=>gV B λp G H=>SE.call a8 CC R (K G) (iS H) λt a' p' U=>bF (((Nc (λr=>(hM r).isNone) U).symm.trans p))
   |bq M as=>exact k0 (eA r) B λL B=>k1 (P:=λs=>SE prog w e l c C.sl A i _ (.Call s _ [] _)) (bu L.1) B λJ a7 B=>AN R0 a8 o z K iS B
   |aU D m' as=>exact k0 (eA r) B λL B=>k0 (P:=λs=>SE prog w e l c C.sl A i _ (.Call s _ [] _)) (mv L.1) B λn B=>zR B λp G H X h5 m=>dE p▸(SE.aU a8 CC R (K h5) (iS m) G H (M8 X) λY U Y Y Y=>nQ U)
   |sub I a9=>exact k1 (ke r) B λL a7 B=>gV B λp G H=>SE.sub k (K G) (K H) p
   |qh D a c3=>exact k1 (ke r) B λL a7 B=>k1 (P:=λs=>SE prog w e l c C.sl A i _ (.Subscript _ s _)) (x9 L.2) B λn a7 B=>gV B λp G H=>SE.qh (K p) (iO G) (iO H)
   |pick ks vs a9=>exact k1 (ke r) B λL a7 B=>k1 (P:=λs=>SE prog w e l c C.sl A i _ (.Subscript s _ _)) (um L.1) B λn a7 B=>zQ B λp G H X h5=>SE.pick k (iP X) (M8 G) (M8 H) (K h5) p
   |tup y=>exact k1 (fL r) B λL a7 B=>an B λp G=>SE.tup (iS G) (M8 p)
   |lst y=>exact k1 (xZ r) B λL a7 B=>an B λp G=>SE.lst (iS G) (M8 p)
   |emp=>
    refine k1 (xZ r) B λL a7 B=>?_
    induction L using RD with
    |nil=>exact SE.emp
    |cons _ _=>exact bF B
   |tm ks vs=>exact k1 (um r) B λL a7 B=>gV B λp G H=>SE.tm (RO (R6 _ _) k) (iP H) (M8 p) (M8 G)
   |bin t I M=>exact k1 (Dy r) B λL a7 B=>gV B λp G H=>SE.bin (K G) (K H) (ye p)
   |cmp t I M=>exact k1 (x5 r) B λL a7 B=>wC B λp G H X=>dE p▸(SE.cmp k a8.mods (K H) (K X) (nF G))
   |not I=>exact k1 (x8 r) B λL a7 B=>an B λp G=>dE p▸(SE.not (K G))
   |neg I=>exact k1 (x8 r) B λL a7 B=>an B λp G=>dE p▸(SE.neg (K G))
   |ite n I M=>exact k1 (B3 r) B λL a7 B=>gV B λp G H=>SE.ite (iT p) (K G) (K H)
   |comp c5 ts it c2=>exact k1 (pP r) B λL a7 B=>by obtain⟨a0,a1,h,a3,a4,a5,a6⟩:=ur K (λB=>d _ _ _ (lB _) B) (λB=>d _ _ _ (lB _) B) z B;exact dE a0▸(SE.comp R0 a1 h a3 a4 a5 a6)
   |vals D k'=>exact k1 (pP r) B λL a7 B=>AO a8 R0 z B
noncomputable def my(r:Na):O (MQ×MQ):=vw TN 5 r λB=>Na.Assign.elim r B λm s P=>(l1 m).map λn=>(n,s)
noncomputable def ki(r:Na):O MQ:=vw TN 24 r λB=>Na.Expr.elim r B λs P=>S s
noncomputable def IZ(r:Na):O (MQ×V Na×V Na):=vw TN 12 r λB=>Na.If.elim r B λs I M P=>S (s,I,M)
noncomputable def AP(r:Na):O (MQ×MQ×V Na):=vw TN 9 r λB=>Na.For.elim r B λn s M D P=>bif D.isEmpty then S (n,s,M) else N
noncomputable def Gw(r:Na):O (MQ×V Na):=vw TN 11 r λB=>Na.While.elim r B λs M D P=>bif D.isEmpty then S (s,M) else N
noncomputable def DG(r:Na):O MQ:=vw TN 3 r λB=>Na.Return.elim r B λs P=>s
noncomputable def B7(r:Na):O MQ:=vw TN 16 r λB=>Na.Raise.elim r B λs U P=>bif U.isNone then s else N
noncomputable def yf(r:ExceptHandler):O (MQ×MU×MQ):=match r with
 |.ExceptHandler (S n) (S r) M _=>((l1 M).bind ki).map λU=>(n,r,U)
 |_=>N
noncomputable def Gx(r:Na):O (MQ×MQ×MU×MQ):=vw TN 17 r λB=>Na.Try.elim r B λM B D A P=>bif D.isEmpty&&A.isEmpty then((l1 M).bind ki).bind λs=>((l1 B).bind yf).map λL=>(s,L) else N
theorem fM(r:Na):aZ (my r) λI=>∃P,r=.Assign [I.1] I.2 P:=dq λB=>Na.Assign.elim (motive_2:=λr=>∀B,aZ (Na.Assign.elim (motive_2:=λ_=>O (MQ×MQ)) r B λm s P=>(l1 m).map λn=>(n,s)) λI=>∃P,r=.Assign [I.1] I.2 P) r B (λm s P _=>by rcases m with _|⟨n,_|⟨U,y⟩⟩<;>first|exact RZ|exact⟨_,rfl⟩) B
theorem sG(r:Na):aZ (ki r) λI=>∃P,r=.Expr I P:=dq λB=>Na.Expr.elim (motive_2:=λr=>∀B,aZ (Na.Expr.elim (motive_2:=λ_=>O MQ) r B λs P=>S s) λI=>∃P,r=.Expr I P) r B (λs P _=>⟨_,rfl⟩) B
theorem B8(r:Na):aZ (IZ r) λI=>∃P,r=.If I.1 I.2.1 I.2.2 P:=dq λB=>Na.If.elim (motive_2:=λr=>∀B,aZ (Na.If.elim (motive_2:=λ_=>O (MQ×V Na×V Na)) r B λs I M P=>S (s,I,M)) λI=>∃P,r=.If I.1 I.2.1 I.2.2 P) r B (λs I M P _=>⟨_,rfl⟩) B
theorem sH(r:Na):aZ (AP r) λI=>∃P,r=.For I.1 I.2.1 I.2.2 [] P:=dq λB=>Na.For.elim (motive_2:=λr=>∀B,aZ (Na.For.elim (motive_2:=λ_=>O (MQ×MQ×V Na)) r B λn s M D P=>bif D.isEmpty then S (n,s,M) else N) λI=>∃P,r=.For I.1 I.2.1 I.2.2 [] P) r B (λn s M D P _=>by
  induction D using RD with
  |nil=>exact⟨_,rfl⟩
  |cons _ _=>exact RZ) B
theorem DH(r:Na):aZ (Gw r) λI=>∃P,r=.While I.1 I.2 [] P:=dq λB=>Na.While.elim (motive_2:=λr=>∀B,aZ (Na.While.elim (motive_2:=λ_=>O (MQ×V Na)) r B λs M D P=>bif D.isEmpty then S (s,M) else N) λI=>∃P,r=.While I.1 I.2 [] P) r B (λs M D P _=>by
  induction D using RD with
  |nil=>exact⟨_,rfl⟩
  |cons _ _=>exact RZ) B
theorem yg(r:Na):aZ (DG r) λI=>∃P,r=.Return (S I) P:=dq λB=>Na.Return.elim (motive_2:=λr=>∀B,aZ (Na.Return.elim (motive_2:=λ_=>O MQ) r B λs P=>s) λI=>∃P,r=.Return (S I) P) r B (λs P _=>by
  induction s using Ry with
  |some s=>exact⟨_,rfl⟩
  |none=>exact RZ) B
theorem AQ(r:Na):aZ (B7 r) λI=>∃P,r=.Raise (S I) N P:=dq λB=>Na.Raise.elim (motive_2:=λr=>∀B,aZ (Na.Raise.elim (motive_2:=λ_=>O MQ) r B λs U P=>bif U.isNone then s else N) λI=>∃P,r=.Raise (S I) N P) r B (λs U P _=>by
  induction U using Ry with
  |none=>induction s using Ry with
   |some s=>exact⟨_,rfl⟩
   |none=>exact RZ
  |some _=>exact RZ) B
theorem uu(M:V Na):aZ ((l1 M).bind ki) λs=>∃P,M=[.Expr s P]:=by
 rcases M with _|⟨t,_|⟨o,y⟩⟩;·exact RZ
 ·show aZ (ki t) _
  have B:=sG t
  revert B
  cases ki t with
  |none=>exact λY=>RZ
  |some s=>exact λ⟨P,D⟩=>⟨P,D▸rfl⟩
 ·exact RZ
theorem AR(M:V ExceptHandler):aZ ((l1 M).bind yf) λL=>∃P:Ni×Ni,M=[.ExceptHandler (S L.1) (S L.2.1) [.Expr L.2.2 P.1] P.2]:=by
 rcases M with _|⟨t,_|⟨o,y⟩⟩;·exact RZ
 ·obtain⟨n,r,M,P⟩:=t
  induction n using Ry with
  |none=>exact RZ
  |some n=>induction r using Ry with
   |none=>exact RZ
   |some r=>
    show aZ (((l1 M).bind ki).map _) _
    have B:=uu M
    revert B
    cases(l1 M).bind ki with
    |none=>exact λY=>RZ
    |some s=>exact λ⟨a,D⟩=>⟨(a,P),D▸rfl⟩
 ·exact RZ
theorem DI(r:Na):aZ (Gx r) λI=>∃P:Ni×Ni×Ni×Ni,r=.Try [.Expr I.1 P.1] [.ExceptHandler (S I.2.1) (S I.2.2.1) [.Expr I.2.2.2 P.2.1] P.2.2.1] [] [] P.2.2.2:=dq λB=>Na.Try.elim (motive_2:=λr=>∀B,aZ (Na.Try.elim (motive_2:=λ_=>O (MQ×MQ×MU×MQ)) r B λM B D A P=>bif D.isEmpty&&A.isEmpty then((l1 M).bind ki).bind λs=>((l1 B).bind yf).map λL=>(s,L) else N) λI=>∃P:Ni×Ni×Ni×Ni,r=.Try [.Expr I.1 P.1] [.ExceptHandler (S I.2.1) (S I.2.2.1) [.Expr I.2.2.2 P.2.1] P.2.2.1] [] [] P.2.2.2) r B (λM B D A P _=>by
  induction D using RD with
  |cons _ _=>exact RZ
  |nil=>induction A using RD with
   |cons _ _=>exact RZ
   |nil=>
    show aZ (((l1 M).bind ki).bind λs=>((l1 B).bind yf).map λL=>(s,L)) _
    have p:=uu M
    have G:=AR B
    revert p G
    cases(l1 M).bind ki with
    |none=>exact λY Y=>RZ
    |some s=>cases(l1 B).bind yf with
     |none=>exact λY Y=>RZ
     |some L=>exact λ⟨l,X⟩ ⟨n,m⟩=>⟨(l,n.1,n.2,P),X▸m▸rfl⟩) B
inductive DJ|S(st:LS)(x:Na)|Ss(st:dR)(xs:V Na)|U(os is:cz)(ts:V MQ)
noncomputable def sI(C:Cx):V Z->V MQ->O (V MU)
 |[],m=>if m.isEmpty then S [] else N
 |i :: k,m=>m.head?.bind λn=>(bV n).bind λr=>if C.dst i r then(sI C k m.tail).map (r :: ·) else N
noncomputable def sL(C:Cx)(J:MU):MP:=MX (C.Dz J=S (.cls .bQ))
noncomputable def Gy(a:V (MU×Nz))(r:MU)(n s:MQ)(g:NC):MP:=MX (a.lookup r=S .local)&&n.pos.line==s.pos.line&&!(g.names.any λL=>L.1==r&&(L.2==.local||L.2==.cell))
set_option tactic.hygienic true in
noncomputable def Gz(D:LE):O (Z×Z×Z×Z):=by
 cases D;case aU z x l=>exact(sF z).bind λK=>((Ff l).bind Fg).map λL=>(K,x,L)
 all_goals exact N
theorem DL(D:LE):aZ (Gz D) λL=>D=.aU (.var L.1) L.2.1 (.cons (.attr (.var L.2.2.1) L.2.2.2) .nil):=by
 induction D using LE.casesOn with
 |aU z x l=>
  show aZ ((sF z).bind λK=>((Ff l).bind Fg).map λL=>(K,x,L)) _
  have p:=yc z
  have G:=yd l
  revert p G
  cases sF z with
  |none=>exact λY Y=>RZ
  |some K=>cases Ff l with
   |none=>exact λY Y=>RZ
   |some I=>
    show _->_->aZ ((Fg I).map _) _
    have T:=B6 I
    revert T
    cases Fg I with
    |none=>exact λY Y Y=>RZ
    |some L=>exact λX m s=>by refine R (show z=_ from m) ?_;refine R (show l=_ from s) ?_;exact R (show I=_ from X) rfl
 |_=>exact RZ
noncomputable def JU(C:Cx)(l:LE)(U:MQ):MP:=(Gz l).any λi=>(hO U).any λL=>(pO L.1).any λn=>(bV n.1).any λI=>(l1 L.2.1).any λs=>(hM s).any λc=>(bV c.1).any λM=>
 MX (n.2.1=sx i.2.1)&&(n.2.2.endLine==L.2.2.line)&&C.var i.1 I&&MX (c.2=sx i.2.2.2)&&C.var i.2.2.1 M
set_option tactic.hygienic true in
noncomputable def isAny(t:LS):MP:=by cases t;(case any=>exact ML);all_goals exact MT
noncomputable def DM(D:LE):O (LE×V Z×LE×LO):=by induction D using LE.casesOn with|comp I M C h=>exact S (I,M,C,h)|_=>exact N
theorem DN(D:LE):aZ (DM D) λL=>D=.comp L.1 L.2.1 L.2.2.1 L.2.2.2:=by induction D using LE.casesOn<;>first|exact RZ|rfl
theorem AS(t:LS)(B:isAny t=ML):t=.any:=by induction t using LS.casesOn<;>first|rfl|exact bF B
noncomputable def sS(w:Z)(h:DJ->MP)(C:Cx)(r:Na):LS->MP
 |.asg i D=>(my r).any λL=>(bV L.1).any λJ=>C.dst i J&&fu w C (.E D L.2)&&(!(j4 L.2)||((DM D).any λY=>(q7 L.2).any λn=>Gy C.names J L.1 L.2 n.2.2.2.2.1))
 |.eM D I E=>(my r).any λL=>(hM L.1).any λn=>MX (n.2=sx I)&&fu w C (.E E L.2)&&fu w C (.E D n.1)
 |.ek z K E=>(my r).any λL=>(sE L.1).any λn=>fu w C (.E E L.2)&&fu w C (.E z n.1)&&fu w C (.E K n.2)
 |.qo k D=>(my r).any λL=>(jz L.1).any λm=>(sI C k m).any λY=>(jz L.2).isNone&&fu w C (.E D L.2)
 |.gj k y=>(my r).any λL=>(jz L.1).any λm=>(sI C k m).any λj=>(jz L.2).any λA=>fu w C (.Es y A)&&(MX (jY y<1000)&&(FY (λs=>C.names.lookup s) m A).any λa=>a.isNone||(MX (a=S j)&&decide j.Nodup&&MX (k.length=2\/k.length=3)))
 |.kN e q b=>(my r).any λL=>(jz L.1).any λm=>(jz L.2).any λA=>fu w C (.Es b A)&&h (.U e q m)&&MX (jY b<1000)&&MX (jY b=m.length)&&MX (0<m.length)
 |.exp D=>(ki r).any λs=>!(j4 s)&&fu w C (.E D s)
 |.ifs n I M=>(IZ r).any λL=>fu w C (.T n L.1)&&h (.Ss I L.2.1)&&h (.Ss M L.2.2)
 |.di i D M=>(AP r).any λL=>(bV L.1).any λJ=>C.dst i J&&!(dX L.2.1)&&fu w C (.E D L.2.1)&&h (.Ss M L.2.2)
 |.iM c T D M=>(AP r).any λL=>(jz L.1).any λm=>(sI C [c,T] m).any λY=>(hO L.2.1).any λn=>(bV n.1).any λJ=>(l1 n.2.1).any λU=>MX (J=("enumerate":MU))&&C.bi "enumerate" (.ty "enumerate")&&notStar U&&fu w C (.E D U)&&h (.Ss M L.2.2)
 |.zu n M=>(Gw r).any λL=>fu w C (.T n L.1)&&h (.Ss M L.2)
 |.ret D=>(DG r).any λs=>fu w C (.E D s)
 |.eU D=>(B7 r).any λs=>(hO s).any λL=>(bV L.1).any λJ=>(l1 L.2.1).any λU=>sL C J&&notStar U&&fu w C (.E D U)
 |.kO D i l=>(Gx r).any λL=>(bV L.2.1).any λJ=>sL C J&&C.slot i L.2.2.1&&MX (C.names.lookup L.2.2.1=S .local)&&!(j4 L.1)&&!(j4 L.2.2.2)&&fu w C (.E D L.1)&&JU C l L.2.2.2
 |.any=>ML
noncomputable def DO(w:Z)(h:DJ->MP)(C:Cx):DJ->MP
 |.Ss G j=>match G with
  |.nil=>j.isEmpty
  |.cons t v=>isAny t||(match j with
   |[]=>MT
   |r :: j=>h (.S t r)&&h (.Ss v j))
 |.U e q m=>match e with
  |.nil=>(match q with|.nil=>m.isEmpty|_=>MT)
  |.cons z e=>(match q with
   |.nil=>MT
   |.cons K q=>(match m with
    |[]=>MT
    |n :: m=>(sE n).any λL=>fu w C (.E z L.1)&&fu w C (.E K L.2)&&h (.U e q m)))
 |.S G r=>sS w h C r G
noncomputable def sM(w:Z):Z->Cx->DJ->MP
 |0,_,_=>MT
 |q+1,C,n=>DO w (sM w q C) C n
noncomputable def Good2(l:Nv)(a:Nj)(d:MV)(o:V Ng)(c:Ng)(i:V (O MU))(f:Nw)(e:CF):DJ->Prop
 |.S G r=>SS l a d o c i f e G r
 |.Ss G j=>qM l a d o c i f e G j
 |.U b q m=>vj l a d (c :: o) c i f e b q m
theorem jA(z:fZ E c){k:V Z}:∀{m:V MQ} {j:V MU},sI E k m=S j->rW E.sl c k m j:=by
 induction k with
 |nil=>intro m j B;induction m using RD with
  |nil=>exact sX B▸.nil
  |cons _ _=>exact nX B
 |cons i k d=>intro m j B;induction m using RD with
  |nil=>exact nX B
  |cons n m=>
   have B:((bV n).bind λr=>if E.dst i r then(sI E k m).map (r :: ·) else N)=S j:=B
   refine aM (SQ.mp B) λr D B=>?_
   obtain⟨q,rfl⟩:=ot (bu n) D
   by_cases a:E.dst i r=ML
   ·refine aM (Sb.mp ((Nb a).symm.trans B)) λA D cj=>?_;subst cj;exact bK (Cx.pR z a) λg b=>.cons g b (d D)
   ·exact nX ((Nf a).symm.trans B)
theorem oo{J:MU}(z:fZ E c)(o:rB v)(B:sL E J=ML):NZ v NO J=S (S (.ref (CA .bQ)))/\c.kindOf J=S .globalImplicit/\(J==("__debug__":MU))=MT:=fK (Cx.kg z o (M8 B)) λg b f=>⟨b,g,bG f⟩
theorem DP(C:Gr v e P be bg bf)(R:bo N (q+1) f l)(z:fZ E c){d:LE}{U:MQ}(B:JU E d U=ML)(t:MS):SE h a e l c E.sl (f.mark (S (.ref t))) (λY Y Y=>Res.bad) d U:=
 have x:=Dr rfl
 k0 (P:=λd=>SE h a e l c E.sl _ _ d U) (DL d) B λi B=>k0 (eA U) B λL B=>k0 (P:=λs=>SE h a e l c E.sl _ _ _ (.Call s _ [] _)) (mv L.1) B λn B=>
 k1 (P:=λs=>SE h a e l c E.sl _ _ _ (.Call (.Attribute s _ _) _ [] _)) (bu n.1) B λI P B=>k0 (P:=λs=>SE h a e l c E.sl _ _ _ (.Call _ s [] _)) (oP L.2.1) B λs B=>
 k1 (P:=λs=>SE h a e l c E.sl _ _ _ (.Call _ [s] [] _)) (fH s) B λo P B=>k1 (P:=λs=>SE h a e l c E.sl _ _ _ (.Call _ [.Attribute s _ _] [] _)) (bu o.1) B λM P B=>zQ B λp G T X k=>by refine fK (Cx.pQ z T) λg b m=>fK (Cx.pQ z k) λH j D=>?_;exact dE p▸(dE X▸SE.aU C x R.marked (SE.name g b (bG m) (ie m)) (.cons (SE.attr C x R.marked (SE.name H j (bG D) (ie D)) rfl) rfl .nil) rfl G (by show 1<30;decide) λY U Y Y Y=>nQ U)
theorem DQ{g:NC}{n:MQ}(a:c.scope.names=E.names)(B:Gy E.names r n s g=ML):c.kindOf r=S .local:=gV B λp Y Y=>show c.scope.names.lookup r=_ from a▸M8 p
theorem AU{g:NC}{a t:MQ}{J:MU}{b:Ni}{e:V Comprehension}{l:Z}(d:c.scope.kind=.function)(n:c.scope.names=E.names)(D:s=.ListComp a e g b)(B:Gy E.names J (.Name J bj) s g=ML):N4 s (S (.Name J bj)) l c=pure ML:=by
 subst D
 unfold Gy at B
 simp only[Tp,OU] at B
 refine bK B λdu T=>?_
 obtain⟨p,G⟩:=du
 have w:c.blockKind=.function:=by unfold Ng.blockKind;exact R d rfl
 have X:c.kindOf J=S .local:=by show c.scope.names.lookup J=_;exact R n p
 show pure (c.blockKind==.function&&c.kindOf J==S .local&&bj.line==b.line&&!(g.names.any λ(f,H)=>f==J&&(H==.local||H==.cell)))=_
 refine R w (R X ?_)
 congr 1
 exact R (Tp ..) ⟨G,T⟩
theorem jB(n:c.scope.names=E.names)(j:E.comp=MT):fZ E c:=λr H B=>Cx.Gu (show c.scope.names.lookup r=_ from n▸rfl) B
theorem q9(J:c.scope.kind=.function):Pj c=MT:=by unfold Pj;exact R J rfl
theorem AW{w:Z}{b:MU}(C:Gr v e P be bg bf)(D:rB v)(x:iy h a e N i q)(R:bo N (q+1) f (c :: o))(U:bo N q f (c :: o))(z:fZ E c)(r:c.scope.kind=.function)(p:c.scope.names=E.names)
  (g:E.sl[K]? = S (S b)) (B:fu (w+1) E (.E af s)=ML) (G:((DM af).any λY=>(q7 s).any λn=>Gy E.names b (.Name b bj) s n.2.2.2.2.1)=ML):SS h a e o c E.sl f i (.asg K af) (.Assign [.Name b bj] s J):=by refine aM (NR G) λa7 X T=>?_;clear G;obtain rfl:=ot (DN af) X;refine aM (NR T) λn m j=>?_;clear X T;obtain⟨I,rfl⟩:=ot (pP s) m;have d:=eQ (A:=f) (l:=c :: o) (prog:=h) (w:=a) C D x R w;exact KV (ur (go:=fu w) (l:=c :: o) (A:=f) (cf:=i) (prog:=h) (w:=a) (g₀:=e) (λB=>d E c _ z B) (λB=>d _ _ _ (lB _) B) (λB=>d _ _ _ (lB _) B) z B) λk A H L M y t=>dE k▸SS.IM U A H L M y t g (DQ p j) (dE k▸AU (t:=.Name b bj) r p rfl j)
set_option maxHeartbeats 4000000 in
theorem uv{a0:Ng}{c:Cx}(C:Gr v e P be bg bf)(a1:rB v)(l:j' h a e v)(CC:iy h a e N i q)(R:bo N (q+1) f (a0 :: o))(J:a0.scope.kind=.function)(hn:a0.scope.names=c.names)(hc:c.comp=MT)(w:Z) :
  ∀(x:Z) (n:DJ),sM (w+1) x c n=ML->Good2 h a e o a0 c.sl f i n:=by
 have hu:f.units+64<NB:=BQ R.units rfl;have R0:=R.less (So _);have z:=jB hn hc;have hi:=q9 J;have K:∀{D r},fu (w+1) c (.E D r)=ML->SE h a e (a0 :: o) a0 c.sl f i D r:=λB=>eQ C a1 CC R _ c a0 _ z B;have iT:∀{D r},fu (w+1) c (.T D r)=ML->ST h a e (a0 :: o) a0 c.sl f i D r:=λB=>eQ C a1 CC R _ c a0 _ z B;have I:∀{y j},fu (w+1) c (.Es y j)=ML->m8 h a e (a0 :: o) a0 c.sl f i y j:=λB=>eQ C a1 CC R _ c a0 _ z B;intro x;induction x with
 |zero=>exact λn B=>bF B
 |succ x d=>
  intro n B
  have jS:∀{st j},sM (w+1) x c (.Ss st j)=ML->qM h a e o a0 c.sl f i st j:=λB=>d _ B
  have jU:∀{os is m},sM (w+1) x c (.U os is m)=ML->vj h a e (a0 :: o) a0 c.sl f i os is m:=λB=>d _ B
  have j1:∀{t r},sM (w+1) x c (.S t r)=ML->SS h a e o a0 c.sl f i t r:=λB=>d _ B
  have B:=B
  induction n using DJ.casesOn with
  |Ss st j=>
   induction st using dR.casesOn with
   |nil=>induction j using RD with
    |nil=>exact qM.nil
    |cons _ _=>exact bF B
   |cons t ss=>
    rcases Sz.mp B with p|p;·obtain rfl:=AS t p;exact λb9 a9 a4 t a7 eo st nb=>bX nb
    ·induction j using RD with
     |nil=>exact bF p
     |cons r j=>exact an p λG T=>.cons (j1 G) (jS T)
  |U os is m=>
   induction os using cz.casesOn with
   |nil=>induction is using cz.casesOn with
    |nil=>induction m using RD with
     |nil=>exact vj.nil
     |cons _ _=>exact bF B
    |cons _ _=>exact bF B
   |cons o' os=>induction is using cz.casesOn with
    |nil=>exact bF B
    |cons a8 is=>induction m using RD with
     |nil=>exact bF B
     |cons n m=>exact k1 (P:=λn=>vj h a e (a0 :: o) a0 c.sl f i _ _ (n :: _)) (ke n) B λL P B=>gV B λp G T=>vj.cons (K p) (K G) (jU T)
  |S st r=>
   have B:=B
   show SS h a e o a0 c.sl f i st r
   induction st using LS.casesOn with
   |asg a3 D=>
    refine k1 (fM r) B λL P B=>?_;obtain⟨n,s⟩:=L;refine aM (NR B) λnm e1 B=>?_;obtain⟨np,rfl⟩:=ot (bu n) e1;refine gV B λp G T=>bK (Cx.pR z p) λg b=>?_;rcases Sz.mp T with h6|h6;·exact SS.asg R (K G) g b (eK (nF h6) _ _ _)
    ·exact AW C a1 CC R R0 z J hn g G h6
   |eM D a5 a6=>exact k1 (fM r) B λL P B=>k1 (P:=λn=>SS h a e o a0 c.sl f i _ (.Assign [n] _ _)) (fH L.1) B λn P B=>gV B λp G T=>dE p▸SS.eM C R (K G) (K T)
   |ek o' a8 a6=>exact k1 (fM r) B λL P B=>k1 (P:=λn=>SS h a e o a0 c.sl f i _ (.Assign [n] _ _)) (ke L.1) B λn P B=>gV B λp G T=>SS.ek hu R (K p) (K G) (K T)
   |qo js D=>exact k1 (fM r) B λL P B=>k1 (P:=λn=>SS h a e o a0 c.sl f i _ (.Assign [n] _ _)) (fL L.1) B λm P B=>aM (NR B) λj e3 B=>an B λp G=>SS.qo (R:=R0) (K G) (jA z e3) (K8 λvs k' c1 a2=>bF ((Nc (λr=>(jz r).isNone) a2).symm.trans p))
   |gj js y=>
    refine SS.gj (k1 (P:=λr=>SS h a e o a0 c.sl f i _ r) (fM r) B λL P B=>k1 (P:=λn=>SS h a e o a0 c.sl f i _ (.Assign [n] _ _)) (fL L.1) B λm P B=>?_);refine aM (NR B) λj Y B=>k1 (P:=λn=>SS h a e o a0 c.sl f i _ (.Assign _ n _)) (fL L.2) B λA P B=>an B λp B=>an B λG T=>aM (NR T) λH E T=>?_;replace E:=(show(λs=>c.names.lookup s)=a0.kindOf from hn▸rfl)▸E;rcases Sz.mp T with T|T;·exact SS.qo (R:=R0) (SE.tup (I p) (M8 G)) (jA z Y) (pq J (E.trans (Nc some (Ug.mp T))))
    ·exact gV T λX k h6=>SS.IL (R:=R0) (SE.tup (I p) (M8 G)) (jA z Y) (M8 k) (M8 h6) (pq J (E.trans (Nc some (M8 X))))
   |kN os is vs=>
    exact k1 (fM r) B λL P B=>k1 (P:=λn=>SS h a e o a0 c.sl f i _ (.Assign [n] _ _)) (fL L.1) B λm P B=>k1 (P:=λn=>SS h a e o a0 c.sl f i _ (.Assign _ n _)) (fL L.2) B λA P B=>
     zQ B λp G T X k=>SS.kN hu R0 (I p) (jU G) (M8 T) (M8 X) (M8 k)
   |exp D=>exact k1 (sG r) B λL P B=>an B λp G=>SS.exp R (K G) hi (eK (nF p) _ _ _)
   |ifs n a5 M=>exact k1 (B8 r) B λL P B=>gV B λp G T=>SS.ifs R (iT p) (jS G) (jS T)
   |di a3 D M=>exact k1 (sH r) B λL P B=>k1 (P:=λn=>SS h a e o a0 c.sl f i _ (.For n _ _ _ _)) (bu L.1) B λnm np B=>wC B λp G T X=>by exact bK (Cx.pR z p) λg b=>SS.di R0 (K T) g b (jS X) (nF G)
   |iM j1 j2 D M=>
    refine k1 (sH r) B λL P B=>k1 (P:=λn=>SS h a e o a0 c.sl f i _ (.For n _ _ _ _)) (fL L.1) B λm P B=>aM (NR B) λj e3 B=>?_
    refine k0 (P:=λn=>SS h a e o a0 c.sl f i _ (.For _ n _ _ _)) (eA L.2.1) B λn B=>k1 (P:=λn=>SS h a e o a0 c.sl f i _ (.For _ (.Call n _ _ _) _ _ _)) (bu n.1) B λnm np B=>
     k0 (P:=λn=>SS h a e o a0 c.sl f i _ (.For _ (.Call _ n _ _) _ _ _)) (oP n.2.1) B λa2 B=>zQ B λp G T X k=>dE p▸?_
    cases jA z e3 with
    |cons b1 b2 nn=>cases nn with
     |cons b3 b4 nn=>cases nn with
      |nil=>exact SS.iM C (Cx.mw z a1 G) R0 (K X) T b1 b2 b3 b4 (jS k)
   |zu n M=>exact k1 (DH r) B λL P B=>an B λp G=>SS.zu R (iT p) (jS G)
   |ret D=>exact k1 (yg r) B λL P B=>SS.ret R (K B)
   |eU D=>
    exact k1 (AQ r) B λs P B=>k0 (P:=λn=>SS h a e o a0 c.sl f i _ (.Raise (some n) _ _)) (eA s) B λL B=>k1 (P:=λn=>SS h a e o a0 c.sl f i _ (.Raise (some (.Call n _ _ _)) _ _)) (bu L.1) B λnm np B=>
     k0 (P:=λn=>SS h a e o a0 c.sl f i _ (.Raise (some (.Call _ n _ _)) _ _)) (oP L.2.1) B λa2 B=>gV B λp G T=>by exact fK (oo z a1 p) λb1 b2 b3=>SS.eU C l R b1 b2 b3 G (K T)
   |kO D a3 hl=>exact k1 (DI r) B λL P B=>k1 (P:=λn=>SS h a e o a0 c.sl f i _ (.Try _ [.ExceptHandler (some n) _ _ _] _ _ _)) (bu L.2.1) B λnm np B=>FG B λp G T X k h6 h7=>by exact fK (oo z a1 p) λb1 b2 b3=>SS.kO C l R0 (K h6) (DP C R z h7) (Cx.lA G) (show a0.scope.names.lookup _=_ from hn▸M8 T) b1 b2 b3 hi (eK (nF X) _ _ _) (eK (nF k) _ _ _)
   |any=>exact λb9 a9 a4 t a7 eo st nb=>bX nb
noncomputable def GA(o:NJ):MP:=o.params.posonlyargs.isEmpty&&o.params.kwonlyargs.isEmpty&&o.params.vararg.isNone&&o.params.kwarg.isNone&&MX (o.params.args.map (·.arg)).Nodup
noncomputable def ra(o:NJ)(i:V (O MU)):MP:=
 let a:=o.params.args.map (·.arg)
 let c:=(OS 0 o.scope.names []).map (·.1)
 GA o&&(!o.scope.isCoroutine&&!o.scope.isGenerator&&MX (o.scope.kind=.function)&&o.closure.isEmpty&&Z.beq o.globals NO&&Z.beq o.builtins Qv)&&
 (a.all (λr=>MX (o.scope.names.lookup r=S .local)||(MX (o.scope.names.lookup r=S .cell)&&c.contains r))&&
 (i.take a.length).zipIdx.all (λL=>L.1.isNone||MX (a[L.2]? = L.1))&&
 MX ((i.filterMap λL=>L).Nodup)&&decide c.Nodup&&
 i.all (λL=>L.isNone||L.any λr=>(MX (o.scope.names.lookup r≠S .cell)&&MX (o.scope.names.lookup r≠S .free))||c.contains r))
theorem rb{o:NJ}{l:V Na}(w:o.body=.stmts l)(B:ra o j=ML):cG o (o.params.args.map (·.arg)) j l:=
 gV B λs B e=>zQ s λc n J I P=>zR B λp G T h k a=>zQ e λY d f A C=>
  {ar:=rfl,po:=Tq.mp c,ko:=Tq.mp n,va:=Ug.mp J,ka:=Ug.mp I,nd:=M8 P,body:=w,co:=nF p,gen:=nF G,kind:=M8 T,JQ:=Tq.mp h,
   glob:=Uy k,blt:=Uy a,JR:=M8 A,E':=om (M8 f)
   kinds:=λr x=>(Sz.mp (Sh.mp Y r x)).imp M8 λU=>an U λg b=>⟨M8 g,Ts.mp b⟩
   IT:=λi r X m=>by exact M8 (HB (Sh.mp d _ (show((S r,i):O MU×Z)∈(j.take (o.params.args.map (·.arg)).length).zipIdx from UQ.mpr ((Ul X).trans m))) RX)
   has:=λi r X m=>by
    rcases Sz.mp (HB (Sh.mp C _ (RJ X)) RX) with U|U;·exact an U λg b=>m.elim (λD=>Nh D (M8 g:_≠_)) λD=>Nh D (M8 b:_≠_)
    ·exact Ts.mp U}
set_option tactic.hygienic true in
noncomputable def HC(E:MO):MP:=by cases E;(case none=>exact ML);all_goals exact MT
noncomputable def JV(E:MO):O MP:=vw MO.ctorIdx 3 E λB=>MO.bool.elim E B λM=>S M
noncomputable def JW(E:MO):O (MN×NM):=vw MO.ctorIdx 4 E λB=>MO.int.elim E B λK n=>S (K,n)
noncomputable def I0(E:MO):O MS:=vw MO.ctorIdx 10 E λB=>T6 E B λI=>S I
theorem B9(B:HC aa=ML):aa=.none:=by induction aa using MO.casesOn<;>first|rfl|exact bF B
theorem GB(E:MO):aZ (JV E) λM=>E=.bool M:=dq λB=>MO.bool.elim (motive:=λE=>∀B,aZ (MO.bool.elim (motive:=λ_=>O MP) E B λM=>S M) λM=>E=.bool M) E B (λM _=>rfl) B
theorem GC(E:MO):aZ (JW E) λL=>E=.int L.1 L.2:=dq λB=>MO.int.elim (motive:=λE=>∀B,aZ (MO.int.elim (motive:=λ_=>O (MN×NM)) E B λK n=>S (K,n)) λL=>E=.int L.1 L.2) E B (λK n _=>rfl) B
theorem Ca(E:MO):aZ (I0 E) λI=>E=.ref I:=dq λB=>T6 (motive:=λE=>∀B,aZ (T6 (motive:=λ_=>O MS) E B λI=>S I) λI=>E=.ref I) E B (λI _=>rfl) B
noncomputable def JX(h:NY):O (M5 MO×Z):=vw NY.ctorIdx 2 h λB=>NY.seq.elim h B λI q=>S (I,q)
noncomputable def JY(h:NY):O NJ:=vw NY.ctorIdx 7 h λB=>NY.func.elim h B λA=>S A
theorem GD(h:NY):aZ (JX h) λL=>h=.seq L.1 L.2:=dq λB=>NY.seq.elim (motive:=λh=>∀B,aZ (NY.seq.elim (motive:=λ_=>O (M5 MO×Z)) h B λI q=>S (I,q)) λL=>h=.seq L.1 L.2) h B (λI q _=>rfl) B
theorem GF(h:NY):aZ (JY h) λA=>h=.func A:=dq λB=>NY.func.elim (motive:=λh=>∀B,aZ (NY.func.elim (motive:=λ_=>O NJ) h B λA=>S A) λA=>h=.func A) h B (λA _=>rfl) B
noncomputable def JZ(M:Pm):O (V Na):=vw Pm.ctorIdx 0 M λB=>Pm.stmts.elim M B λM=>S M
theorem GG(M:Pm):aZ (JZ M) λt=>M=.stmts t:=dq λB=>Pm.stmts.elim (motive:=λM=>∀B,aZ (Pm.stmts.elim (motive:=λ_=>O (V Na)) M B λM=>S M) λt=>M=.stmts t) M B (λM _=>rfl) B
set_option tactic.hygienic true in
noncomputable def GH(I:Q)(E:MO):MP:=by cases I;(case none=>exact HC E);(case bool M=>exact(JV E).any λC=>MX (C=M));(case int K=>exact(JW E).any λL=>MX (L.1=K));all_goals exact MT
theorem AX(B:GH m aa=ML):VR U x b m aa:=by
 induction m using Wm with
 |none=>exact B9 B▸.none
 |bool M=>exact k0 (P:=λaa=>VR U x b _ aa) (GB aa) B λC B=>dE B▸.bool M
 |int K=>exact k0 (P:=λaa=>VR U x b _ aa) (GC aa) B λL B=>dE B▸.int K L.2
 |_=>exact bF B
noncomputable def DS:V Q->V MO->MP
 |[],w=>w.isEmpty
 |I :: l,w=>w.head?.any (GH I)&&DS l w.tail
theorem AY:∀{w:V MO},DS z w=ML->bM U x b z w:=by
 induction z with
 |nil=>exact λB=>Tq.mp B▸.nil
 |cons I z d=>intro w B;induction w using RD with
  |nil=>exact bF B
  |cons E w=>exact an B λp G=>.cons (AX p) (d G)
noncomputable def Cb(a:NA)(o:NJ):O (V MO):=if HC o.defaults then S [] else(I0 o.defaults).bind λx=>(a.lookup x).bind λz=>(JX z.data).map λL=>L.1.toList
noncomputable def Fh(a:NA)(I:MS)(p:Z)(d:V Q)(i:V (O MU))(h:NJ->V Na->MP):MP:=(a.lookup I).any λz=>(JY z.data).any λo=>(JZ o.body).any λl=>
 ra o i&&MX ((o.params.args.map (·.arg)).length=p)&&codeIn a o.code o.qualname&&(Cb a o).any (DS d)&&MX (d.length<=p)&&MX (p<=i.length)&&h o l
structure FnAt(w:Nj)(g₀:MV)(a:MS)(aY:Z)(cx:V Q)(sl:V (O MU))(go:NJ->V Na->MP)(fd:NJ)(o:Nl)(body:V Na)(ds:V MO):Prop where
 get:g₀.get? a=S o
 dat:o.data=.func fd
 facts:cG fd (fd.params.args.map (·.arg)) sl body
 len:(fd.params.args.map (·.arg)).length=aY
 code:g₀.CodeRec fd.code fd.qualname
 GI:cx.length<=aY
 GJ:Au w g₀ fd cx ds
 HD:aY<=sl.length
 ok:go fd body=ML
theorem yh{o:NJ}{j:V MO}(r:v.In e)(D:Cb v o=S j):(o.defaults=.none/\j=[])\/∃x z a q,o.defaults=.ref x/\e.get? x=S z/\z.data=.seq a q/\a.toList=j:=by
 by_cases B:HC o.defaults=ML;·exact .inl ⟨B9 B,(sX ((Nb B).symm.trans D)).symm⟩
 ·exact iQ ((Nf B).symm.trans D) λx X D=>hF λl=>iQ D λz m D=>wc D λL s D=>l (.inr (gU x z L.1 L.2 (ot (Ca o.defaults) X :) (r _ _ m) (ot (GD z.data) s :) D))
theorem mz{w:Nj}{b:Z}{d:V Q}{h:NJ->V Na->MP}(r:v.In e)(B:Fh v n b d j h=ML):∃o z l a,FnAt w e n b d j h o z l a:=hF λE=>aM (NR B) λz g p=>aM (NR p) λo q G=>aM (NR G) λl i T=>FG T λp G T X k m Y=>aM (NR X) λa D f=>E ⟨o,z,l,a,r _ _ g,(ot (GF z.data) q :),rb (ot (GG o.body) i :) p,M8 G,codeRec_of r T,M8 k,⟨yh r D,λc s y=>AY f⟩,M8 m,Y⟩
noncomputable def DT(w:Z)(C:Cx)(q:MU):V Z->cz->V Na->MP
 |[],y,j=>(match y with|.nil=>ML|_=>MT)&&j.isEmpty
 |A :: f,y,j=>match y with
  |.nil=>MT
  |.cons D y=>match j with
   |[]=>MT
   |r :: j=>(my r).any λL=>(hM L.1).any λn=>(bV n.1).any λs=>MX (s=q)&&MX (n.2=sx A)&&fu w C (.E D L.2)&&DT w C q f y j
theorem AZ{b:Ng}{w:Z}{c:Cx}{g:MU}(C:Gr v e P be bg bf)(o:rB v)(x:iy h a e N i q)(R:bo N (q+1) f l)(z:fZ c b)
  {k:V Z}:∀{y:cz} {j:V Na},DT w c g k y j=ML->Av h a e l b c.sl f i g k y j:=by
 induction k with
 |nil=>intro y j B;induction y using cz.casesOn with
  |nil=>induction j using RD with
   |nil=>exact .nil
   |cons _ _=>exact bF B
  |cons _ _=>exact bF B
 |cons A k d=>intro y j B;induction y using cz.casesOn with
  |nil=>exact bF B
  |cons D y=>induction j using RD with
   |nil=>exact bF B
   |cons r j=>
    exact k1 (P:=λr=>Av h a e l b c.sl f i g _ _ (r :: _)) (fM r) B λL P B=>k1 (P:=λn=>Av h a e l b c.sl f i g _ _ (.Assign [n] _ _ :: _)) (fH L.1) B λn P B=>
     k1 (P:=λn=>Av h a e l b c.sl f i g _ _ (.Assign [.Attribute n _ _] _ _ :: _)) (bu n.1) B λs P B=>wC B λp G T X=>dE p▸(dE G▸.cons (eQ C o x R w c b _ z T) (d X))
noncomputable def iz(A:V (O Z)):V (O MU):=A.map (UE sx)
noncomputable def kj:V dG:=[.Thing,.Text,.Row,.Dict,.Span,.Cy,.jN,.Mem]
theorem eZ(C:dG)(B:C≠.bQ):C∈kj:=by induction C using dG.casesOn<;>first|decide|exact(B rfl).elim
noncomputable def yi(a:NA)(C:dG)(q:MU)(E:O MO):MP:=MX (N8 a (.ref (CA C)) q=S E)
noncomputable def DU(a:NA):MP:=kj.all (λC=>yi a C "__getattribute__" (S (.builtin "object.__getattribute__"))&&yi a C "__getattr__" N&&(bS C).all (λH=>yi a C (sx H) N)&& (Ti NS).all (λx=>match oG C x with|some A=>Z.beq x 26||(Z.blt A 60&&!((bS C).contains x)&&yi a C (sx x) (S (.ref (FA A))))|none=>ML))&& (dG.bQ :: kj).all (λC=>(OD a (CA C)).any (λK=>K.hasDict)&&Pe a (.ref (CA C)))&& (Ti 60).all (λH=>MX (Oc a (.ref (FA H))=S (.type "function"))&&Pe a (.ref (FA H)))&& (yi a .Mem (sx 26) (S (.ref 359))&&MX (P6 a (.ref 359) "__get__"=S (S (.builtin "property.__get__")))&&MX (takesIn a (.ref 359)=S ML)&&MX ((recIn a 359 "property").bind V.head? = S (.ref (FA 20))))
theorem A0(h:∀C x A,oG C x=S A->x<NS/\C≠.bQ)(B:DU v=ML):Fc v:=by
 unfold DU at B;simp only[Tp,OU,Sh] at B;refine fK B λbE cj Y=>?_;obtain⟨⟨p,G⟩,c⟩:=bE;obtain⟨⟨X,k⟩,m⟩:=cj;have w:∀C,C∈dG.bQ :: kj:=λC=>by induction C using dG.casesOn<;>decide
 refine⟨λC a=>M8 (p C (eZ C a)).1.1.1,λC a=>M8 (p C (eZ C a)).1.1.2,λC=>?_,λC a H x=>M8 ((p C (eZ C a)).1.2 H x),λC x A D d=>?_,λH e=>?_,λC=>(G C (w C)).2,M8 X,k,m,?_⟩;·exact aM (NR (G C (w C)).1) λK D U=>ba K D U
 ·refine bK (h C x A D) λe n=>hF λs=>?_;have:=(p C (eZ C n)).2 x (Vz.mpr e);rw[D] at this;simp only[Vk,Tp,Ta] at this;rcases this with U|⟨⟨g,b⟩,f⟩;·exact(d (Uy U)).elim
  ·refine s ?_;exact Iz n (Wa.mp g) e (λq=>by replace b:=(Ts.mpr q).symm.trans b;cases b) (M8 f)
 ·exact bK (c H (Vz.mpr e)) λg b=>⟨g,b⟩
 ·induction D:recIn v 359 "property" using Ry with
  |none=>exact nX (D▸Y)
  |some T=>replace Y:=D▸Y;induction T using RD with
   |nil=>exact nX Y
   |cons r y=>exact⟨y,by refine R (show r=.ref (FA 20) from Sl Y) rfl⟩
noncomputable def Cc(a:NA):MP:=kj.all λC=>yi a C "__setattr__" (S (.builtin "object.__setattr__"))&&plainOver a (CA C)&&(bS C).all λH=>MX (PB a (CA C) (sx H)=S N)
theorem yj(B:Cc v=ML):C1 v:=by have L:=λC q=>RT.mp (Sh.mp B C (eZ C q));have y:=λC q=>RT.mp (L C q).1;exact⟨λC q=>⟨M8 (y C q).1,(y C q).2⟩,λC q H x=>M8 (Sh.mp (L C q).2 H x)⟩
noncomputable def Cd(a:NA):MP:=yi a .bQ "__getattribute__" (S (.builtin "BaseException.__getattribute__"))&&yi a .bQ "__getattr__" N&&(bS .bQ).all (λH=>yi a .bQ (sx H) N)&&MX (mroIn a (CA .bQ) (.type "BaseException")=S ML)&&(OD a (CA .bQ)).any (λK=>K.hasDict)
theorem yk(B:Cd v=ML):uZ v:=zQ B λp G T X k=>aM (NR k) λK D U=>⟨M8 p,M8 G,λH x=>M8 (Sh.mp T H x),M8 X,K,D,U⟩
noncomputable def Ce(a:NA):MP:=yi a .bQ "__setattr__" (S (.builtin "object.__setattr__"))&&(OD a (CA .bQ)).any (λK=>ic K.mro)&&MX (PB a (CA .bQ) (sx 76)=S N)&&mc a (CA .bQ)&&yi a .bQ "__init__" (S (.ref 36))&&MX (Oc a (.ref 36)=S (.type "function"))
theorem yl(B:Ce v=ML):vB v:=zR B λp G T X k m=>⟨M8 p,G,M8 T,X,M8 k,M8 m⟩
noncomputable def GK(a:NA):MP:=AI.all λL=>cZ L.1&&(match L.2 with
 |.fn H=>MX (NZ a NO L.1=S (S (.ref (FA H))))&&Z.blt H 60
 |.cls C=>MX (NZ a NO L.1=S (S (.ref (CA C))))
 |.int K=>(match NZ a NO L.1 with|some (S (.int i _))=>MX (i=K)|_=>MT)
 |.bi M=>MX (NZ a NO L.1=S N)&&MX (QV L.1=S M.val)&&MX (L.1≠"__name__"))
theorem A1{z:O (O MO)}{K:MN}(B:(match z with|some (S (.int i _))=>MX (i=K)|_=>MT)=ML):∃n,z=S (S (.int K n)):=by
 induction z using Ry with
 |none=>exact bF B
 |some z=>
  induction z using Ry with
  |none=>exact bF B
  |some E=>induction E using MO.casesOn<;>first|exact bF B|exact⟨_,Nc (λi=>S (S (MO.int i _))) (M8 B)⟩
set_option tactic.hygienic true in
theorem A2(B:GK v=ML):rB v:=by
 intro L x;refine bK (RT.mp (Sh.mp B L x)) λp G=>⟨?_,p⟩;clear p x B;obtain⟨r,E⟩:=L;induction E using GV.casesOn with
 |fn H=>exact bK (RT.mp G) λg b=>⟨M8 g,Wa.mp b⟩
 |cls C=>exact(M8 G:NZ v NO r=_)
 |int K=>exact A1 G
 |bi M=>exact gV G λI M C=>fA (M8 I) (M8 M) (M8 C)
noncomputable def Lf(A:da)(o:NJ)(l:V Na):MP:=sM 60 60 ⟨o.scope.names,MT,iz A.slots⟩ (.Ss A.body l)
noncomputable def GL(a:NA):MP:=(Ti 60).all λH=>match nM H with
 |none=>ML
 |some A=>Fh a (FA H) A.aY A.cx (iz A.slots) (Lf A)
noncomputable def Lg(C:dG)(o:NJ)(l:V Na):MP:=(o.params.args.map (·.arg)).head?.any λq=>MX (o.scope.names.lookup q=S .local)&&cZ q&&DT 60 ⟨o.scope.names,MT,iz (bT C).slots⟩ q (bS C) (bT C).vals l
noncomputable def sN(a:NA)(C:dG):O MS:=((N8 a (.ref (CA C)) "__init__").bind id).bind I0
theorem oq{C:dG}(B:sN v C=S n):N8 v (.ref (CA C)) "__init__"=S (S (.ref n)):=iQ B λE X m=>iQ X λz s Y=>s.trans (Nc S (Y.trans (Nc S (ot (Ca E) m :))))
theorem rd{T:V G}{I:G}(B:T.head? = S I):T[0]? = S I:=by induction T using RD<;>exact B
noncomputable def I4(a:NA)(C:dG):MP:=(sN a C).any λr=>Qm a (CA C)&&MX (Oc a (.ref r)=S (.type "function"))&&Fh a r (bT C).aY (bT C).cx (iz (bT C).slots) (Lg C)
noncomputable def ym(a:NA):MP:=(kj.filter (λC=>!MX (C=.Text))).all (I4 a)
noncomputable def Lh(o:NJ)(l:V Na):MP:=(l2 (o.params.args.map (·.arg))).any λq=>(l1 l).any λr=>(my r).any λL=>(hM L.1).any λn=>(bV n.1).any λs=>(bV L.2).any λU=>MX (s=q.1)&&MX (n.2=sx 76)&&MX (U=q.2)&&MX (o.scope.names.lookup q.1=S .local)&&MX (o.scope.names.lookup q.2=S .local)&&cZ q.1&&cZ q.2
noncomputable def GN(a:NA):MP:=Fh a 36 2 [.none] (iz (bT .bQ).slots) Lh
noncomputable def DV(a:NA):MP:=DU a&&Cc a&&Cd a&&Ce a&&GK a&&GL a&&ym a&&GN a&&MX (Oc a (.ref (CA .bQ))=S (.type "type"))
theorem A3{I A:Z}{T:V (Z×Z)}(B:HL I T=S A):(I,A)∈T:=by
 induction T with
 |nil=>exact nX B
 |cons P y d=>
  have B:=B
  by_cases D:(I==P.1)=ML
  ·exact N'.mp D▸sX ((Nb D).symm.trans B)▸.head _
  ·exact .tail _ (d ((Nf D).symm.trans B))
theorem A4(C:dG)(x A:Z)(B:oG C x=S A):x<NS/\C≠.bQ:=by
 have H:=A3 B;refine⟨?_,λD=>by rw[D] at H;exact nomatch H⟩;have:∀C,∀P∈mL C,P.1<NS:=by intro C;induction C using dG.casesOn<;>decide +kernel
 exact this C _ H
theorem yn(H:Z)(A:da)(B:nM H=S A):H<60:=(RG.mp B).1
theorem jC(T:V (O Z)):(iz T).length=T.length:=Rz _
structure Base(K:NA)(g₀:MV)(p:Nv)(loose:V MU)(mg mb:MU->O MO):Prop where
 G:Gr K g₀ p loose mg mb
 ks:vB K
 go:rB K
 fns:GL K=ML
 cls:ym K=ML
 err:GN K=ML
 ty:Oc K (.ref (CA .bQ))=S (.type "type")
theorem Base.of(r:v.In e)(x:TopRead P be bg bf e)(a:kR e)(B:DV v=ML):Base v e P be bg bf:=by refine hF λA=>?_;unfold DV at B;simp only[Tp,OU] at B;refine bK B λbE f=>?_;obtain⟨⟨⟨⟨⟨⟨⟨p,G⟩,T⟩,X⟩,k⟩,m⟩,Y⟩,d⟩:=bE;exact A ⟨⟨A0 A4 p,r,x,a,yk T,yj G⟩,yl X,A2 k,m,Y,d,f⟩
theorem Base.eU(n:Base v e P be bg bf):j' h a e v:=by
 refine⟨n.ks,n.ty,n.G.ok.BS .bQ,λg a4 f hd q y b t I i R c K M E H=>?_⟩;refine hF λa2=>CO (mz (w:=a) n.G.X n.err) λo a5 l j x=>?_;have z:=x.ok;have J:=x.facts;refine aM (NR z) λL X z=>?_;rw[ot (zP (o.params.args.map (·.arg))) X] at J;have w:∀{l:V Na} {p1 p2 p3 p4:Ni},cG o [L.1,L.2] (iz (bT .bQ).slots) l->l=[.Assign [.Attribute (.Name L.1 p1) (sx 76) p2] (.Name L.2 p3) p4]->o.scope.names.lookup L.1=S .local->o.scope.names.lookup L.2=S .local->cZ L.1=ML->cZ L.2=ML->NK (MY h a) f (.call (.ref (CA .bQ)) ⟨[i],[]⟩) R t:=λJ D d h9 A C=>Az n.G n.ks (D▸J) c x.get x.dat n.G.T.nolimit x.code x.GJ x.GI rfl d h9 (bG A) (bG C) K M E H;refine a2 ?_;suffices a0:cG o [L.1,L.2] (iz (bT .bQ).slots) l->NK (MY h a) f (.call (.ref (CA .bQ)) ⟨[i],[]⟩) R t from a0 J;refine k0 (P:=λa1=>cG _ _ _ a1->_) (oP l) z λr B=>k1 (P:=λr=>cG _ _ _ [r]->_) (fM r) B λI p4 B=>k1 (P:=λr=>cG _ _ _ [.Assign [r] _ _]->_) (fH I.1) B λa3 p2 B=>
  k1 (P:=λr=>cG _ _ _ [.Assign [.Attribute r _ _] _ _]->_) (bu a3.1) B λs p1 B=>k1 (P:=λr=>cG _ _ _ [.Assign [.Attribute _ _ _] r _]->_) (bu I.2) B λU p3 B=>FG B λp G T h4 k m Y J=>
  w (p1:=p1) (p2:=p2) (p3:=p3) (p4:=p4) J (by rw[M8 p,M8 G,M8 T]) (M8 h4) (M8 k) m Y
theorem Li{o:O da}{f:da->Res az}{P:Res az->Prop}(B:(match (generalizing:=false) o with|none=>.bad|some I=>f I)≠Res.bad)(H:∀I,o=S I->f I≠.bad->P (f I)):P (match (generalizing:=false) o with|none=>.bad|some I=>f I):=by
 induction o using Ry with
 |none=>exact bX B
 |some I=>exact H I rfl B
theorem J0{o:O Loc}{f:Loc->Res az}{P:Res az->Prop}(B:(match (generalizing:=false) o with|none=>.bad|some I=>f I)≠Res.bad)(H:∀I,o=S I->f I≠.bad->P (f I)):P (match (generalizing:=false) o with|none=>.bad|some I=>f I):=by
 induction o using Ry with
 |none=>exact bX B
 |some I=>exact H I rfl B
theorem yo{r:Res G}{A:G->Res az}(B:r.bind A≠.bad):r≠.bad:=λL=>B (L▸rfl)
theorem rf(n:Base v e P be bg bf)(q:Z):iy h a e N (aC q) (2*q):=by
 induction q with
 |zero=>exact⟨λg T f G X b y t w Y Y Y Y B=>bX B⟩
 |succ q L=>
  refine⟨λg T f G X b y t w R K M E B=>?_⟩
  induction G using Key.casesOn with
  |fn H=>
   refine Li (P:=λU=>NK (MY h a) f (.call (.ref (FA H)) ⟨w,[]⟩) (RR a e g T U y t) t) (o:=nM H) (f:=λA=>match Mine.Lake.bindArgs A.aY A.cx A.slots.length X with|none=>.bad|some T=>(aW (aC q) A.body T b).bind λ(y:Fl×Loc×AH)=>Res.ok (α:=Q×AH) ((match y.1 with|.ret E=>E|.next=>.none),y.2.2)) B λA D B=>J0 (P:=λU=>NK (MY h a) f (.call (.ref (FA H)) ⟨w,[]⟩) (RR a e g T U y t) t) (o:=Mine.Lake.bindArgs A.aY A.cx A.slots.length X) (f:=λT=>(aW (aC q) A.body T b).bind λ(y:Fl×Loc×AH)=>Res.ok (α:=Q×AH) ((match y.1 with|.ret E=>E|.next=>.none),y.2.2)) B λa0 m B=>?_;have J:=Sh.mp n.fns H (Vz.mpr (yn H A D));replace J:=D▸J;refine CO (mz (w:=a) n.G.X J) λo z l ds x=>?_;exact Dp x.facts R x.get x.dat n.G.T.nolimit x.code x.GJ (x.len.symm▸x.GI) (x.len.symm▸x.HD) K M E (x.len.symm▸(jC A.slots).symm▸m) (yo B) λI=>
    uv (c:=⟨o.scope.names,MT,iz A.slots⟩) n.G n.go n.eU L R.deeper x.facts.kind rfl rfl 59 60 _ x.ok
  |cls C=>
   have i:aC (q+1) (.cls C) X b=if C=.bQ\/C=.Text then .bad else _:=rfl
   by_cases j:C=.bQ\/C=.Text
   ·exact Nh (i.trans (Nb j)) B
   ·rw[i.trans (Nf j)] at B⊢;refine J0 (P:=λU=>NK (MY h a) f (.call (.ref (CA C)) ⟨w,[]⟩) (RR a e g T U y t) t) (o:=Mine.Lake.bindArgs (bT C).aY (bT C).cx (bT C).slots.length (.none :: X)) (f:=λT=>mf C (bp (aC q) (bT C).vals (T.set 0 N) b)) B λa0 m B=>hF λs=>bK (Om.mp j) λc a1=>aM (NR (Sh.mp n.cls C (TZ.mpr ⟨eZ C c,Nc not (NH a1)⟩))) λr d J=>gV J λp h2 h3=>CO (mz (w:=a) n.G.X h3) λo z l ds x=>aM (NR x.ok) λa2 en ok=>s ?_;exact gV ok λk1 k2 k=>Aw n.G c x.facts R p (oq d) (M8 h2) x.get x.dat n.G.T.nolimit x.code x.GJ (x.len.symm▸x.GI) (x.len.symm▸x.HD) (rd en) (M8 k1) (bG k2) K M E (x.len.symm▸(jC (bT C).slots).symm▸m) rfl (yo B) λI=>
     AZ (c:=⟨o.scope.names,MT,iz (bT C).slots⟩) n.G n.go L R.make (jB rfl rfl) k
abbrev NF:=V Q->AH->Res (Q×AH)
inductive NE|call(k:Key)(as:cz)|aU(e:LE)(m f:Z)(as:cz)
mutual
inductive DW|a(s:LS)|ifs(c:LE)(x y:iA)|exp(e:NE)|ret(e:NE)|di(j:Z)(e:LE)(b:iA)|tup(js:V Z)(a b:LE)(e:NE)
inductive iA|nil|cons(s:DW)(r:iA)
end
noncomputable def kX(e:CF)(h:Key->NF):NE->qk
 |.call H l=>BY e (h H) l
 |.aU D x A l=>BZ e (h (.fn A)) D x A l
mutual
noncomputable def fm(cf:CF)(nf:Key->NF):DW->mP
 |.a s=>cN cf s
 |.ifs c x y=>JS cf c (cH cf nf x) (cH cf nf y)
 |.exp e=>Gh (kX cf nf e)
 |.ret e=>Gi (kX cf nf e)
 |.di j e b=>Gk cf e j (cH cf nf b)
 |.tup js a b e=>Gm cf js a b (kX cf nf e)
noncomputable def cH(cf:CF)(nf:Key->NF):iA->mP
 |.nil=>Du
 |.cons s r=>Gg (fm cf nf s) (cH cf nf r)
end
noncomputable def Lj:Key->GV
 |.fn I=>.fn I
 |.cls I=>.cls I
noncomputable def isKey(C:Cx)(J:MU)(H:Key):MP:=MX (C.Dz J=S (Lj H))
noncomputable def l3{i:Type}:V i->O (i×i×i)|[I,M,C]=>S (I,M,C)|_=>N
theorem I5(r:V G):aZ (l3 r) λI=>r=[I.1,I.2.1,I.2.2]:=by rcases r with _|⟨I,_|⟨M,_|⟨C,_|⟨h,y⟩⟩⟩⟩<;>first|exact RZ|rfl
noncomputable def rg(w:Z)(C:Cx):NE->MQ->MP
 |.call H l,r=>(hO r).any λL=>(bV L.1).any λJ=>isKey C J H&&fu w C (.Es l L.2.1)
 |.aU D x A l,r=>(hO r).any λL=>(pO L.1).any λn=>MX (n.2.1=sx x)&&eJ n.1&&(n.2.2.endLine==L.2.2.line)&&MX (L.2.1.length<30)&&fu w C (.E D n.1)&&fu w C (.Es l L.2.1)
mutual
noncomputable def hS(M:Z)(c:Cx):DW->Na->MP
 |.a s,x=>sM M 60 c (.S s x)
 |.ifs t a b,x=>(IZ x).any λq=>fu M c (.T t q.1)&&fq M c a q.2.1&&fq M c b q.2.2
 |.exp e,x=>(ki x).any λy=>!(j4 y)&&rg M c e y
 |.ret e,x=>(DG x).any λy=>rg M c e y
 |.di j e b,x=>(AP x).any λq=>(bV q.1).any λnm=>c.dst j nm&&!(dX q.2.1)&&fu M c (.E e q.2.1)&&fq M c b q.2.2
 |.tup js a b e,x=>(my x).any λq=>(jz q.1).any λts=>(sI c js ts).any λxs=>(jz q.2).any λys=>
   (MX (FY (λy=>c.names.lookup y) ts ys=S (S xs))&&decide xs.Nodup&&MX (js.length=3))&&(l3 ys).any λy=>notStar y.1&&notStar y.2.1&&notStar y.2.2&&fu M c (.E a y.1)&&fu M c (.E b y.2.1)&&rg M c e y.2.2
noncomputable def fq(M:Z)(c:Cx):iA->V Na->MP
 |.nil,xs=>xs.isEmpty
 |.cons s r,xs=>match xs with
  |[]=>MT
  |x :: xs=>hS M c s x&&fq M c r xs
end
theorem yp{J:MU}{H:Key}(z:fZ E c)(o:rB v)(B:isKey E J H=ML):NZ v NO J=S (S (.ref (fE H)))/\c.kindOf J=S .globalImplicit/\(J==("__debug__":MU))=MT/\∀A,H=.fn A->A<60:=by
 refine fK (Cx.kg z o (M8 B)) λg b f=>?_;clear z o B;induction H using Key.casesOn with
 |fn I=>exact qu b.1 g (bG f) (λA L=>Key.fn.inj L▸b.2)
 |cls I=>exact qu b g (bG f) (λA L=>nomatch L)
theorem yq{t:Key->NF}(C:Gr v e P be bg bf)(j:rB v)(x:iy h a e N i q)(d:∀H,oh h a e q H (t H))(R:bo N (q+1) f (c :: o))(w:Z)(z:fZ E c){D:NE}(B:rg (w+1) E D aj=ML):mn h a e (c :: o) c E.sl f (kX i t D) aj:=by
 induction D using NE.casesOn with
 |call H l=>exact k0 (eA aj) B λL B=>k1 (P:=λs=>mn h a e (c :: o) c E.sl f _ (.Call s _ [] _)) (bu L.1) B λJ P B=>an B λp G=>by exact qj (yp z j p) λg b r U=>mn.call C (d H) R U (eQ C j x R _ E c _ z G) g b r
 |aU D y A l=>
  exact k0 (eA aj) B λL B=>k0 (P:=λs=>mn h a e (c :: o) c E.sl f _ (.Call s _ [] _)) (mv L.1) B λn B=>zR B λp G T X k m=>
   dE p▸mn.aU C (d (.fn A)) R (eQ C j x R _ E c _ z k) (eQ C j x R _ E c _ z m) G T (M8 X)
theorem A5{nf:Key->NF}(C:Gr v e P be bg bf)(a0:rB v)(l:j' h a e v)(x:iy h a e N i q)(CN:∀H,oh h a e q H (nf H))(R:bo N (q+1) f (c :: o))(J:c.scope.kind=.function)(hn:c.scope.names=E.names)(hc:E.comp=MT)(w:Z) :
  (∀(t:DW) (r:Na),hS (w+1) E t r=ML->gM h a e o c E.sl f (fm i nf t) r)/\∀(t:iA) (j:V Na),fq (w+1) E t j=ML->mQ h a e o c E.sl f (cH i nf t) j:=by
 have z:=jB hn hc;have K:∀{D r},fu (w+1) E (.E D r)=ML->SE h a e (c :: o) c E.sl f i D r:=λB=>eQ C a0 x R _ E c _ z B;have b:∀{D r},rg (w+1) E D r=ML->mn h a e (c :: o) c E.sl f (kX i nf D) r:=λB=>yq C a0 x CN R w z B;have U:=R.less (So q);have ha:∀(t:LS) (r:Na),hS (w+1) E (.a t) r=ML->gM h a e o c E.sl f (fm i nf (.a t)) r:=λt r B=>gM.Hy ((λB=>uv C a0 l x R J hn hc w 60 _ B) B);have hi:∀(n:LE) (I M:iA),(∀j,fq (w+1) E I j=ML->mQ h a e o c E.sl f (cH i nf I) j)->(∀j,fq (w+1) E M j=ML->mQ h a e o c E.sl f (cH i nf M) j)->∀(r:Na),hS (w+1) E (.ifs n I M) r=ML->gM h a e o c E.sl f (fm i nf (.ifs n I M)) r:=λn I M ia ib r B=>k1 (P:=λr=>gM h a e o c E.sl f _ r) (B8 r) B λL P B=>gV B λp G T=>gM.ifs ((λB=>eQ C a0 x R _ E c _ z B) p) (ia _ G) (ib _ T);have he:∀(D:NE) (r:Na),hS (w+1) E (.exp D) r=ML->gM h a e o c E.sl f (fm i nf (.exp D)) r:=λD r B=>k1 (P:=λr=>gM h a e o c E.sl f _ r) (sG r) B λL P B=>an B λp G=>gM.exp (b G) (q9 J) (eK (nF p) _ _ _);have hr:∀(D:NE) (r:Na),hS (w+1) E (.ret D) r=ML->gM h a e o c E.sl f (fm i nf (.ret D)) r:=λD r B=>k1 (P:=λr=>gM h a e o c E.sl f _ r) (yg r) B λL P B=>gM.ret (b B);have hf:∀(a1:Z) (D:LE) (M:iA),(∀j,fq (w+1) E M j=ML->mQ h a e o c E.sl f (cH i nf M) j)->∀(r:Na),hS (w+1) E (.di a1 D M) r=ML->gM h a e o c E.sl f (fm i nf (.di a1 D M)) r:=λa1 D M ib r B=>k1 (P:=λr=>gM h a e o c E.sl f _ r) (sH r) B λL P B=>k1 (P:=λn=>gM h a e o c E.sl f _ (.For n _ _ _ _)) (bu L.1) B λnm np B=>wC B λp G T X=>by exact bK (Cx.pR z p) λg z2=>gM.di U (K T) g z2 (ib _ X) (nF G)
 have ht:∀(k:V Z) (I M:LE) (D:NE) (r:Na),hS (w+1) E (.tup k I M D) r=ML->gM h a e o c E.sl f (fm i nf (.tup k I M D)) r:=λk I M D r B=>by refine k1 (P:=λr=>gM h a e o c E.sl f _ r) (fM r) B λL P B=>k1 (P:=λn=>gM h a e o c E.sl f _ (.Assign [n] _ _)) (fL L.1) B λm P B=>aM (NR B) λj Y B=>k1 (P:=λn=>gM h a e o c E.sl f _ (.Assign _ n _)) (fL L.2) B λA P B=>an B λp B=>gV p λp G T=>?_;rw[(show(λs=>E.names.lookup s)=c.kindOf from hn▸rfl)] at p;have d:=M8 p;revert d;exact k0 (P:=λA=>FY c.kindOf m A=_->gM h a e o c E.sl f _ (.Assign _ (.Tuple A _ _) _)) (I5 A) B λs B d=>zR B λk1 k2 k3 k4 k5 k6=>gM.tup U (K k4) (K k5) (b k6) k1 k2 k3 (jA z Y) (M8 G) (M8 T) (pq J d)
 have hn:∀(j:V Na),fq (w+1) E .nil j=ML->mQ h a e o c E.sl f (cH i nf .nil) j:=λj B=>Tq.mp (show j.isEmpty=ML from B)▸.nil;have hc:∀(t:DW) (y:iA),(∀r,hS (w+1) E t r=ML->gM h a e o c E.sl f (fm i nf t) r)->(∀j,fq (w+1) E y j=ML->mQ h a e o c E.sl f (cH i nf y) j)->∀(j:V Na),fq (w+1) E (.cons t y) j=ML->mQ h a e o c E.sl f (cH i nf (.cons t y)) j:=λt y i1 i2 j B=>by
  induction j using RD with
  |nil=>exact bF B
  |cons r j=>exact an B λp G=>.cons (i1 r p) (i2 j G)
 exact⟨λt=>DW.rec (motive_1:=λt=>∀(r:Na),hS (w+1) E t r=ML->gM h a e o c E.sl f (fm i nf t) r) (motive_2:=λt=>∀(j:V Na),fq (w+1) E t j=ML->mQ h a e o c E.sl f (cH i nf t) j) ha hi he hr hf ht hn hc t,λt=>iA.rec (motive_1:=λt=>∀(r:Na),hS (w+1) E t r=ML->gM h a e o c E.sl f (fm i nf t) r) (motive_2:=λt=>∀(j:V Na),fq (w+1) E t j=ML->mQ h a e o c E.sl f (cH i nf t) j) ha hi he hr hf ht hn hc t⟩
theorem yr{b:Ng}{c:Cx}{g:Key->NF}(C:Gr v e P be bg bf)(m:rB v)(l:j' h a e v)(x:iy h a e N i q)(d:∀H,oh h a e q H (g H))(R:bo N (q+1) f (b :: o))(J:b.scope.kind=.function)(n:b.scope.names=c.names)(k:c.comp=MT)(w:Z)(t:iA)(j:V Na)(B:fq (w+1) c t j=ML):mQ h a e o b c.sl f (cH i g t) j:=(A5 C m l x d R J n k w).2 t j B
noncomputable def aH:dR->Z->LS
 |.cons t _,0=>t
 |.cons _ y,q+1=>aH y q
 |.nil,_=>.any
set_option tactic.hygienic true in
noncomputable def dY(t:LS):dR:=by cases t;(case ifs C I M=>exact I);all_goals exact .nil
set_option tactic.hygienic true in
noncomputable def cQ(t:LS):dR:=by cases t;(case ifs C I M=>exact M);all_goals exact .nil
set_option tactic.hygienic true in
noncomputable def dA(t:LS):LE:=by cases t;(case ifs C I M=>exact C);all_goals exact .kM
set_option tactic.hygienic true in
noncomputable def bodyOf(t:LS):dR:=by cases t;(case di r D M=>exact M);all_goals exact .nil
set_option tactic.hygienic true in
noncomputable def sO(t:LS):LE:=by cases t;(case di r D M=>exact D);all_goals exact .kM
set_option tactic.hygienic true in
noncomputable def zD(t:LS):LE:=by cases t;(case exp D=>exact D);(case ret D=>exact D);all_goals exact .kM
set_option tactic.hygienic true in
noncomputable def kY(D:LE):cz:=by cases D;(case call A l=>exact l);(case aU D x l=>exact l);all_goals exact .nil
set_option tactic.hygienic true in
noncomputable def yt(D:LE):LE:=by cases D;(case aU D x l=>exact D);all_goals exact .kM
set_option tactic.hygienic true in
noncomputable def HE(y:cz):LE:=by cases y;(case cons D a=>exact D);all_goals exact .kM
set_option tactic.hygienic true in
noncomputable def HF(y:cz):cz:=by cases y;(case cons D a=>exact a);all_goals exact .nil
set_option tactic.hygienic true in
noncomputable def A6(t:LS):LE×LE×LE:=by cases t;(case gj j y=>exact(HE y,HE (HF y),HE (HF (HF y))));all_goals exact(.kM,.kM,.kM)
inductive NV|a(e:LE)|mR(e:LE)
noncomputable def DX(e:CF):NV->qk
 |.a D=>aO e D
 |.mR D=>B2 e D
noncomputable def GO(w:Z)(C:Cx)(r:MQ):NV->MP
 |.a D=>fu w C (.E D r)
 |.mR D=>(hO r).any λc=>(bV c.1).any λJ=>(l1 c.2.1).any λU=>MX (J=("bytearray":MU))&&C.bi "bytearray" (.ty "bytearray")&&notStar U&&fu w C (.E D U)
noncomputable def yu(w:Z)(C:Cx)(q:MU):V Z->V NV->V Na->MP
 |[],y,j=>y.isEmpty&&j.isEmpty
 |A :: f,y,j=>y.head?.any λD=>j.head?.any λr=>(my r).any λL=>(hM L.1).any λn=>(bV n.1).any λs=>MX (s=q)&&MX (n.2=sx A)&&GO w C L.2 D&&yu w C q f y.tail j.tail
noncomputable def yv:V NV:=[.a (.var 1),.mR (.var 2),.a (.var 3),.a (.var 4)]
noncomputable def pT(e:CF):NF:=λl b=>match Mine.Lake.bindArgs (bT .Text).aY (bT .Text).cx (bT .Text).slots.length (.none :: l) with
 |none=>.bad
 |some T=>(Hz (yv.map (DX e)) (T.set 0 N) b).bind λy=>.ok (.obj .Text y.1,y.2)
noncomputable def zE(A:da)(M:mP):NF:=λl b=>match Mine.Lake.bindArgs A.aY A.cx A.slots.length l with
 |none=>.bad
 |some T=>(M T b).bind λy=>.ok ((match y.1 with|.ret E=>E|.next=>.none),y.2.2)
noncomputable def only(H:Key)(h:NF):Key->NF:=λr=>if r=H then h else λY Y=>.bad
noncomputable def eX:CF:=aC 10
noncomputable def GP:iA:=.cons (.a (aH BO.body 0)) (.cons (.ret (.call (.cls .Text) (kY (zD (aH BO.body 1))))) .nil)
noncomputable def GQ:NF:=zE BO (cH eX (only (.cls .Text) (pT eX)) GP)
noncomputable def GR:iA:=.cons (.a (aH zJ.body 0)) (.cons (.ret (.aU (yt (zD (aH zJ.body 1))) 35 25 (kY (zD (aH zJ.body 1))))) .nil)
noncomputable def km:NF:=zE zJ (cH eX (only (.fn 25) GQ) GR)
noncomputable def uw:LS:=aH (cQ (aH gO.body 2)) 0
noncomputable def GS:iA:=.cons (.a (aH gO.body 0)) (.cons (.a (aH gO.body 1)) (.cons (.ifs (dA (aH gO.body 2)) (.cons (.a (aH (dY (aH gO.body 2)) 0)) (.cons (.a (aH (dY (aH gO.body 2)) 1)) .nil)) (.cons (.ifs (dA uw) (.cons (.a (aH (dY uw) 0)) .nil) (.cons (.tup [4,5,6] (A6 (aH (cQ uw) 0)).1 (A6 (aH (cQ uw) 0)).2.1 (.aU (yt (A6 (aH (cQ uw) 0)).2.2) 63 24 (kY (A6 (aH (cQ uw) 0)).2.2))) .nil)) .nil)) (.cons (.a (aH gO.body 3)) (.cons (.a (aH gO.body 4)) (.cons (.a (aH gO.body 5)) .nil)))))
noncomputable def kn:NF:=zE gO (cH eX (only (.fn 24) km) GS)
noncomputable def nE:LS:=aH mW.body 1
noncomputable def mA:LS:=aH (bodyOf nE) 2
noncomputable def yw:iA:=.cons (.a (aH (bodyOf nE) 0)) (.cons (.a (aH (bodyOf nE) 1)) (.cons (.ifs (dA mA) (.cons (.exp (.call (.fn 52) (kY (zD (aH (dY mA) 0))))) .nil) (.cons (.a (aH (cQ mA) 0)) .nil)) (.cons (.a (aH (bodyOf nE) 3)) .nil)))
noncomputable def GU:iA:=.cons (.a (aH mW.body 0)) (.cons (.di 2 (sO nE) yw) (.cons (.a (aH mW.body 2)) .nil))
noncomputable def GW:NF:=zE mW (cH eX (only (.fn 52) kn) GU)
noncomputable def GX(k:V MN):Res (Q×AH):=GW [.lst (k.map .int)] {}
noncomputable def goN(A:da)(M:iA)(o:NJ)(l:V Na):MP:=fq 60 ⟨o.scope.names,MT,iz A.slots⟩ M l
noncomputable def A7(a:NA)(H:Z)(A:da)(M:iA):MP:=Fh a (FA H) A.aY A.cx (iz A.slots) (goN A M)
noncomputable def Lk(o:NJ)(l:V Na):MP:=(o.params.args.map (·.arg)).head?.any λq=>MX (o.scope.names.lookup q=S .local)&&cZ q&&yu 60 ⟨o.scope.names,MT,iz (bT .Text).slots⟩ q (bS .Text) yv l
noncomputable def Cf(a:NA):MP:=(sN a .Text).any λr=>Qm a (CA .Text)&&MX (Oc a (.ref r)=S (.type "function"))&&Fh a r (bT .Text).aY (bT .Text).cx (iz (bT .Text).slots) Lk
noncomputable def ou(a:NA):MP:=DV a&&Cf a&&A7 a 25 BO GP&&A7 a 24 zJ GR&&A7 a 52 gO GS&&A7 a 59 mW GU&&(a.lookup OC).isSome
structure mB(K:NA)(g₀:MV)(p:Nv)(loose:V MU)(mg mb:MU->O MO):Prop extends Base K g₀ p loose mg mb where
 text:Cf K=ML
 Hp:A7 K 25 BO GP=ML
 FC:A7 K 24 zJ GR=ML
 Ll:A7 K 52 gO GS=ML
 Lm:A7 K 59 mW GU=ML
theorem mB.of(r:v.In e)(x:TopRead P be bg bf e)(B:ou v=ML):mB v e P be bg bf:=by refine hF λA=>?_;unfold ou at B;simp only[Tp] at B;refine bK B λbE Y=>?_;obtain⟨⟨⟨⟨⟨p,G⟩,T⟩,X⟩,k⟩,m⟩:=bE;refine dD (Um.mp Y) λz a=>?_;refine A ?_;exact⟨Base.of r x ⟨z,r _ _ a⟩ p,G,T,X,k,m⟩
theorem oh.less{x:Z}{H:Key}{c:NF}(M:oh h a e q H c)(B:q<=x):oh h a e x H c:=λg T f X b y t w R=>M g T f X b y t w (R.less B)
theorem oh.only{H:Key}{c:NF}(M:oh h a e q H c):∀r,oh h a e q r (only H c r):=λr=>by
 by_cases D:r=H;·refine R D ?_;rw[Mine.Lake.only];refine R (Nb rfl) ?_;exact M
 ·rw[Mine.Lake.only];refine R (Nf D) ?_;intro g T f X b y t w _ _ _ _ L U;cases U
theorem yx{b:Nj}{w:Z}{D:NV}(C:Gr v e P be bg bf)(o:rB v)(x:iy h b e N i q)(R:bo N (q+1) f l)(z:fZ E c)(B:GO w E aj D=ML):mn h b e l c E.sl f (DX i D) aj:=by
 induction D using NV.casesOn with
 |a D=>exact mn.Hy (eQ C o x R w E c _ z B)
 |mR D=>
  exact k0 (eA aj) B λd B=>k1 (P:=λs=>mn h b e l c E.sl f _ (.Call s _ [] _)) (bu d.1) B λJ P B=>k0 (P:=λs=>mn h b e l c E.sl f _ (.Call _ s [] _)) (oP d.2.1) B λU B=>wC B λp G T X=>
   dE p▸mn.mR C (Cx.mw z o G) (eQ C o x R w E c _ z X) T
theorem yy{g:Ng}{c:Cx}{b:MU}(C:Gr v e P be bg bf)(o:rB v)(x:iy h a e N i q)(R:bo N (q+1) f l)(w:Z)(z:fZ c g){k:V Z}:∀{y:V NV} {j:V Na},yu w c b k y j=ML->pN h a e l g c.sl f b k (y.map (DX i)) j:=by
 induction k with
 |nil=>exact λB=>an B λp G=>Tq.mp p▸Tq.mp G▸.nil
 |cons A k d=>
  intro y j B
  induction y using RD with
  |nil=>exact bF B
  |cons D y=>induction j using RD with
   |nil=>exact bF B
   |cons r j=>
    exact k1 (P:=λr=>pN h a e l g c.sl f b _ _ (r :: _)) (fM r) B λL P B=>k1 (P:=λn=>pN h a e l g c.sl f b _ _ (.Assign [n] _ _ :: _)) (fH L.1) B λn P B=>
     k1 (P:=λn=>pN h a e l g c.sl f b _ _ (.Assign [.Attribute n _ _] _ _ :: _)) (bu n.1) B λs P B=>wC B λp G T X=>dE p▸(dE G▸.cons (yx C o x R z T) (d X))
theorem A8(n:mB v e P be bg bf):oh h a e 22 (.cls .Text) (pT eX):=by
 intro a0 H f X b y t w R K M E q D;refine hF λB=>?_;unfold pT at D;refine kA (Mine.Lake.bindArgs (bT .Text).aY (bT .Text).cx (bT .Text).slots.length (.none :: X)) (λm=>?_) (λA m=>?_);·replace D:=m▸D;cases D
 ·replace D:=m▸D;refine aM (bU D) λcj s Y=>?_;clear D;obtain⟨C,r⟩:=cj;obtain rfl:=Hs Y;refine aM (NR n.text) λL d J=>?_;refine gV J λp G T=>?_;refine CO (mz (w:=a) n.G.X T) λo z l j x=>?_;refine aM (NR x.ok) λU g ok=>?_;refine B ?_;exact gV ok λk1 i k=>xW n.G (by decide) x.facts R rfl p (oq d) (M8 G) x.get x.dat n.G.T.nolimit x.code x.GJ (x.len.symm▸x.GI) (x.len.symm▸x.HD) (rd g) (M8 k1) (bG i) K M E (x.len.symm▸(jC (bT .Text).slots).symm▸m) rfl s λI=>
   yy (c:=⟨o.scope.names,MT,iz (bT .Text).slots⟩) n.G n.go (rf n.toBase 10) R.make 60 (jB rfl rfl) k
theorem pU{m:Z}(n:mB v e P be bg bf){A:da}{M:iA}{k:Key->NF}(B:A7 v H A M=ML)(d:∀H,oh h a e (20+m) H (k H)):oh h a e (20+m+2) (.fn H) (zE A (cH eX k M)):=by
 intro g T f X b y t w R K C E q D;refine hF λp=>?_;unfold zE at D;refine kA (Mine.Lake.bindArgs A.aY A.cx A.slots.length X) (λi=>?_) (λL i=>?_);·replace D:=i▸D;cases D
 ·replace D:=i▸D;refine aM (bU D) λdu s Y=>?_;obtain⟨U,J,r⟩:=du;obtain rfl:=Hs Y;refine CO (mz (w:=a) n.G.X B) λo z l j x=>?_;refine p ?_;refine AB x.facts R x.get x.dat n.G.T.nolimit x.code x.GJ (x.len.symm▸x.GI) (x.len.symm▸x.HD) K C E (x.len.symm▸(jC A.slots).symm▸i) s λI=>?_;exact yr (c:=⟨o.scope.names,MT,iz A.slots⟩) n.G n.go n.eU (⟨λg T f G X b y t w R=>(rf n.toBase 10).run g T f G X b y t w (R.less (R6 20 m))⟩) d R.deeper x.facts.kind rfl rfl 59 M l x.ok
theorem DY(n:mB v e P be bg bf):oh h a e 30 (.fn 59) GW:=by exact pU (m:=8) n n.Lm (oh.only (pU (m:=6) n n.Ll (oh.only (pU (m:=4) n n.FC (oh.only (pU (m:=2) n n.Hp (oh.only (A8 n))))))))
end
section
open PySem PySem.W PySem.Calls PyProof.Rows
section
open PySem.SeqAt
noncomputable def ux:Ctx:=⟨.builtin "claim.caller" {},N,N,[],N⟩
theorem vG:Nd ux PT:=⟨caller_in,by decide +kernel,λL x=>by cases x⟩
theorem sR:bo N 30 PT []:=⟨rfl,rfl,by decide +kernel,by decide +kernel⟩
theorem DZ{prog:Nv}{w:Nj}{t:Nm Fin}{a:MW}{R:NQ->MW->Prop}(U:a.asleep)
  (B:dQ (MY prog w) PT t (λT v=>∃A,T=.done A/\R (.ok A) v/\Rv v.gens=MT) (λD v=>R (.error D) v/\Rv v.gens=MT) a) :
  ∃q e v b,schedN (Pn Oh) prog w q (.single a ⟨t,.builtin "claim.caller" {},default,[]⟩)=.halted (outcomeOf e) b/\PySem.runN (Pn Oh) prog w q a ⟨t,.builtin "claim.caller" {},default,[]⟩=.halted (outcomeOf e) b/\b.forget=v.forget/\R e v:=
 wp_halts_full (M:=MY prog w) (R:=R) (c:=.builtin "claim.caller" {}) U (TH _ _ _ (λY Y Y s=>by obtain⟨A,rfl,s⟩:=s;exact s) (λY Y Y s=>s) _ _ (B ux default vG))
end
section
open PySem.SeqAt
abbrev LR:OpenRow:=PySem.Challenge.rw_nt0500_01.row
theorem A9{R:WRecords}:∀{j:V OH},PU.hasItems R j .int=ML->∃q:V MN,j=q.map .int:=by
 intro j;induction j with
 |nil=>exact λ_=>⟨[],rfl⟩
 |cons h j d=>intro B;refine bK (RT.mp (show(PU.has R h .int&&PU.hasItems R j .int)=ML from B)) λp G=>dD (d G) λq L=>?_;clear B G d;subst L;refine hF λJ=>?_;induction h using OH.casesOn<;>first|exact J ⟨_ :: q,rfl⟩|exact bF p
theorem vH{a:Nj}{B:MV}{T:SP}{y:bH}:∀{q:V MN} {w:V MO},WellAll a.params B w (q.map .int)->bM a.params T y (q.map .int) w:=by
 intro q;induction q with
 |nil=>intro w s;cases s;exact .nil
 |cons K q f=>intro w s;refine mX (Rw s) λE d L I M=>dD (MO.isInt_shape ((encInt LR.prog a).is I).1) λn D=>?_;clear s I;subst L D;exact .cons (.int _ _) (f M)
theorem D2{c:Oa}{B:MV}{E:MO}{h:OH}(r:Well c B E h):(match h with|.list j=>∃I w,E=.ref I/\B.get? I=S {cls:=.type "list",data:=.seq w.toArray}/\WellAll c B w j|_=>Nq):=by induction r using W.Well.casesOn<;>first|exact RZ|exact⟨_,_,rfl,by assumption,by assumption⟩
theorem vI:((LR.name,GV.fn 59):MU×GV)∈AI:=kH (by decide +kernel)
theorem D4{R:WRecords}{t:WTm}{D:WCtx}{M:MP}(E:t.value R D=S (.bool M))(B:t.holds R D=ML):M=ML:=by
 unfold WTm.holds at B;rw[E] at B;induction M using RE with
 |false=>exact bF B
 |true=>rfl
set_option tactic.hygienic true in
theorem yz{X:V OH}(B:LR.toRowW.claim.pre X=ML):∃k:V MN,X=[.list (k.map .int)]/\k.length<=63:=by
 refine hF λA=>bK (pre_splitW B) λp G=>mX (hasAllW_cons p) λh j cj T b=>?_;subst cj;induction j using RD with
 |cons _ _=>exact bF b
 |nil=>
  induction h using OH.casesOn with
  |list a=>
   refine dD (A9 (R:=LR.records) ((MP.or_false ..).symm.trans (show(PU.hasItems LR.records a PU.int||MT)=ML from T))) λk du=>?_;subst du;refine A ⟨k,rfl,?_⟩;have m:(!MX ((63:MN)<((k.map OH.int).length:Z)))=ML:=D4 (t:=WTm.not (.lt (.lit (.int 63)) (.len (.arg 0)))) rfl (holds_andW G).1;rw[Rz] at m;refine v9 (MX ((63:MN)<(k.length:Z))) (λq=>?_) (λq=>?_);·exact S6.mp (TU.mp (Q6 q))
   ·rw[q] at m;exact bF m
  |_=>exact bF T
theorem yA{q:Nv}{l:V MU}{T:(MU->O MO)->MV->Prop}{p:Nj}{f X:MW}{y L:MU->O MO}(t:∀k:V MN,k.length<=63->∃b,GX k=.ok (.bool ML,b))
  (C:Ground q l LR.records T p f y L X.heap) (G:∃a:NA,a.In X.heap/\ou a=ML) {g:V OH} {w:V MO} {U:V MS} (i:LR.toRowW.claim.pre g=ML) (J:Laid LR.records p f X g w U) :
  ∃A,y LR.name=S A/\codeN (MY LR.prog p) PT (.call A ⟨w,[]⟩) (λe v=>(∃E,e=.ok (.ret E))/\GoodWG LR.toRowW.claim (classAt f.heap) (ExcName.means f.heap) g X e v) X:=by
 refine hF λa2=>aM (yz i) λk dV hl=>?_;subst dV;refine aM G λa r c=>?_;have n:mB a X.heap q _ y L:=mB.of r (topRead_of C.T) c;refine dD (t k hl) λb D=>mX (Rw J.well) λE d q I M=>mX (D2 I) λla ws q2 o a0=>?_;clear I;subst q q2;cases M;refine a2 ⟨.ref (FA 59),?_,fi (DY n [] [] PT [.lst (k.map .int)] {} {} X _ sR ?_ ⟨λD x=>by cases x⟩ (.cons (.lst _ _ _ 0 ⟨o,?_,?_⟩ ?_) .nil) _ D) λe v s=>?_⟩;·exact mg_of n.G.X n.G.T.g ((n.go _ vI).1.1)
 ·exact⟨λM z D=>⟨D,by show M∉[];exact SA⟩,.nil,(λI x=>by cases x),(λI x=>by cases x),⟨rfl,rfl,rfl,rfl,(λH w I D=>by exact nX D),(λH w I D=>by exact nX D),(λH w I D=>by exact nX D),λH P q D=>by exact nX D⟩⟩
 ·show _∉[];exact SA
 ·exact SA
 ·exact vH a0
 ·rcases e with j|(E|_|_|_)<;>try exact s.elim
  refine hF λa1=>dF s λa' H' K e1 o1 v1=>?_;cases e1;cases v1;refine mN o1.eq λm B fB=>?_;subst fB;refine a1 ⟨⟨_,rfl⟩,.inl ⟨.bool ML,.bool ML,[],rfl,λh=>rfl,.bool ML,?_,λY=>⟨.nil,λI x=>by cases x⟩⟩,OldK.of_keep λM z D=>(o1.inv.keep M z D).1,rfl,.of_eq J.gens⟩;refine RT.mpr ⟨rfl,?_⟩;show(WTm.eq .res (.lit (.bool ML))).holds _ _=ML;dsimp only[WTm.holds,WTm.value];rw[show W.same (OH.bool ML) (OH.bool ML)=ML from by simp[W.same]]
end
noncomputable def lC(T:Oe->O NL)(P:Nv)(a:Nj)(b:Z)(A:O MO):Z->OA->Thread->O OA
 |0,_,_=>N
 |q+1,t,n=>match Qn n with
  |true=>S t
  |false=>match stepOk b A n with
   |false=>N
   |true=>match stepT (Pn T) P a t n with
    |some (v,X)=>lC T P a b A q v X
    |none=>N
theorem sT{T:Oe->O NL}{P:Nv}{a:Nj}{b:Z}{A:O MO}:∀{q:Z} {t v:OA} {n:Thread},lC T P a b A q t n=S v->Po T P a b A q t.abs n=S v.abs:=by
 intro q;induction q with
 |zero=>intro _ _ _ B;cases B
 |succ q f=>
  intro t v n B
  replace B:(match Qn n with
   |true=>S t
   |false=>match stepOk b A n with
    |false=>N
    |true=>match stepT (Pn T) P a t n with
     |some (v,X)=>lC T P a b A q v X
     |none=>N)=S v:=B
  show(match Qn n with
   |true=>S t.abs
   |false=>match stepOk b A n with
    |false=>N
    |true=>match step (Pn T) P a t.abs n with
     |.go v X=>Po T P a b A q v X
     |.halt _ _=>N)=_
  induction D:Qn n using RE with
  |true=>rw[D] at B;cases B;rfl
  |false=>
   rw[D] at B
   induction m:stepOk b A n using RE with
   |false=>rw[m] at B;cases B
   |true=>
    rw[m] at B
    induction s:stepT (Pn T) P a t n using Ry with
    |none=>rw[s] at B;cases B
    |some L=>obtain⟨o,M⟩:=L;rw[s] at B;dsimp only at B⊢;rw[stepT_spec s];exact f B
noncomputable def treeOf:V Nl->Z->BT->BT
 |[],_,x=>x
 |z :: y,q,x=>treeOf y (q+1) (x.ins q z)
noncomputable def yB(c:Oa):BT:=treeOf (Oq c).objs.toList 0 .nil
noncomputable def Ln:V Z:=[3,1,593,592,72,93,114,147,168,312,333,52,36,359,20,21,29,35,38,39,51,62,68,69,71,89,90,92,110,111,113,131,132,138,139,143,144,146,164,165,167,178,179,180,186,187,193,194,195,201,202,203,209,210,216,217,223,224,230,231,237,238,244,245,251,252,258,259,265,266,272,273,279,280,286,287,293,294,302,308,309,311,329,330,332,350,351,357,358,365,366,372,373,379,380,386,387,393,394,400,401,407,408,410,411,428,429,435,436,442,443,449,450,456,457,463,464,470,471,477,478,484,485,491,492,494,495,505,511,512,518,519,525,526,532,533,539,540,546,547,553,554,560,561,567,568,574,575,576,582,583,589,590,601,602,608,609,613,614,620,621,625,626,632,633,637,638,642,643,649,650,656,657]
noncomputable def yC(t:OA):NA:=(Ln.filter λI=>Z.blt I t.n).filterMap λI=>((t.tree.get I).bind alive).map λz=>(I,z)
set_option tactic.hygienic true in
theorem pV{f:Z->O Nl}{I:Z}{z:Nl}:∀{T:V Z},(T.filterMap λI=>(f I).map λz=>(I,z)).lookup I=S z->I∈T/\f I=S z:=by
 intro T;induction T with
 |nil=>intro B;cases B
 |cons r T a=>
  intro B
  rw[TP] at B
  induction D:f r using Ry with
  |none=>rw[D] at B;obtain⟨p,G⟩:=a B;exact⟨.tail _ p,G⟩
  |some c=>
   rw[D] at B;change Ua I ((r,c) :: _)=S z at B;rw[SH] at B;split at B;·rename_i L;obtain rfl:=N'.mp L;cases B;exact⟨.head _,D⟩
   ·obtain⟨p,G⟩:=a B;exact⟨.tail _ p,G⟩
theorem yD(t:OA):(yC t).In t.abs.heap:=λI z D=>by
 obtain⟨p,G⟩:=pV (f:=λI=>(t.tree.get I).bind alive) D;induction o:t.tree.get I using Ry with
 |none=>rw[o] at G;cases G
 |some c=>rw[o] at G;exact(abs_get (Wa.mp (TZ.mp p).2) o).trans G
abbrev PR:Nv:=PySem.Challenge.pw_nt0500_01
noncomputable def iL:Nv:={PR with main:={PR.main with body:=PR.main.body.drop 49}}
noncomputable def hT:V MU:=(["_wall","GRAIN","PostError","PsError","READ_ONLY","UNLIMITED","Thing","Text","Row","DictBody","Span","integer"]:V MU)++(["name","null","of_string","of_row","of_dict","is_number","in_millionths","is_in_array","body_of","is_local","access_of","can_read"]:V MU)++(["octets_of_span","thing_octets","key_of","key_thing","ITEM_COST","ENTRY_COST","MOST_COST","Limits","VmSave","BodyMaker","BodyChanger","Memory"]:V MU)++(["memory_check_many","memory_put_back","_law_made","_law_thing","_law_changed","_law_restored","_law_saved","_law_is_so","_law_refused"]:V MU)
noncomputable def Lo(c:Oa)(e:OR):OA:=⟨yB c,11,{},T' [],Qo,Qp,e⟩
theorem vJ:(λc=>absHeap (yB c) 11 {})=λc=>Oq c:=rfl
noncomputable def topG(P:Nv)(a:Nj)(t:OA):O OA:=lC OV P a 11 (S (.ref 6)) 4900 t (PV P)
noncomputable def lookG(P L:Nv)(l:V MU)(h:MV)(t:OA):=(Qq (O6 P.main.body) h t.abs.heap&&Qr P t.abs.heap&&Qs t.abs&&Qt h t.abs.heap,openSeen L l (O6 P.main.body) (λY=>ML) ML t.abs)
noncomputable def goodG(L:Nv)(l:V MU):=Qu L l
set_option maxHeartbeats 0 in
lay_quick Mine.Lake.topG Mine.Lake.lookG Mine.Lake.goodG
set_option maxHeartbeats 0 in
theorem D5:(λ(a:Nj) (e:OR)=>(PySem.W.Fast.tw13822506690625674060 PR a (Lo a.params e)).map λt=>(PySem.W.Fast.tw4248594712607919379 PR iL hT (Oq a.params) t,ou (yC t)))=λY Y=>S ((ML,PySem.W.Fast.tw11905219005740949937 iL hT),ML):=by kernel_rfl
theorem A'(a:Nj)(e:OR):∃t:OA,Po OV PR a 11 (S (.ref 6)) 4900 ⟨Oq a.params,T' [],Qo,Qp,e⟩ (PV PR)=S t.abs/\lookG PR iL hT (Oq a.params) t=(ML,Qu iL hT)/\ou (yC t)=ML:=by refine hF λA=>?_;have D:=OI (OI D5 a) e;rw[<-PySem.W.Fast.te13822506690625674060,<-PySem.W.Fast.te4248594712607919379,<-PySem.W.Fast.te11905219005740949937] at D;obtain⟨t,p,G⟩:=Sb.mp D;refine A ⟨t,?_,(NU.mk.inj G).1,(NU.mk.inj G).2⟩;have:=sT p;rw[<-this];show _=Po OV PR a 11 (S (.ref 6)) 4900 ⟨absHeap (yB a.params) 11 {},T' [],Qo,Qp,e⟩ (PV PR);rw[OI vJ a.params]
noncomputable def YH(B:MV):Prop:=∃a:NA,a.In B/\ou a=ML
theorem Ba{P L:Nv}{l:V MU}{n:Z}{d:Oa->MV}{i:Drawn}{k:Z}{m:Z}{A:O MO}
  (o:∀a:Nj,(fencedOpening OV P a n).map (λt=>(t.heap,t.gens,t.drawn,t.toks))=S (d a.params,T' [],i,k))
  (c:(λa:Nj=>((d a.params).isNs NO&&(T' []:M5 PO).size==0,(d a.params).objs.size,(d a.params).nsMap NO "__annotations__"))=λY=>(ML,m,A))
  (w:∀(a:Nj) (e:OR),∃t:MW,Po OV P a m A n ⟨d a.params,T' [],i,k,e⟩ (PV P)=S t/\(Qq (O6 P.main.body) (d a.params) t.heap&&Qr P t.heap&&Qs t&&Qt (d a.params) t.heap)=ML/\openSeen L l (O6 P.main.body) (λY=>ML) ML t=Qu L l/\YH t.heap) :
  LeftO P L l (λY=>ML) (λt=>YH t.heap) (λY=>Nq) n:=λa=>by
 obtain⟨⟨B,G,h,H,e⟩,D,j⟩:=Sb.mp (o a);obtain⟨rfl,rfl,rfl,rfl⟩:B=d a.params/\G=T' []/\h=i/\H=k:=by simpa using j
 obtain⟨g,b,f⟩:_/\_/\_:=by simpa only[NU.mk.injEq] using OI c a
 obtain⟨t,y,l1,l2,s⟩:=w a e;have p:topFrom OV P a n ⟨d a.params,T' [],h,H,e⟩=S t:=by unfold topFrom;dsimp only;rw[g,b,f,y];show(match Qq (O6 P.main.body) (d a.params) t.heap&&Qr P t.heap&&Qs t&&Qt (d a.params) t.heap with|true=>_|false=>_)=_;rw[l1]
 unfold openEnds;rw[D];show(topFrom OV P a n _).map _=_;rw[p];exact Nc S (NU.ext l2 (eq_true s))
theorem vK:(λa:Nj=>((Oq a.params).isNs NO&&(T' []:M5 PO).size==0,(Oq a.params).objs.size,(Oq a.params).nsMap NO "__annotations__"))=λY=>(ML,11,S (.ref 6)):=by kernel_rfl
theorem Bb:opening PR=plainProg PR.main.scope.names:=by kernel_rfl
theorem yE(t:MW):fenceModules? PR t=S t:=rfl
theorem D6(a:Nj)(e:OR):∃t:MW,Po OV PR a 11 (S (.ref 6)) 4900 ⟨Oq a.params,T' [],Qo,Qp,e⟩ (PV PR)=S t/\(Qq (O6 PR.main.body) (Oq a.params) t.heap&&Qr PR t.heap&&Qs t&&Qt (Oq a.params) t.heap)=ML/\openSeen iL hT (O6 PR.main.body) (λY=>ML) ML t=Qu iL hT/\YH t.heap:=by refine hF λl=>?_;obtain⟨t,y,T,s⟩:=A' a e;obtain⟨l1,l2⟩:=NU.mk.inj T;exact l ⟨t.abs,y,l1,l2,_,yD t,s⟩
theorem GY:LeftO PR iL hT (λY=>ML) (λt=>YH t.heap) (λY=>Nq) 4900:=Ba (boot_open Bb (by decide) yE) vK D6
end
section
open Mine.Lake.AV renaming casesOn->Wm
open Mine.Lake.Res renaming casesOn->Wn
open Mine.Lake renaming AV->Q
set_option genCtorIdx true in
inductive Kq|row|dict|text
 deriving O7
open Mine.Lake.Kq renaming casesOn->Wo
structure Bd where
 k:Kq
 num:Z
 g:MP
 lv:Z
 d:Z
 a:Z
structure Ct where
 cw:V MN
 en:V (Z×MN)
 acc:MN
 most:MN
inductive Un|item(at_:Z)(v:MN)|most(m:MN)|acc(a:MN)|ent(w:Z)(o:O MN)|drop(w:Z)(v:MN)(ks:V Z)
noncomputable def cn{d:Type}(a:Z):V (Z×d)->O d
 |[]=>N
 |P :: y=>if P.1=a then S P.2 else cn a y
noncomputable def eu{d:Type}(a:Z)(E:d):V (Z×d)->V (Z×d)
 |[]=>[(a,E)]
 |P :: y=>if P.1=a then(P.1,E) :: y else P :: eu a E y
noncomputable def iX{d:Type}(a:Z):V (Z×d)->V (Z×d)
 |[]=>[]
 |P :: y=>if P.1=a then y else P :: iX a y
variable{q:Type}{h:Z}{f:CF}{e:Loc}{a:AH}{m:V Q}{i p:AH}{v:LE}{k t w:Q}{b:Bd}{c:Ct}{l:Z->Z}{x:Res (Fl×Loc×AH)}{n o s:Z}{r:MP}
theorem jD{P:Z×q}{y:V (Z×q)}:cn h (P :: y)=if P.1=h then S P.2 else cn h y:=rfl
theorem rh{E:q}{P:Z×q}{y:V (Z×q)}:eu h E (P :: y)=if P.1=h then(P.1,E) :: y else P :: eu h E y:=rfl
theorem Cg{P:Z×q}{y:V (Z×q)}:iX h (P :: y)=if P.1=h then y else P :: iX h y:=rfl
noncomputable def gQ:Un->Ct->Ct
 |.item K E,C=>{C with cw:=C.cw.set K E}
 |.most x,C=>{C with most:=x}
 |.acc I,C=>{C with acc:=I}
 |.ent a N,C=>{C with en:=iX a C.en}
 |.ent a (S E),C=>{C with en:=eu a E C.en}
 |.drop a E g,C=>{C with en:=g.map λH=>(H,if H=a then E else(cn H C.en).getD 0)}
noncomputable def yF(H:Kq):Un->Ct->Prop
 |.item K _,C=>H=.row/\K<C.cw.length
 |.most x,_=>H=.dict/\x=2
 |.acc _,_=>H=.dict
 |.ent a _,C=>H=.dict/\(cn a C.en).isSome=ML
 |.drop a _ g,C=>H=.dict/\g.Nodup/\(∀i∈g,i≠a->(cn i C.en).isSome=ML)/\g.length<=3
noncomputable def upd{i:Type}(A:Z->i)(q:Z)(E:i):Z->i:=λK=>if K=q then E else A K
theorem bD{i:Type}{A:Z->i}{E:i}:upd A o E o=E:=Nb rfl
theorem cF{i:Type}{A:Z->i}{K:Z}{E:i}(B:K≠o):upd A o E K=A K:=Nf B
set_option tactic.hygienic true in
theorem ri{i:Type}{A:Z->i}{E:i}:upd (upd A o E) o (A o)=A:=by
 funext K;unfold upd;split;·rename_i B;rw[B]
 ·rfl
theorem rj{i:Type}{A:Z->i}{E c:i}(B:o≠s):upd (upd A o E) s c=upd (upd A s c) o E:=by
 funext K;unfold upd;by_cases p:K=o;·refine R p ?_;simp[B]
 ·simp[p]
noncomputable abbrev Jo:=V (Z×Un)
noncomputable def kJ(a:Z->Ct):Jo->Z->Ct
 |[]=>a
 |(q,c) :: y=>kJ (upd a q (gQ c (a q))) y
noncomputable def qm(z:Z->Kq)(a:Z->Ct):Jo->Prop
 |[]=>Nq
 |(q,c) :: y=>yF (z q) c (a q)/\qm z (upd a q (gQ c (a q))) y
theorem Bc{P:Jo}:∀{a:Z->Ct} {L:Jo},kJ a (P++L)=kJ (kJ a P) L:=by
 induction P with
 |nil=>exact rfl
 |cons L P d=>exact d
theorem pW{z:Z->Kq}{P:Jo}:∀{a:Z->Ct} {L:Jo},qm z a (P++L)↔qm z a P/\qm z (kJ a P) L:=by
 induction P with
 |nil=>exact⟨λB=>⟨trivial,B⟩,λB=>B.2⟩
 |cons L P d=>exact⟨λB=>⟨⟨B.1,(d.mp B.2).1⟩,(d.mp B.2).2⟩,λB=>⟨B.1.1,d.mpr ⟨B.1.2,B.2⟩⟩⟩
theorem uy{P:Jo}:∀{a:Z->Ct},(∀L∈P,L.1≠o)->kJ (upd a o c) P=upd (kJ a P) o c:=by
 induction P with
 |nil=>exact λ_=>rfl
 |cons L P d=>intro a B;have v:=B _ (.head _);show kJ (upd (upd a o c) L.1 (gQ L.2 (upd a o c L.1))) P=_;refine R (cF v) ?_;refine R (rj (S8 v)) ?_;exact d λL e=>B L (.tail _ e)
theorem uz{z:Z->Kq}{P:Jo}:∀{a:Z->Ct},(∀L∈P,L.1≠o)->qm z a P->qm z (upd a o c) P:=by
 induction P with
 |nil=>exact λ_ _=>trivial
 |cons L P d=>intro a B H;have v:=B _ (.head _);show yF _ _ (upd a o c L.1)/\qm z (upd (upd a o c) L.1 (gQ L.2 (upd a o c L.1))) P;refine R (cF v) ?_;refine R (rj (S8 v)) ?_;exact⟨H.1,d (λL e=>B L (.tail _ e)) H.2⟩
theorem D7{P:Jo}:∀{a:Z->Ct},(∀L∈P,L.1≠o)->kJ a P o=a o:=by
 induction P with
 |nil=>exact λ_=>rfl
 |cons L P d=>exact λB=>(d λL e=>B L (.tail _ e)).trans (cF (S8 (B _ (.head _))))
theorem pX{E:q}{K:Z}:∀{T:V (Z×q)},cn K (eu h E T)=if K=h then S E else cn K T:=by
 intro T;induction T with
 |nil=>
  show(if h=K then S E else N)=_
  by_cases B:h=K
  ·exact R B rfl
  ·refine(Nf B).trans ?_;exact R (Nf (S8 B)) rfl
 |cons P y f=>
  refine R rh ?_;by_cases B:P.1=h
  ·refine R (Nb B) ?_;show(if P.1=K then S E else cn K y)=if K=h then S E else if P.1=K then S P.2 else cn K y;by_cases G:K=h;·exact R (Nb G) ((Nb (B.trans G.symm)))
   ·refine R (Nf G) ?_;refine(Nf (λD=>G (D.symm.trans B))).trans ?_;rw[Nf (λD=>G (D.symm.trans B))]
  ·refine R (Nf B) ?_;show(if P.1=K then S P.2 else cn K (eu h E y))=if K=h then S E else if P.1=K then S P.2 else cn K y;refine R f ?_;by_cases G:P.1=K;·rw[Nb G,Nb G,Nf (λD=>B (G.trans D))]
   ·rw[Nf G,Nf G]
theorem yG{E z:q}:∀{T:V (Z×q)},cn h T=S z->eu h z (eu h E T)=T:=by
 intro T;induction T with
 |nil=>intro B;exact nX B
 |cons P y f=>
  intro B;rw[jD] at B;show eu h z (if P.1=h then(P.1,E) :: y else P :: eu h E y)=_;by_cases D:P.1=h;·rw[Nb D] at B;refine R (Nb D) ?_;refine(Nb D).trans ?_;rw[<-Sl B]
  ·rw[Nf D] at B;refine R (Nf D) ?_;refine(Nf D).trans ?_;refine R (f B) rfl
theorem ig{E:q}{T:V (Z×q)}:cn h T=N->eu h E T=T++[(h,E)]:=by
 induction T with
 |nil=>exact λ_=>rfl
 |cons P y d=>
  intro B;by_cases D:P.1=h;·exact nX (B.symm.trans (Nb D))
  ·exact(Nf D).trans (Nc _ (d ((Nf D).symm.trans B)))
theorem yH{E:q}{T:V (Z×q)}:cn h T=N->iX h (eu h E T)=T:=by
 induction T with
 |nil=>exact λ_=>Nb rfl
 |cons P y d=>
  intro B;by_cases D:P.1=h;·exact nX (B.symm.trans (Nb D))
  ·refine R rh ?_;refine R (Nf D) ?_;refine Cg.trans ?_;refine(Nf D).trans ?_;refine R (d ((Nf D).symm.trans B)) rfl
theorem pY{E:q}{T:V (Z×q)}(B:(cn h T).isSome=ML):(eu h E T).length=T.length:=by
 induction T with
 |nil=>cases B
 |cons P y d=>
  rw[jD] at B;refine R rh ?_;by_cases L:P.1=h;·exact R (Nb L) rfl
  ·rw[Nf L] at B;refine R (Nf L) ?_;refine S0.trans ?_;exact R (d B) rfl
theorem jE:∀{T:V (Z×q)},(cn h T).isSome=ML↔h∈T.map (·.1):=by
 intro T;induction T with
 |nil=>exact M8 rfl
 |cons P y f=>
  refine R jD ?_;refine R R5 ?_;rw[RC];by_cases D:P.1=h;·exact R (Nb D) ⟨λY=>.inl D.symm,λY=>rfl⟩
  ·exact R (Nf D) (f.trans ⟨.inr,λB=>B.resolve_left (S8 D)⟩)
theorem mC{T:V (Z×q)}:cn h T=N↔h∉T.map (·.1):=by rw[<-jE];induction(cn h T) using Ry<;>simp
theorem gA:∀{T:V (Z×q)},(T.map (·.1)).Nodup->iX h T=T.filter λP=>MX (P.1≠h):=by
 intro T;induction T with
 |nil=>intro _;rfl
 |cons P y f=>
  intro B;rw[R5,RW] at B;by_cases D:P.1=h;·refine(Nb D).trans ?_;refine R TO ?_;refine R (Nf (by simp[D])) ?_;refine(UK.mpr λL e=>?_).symm;have:L.1≠h:=λU=>B.1 (D▸U▸R3 e);simp[this]
  ·refine(Nf D).trans ?_;refine R TO ?_;refine R (Nb (by simp[D])) ?_;refine R (f B.2) rfl
theorem uA{K:Z}(B:K≠h):∀{T:V (Z×q)},cn K (iX h T)=cn K T:=by
 intro T;induction T with
 |nil=>
  rfl
 |cons P y f=>
  show cn K (if P.1=h then y else P :: iX h y)=if P.1=K then S P.2 else cn K y
  by_cases D:P.1=h
  ·refine R (Nb D) ?_;rw[Nf (λU=>B (U.symm.trans D))]
  ·refine R (Nf D) ?_;show(if P.1=K then S P.2 else cn K (iX h y))=_;refine R f rfl
theorem vL{z:MN}{T:V (Z×MN)}(n:(T.map (·.1)).Nodup)(B:cn h T=S z):(T.map (·.1)).map (λH=>(H,if H=h then z else(cn H (iX h T)).getD 0))=T:=by
 have G:∀{x:V (Z×MN)},(x.map (·.1)).Nodup->(∀L∈x,cn L.1 T=S L.2)->(x.map (·.1)).map (λH=>(H,if H=h then z else(cn H (iX h T)).getD 0))=x:=by
  intro x _ v;refine SX.trans ?_;conv=>rhs;rw[<-V1 x]
  refine UL λL e=>?_;show(L.1,_)=L;by_cases D:L.1=h;·have:=v L e;rw[D,B] at this;refine R (Nb D) ?_;rw[Sl this]
  ·refine R (Nf D) ?_;refine R (uA D) ?_;exact R (v L e) rfl
 refine G n λL e=>?_;clear G B;induction T with
 |nil=>cases e
 |cons P y d=>
  rw[R5,RW] at n;refine jD.trans ?_;rcases RC.mp e with rfl|e;·exact(Nb rfl)
  ·refine(Nf (λD:P.1=L.1=>n.1 (D▸R3 e))).trans ((d n.2 e).trans rfl)
theorem yI{E:q}{T:V (Z×q)}(B:(T.map (·.1)).Nodup):((eu h E T).map (·.1)).Nodup:=by
 refine kA (cn h T) (λD=>?_) (λz D=>?_);·refine R (ig D) ?_;refine R R8 ?_;rw[Sm];refine fA B (M8 rfl) (λI c M w=>?_);rw[R5,VO,Rx] at w;subst w;exact λU=>mC.mp D (U▸c)
 ·have:∀{x:V (Z×q)},(cn h x).isSome=ML->(eu h E x).map (·.1)=x.map (·.1):=by
   intro x
   induction x with
   |nil=>intro B;cases B
   |cons P y d=>
    intro B;rw[jD] at B;show(if P.1=h then(P.1,E) :: y else P :: eu h E y).map _=_;by_cases U:P.1=h;·exact R (Nb U) rfl
    ·rw[Nf U] at B;refine R (Nf U) ?_;refine R5.trans ?_;exact R (d B) rfl
  refine R (this (by refine R D ?_;rfl)) ?_
  exact B
theorem yJ{T:V (Z×q)}(B:(T.map (·.1)).Nodup):((iX h T).map (·.1)).Nodup:=R (gA B) (B.sublist (UM.map _))
noncomputable def wd(a:Z):Q:=.bw [97+a]
noncomputable def tI(E:MN):Q:=.obj .Thing [.str 1,.int E,.bool MT,.int 3]
noncomputable def tN(a:Z):Q:=.obj .Thing [.str 2,wd a,.bool MT,.int 3]
noncomputable def kW(a:Z):Q:=.tup [.str 24,wd a]
noncomputable def eN(a:Z)(E:MN):Q:=.tup [tN a,tI E]
noncomputable def iY{d:Type}(k:Z->Q)(v:Z->d->Q)(P:Z×d):Q×Q:=(k P.1,v P.1 P.2)
noncomputable def ow{d:Type}(a:Z):V (Z×d)->O Z
 |[]=>N
 |P :: y=>if P.1=a then S 0 else(ow a y).map (· + 1)
theorem uB{P:Z×q}{y:V (Z×q)}:ow h (P :: y)=if P.1=h then S 0 else(ow h y).map (· + 1):=rfl
theorem yK{k:Z->Q}{v:Z->q->Q}(J:∀I M,eqT (k I) (k M)=S (MX (I=M))):∀{T:V (Z×q)},eF (k h) (T.map (iY k v))=S (ow h T):=by
 intro T;induction T with
 |nil=>
  rfl
 |cons P y f=>
  show(match eqT (k P.1) (k h) with|some ML=>S (S 0)|some MT=>(eF (k h) (y.map (iY k v))).map (λz:O Z=>z.map (· + 1))|none=>N)=_
  refine R (J ..) (R f ?_)
  show _=S (if P.1=h then S 0 else(ow h y).map (· + 1))
  by_cases D:P.1=h
  ·refine R (Nb D) ?_;rw[Nn D]
  ·refine R (Nf D) ?_;exact R (NH D) rfl
theorem gb{k:Z->Q}{v:Z->q->Q}(J:∀I M,eqT (k I) (k M)=S (MX (I=M)))(G:keyOk (k h)=ML){T:V (Z×q)}:eG (k h) (T.map (iY k v))=S (ow h T):=by refine(Nb G).trans ((yK J).trans rfl)
theorem GZ{kf:Z->Q}{v:Z->q->Q}:∀{T:V (Z×q)},(ow h T).bind (λK=>((T.map (iY kf v))[K]?).map (·.2))=(cn h T).map (v h):=by
 intro T;induction T with
 |nil=>
  rfl
 |cons P y f=>
  refine(oL uB).trans (R jD ?_);by_cases D:P.1=h;·refine R (Nb D) ?_;refine R (Nb D) ?_;show S (v P.1 P.2)=S (v h P.2);rw[D]
  ·refine(oL (Nf D)).trans ?_;refine R (Nf D) ?_;refine R f.symm ?_;induction(ow h y) using Ry<;>rfl
theorem lD:∀{T:V (Z×q)},ow h T=N↔cn h T=N:=by
 intro T;induction T with
 |nil=>exact⟨λY=>rfl,λY=>rfl⟩
 |cons P y f=>
  refine R uB (R jD ?_);by_cases D:P.1=h;·refine R (Nb D) ?_;refine R (Nb D) ?_;exact⟨nofun,nofun⟩
  ·refine R (Nf D) ?_;refine R (Nf D) ?_;rw[<-f];induction(ow h y) using Ry<;>simp
theorem G6{k:Z->Q}{v:Z->q->Q}{E:q}:∀{T:V (Z×q)} {K:Z},ow h T=S K->(T.map (iY k v)).modify K (λD=>(D.1,v h E))=(eu h E T).map (iY k v):=by
 intro T;induction T with
 |nil=>intro _ B;exact nX B
 |cons P y f=>
  intro K B;replace B:=uB.symm.trans B;show _=(if P.1=h then(P.1,E) :: y else P :: eu h E y).map _;by_cases D:P.1=h;·rw[Nb D] at B⊢;refine sJ B ?_;exact R D.symm rfl
  ·rw[Nf D] at B⊢;refine kA (ow h y) (λG=>?_) (λi G=>?_);·exact nX (G▸B)
   ·replace B:=G▸B;refine sJ B ?_;refine(V.modify_succ_cons ..).trans ?_;refine R (f G) rfl
theorem G7{k:Z->Q}{v:Z->q->Q}:∀{T:V (Z×q)} {K:Z},ow h T=S K->(T.map (iY k v)).eraseIdx K=(iX h T).map (iY k v):=by
 intro T;induction T with
 |nil=>intro _ B;exact nX B
 |cons P y f=>
  intro K B;replace B:=uB.symm.trans B;show _=(if P.1=h then y else P :: iX h y).map _;by_cases D:P.1=h;·rw[Nb D] at B⊢;exact sJ B rfl
  ·rw[Nf D] at B⊢;refine kA (ow h y) (λG=>?_) (λi G=>?_);·exact nX (G▸B)
   ·replace B:=G▸B;refine sJ B ?_;refine V.eraseIdx_cons_succ.trans ?_;refine R (f G) rfl
theorem gB{k:Z->Q}{v:Z->q->Q}(J:∀I M,eqT (k I) (k M)=S (MX (I=M)))(G:keyOk (k h)=ML){T:V (Z×q)}:cW (T.map (iY k v)) (k h)=S ((cn h T).map (v h)):=by unfold cW;refine R (gb J G) ?_;exact R (GZ (kf:=k)).symm rfl
theorem uC{k:Z->Q}{v:Z->q->Q}{E:q}(J:∀I M,eqT (k I) (k M)=S (MX (I=M)))(G:keyOk (k h)=ML){T:V (Z×q)}(l:T.length<1000):mS (T.map (iY k v)) (k h) (v h E)=S ((eu h E T).map (iY k v)):=by
 unfold mS;refine R (gb J G) ?_;induction D:ow h T using Ry with
 |some K=>exact Nc S (G6 D)
 |none=>refine(Nb (by refine R (Rz ..) ?_;exact Nn l)).trans ?_;exact R (ig (lD.mp D)) (R R8 rfl)
theorem uD{k:Z->Q}{v:Z->q->Q}(J:∀I M,eqT (k I) (k M)=S (MX (I=M)))(G:keyOk (k h)=ML){T:V (Z×q)}(o:(cn h T).isSome=ML):uM (T.map (iY k v)) (k h)=S ((iX h T).map (iY k v)):=by
 unfold uM;refine R (gb J G) ?_;induction D:ow h T using Ry with
 |some K=>exact Nc S (G7 D)
 |none=>replace o:=(lD.mp D)▸o;cases o
theorem sU{I M:Z}:(([97+I]:V Z)==[97+M])=MX (I=M):=by
 by_cases D:I=M;·subst D;simp
 ·refine R (NH D) ?_;simp[D]
theorem kK(I M:Z):eqT (kW I) (kW M)=S (MX (I=M)):=by show S (ML&&((([97+I]:V Z)==[97+M])&&ML))=_;refine R sU ?_;refine R (MP.and_true ..) rfl
theorem D8(I M:Z):eqT (.int I) (.int M)=S (MX (I=M)):=by
 show S (MX ((I:MN)=(M:MN)))=_;by_cases D:I=M;·subst D;simp
 ·refine R (NH D) ?_;refine R (NH (mt U2.mp D)) rfl
noncomputable abbrev ent:Z×MN->Q×Q:=iY kW eN
noncomputable abbrev pZ:=MN×MP×Z
noncomputable def J1(_:Z)(E:pZ):Q:=.tup [.int E.1,.bool E.2.1,.int E.2.2]
noncomputable def kI(q:Z):Q:=.int q
noncomputable abbrev lE:Z×pZ->Q×Q:=iY kI J1
noncomputable def bv(M:Bd):Q:=match M.k with
 |.row=>.obj .Row [.int M.num,.aE M.a,.bool M.g,.int M.lv]
 |.text=>.obj .Text [.int M.num,.eO M.a,.bool M.g,.int M.lv]
 |.dict=>.aA M.a
noncomputable def kS:Kq->Q|.row=>.str 39|.dict=>.str 8|.text=>.str 36
noncomputable def cR(H:Kq)(C:Ct):Q:=match H with
 |.dict=>.lst (C.en.map λP=>.tup [wd P.1,.int P.2])
 |_=>.lst (C.cw.map .int)
noncomputable def dy(M:Bd)(C:Ct):V (Q×Q):=[(.str 14,bv M),(.str 9,kS M.k),(.str 59,.bool M.g),(.str 26,.int M.lv),(.str 60,cR M.k C),(.str 16,.int C.acc)]
noncomputable def ft(M:Bd)(C:Ct)(D:Z):V Q:=[.int M.num,.int C.most,.bool M.g,.int M.lv,.int C.acc,.ab D]
noncomputable def MB(b:AH)(y:Z->Z)(M:Bd)(C:Ct):Prop:=match M.k with
 |.row=>b.L[M.a]? = S (C.cw.map tI)
 |.text=>b.B[M.a]? = S C.cw
 |.dict=>b.I[M.a]? = S (.Dict,ft M C (y M.num))/\b.D[y M.num]? = S (C.en.map ent)
structure Sv where
 num:Z
 many:Z
 used:MN
 kb:V Bd
 kc:Z->Ct
noncomputable def eC(t:Sv):Q:=.obj .jN [.int t.num,.int t.many,.int t.used,.none]
noncomputable def jF(t:Sv):Q:=.tup [.int t.num,.lst (t.kb.map λM=>.tup [cR M.k (t.kc M.num),.int (t.kc M.num).acc])]
structure MG where
 g:MP
 ks:Z
 fr:Q
 u:MN
 ug:MN
 lb:Z
 ls:Z
noncomputable def iZ:Q:=.obj .Cy [.int 500,.int 20,.int 250,.int 15,.int 31,.int 65535,.int 65535,.int 65535,.int 127,.int 1500,.int 11,.int 15,.int 600,.int 16777216]
noncomputable def cm(a:MG):V Q:=[iZ,.bool a.g,.aE a.ks,.aE 1,.ab 0,a.fr,.int a.u,.int a.ug,.int a.lb,.int a.ls]
theorem I6(B:e[n]? = S (S k)):aO f (.var n) e a=.ok (k,a):=by refine iN.trans (R B rfl)
theorem J2(B:aO f v e a=.ok (k,i))(G:aG f i k n=.ok (t,p)):aO f (.attr v n) e a=.ok (t,p):=by exact hV.trans ((bL B).trans G)
theorem J3{E:AH}{A:LE}{l:cz}{b:V Q}{c:Key}(B:aO f A e a=.ok (k,i))(J:keyOf k=S c)(G:bp f l e i=.ok (b,p))(T:f c b p=.ok (t,E)):aO f (.call A l) e a=.ok (t,E):=by refine oH.trans ?_;refine(bL B).trans ?_;show(match keyOf k with|some H=>_|none=>_)=_;exact R J ((bL G).trans T)
theorem xB{l:cz}{b:V Q}{n:BI}(B:bp f l e a=.ok (b,i))(G:bA i n b=S (k,p)):aO f (.bq n l) e a=.ok (k,p):=by refine i8.trans ?_;refine(bL B).trans ?_;show Res.of (bA i n b)=_;exact R G rfl
theorem Md{E:AH}{l:cz}{b:V Q}(B:aO f v e a=.ok (k,i))(P:aK i k s=S (.own n))(G:bp f l e i=.ok (b,p))(T:f (.fn n) (k :: b) p=.ok (t,E)):aO f (.aU v s l) e a=.ok (t,E):=by refine kZ.trans ?_;refine(bL B).trans ?_;show(match aK i k s with|some (.own A)=>_|some .bI=>_|none=>_)=_;exact R P ((bL G).trans T)
theorem Lp{H1:AH}{E:AH}{D:LE}{l:cz}{v:Q}{k:V Q}(B:aO f D e a=.ok (v,H1))(P:aK H1 v s=S .bI)(G:bp f l e H1=.ok (k,p))(T:gH p v s k=S (t,E)):aO f (.aU D s l) e a=.ok (t,E):=by refine kZ.trans ?_;refine(bL B).trans ?_;show(match aK H1 v s with|some (.own A)=>_|some .bI=>_|none=>_)=_;refine R P ?_;refine(bL G).trans ?_;show Res.of (gH p v s k)=_;exact R T rfl
theorem I7{K:LE}(B:aO f v e a=.ok (k,i))(G:aO f K e i=.ok (t,p))(T:aR p k t=S w):aO f (.sub v K) e a=.ok (w,p):=by refine wm.trans ?_;refine(bL B).trans ?_;refine(bL G).trans ?_;show(match aR p k t with|some k=>_|none=>_)=_;refine R T rfl
theorem Lq{y:cz}{k:V Q}(B:bp f y e a=.ok (k,i)):aO f (.tup y) e a=.ok (.tup k,i):=by exact lJ.trans ((bL B).trans rfl)
theorem Lr{y:cz}{k:V Q}(B:bp f y e a=.ok (k,i)):aO f (.lst y) e a=.ok (.lst k,i):=by exact rE.trans ((bL B).trans rfl)
theorem Ls{I:LE}{M:LE}{z:wi}(B:aO f I e a=.ok (k,i))(G:aO f M e i=.ok (t,p))(T:bY z k t=S w):aO f (.bin z I M) e a=.ok (w,p):=by refine wt.trans ?_;refine(bL B).trans ?_;refine(bL G).trans ?_;show(match bY z k t with|some k=>_|none=>_)=_;refine R T rfl
theorem Lu{I:LE}{M:LE}{z:zH}(B:aO f I e a=.ok (k,i))(G:aO f M e i=.ok (t,p))(T:cq p z k t=S r):aO f (.cmp z I M) e a=.ok (.bool r,p):=by refine rF.trans ?_;refine(bL B).trans ?_;refine(bL G).trans ?_;show(match cq p z k t with|some k=>_|none=>_)=_;refine R T rfl
noncomputable def D9(e:CF)(n:MP)(M:LE)(T:Loc)(b:AH):Res (Q×AH):=bif n then aO e M T b else .ok (.bool MT,b)
noncomputable def I8(e:CF)(n:MP)(M:LE)(T:Loc)(b:AH):Res (Q×AH):=bif n then .ok (.bool ML,b) else aO e M T b
noncomputable def D'(e:CF)(n:MP)(I M:LE)(T:Loc)(b:AH):Res (Q×AH):=bif n then aO e I T b else aO e M T b
theorem Lv{I:LE}{M:LE}{H:Res (Q×AH)}(B:aO f I e a=.ok (.bool r,i))(G:D9 f r M e i=H):aO f (.and I M) e a=H:=by refine rG.trans ?_;refine(bL B).trans ?_;induction r using RE<;>exact G
theorem Me{I:LE}{M:LE}{H:Res (Q×AH)}(B:aO f I e a=.ok (.bool r,i))(G:I8 f r M e i=H):aO f (.or I M) e a=H:=by refine wu.trans ?_;refine(bL B).trans ?_;induction r using RE<;>exact G
theorem aT{M:LE}{H:Res (Q×AH)}(B:r=ML)(G:aO f M e a=H):D9 f r M e a=H:=by subst B;exact G
theorem aF{M:LE}(B:r=MT):D9 f r M e a=.ok (.bool MT,a):=by subst B;rfl
theorem oT{M:LE}(B:r=ML):I8 f r M e a=.ok (.bool ML,a):=by subst B;rfl
theorem oF{M:LE}{H:Res (Q×AH)}(B:r=MT)(G:aO f M e a=H):I8 f r M e a=H:=by subst B;exact G
theorem Lw{C:LE}{I:LE}{M:LE}{H:Res (Q×AH)}(B:aO f C e a=.ok (.bool r,i))(G:D' f r I M e i=H):aO f (.ite C I M) e a=H:=by refine rI.trans ?_;refine(bL B).trans ?_;induction r using RE<;>exact G
theorem iT{I:LE}{M:LE}{H:Res (Q×AH)}(B:r=ML)(G:aO f I e a=H):D' f r I M e a=H:=by subst B;exact G
theorem iF{I:LE}{M:LE}{H:Res (Q×AH)}(B:r=MT)(G:aO f M e a=H):D' f r I M e a=H:=by subst B;exact G
theorem nT(B:r=MT):(!r)=ML:=by subst B;rfl
theorem Mf(B:r=ML):(!r)=MT:=by subst B;rfl
theorem Lx:aO f .emp e a=.ok (.aE a.L.length,{a with L:=a.L++[[]]}):=rfl
theorem Ly{E:AH}{o d:LO}{P L:O Q}{U:AH}(B:aO f v e a=.ok (k,i))(G:zx f o e i=.ok (P,p))(T:zx f d e p=.ok (L,E))(X:dP E k P L=S (t,U)):aO f (.qh v o d) e a=.ok (t,U):=by refine wo.trans ?_;refine(bL B).trans ?_;refine(bL G).trans ?_;refine(bL T).trans ?_;show Res.of (dP E k P L)=_;exact R X rfl
theorem Mg:zx f .no e a=.ok (N,a):=rfl
theorem Mh(B:aO f v e a=.ok (k,i)):zx f (.so v) e a=.ok (S k,i):=by exact BP.trans ((bL B).trans rfl)
theorem Lz:aO f .kM e a=.ok (.none,a):=rfl
theorem LA:aO f (.qg r) e a=.ok (.bool r,a):=rfl
theorem LB{K:MN}:aO f (.int K) e a=.ok (.int K,a):=rfl
theorem I9:aO f (.str n) e a=.ok (.str n,a):=rfl
theorem LC{M:V Z}:aO f (.bw M) e a=.ok (.bw M,a):=rfl
theorem Mi:aO f (.gf n) e a=.ok (.fn n,a):=rfl
theorem Mj{M:dG}:aO f (.gc M) e a=.ok (.cls M,a):=rfl
theorem Mk{K:MN}:aO f (.gi n K) e a=.ok (.int K,a):=rfl
theorem LD{I:LE}(B:aO f I e a=.ok (.bool r,i)):aO f (.not I) e a=.ok (.bool (!r),i):=by exact rH.trans ((bL B).trans rfl)
theorem LF{I:LE}{K:MN}(B:aO f I e a=.ok (.int K,i)):aO f (.neg I) e a=.ok (.int (-K),i):=by exact wx.trans ((bL B).trans rfl)
theorem J5{E:AH}{K:LE}{w:cz}{b:V Q}{g:V Z}(B:bp f w e a=.ok (b,i))(G:aO f K e i=.ok (k,p))(T:gT g b k p=.ok (t,E)):aO f (.pick g w K) e a=.ok (t,E):=by refine oJ.trans ?_;refine(bL B).trans ?_;show(aO f K e i).bind _=_;exact(bL G).trans T
theorem I'{w:cz}{us:V Q}{g:V Z}(B:bp f w e a=.ok (us,i))(J:g.length=us.length):aO f (.tm g w) e a=.ok (.ab i.D.length,{i with D:=i.D++[(g.map Q.str).zip us]}):=by exact wq.trans ((bL B).trans (Nb J))
theorem G8:bp f .nil e a=.ok ([],a):=rfl
theorem Ci{H1:AH}{D:LE}{y:cz}{v:Q}{k:V Q}(B:aO f D e a=.ok (v,H1))(G:bp f y e H1=.ok (k,p)):bp f (.cons D y) e a=.ok (v :: k,p):=by refine fP.trans ?_;refine(bL B).trans ?_;show(bp f y e H1).bind _=_;exact(bL G).trans rfl
theorem LG(B:aO f v e a=.ok (k,i)):cN f (.asg n v) e a=.ok (.next,e.set n (S k),i):=by exact oK.trans ((bL B).trans rfl)
theorem J6{E:AH}{M:LE}(B:aO f M e a=.ok (k,i))(G:aO f v e i=.ok (t,p))(T:dH p t n k=S E):cN f (.eM v n M) e a=.ok (.next,e,E):=by refine tu.trans ?_;refine(bL B).trans ?_;refine(bL G).trans ?_;show(match dH p t n k with|some r=>_|none=>_)=_;refine R T rfl
theorem J7{E:AH}{K:LE}{M:LE}{U:AH}(B:aO f M e a=.ok (k,i))(G:aO f v e i=.ok (t,p))(X:aO f K e p=.ok (w,E))(T:dm E t w k=S U):cN f (.ek v K M) e a=.ok (.next,e,U):=by refine tw.trans ?_;refine(bL B).trans ?_;refine(bL G).trans ?_;refine(bL X).trans ?_;show(match dm E t w k with|some r=>_|none=>_)=_;refine R T rfl
theorem Ja(B:aO f v e a=.ok (k,i)):cN f (.exp v) e a=.ok (.next,e,i):=by exact rJ.trans ((bL B).trans rfl)
theorem LH(B:aO f v e a=.ok (k,i)):cN f (.ret v) e a=.ok (.ret k,e,i):=by exact wA.trans ((bL B).trans rfl)
theorem J8(B:aO f v e a=.ok (k,i)):cN f (.eU v) e a=.exc k i:=by exact tE.trans ((bL B).trans rfl)
theorem LI{b:Loc}{k:V Q}{g:V Z}(B:aO f v e a=.ok (.tup k,i))(G:de e g k=S b):cN f (.qo g v) e a=.ok (.next,b,i):=by refine oM.trans ?_;refine(bL B).trans ?_;show(match de e g k with|some b=>_|none=>_)=_;refine R G rfl
theorem J9{v:Loc}{y:cz}{k:V Q}{g:V Z}(B:bp f y e a=.ok (k,i))(G:de e g k=S v):cN f (.gj g y) e a=.ok (.next,v,i):=by refine tA.trans ?_;refine(bL B).trans ?_;show(match de e g k with|some v=>_|none=>_)=_;refine R G rfl
noncomputable def Jb(e:CF)(n:MP)(P L:dR)(T:Loc)(b:AH):Res (Fl×Loc×AH):=bif n then aW e P T b else aW e L T b
noncomputable def Be(e:CF)(P:dR)(r:Res (Fl×Loc×AH)):Res (Fl×Loc×AH):=r.bind λL=>match L.1 with
  |.next=>aW e P L.2.1 L.2.2
  |.ret E=>.ok (.ret E,L.2.1,L.2.2)
theorem HG{C:LE}{t:MP}{P:dR}{L:dR}(B:aO f C e a=.ok (.bool t,i))(G:Jb f t P L e i=x):cN f (.ifs C P L) e a=x:=by refine rK.trans ?_;refine(bL B).trans ?_;induction t using RE<;>exact G
theorem fT{P:dR}{L:dR}(B:r=ML)(G:aW f P e a=x):Jb f r P L e a=x:=by subst B;exact G
theorem fF{P:dR}{L:dR}(B:r=MT)(G:aW f L e a=x):Jb f r P L e a=x:=by subst B;exact G
theorem LJ:aW f .nil e a=.ok (.next,e,a):=rfl
theorem Bf{P:dR}{t:LS}{r:Res (Fl×Loc×AH)}(B:cN f t e a=r)(G:Be f P r=x):aW f (.cons t P) e a=x:=by exact fc.trans ((bL B).trans G)
theorem Ka{P:dR}(B:aW f P e a=x):Be f P (.ok (.next,e,a))=x:=B
theorem LK{P:dR}:Be f P (.ok (.ret k,e,a))=.ok (.ret k,e,a):=rfl
theorem LL{P:dR}:Be f P (.exc k a)=.exc k a:=rfl
theorem LM{P C:Prop}(B:P->C)(H:(P->C)->C):C:=H B
theorem Cj{i:Type}{j:V i}{K:Z}(B:j.drop K=[]):j[K]? = N:=Sk (V.drop_eq_nil_iff.mp B)
theorem Ck{i:Type}{j y:V i}{r:i}{K:Z}(B:j.drop K=r :: y):j[K]? = S r:=V.head?_drop.symm.trans (Nc V.head? B)
theorem Cm{i:Type}{j y:V i}{r:i}{K:Z}(B:j.drop K=r :: y):j.drop (K+1)=y:=V.tail_drop.symm.trans (Nc V.tail B)
theorem Ml{I M:MN}(B:MX (I=M)=r):cq a .eq (.int I) (.int M)=S r:=Nc S B
theorem Mm{I M:MN}(B:MX (I<M)=r):cq a .lt (.int I) (.int M)=S r:=Nc S B
theorem Mn{I M:MN}(B:MX (I<=M)=r):cq a .le (.int I) (.int M)=S r:=Nc S B
theorem Mo{I M:MN}(B:MX (M<I)=r):cq a .gt (.int I) (.int M)=S r:=Nc S B
theorem Mp{I M:MN}(B:MX (M<=I)=r):cq a .ge (.int I) (.int M)=S r:=Nc S B
theorem Mq{i:Type}{I M C:i}(B:I=M)(G:M=C):I=C:=B.trans G
theorem Mr(B:isNone k=S r):cq a .ku k .none=S (!r):=Nc (UE (!·)) B
theorem Ms(B:isNone k=S r):cq a .is k .none=S r:=B
noncomputable def HH(g:Z->Q->Loc->AH->Res (Fl×Loc×AH))(t:Src)(q K:Z)(a:Res (Fl×Loc×AH)):Res (Fl×Loc×AH):=a.bind λy=>match y.1 with
 |.next=>bZ g t q (K+1) y.2.1 y.2.2
 |.ret r=>.ok (.ret r,y.2.1,y.2.2)
theorem Ea{K:Z}{t:Src}{g:Z->Q->Loc->AH->Res (Fl×Loc×AH)}(B:t.at K a=S N):bZ g t (o+1) K e a=.ok (.next,e,a):=by show(match t.at K a with|none=>_|some N=>_|some (S E)=>_)=_;refine R B rfl
theorem wg{X:Res (Fl×Loc×AH)}{K:Z}{t:Src}{g:Z->Q->Loc->AH->Res (Fl×Loc×AH)}(B:t.at K a=S (S k))(G:g K k e a=X)(T:HH g t o K X=x):bZ g t (o+1) K e a=x:=by show(match t.at K a with|none=>_|some N=>_|some (S k)=>_)=_;exact R B ((bL G).trans T)
theorem yL{K:Z}{t:Src}{g:Z->Q->Loc->AH->Res (Fl×Loc×AH)}(B:bZ g t o (K+1) e a=x):HH g t o K (.ok (.next,e,a))=x:=B
theorem LN{K:Z}{t:Src}{g:Z->Q->Loc->AH->Res (Fl×Loc×AH)}:HH g t o K (.ok (.ret k,e,a))=.ok (.ret k,e,a):=rfl
theorem Mt{K:Z}{t:Src}{g:Z->Q->Loc->AH->Res (Fl×Loc×AH)}:HH g t o K (.exc k a)=.exc k a:=rfl
theorem LP{C:LE}{A:Loc->AH->Res (Fl×Loc×AH)}(B:aO f C e a=.ok (.bool MT,i)):gJ (λe a=>(aO f C e a).bind λy=>match truthy y.1 with|some n=>.ok (n,y.2)|none=>.bad) A (o+1) e a=.ok (.next,e,i):=Ip.trans (R B rfl)
theorem LQ{J:Loc}{C:LE}{A:Loc->AH->Res (Fl×Loc×AH)}(B:aO f C e a=.ok (.bool ML,i))(G:A e i=.ok (.next,J,p))(T:gJ (λe a=>(aO f C e a).bind λy=>match truthy y.1 with|some n=>.ok (n,y.2)|none=>.bad) A o J p=x):gJ (λe a=>(aO f C e a).bind λy=>match truthy y.1 with|some n=>.ok (n,y.2)|none=>.bad) A (o+1) e a=x:=Ip.trans (R B ((bL G).trans T))
noncomputable def dw(e:CF)(r:Z)(M:dR):Z->Q->Loc->AH->Res (Fl×Loc×AH):=λ_ E T b=>aW e M (T.set r (S E)) b
noncomputable def cM(e:CF)(i r:Z)(M:dR):Z->Q->Loc->AH->Res (Fl×Loc×AH):=λH E T b=>aW e M ((T.set i (S (.int H))).set r (S E)) b
theorem Mu{b:Res (Fl×Loc×AH)}{K:Z}{M:dR}{r:Z}(B:aW f M (e.set r (S k)) a=b):dw f r M K k e a=b:=B
theorem Mv{b:Res (Fl×Loc×AH)}{K:Z}{i:Z}{M:dR}{r:Z}(B:aW f M ((e.set i (S (.int K))).set r (S k)) a=b):cM f i r M K k e a=b:=B
theorem LU{M:dR}{t:Src}{r:Z}(B:aO f v e a=.ok (k,i))(G:srcOf i k=S (t,o))(T:bZ (dw f r M) t (o+1) 0 e i=x):cN f (.di r v M) e a=x:=by refine tC.trans ?_;refine(bL B).trans ?_;show(match srcOf i k with|none=>_|some t=>_)=_;exact R G T
theorem Kb{b:Z}{M:dR}{t:Src}{r:Z}(B:aO f v e a=.ok (k,i))(G:srcOf i k=S (t,o))(T:bZ (cM f b r M) t (o+1) 0 e i=x):cN f (.iM b r v M) e a=x:=by refine tD.trans ?_;refine(bL B).trans ?_;show(match srcOf i k with|none=>_|some t=>_)=_;exact R G T
theorem LV{K:Z}{t:Src}{A:Q->AH->Res (O Q×AH)}(B:t.at K a=S N):bO A t (o+1) K a=.ok ([],a):=by show(match t.at K a with|none=>_|some N=>_|some (S E)=>_)=_;refine R B rfl
noncomputable def oC(z:O Q)(k:V Q):V Q:=z.elim k (· :: k)
theorem LX{b:V Q}{K:Z}{t:Src}{A:Q->AH->Res (O Q×AH)}{z:O Q}(B:t.at K a=S (S k))(c:A k a=.ok (z,i))(G:bO A t o (K+1) i=.ok (b,p)):bO A t (o+1) K a=.ok (oC z b,p):=by show(match t.at K a with|none=>_|some N=>_|some (S k)=>_)=_;refine R B ?_;show(A k a).bind _=_;refine(bL c).trans ?_;show(bO A t o (K+1) i).bind _=_;refine(bL G).trans ?_;induction z using Ry<;>rfl
theorem Kc{b:V Q}{t:Src}{c:LE}{n:LE}{q:LO}{m:V Z}(B:aO f n e a=.ok (k,i))(G:srcOf i k=S (t,o))(T:bO (br f c m q e) t (o+1) 0 i=.ok (b,p)):aO f (.comp c m n q) e a=.ok (.lst b,p):=by refine tr.trans ?_;refine(bL B).trans ?_;show(match srcOf i k with|none=>_|some t=>_)=_;exact R G ((bL T).trans rfl)
noncomputable def Jc(e:CF)(a:LE)(n:MP)(T:Loc)(b:AH):Res (O Q×AH):=bif n then(aO e a T b).bind λr=>.ok (S r.1,r.2) else .ok (N,b)
theorem Mw{b:LE}(B:r=ML)(G:aO f b e a=.ok (t,i)):Jc f b r e a=.ok (S t,i):=by subst B;show(aO f b e a).bind _=_;exact(bL G).trans rfl
theorem Mx{b:LE}(B:r=MT):Jc f b r e a=.ok (N,a):=by subst B;rfl
theorem My{J:Loc}{c:LE}{q:LO}{m:V Z}{z:O Q}(B:fy e m k=S J)(b:zy f q J a=.ok (r,i))(G:Jc f c r J i=.ok (z,p)):br f c m q e k a=.ok (z,p):=by
 show(match fy e m k with|none=>_|some v=>_)=_;refine R B ?_;show((zy f q J a).bind _).tq=_;refine R b ?_;clear B b;induction r using RE;·exact Nc Res.tq G
 ·exact Nc Res.tq G
theorem Mz:zy f .no e a=.ok (ML,a):=rfl
theorem MA(B:aO f v e a=.ok (.bool r,i)):zy f (.so v) e a=.ok (r,i):=by exact Fz.trans ((bL B).trans rfl)
theorem Ke{r:Z}(B:aO f v e a=.ok (k,i))(G:kz i k=.ok (t,p)):aO f (.vals v r) e a=.ok (t,p):=by exact k9.trans ((bL B).trans G)
theorem Jd{E:AH}{l:cz}{b:V Q}{c:Key}{A:LE}(B:aO f A e a=.ok (k,i))(J:keyOf k=S c)(G:bp f l e i=.ok (b,p))(T:f c b p=.exc t E):aO f (.call A l) e a=.exc t E:=by refine oH.trans ?_;refine(bL B).trans ?_;show(match keyOf k with|some H=>_|none=>_)=_;exact R J ((bL G).trans T)
theorem LY{E:AH}{l:cz}{b:V Q}(B:aO f v e a=.ok (k,i))(P:aK i k s=S (.own n))(G:bp f l e i=.ok (b,p))(T:f (.fn n) (k :: b) p=.exc t E):aO f (.aU v s l) e a=.exc t E:=by refine kZ.trans ?_;refine(bL B).trans ?_;show(match aK i k s with|some (.own A)=>_|some .bI=>_|none=>_)=_;exact R P ((bL G).trans T)
theorem Kf{k:V Q}{b q w:cz}(B:bp f w e a=.ok (k,i))(G:uN f b q k e i=x):cN f (.kN b q w) e a=x:=by exact tB.trans ((bL B).trans G)
theorem LZ:uN f .nil .nil [] e a=.ok (.next,e,a):=rfl
theorem Kg{E:AH}{c:V Q}{z K:LE}{b q:cz}(B:aO f z e a=.ok (k,i))(G:aO f K e i=.ok (t,p))(T:dm p k t w=S E)(X:uN f b q c e E=x):uN f (.cons z b) (.cons K q) (w :: c) e a=x:=by refine(bL B).trans ?_;refine(bL G).trans ?_;show(match dm p k t w with|some r=>_|none=>_)=_;exact R T X
theorem Kh(B:aO f v e a=.exc t i):cN f (.exp v) e a=.exc t i:=by exact rJ.trans ((bL B).trans rfl)
theorem Ki(B:aO f v e a=.exc t i):cN f (.asg n v) e a=.exc t i:=by exact oK.trans ((bL B).trans rfl)
theorem L0{C:LE}{r:Z}(B:aO f v e a=.ok (k,i)):cN f (.kO v r C) e a=.ok (.next,e,i):=by refine oN.trans (R B rfl)
theorem Kj{C:LE}{r:Z}(B:aO f v e a=.exc t i)(G:aO (λ_ _ _=>Res.bad) C (e.set r (S (.exc t))) i=.ok (k,p)):cN f (.kO v r C) e a=.ok (.next,(e.set r (S (.exc t))).set r N,p):=by refine oN.trans ?_;refine R B ?_;show(Res.tq (aO _ C _ i)).bind _=_;exact R G rfl
noncomputable def Je(e:CF)(h:Key->NF)(P:iA)(r:Res (Fl×Loc×AH)):Res (Fl×Loc×AH):=r.bind λL=>match L.1 with
 |.next=>cH e h P L.2.1 L.2.2
 |.ret E=>.ok (.ret E,L.2.1,L.2.2)
theorem MD{h:Key->NF}:cH f h .nil e a=.ok (.next,e,a):=rfl
theorem rC{h:Key->NF}{X:Res (Fl×Loc×AH)}{t:DW}{P:iA}(B:fm f h t e a=X)(G:Je f h P X=x):cH f h (.cons t P) e a=x:=(bL B).trans G
theorem Kk{h:Key->NF}{P:iA}(B:cH f h P e a=x):Je f h P (.ok (.next,e,a))=x:=B
theorem L1{h:Key->NF}{P:iA}:Je f h P (.ok (.ret k,e,a))=.ok (.ret k,e,a):=rfl
theorem Fi{h:Key->NF}{T:LS}(B:cN f T e a=x):fm f h (.a T) e a=x:=B
noncomputable def Eb(e:CF)(h:Key->NF)(n:MP)(P L:iA)(T:Loc)(b:AH):Res (Fl×Loc×AH):=bif n then cH e h P T b else cH e h L T b
theorem G'{h:Key->NF}{C:LE}{P:iA}{L:iA}(B:aO f C e a=.ok (.bool r,i))(G:Eb f h r P L e i=x):fm f h (.ifs C P L) e a=x:=by show((aO f C e a).bind _).bind _=_;refine R B ?_;induction r using RE<;>exact G
theorem L2{h:Key->NF}{P:iA}{L:iA}(B:r=ML)(G:cH f h P e a=x):Eb f h r P L e a=x:=by subst B;exact G
theorem L3{h:Key->NF}{P:iA}{L:iA}(B:r=MT)(G:cH f h L e a=x):Eb f h r P L e a=x:=by subst B;exact G
theorem ME{b:Key->NF}{h:NE}(B:kX f b h e a=.ok (k,i)):fm f b (.exp h) e a=.ok (.next,e,i):=by show(kX f b h e a).bind _=_;exact(bL B).trans rfl
theorem MF{b:Key->NF}{h:NE}(B:kX f b h e a=.ok (k,i)):fm f b (.ret h) e a=.ok (.ret k,e,i):=by show(kX f b h e a).bind _=_;exact(bL B).trans rfl
theorem MH{h:Key->NF}{v:Loc}{E:AH}{I:LE}{M:LE}{s:Q}{U:Q}{b:NE}{k:V Z}(B:aO f I e a=.ok (w,i))(G:aO f M e i=.ok (s,p))(T:kX f h b e p=.ok (U,E))(X:de e k [w,s,U]=S v):fm f h (.tup k I M b) e a=.ok (.next,v,E):=by refine(bL B).trans ?_;refine(bL G).trans ?_;refine(bL T).trans ?_;show(match de e k [w,s,U] with|some v=>_|none=>_)=_;refine R X rfl
theorem L4{h:Key->NF}{b:Z}{t:Src}{P:iA}(B:aO f v e a=.ok (k,i))(G:srcOf i k=S (t,o))(T:bZ (λ_ k e a=>cH f h P (e.set b (S k)) a) t (o+1) 0 e i=x):fm f h (.di b v P) e a=x:=by refine(bL B).trans ?_;show(match srcOf i k with|none=>_|some t=>_)=_;exact R G T
theorem MI{h:Key->NF}{l:cz}{c:V Q}{b:Key}(B:bp f l e a=.ok (c,i))(G:h b c i=.ok (k,p)):kX f h (.call b l) e a=.ok (k,p):=by show(bp f l e a).bind _=_;exact(bL B).trans G
theorem MJ{h:Key->NF}{E:AH}{l:cz}{b:V Q}(B:aO f v e a=.ok (k,i))(P:aK i k s=S (.own n))(G:bp f l e i=.ok (b,p))(T:h (.fn n) (k :: b) p=.ok (t,E)):kX f h (.aU v s n l) e a=.ok (t,E):=by refine(bL B).trans ?_;show(match aK i k s with|some (.own A)=>_|_=>_)=_;exact R P ((Nb rfl).trans ((bL G).trans T))
local macro_rules
 | `(tactic| walk_at $s) => do
  let w (x : String) : Lean.MacroM (Lean.TSyntax `tactic) := match x with
   | "=" => `(tactic| with_unfolding_all exact rfl)
   | "as" => `(tactic| assumption)
   | "ua" => `(tactic| with_unfolding_all assumption)
   | "fa" => `(tactic| (focus (apply_assumption only [*]; done)))
   | _ => `(tactic| walk_at $(Lean.Syntax.mkStrLit x))
  let [_, r] := "
fm= as| fa| ua
bt= as| =|nT bt|Mf bt
lf= as|Ml as|Mm as|Mn as|Mo as|Mp as| =|Mr as|Ms as| ua
at= as| fa|aS =| ua
xl=G8|Ci xe xl
xo=Mg|Mh xe
an=aT bt xe|aF bt
or=oF bt xe|oT bt
it=iT bt xe|iF bt xe
xe=I6 va|J2 xe at|I9|LB|Lu xe xe lf|I7 xe xe lf|Md xe fm xl fm|Lp xe lf xl lf|J3 xe va xl fm|xB xl lf|Ls xe xe lf|LD xe|Lv xe an|Me xe or|Lw xe it|Lq xl|Lr xl|Mi|Mj|Mk|Lz|LA|LC|Lx|Ly xe xo xo lf|J5 xl xe lf|I' xl =|LF xe|Kc xe lf cg|Ke xe fm| fm
va= =| as
cg=LV =|LX = cs cg
cs=My = xc ck
xc=Mz|MA xe
ck=Mw bt xe|Mx bt
fo=Ea =|wg = fb fk
fb=Mu zz|Mv zz
fk=LN|Mt|yL fo
xx=LY xe fm xl fm|Jd xe = xl fm
nl=MD|rC n1 nk
nk=L1|Kk nl
n1=Fi xs|G' xe ni|ME ne|MF ne|MH xe xe ne =
ni=L2 bt nl|L3 bt nl
ne=MI xl fm|MJ xe fm xl fm
if=fT bt zz|fF bt zz
xs= as|LG xe|HG xe if|L5 xe zz|Ja xe|LH xe|J6 xe xe lf|J7 xe xe xe lf|J8 xe|LI xe =|J9 xl =|LU xe lf fo|Kb xe lf fo|Kh xx|Ki xx|L0 xe|Kj xx xe|Kf xl uu
uu=LZ|Kg xe xe lf uu
zk=LK|LL|Ka zz
zz=LJ|Bf xs zk
z1= zz| xs| xe| xl| nl| n1| cs
ev=MK zz =|Mq z1 =
".splitOn ("\n" ++ s.getString ++ "=") | Lean.Macro.throwUnsupported
  let t <- (((r.splitOn "\n").headD "").splitOn "|").toArray.mapM λd => do
   let r :: l := d.splitOn " " | Lean.Macro.throwUnsupported
   let t <- l.toArray.mapM w
   if r == "" then return t[0]! else
   if l == [] then `(tactic| exact $(Lean.mkIdent (`Mine.Lake ++ Lean.Name.mkSimple r))) else
   `(tactic| (apply $(Lean.mkIdent (`Mine.Lake ++ Lean.Name.mkSimple r)); ($[$t:tactic];*)))
  `(tactic| with_reducible first $[| $t:tactic]*)
theorem aN{f:da}{l:V Q}(T:Loc)(J:nM n=S f)(w:bindArgs f.aY f.cx f.slots.length l=S T) :
  aC (o+1) (.fn n) l a=(aW (aC o) f.body T a).bind λy=>.ok ((match y.1 with|.ret E=>E|.next=>.none),y.2.2):=by
 show(match nM n with|none=>_|some f=>_)=_
 refine R J ?_
 show(match bindArgs f.aY f.cx f.slots.length l with|none=>_|some f=>_)=_
 refine R w ?_
 try rfl
noncomputable def Ha(r:Res (Fl×Loc×AH)):Res (Q×AH):=r.bind λy=>.ok ((match y.1 with|.ret E=>E|.next=>.none),y.2.2)
theorem MK{P:dR}{r:Res (Fl×Loc×AH)}{R:Res (Q×AH)}(B:aW f P e a=r)(G:Ha r=R):((aW f P e a).bind λy=>.ok ((match y.1 with|.ret E=>E|.next=>.none),y.2.2))=R:=by exact(bL B).trans G
theorem sV{h:Key->NF}{A:da}{M:iA}{l:V Q}{r:Res (Fl×Loc×AH)}{R:Res (Q×AH)}(T:Loc)(w:bindArgs A.aY A.cx A.slots.length l=S T)(B:cH f h M T a=r)(G:Ha r=R):zE A (cH f h M) l a=R:=by show(match bindArgs A.aY A.cx A.slots.length l with|none=>_|some A=>_)=_;refine Mine.Lake.R w ?_;refine(bL B).trans ?_;induction r using Wn<;>exact G
theorem eE(B:n+1<=s):∃q,s=q+1/\n<=q:=(ba (s - 1) ((Z.sub_add_cancel (RH (SR 1 n) B)).symm) (Z.le_sub_one_of_lt B))
structure GM(H:AH)(μ:MG)(svs:V Sv)(J:V Q)(md:V (Z×pZ)):Prop where
 i:H.I[0]? = S (.Mem,cm μ)
 s:H.L[μ.ks]? = S (svs.map eC)
 j:H.L[1]? = S J
 m:H.D[0]? = S (md.map lE)
 n:μ.ks≠1
 sl:svs.length<16
 jl:J.length<99
 ml:md.length<99
variable{d:MG}{g:V Sv}{j:V (Z×pZ)}
theorem GM.at(B:GM a d g m j){I:Z}(D:((gG .Mem I).bind λK=>(cm d)[K]?)=S k):aG f a (.aA 0) I=.ok (k,a):=by
 have:dz a (.aA 0) I=S k:=by exact(oL B.i).trans D
 unfold aG;refine R this rfl
theorem aS{I:Z}(B:dz a w I=S k):aG f a w I=.ok (k,a):=by unfold aG;refine R B rfl
theorem GM.rc(B:GM a d g m j){I:Z}{y:Recv}(D:(if I=26 then N else(oG .Mem I).map Recv.own)=S y):aK a (.aA 0) I=S y:=by show(match a.I[0]? with|some (C,_)=>_|none=>_)=_;exact R B.i D
theorem jG{w:V Q}(B:a.L[n]? = S w)(l:w.length<1000):bA a .len [.aE n]=S (.int w.length,a):=(oL B).trans (Nb (Nn l))
theorem Ec(C:GM a d g m j)(v:1<=s):aC s (.fn 20) [.aA 0] a=.ok (.int g.length,a):=by refine aM (eE v) λb bE Y=>R bE ?_;have A:∀e,aG e a (.aA 0) 25=.ok (.aE d.ks,a):=λe=>C.at rfl;have h:=jG C.s (by refine R (Rz ..) ?_;have:=C.sl;exact n1 this rfl);rw[Rz] at h;refine(aN (f:=HR) [S (.aA 0)] rfl rfl).trans ?_;delta HR;walk_at "ev"
theorem p0(C:GM a d g m j)(v:1<=s):aG (aC s) a (.aA 0) 26=.ok (.int g.length,a):=by
 have:dz a (.aA 0) 26=N:=by exact(oL C.i).trans rfl
 unfold aG;refine R this ?_;show(match a.I[0]? with|some (.Mem,_)=>_|_=>_)=_;refine R C.i ?_;exact R (Ec C v) rfl
theorem mE{c:V Q}{m:Z}(C:GM a d g c j)(v:2<=m){o:MP}{M:Z}(p:dz a w 15=S (.bool o))(G:dz a w 26=S (.int M)):aC m (.fn 28) [.aA 0,w] a=.ok (.bool (!o&&MX (M<g.length)),a):=by
 refine aM (eE v) λi cj n=>R cj ?_;have A:=p0 C n;have h:∀e,aG e a w 15=.ok (.bool o,a):=λe=>aS p;have L:∀e,aG e a w 26=.ok (.int M,a):=λe=>aS G;have b:cq a .lt (.int M) (.int g.length)=S (MX (M<g.length)):=by show S (MX ((M:MN)<(g.length:MN)))=_;simp
 refine(aN (f:=HX) [S (.aA 0),S w] rfl rfl).trans ?_;delta HX;induction o using RE<;>walk_at "ev"
theorem ij{C:dG}{l:V Q}(T:Loc)(j:¬(C=.bQ\/C=.Text))(w:bindArgs (bT C).aY (bT C).cx (bT C).slots.length (.none :: l)=S T) :
  aC (o+1) (.cls C) l a=(bp (aC o) (bT C).vals (T.set 0 N) a).bind λy=>if fO C then .ok (.obj C y.1,y.2) else .ok (.aA y.2.I.length,{y.2 with I:=y.2.I++[(C,y.1)]}):=by refine(Nf j).trans (R w rfl)
theorem yM{H:AH}{x:Q}{y:Q}(v:1<=s):aC s (.cls .Thing) [x,y] H=.ok (.obj .Thing [x,y,.bool MT,.int 3],H):=by refine aM (eE v) λa bE Y=>R bE ?_;refine(ij [S .none,S x,S y,S (.bool MT),S (.int 3)] (by decide) rfl).trans ?_;rfl
theorem Ed{H:AH}{x:Q}{y:Q}{z:Q}(v:1<=s):aC s (.cls .Thing) [x,y,z] H=.ok (.obj .Thing [x,y,z,.int 3],H):=by refine aM (eE v) λa cj Y=>R cj ?_;refine(ij [S .none,S x,S y,S z,S (.int 3)] (by decide) rfl).trans ?_;rfl
theorem Ef{b:Q}{U:Q}(v:1<=s):aC s (.cls .Thing) [w,b,U,t] a=.ok (.obj .Thing [w,b,U,t],a):=by refine aM (eE v) λc du Y=>R du ?_;refine(ij [S .none,S w,S b,S U,S t] (by decide) rfl).trans ?_;rfl
theorem Hb{b:Q}{U:Q}(v:1<=s):aC s (.cls .Span) [w,b,U] a=.ok (.obj .Span [w,b,U],a):=by refine aM (eE v) λc dV Y=>R dV ?_;refine(ij [S .none,S w,S b,S U] (by decide) rfl).trans ?_;rfl
theorem yN{K:MN}(v:2<=s):aC s (.fn 3) [.int K] a=.ok (tI K,a):=by refine aM (eE v) λb fB n=>R fB ?_;have I:=yM (H:=a) (x:=.str 1) (y:=.int K) n;refine(aN (f:=f3) [S (.int K)] rfl rfl).trans ?_;delta f3;walk_at "ev"
theorem Hc(v:2<=s):aC s (.fn 4) [wd h] a=.ok (tN h,a):=by refine aM (eE v) λb i7 n=>R i7 ?_;have I:=Ed (H:=a) (x:=.str 2) (y:=wd h) (z:=.bool MT) n;refine(aN (f:=f4) [S (wd h),S (.bool MT)] rfl rfl).trans ?_;delta f4;walk_at "ev"
noncomputable def dB(M:Bd)(C:Ct):Q:=match M.k with
 |.row=>.obj .Thing [.str 7,.obj .Span [bv M,.int 0,.int C.cw.length],.bool MT,.int 3]
 |.text=>.obj .Thing [.str 5,.obj .Span [bv M,.int 0,.int C.cw.length],.bool MT,.int 3]
 |.dict=>.obj .Thing [.str 8,bv M,.bool MT,.int 3]
theorem gN(B:MB a l b c):dz a (bv b) 15=S (.bool b.g)/\dz a (bv b) 26=S (.int b.lv)/\dz a (bv b) 23=S (.int b.num):=by
 unfold MB bv at *;induction D:b.k using Wo<;>rw[D] at B<;>dsimp only at B;·exact fA rfl rfl rfl
 ·have U:∀I,dz a (.aA b.a) I=(gG .Dict I).bind λK=>(ft b c (l b.num))[K]?:=λI=>by
   exact(oL B.1).trans rfl
  refine R (U ..) ?_;refine R (U ..) ?_;exact R (U ..) (fA rfl rfl rfl)
 ·exact fA rfl rfl rfl
theorem yO{H:AH}{x:Q}(v:1<=s){k:Z}(B:dz H x 9=S (.str k)):aC s (.fn 11) [x] H=.ok (.bool (k==7||k==13),H):=by refine aM (eE v) λa jQ Y=>R jQ ?_;have I:∀e,aG e H x 9=.ok (.str k,H):=λe=>aS B;refine(aN (f:=HN) [S x] rfl rfl).trans ?_;delta HN;induction D:k==7 using RE<;>walk_at "ev"
theorem yP(v:2<=s)(B:dz a w 9=S (.str n))(k:(n==8)=MT)(d:(n==5)=MT)(K:(n==7)=MT)(b:(n==13)=MT):aC s (.fn 12) [w] a=.ok (.none,a):=by refine aM (eE v) λg lM c=>?_;subst lM;have I:∀e,aG e a w 9=.ok (.str n,a):=λe=>aS B;have M:=yO c B;rw[K,b] at M;refine(aN (f:=Fo) [S w] rfl rfl).trans ?_;delta Fo;walk_at "ev"
theorem rk{H:AH}{m:Z}{b:Bd}{c:Ct}(v:2<=m):aC m (.fn 12) [dB b c] H=.ok (bv b,H):=by
 refine aM (eE v) λd rM n=>?_;clear v;subst rM;refine(aN (f:=Fo) [S (dB b c)] rfl rfl).trans ?_;delta Fo;have a:=yO (x:=dB b c) (H:=H) n (k:=match b.k with|.row=>7|.text=>5|.dict=>8) (by unfold dB;induction b.k using Wo<;>rfl);have I:∀e,aG e H (dB b c) 9=.ok (.str (match b.k with|.row=>7|.text=>5|.dict=>8),H):=λe=>aS (by unfold dB;induction b.k using Wo<;>rfl);induction D:b.k using Wo with
 |dict=>rw[D] at I a;have h:∀e,aG e H (dB b c) 11=.ok (bv b,H):=λe=>aS (by unfold dB;exact R D rfl);walk_at "ev"
 |row=>rw[D] at I a;have h:∀e,aG e H (dB b c) 11=.ok (.obj .Span [bv b,.int 0,.int c.cw.length],H):=λe=>aS (by unfold dB;exact R D rfl);have L:∀e,aG e H (.obj .Span [bv b,.int 0,.int c.cw.length]) 14=.ok (bv b,H):=λe=>aS rfl;walk_at "ev"
 |text=>rw[D] at I a;have h:∀e,aG e H (dB b c) 11=.ok (.obj .Span [bv b,.int 0,.int c.cw.length],H):=λe=>aS (by unfold dB;exact R D rfl);have L:∀e,aG e H (.obj .Span [bv b,.int 0,.int c.cw.length]) 14=.ok (bv b,H):=λe=>aS rfl;walk_at "ev"
theorem uE:isNone (bv b)=S MT:=by unfold bv;induction b.k using Wo<;>rfl
theorem rm(v:3<=s){k:Z}(B:dz a w 9=S (.str k))(c:(k==8)=MT)(d:(k==5)=MT)(K:(k==7)=MT)(b:(k==13)=MT):aC s (.fn 13) [w] a=.ok (.bool MT,a):=by refine aM (eE v) λe iR n=>?_;subst iR;have I:=yP n B c d K b;have h:isNone .none=S ML:=rfl;refine(aN (f:=Fp) [S w,N] rfl rfl).trans ?_;delta Fp;walk_at "ev"
theorem yQ(v:3<=s)(B:MB a l b c){o:Ct}:aC s (.fn 13) [dB b o] a=.ok (.bool (!b.g),a):=by refine aM (eE v) λd lO n=>?_;clear v;subst lO;have I:=rk (b:=b) (c:=o) (H:=a) n;have h:∀e,aG e a (bv b) 15=.ok (.bool b.g,a):=λe=>aS (gN B).1;have D:=@uE b;refine(aN (f:=Fp) [S (dB b o),N] rfl rfl).trans ?_;delta Fp;walk_at "ev"
set_option genCtorIdx true in
inductive Ad|L(n:Z)|D(n:Z)|I(n:Z)|B(n:Z)
theorem Ad.L.inj{I M:Z}(B:Ad.L I=.L M):I=M:=by cases B;rfl
theorem Ad.D.inj{I M:Z}(B:Ad.D I=.D M):I=M:=by cases B;rfl
theorem Ad.I.inj{I M:Z}(B:Ad.I I=.I M):I=M:=by cases B;rfl
structure Fr(P:Ad->Prop)(H H':AH):Prop where
 L:∀k v,¬P (.L k)->H.L[k]? = S v->H'.L[k]? = S v
 D:∀k v,¬P (.D k)->H.D[k]? = S v->H'.D[k]? = S v
 I:∀k v,¬P (.I k)->H.I[k]? = S v->H'.I[k]? = S v
 B:∀k v,¬P (.B k)->H.B[k]? = S v->H'.B[k]? = S v
noncomputable def wL(b:AH)(r:Z)(E:V Q):AH:={b with L:=b.L.set r E}
noncomputable def wD(b:AH)(r:Z)(E:V (Q×Q)):AH:={b with D:=b.D.set r E}
noncomputable def wI(b:AH)(r:Z)(E:dG×V Q):AH:={b with I:=b.I.set r E}
noncomputable def wB(b:AH)(r:Z)(E:V MN):AH:={b with B:=b.B.set r E}
noncomputable def aL(b:AH)(v:V Q):AH:={b with L:=b.L++[v]}
noncomputable def aD(b:AH)(E:V (Q×Q)):AH:={b with D:=b.D++[E]}
noncomputable def aI(b:AH)(E:dG×V Q):AH:={b with I:=b.I++[E]}
noncomputable def aB(b:AH)(E:V MN):AH:={b with B:=b.B++[E]}
theorem bW{i:Type}{T:V i}{r:Z}{E:i}{c:i}(B:T[r]? = S c):(T.set r E)[r]? = S E:=(Th (RG.mp B).1)
theorem dZ{i:Type}{T:V i}{r:Z}{s:Z}{E:i}{c:i}(q:s≠r)(B:T[s]? = S c):(T.set r E)[s]? = S c:=by refine(R7 (S8 q)).trans ?_;exact B
theorem ec{i:Type}{T:V i}{r:Z}{E:i}{c:i}(B:T[r]? = S c):(T++[E])[r]? = S c:=by refine(Td (RG.mp B).1).trans ?_;exact B
theorem dK{i:Type}{T:V i}{E:i}:(T++[E])[T.length]? = S E:=UR ..
theorem bP{i:Type}{T:V i}{r:Z}{c:i}(B:T[r]? = S c):r<T.length:=(RG.mp B).1
theorem Fr.refl{c:Ad->Prop}:Fr c a a:=⟨λY Y Y B=>B,λY Y Y B=>B,λY Y Y B=>B,λY Y Y B=>B⟩
theorem Fr.trans{c:Ad->Prop}{H':AH}(I:Fr c a H')(M:Fr c H' p):Fr c a p:=⟨λH E q B=>M.L H E q (I.L H E q B),λH E q B=>M.D H E q (I.D H E q B),λH E q B=>M.I H E q (I.I H E q B),λH E q B=>M.B H E q (I.B H E q B)⟩
theorem Fr.mono{c:Ad->Prop}{o:Ad->Prop}{r:AH}(I:Fr c a r)(B:∀U,c U->o U):Fr o a r:=⟨λH E q=>I.L H E λP=>q (B _ P),λH E q=>I.D H E λP=>q (B _ P),λH E q=>I.I H E λP=>q (B _ P),λH E q=>I.B H E λP=>q (B _ P)⟩
theorem Fr.wL{c:Ad->Prop}{r:Z}{E:V Q}(P:c (.L r)):Fr c a (wL a r E):=⟨λH Y q B=>dZ (λD=>q (D▸P)) B,λY Y Y B=>B,λY Y Y B=>B,λY Y Y B=>B⟩
theorem Fr.wD{P:Ad->Prop}{r:Z}{E:V (Q×Q)}(b:P (.D r)):Fr P a (wD a r E):=⟨λY Y Y B=>B,λH Y q B=>dZ (λD=>q (D▸b)) B,λY Y Y B=>B,λY Y Y B=>B⟩
theorem Fr.wI{c:Ad->Prop}{r:Z}{E:dG×V Q}(P:c (.I r)):Fr c a (wI a r E):=⟨λY Y Y B=>B,λY Y Y B=>B,λH Y q B=>dZ (λD=>q (D▸P)) B,λY Y Y B=>B⟩
theorem Fr.wB{c:Ad->Prop}{r:Z}{E:V MN}(P:c (.B r)):Fr c a (wB a r E):=⟨λY Y Y B=>B,λY Y Y B=>B,λY Y Y B=>B,λH Y q B=>dZ (λD=>q (D▸P)) B⟩
theorem Fr.aL{P:Ad->Prop}{v:V Q}:Fr P a (aL a v):=⟨λY Y Y B=>ec B,λY Y Y B=>B,λY Y Y B=>B,λY Y Y B=>B⟩
theorem Fr.aD{c:Ad->Prop}{E:V (Q×Q)}:Fr c a (aD a E):=⟨λY Y Y B=>B,λY Y Y B=>ec B,λY Y Y B=>B,λY Y Y B=>B⟩
theorem Fr.aI{c:Ad->Prop}{E:dG×V Q}:Fr c a (aI a E):=⟨λY Y Y B=>B,λY Y Y B=>B,λY Y Y B=>ec B,λY Y Y B=>B⟩
theorem Fr.aB{c:Ad->Prop}{E:V MN}:Fr c a (aB a E):=⟨λY Y Y B=>B,λY Y Y B=>B,λY Y Y B=>B,λY Y Y B=>ec B⟩
noncomputable def Gl:Ad->Prop:=λU=>U=.I 0\/U=.D 0\/U=.L 1
noncomputable def eT(y:Z->Z)(M:Bd):Ad->Prop:=λU=>match M.k with
 |.row=>U=.L M.a
 |.text=>U=.B M.a
 |.dict=>U=.I M.a\/U=.D (y M.num)
theorem MB.fr{P:Ad->Prop}{r:AH}(B:MB a l b c)(A:Fr P a r)(q:∀U,eT l b U->¬P U):MB r l b c:=by
 unfold MB eT at *;induction D:b.k using Wo<;>rw[D] at B<;>rw[D] at q;·exact A.L _ _ (q _ rfl) B
 ·exact⟨A.I _ _ (q _ (.inl rfl)) B.1,A.D _ _ (q _ (.inr rfl)) B.2⟩
 ·exact A.B _ _ (q _ rfl) B
theorem GM.wI{Bg:MG}(B:GM a d g m j)(D:Bg.ks=d.ks):GM (wI a 0 (.Mem,cm Bg)) Bg g m j:=⟨bW B.i,D▸B.s,B.j,B.m,D▸B.n,B.sl,B.jl,B.ml⟩
theorem GM.wD{md':V (Z×pZ)}(B:GM a d g m j)(T:md'.length<99):GM (wD a 0 (md'.map lE)) d g m md':=⟨B.i,B.s,B.j,bW B.m,B.n,B.sl,B.jl,T⟩
theorem GM.wJ{J':V Q}(B:GM a d g m j)(T:J'.length<99):GM (wL a 1 J') d g J' j:=⟨B.i,dZ B.n B.s,bW B.j,B.m,B.n,B.sl,T,B.ml⟩
theorem GM.fr{P:Ad->Prop}{r:AH}(B:GM a d g m j)(A:Fr P a r)(n1:¬P (.I 0))(n2:¬P (.D 0))(n3:¬P (.L 1))(n4:¬P (.L d.ks)):GM r d g m j:=⟨A.I _ _ n1 B.i,A.L _ _ n4 B.s,A.L _ _ n3 B.j,A.D _ _ n2 B.m,B.n,B.sl,B.jl,B.ml⟩
theorem GM.dH(B:GM a d g m j){I K:Z}(D:gG .Mem I=S K)(c:K<10)(b:MG)(P:(cm d).set K k=cm b):dH a (.aA 0) I k=S (Mine.Lake.wI a 0 (.Mem,cm b)):=by refine(oL B.i).trans ((oL D).trans ?_);exact(Nb ⟨c,rfl⟩).trans (R P rfl)
theorem Eg{H:AH}{w:Z}(v:1<=s):aC s (.fn 17) [tN w] H=.ok (wd w,H):=by refine aM (eE v) λa bE Y=>R bE ?_;have I:∀e,aG e H (tN w) 9=.ok (.str 2,H):=λe=>aS rfl;have h:∀e,aG e H (tN w) 11=.ok (wd w,H):=λe=>aS rfl;refine(aN (f:=HO) [S (tN w)] rfl rfl).trans ?_;delta HO;walk_at "ev"
theorem sW{H:AH}{m:Z}{w:Z}(v:2<=m):aC m (.fn 18) [tN w] H=.ok (kW w,H):=by refine aM (eE v) λa cj n=>R cj ?_;have I:∀e,aG e H (tN w) 9=.ok (.str 2,H):=λe=>aS rfl;have h:=Eg (H:=H) (w:=w) n;refine(aN (f:=HP) [S (tN w)] rfl rfl).trans ?_;delta HP;walk_at "ev"
theorem yR{H:AH}{m:Z}{w:Z}(v:1<=m):aC m (.fn 19) [tN w] H=.ok (tN w,H):=by refine aM (eE v) λa du n=>?_;subst du;have I:∀e,aG e H (tN w) 9=.ok (.str 2,H):=λe=>aS rfl;refine(aN (f:=HQ) [S (tN w)] rfl rfl).trans ?_;delta HQ;walk_at "ev"
theorem sY{K:MN}(v:3<=s):aC s (.fn 13) [tI K] a=.ok (.bool MT,a):=rm (k:=1) v rfl rfl rfl rfl rfl
theorem Eh(v:3<=s):aC s (.fn 13) [tN h] a=.ok (.bool MT,a):=rm (k:=2) v rfl rfl rfl rfl rfl
theorem p8{H:AH}{m:Z}{y:Q}(v:4<=m){o l:MP}(B:dz H w 15=S (.bool o))(a:∀m,3<=m->aC m (.fn 13) [y] H=.ok (.bool l,H)):aC m (.fn 29) [.aA 0,w,y] H=if o&&l then .exc (.bw [105,110,118,97,108,105,100,97,99,99,101,115,115]) H else .ok (.none,H):=by refine aM (eE v) λb dV n=>?_;clear v;subst dV;have I:∀e,aG e H w 15=.ok (.bool o,H):=λe=>aS B;have h:=a b n;clear B a;refine(aN (f:=HY) [S (.aA 0),S w,S y] rfl rfl).trans ?_;delta HY;induction o using RE<;>induction l using RE<;>walk_at "ev"
theorem sZ(v:1<=s){I H:MN}(E:0<=I)(p:I<=H):aC s (.fn 50) [.int I,.int H] a=.ok (.none,a):=by refine aM (eE v) λb fB n=>R fB ?_;have A:MX (I<0)=MT:=NH (TU.mpr (by assumption));have h:=NH (TU.mpr (by assumption));refine(aN (f:=Ih) [S (.int I),S (.int H)] rfl rfl).trans ?_;delta Ih;walk_at "ev"
theorem p9{b:V Q}{m:Z}(C:GM a d g b j)(v:2<=m):aC m (.fn 21) [.aA 0] a=.ok (.int (if d.g then 0 else g.length:Z),a):=by refine aM (eE v) λc i7 n=>?_;clear v;subst i7;have A:=p0 C n;have h:∀e,aG e a (.aA 0) 15=.ok (.bool d.g,a):=λe=>C.at rfl;refine(aN (f:=HS) [S (.aA 0)] rfl rfl).trans ?_;delta HS;induction o:d.g using RE<;>walk_at "ev"
theorem yS{b:V Q}{m:Z}{K:MN}(C:GM a d g b j)(v:1<=m)(B:d.u+d.ug+K<=16777216):aC m (.fn 23) [.aA 0,.int K] a=.ok (.none,a):=by refine aM (eE v) λc jQ n=>?_;subst jQ;have A:∀e,aG e a (.aA 0) 29=.ok (.int d.u,a):=λe=>C.at rfl;have h:∀e,aG e a (.aA 0) 28=.ok (.int d.ug,a):=λe=>C.at rfl;have L:∀e,aG e a (.aA 0) 33=.ok (iZ,a):=λe=>C.at rfl;have M:∀e,aG e a iZ 34=.ok (.int 16777216,a):=λe=>aS rfl;have y:=NH (TU.mpr B);refine(aN (f:=HU) [S (.aA 0),S (.int K)] rfl rfl).trans ?_;delta HU;walk_at "ev"
theorem mF(I M:Z):eqT (kI I) (kI M)=S (MX (I=M)):=D8 I M
theorem ta(B:a.D[0]? = S (j.map lE)){k:Z}{i:MN}{g:MP}{l:Z}(b:j.length<1000):dm a (.ab 0) (.int k) (.tup [.int i,.bool g,.int l])=S (wD a 0 ((eu k (i,g,l) j).map lE)):=by refine(oL B).trans ?_;show(mS (j.map lE) (kI k) (J1 k (i,g,l))).map _=_;exact R (uC mF rfl b) rfl
theorem tb{b9:V Q}{m:Z}{K:MN}(C:GM a d g b9 j)(v:3<=m)(B:d.u+d.ug+K<=16777216)(J:cn (d.lb+1) j=N)(hl:j.length<98){x:Z}(w:x=if d.g then 0 else g.length):∃r,aC m (.fn 22) [.aA 0,.int K] a=.ok (.int (d.lb+1:Z),r)/\
  GM r {d with lb:=d.lb+1,u:=if d.g then d.u else d.u+K,ug:=if d.g then d.ug+K else d.ug} g b9 (j++[(d.lb+1,(K,d.g,x))])/\Fr Gl a r:=by
 obtain⟨o,Y,E,c,T,P,ls⟩:=d;dsimp only at *;refine aM (eE v) λa0 lM n=>?_;clear v;subst lM;have b1:=yS (m:=a0) C (n4 n rfl) B;have r1:aK a (.aA 0) 32=S (.own 23):=C.rc rfl;have A:∀e,aG e a (.aA 0) 27=.ok (.int P,a):=λe=>C.at rfl;have s1:dH a (.aA 0) 27 (.int (P+1))=S (wI a 0 (.Mem,cm ⟨o,Y,E,c,T,P+1,ls⟩)):=C.dH rfl (by decide) _ rfl;have G:=C.wI (Bg:=⟨o,Y,E,c,T,P+1,ls⟩) rfl;have p:Fr Gl a (wI a 0 (.Mem,cm ⟨o,Y,E,c,T,P+1,ls⟩)):=Fr.wI (.inl rfl);generalize wI a 0 (.Mem,cm ⟨o,Y,E,c,T,P+1,ls⟩)=z at s1 G p;have h:∀e,aG e z (.aA 0) 27=.ok (.int (P+1:Z),z):=λe=>G.at rfl;have L:∀e,aG e z (.aA 0) 15=.ok (.bool o,z):=λe=>G.at rfl;have M:∀e,aG e z (.aA 0) 30=.ok (.ab 0,z):=λe=>G.at rfl;have r2:aK z (.aA 0) 31=S (.own 21):=G.rc rfl;have b2:=p9 G n;rw[<-w] at b2;have s2:=ta G.m (k:=P+1) (i:=K) (g:=o) (l:=x) (n1 hl rfl);replace s2:=(ig J)▸s2;have D:=G.wD (md':=j++[(P+1,(K,o,x))]) (R RF (Ux hl));have F2:Fr Gl z (wD z 0 ((j++[(P+1,(K,o,x))]).map lE)):=Fr.wD (.inr (.inl rfl));generalize wD z 0 ((j++[(P+1,(K,o,x))]).map lE)=I at s2 D F2;have y:∀e,aG e I (.aA 0) 15=.ok (.bool o,I):=λe=>D.at rfl;have t:∀e,aG e I (.aA 0) 28=.ok (.int T,I):=λe=>D.at rfl;have a7:∀e,aG e I (.aA 0) 29=.ok (.int c,I):=λe=>D.at rfl;have a9:=p.trans F2;refine R (aN (f:=HT) [S (.aA 0),S (.int K)] rfl rfl) ?_;delta HT;obtain⟨H,U,b,X,e2⟩:∃H U:MN,dH I (.aA 0) (if o then 28 else 29) (if o then .int (T+K) else .int (c+K))=S (wI I 0 (.Mem,cm ⟨o,Y,E,H,U,P+1,ls⟩))/\(if o then c else c+K)=H/\(if o then T+K else T)=U:=by
  clear a0 n b1 r1 A s1 h L M r2 b2 s2 y t a7;induction o using RE;·exact qq (c+K) T (D.dH rfl (by decide) _ rfl) rfl rfl
  ·exact qq c (T+K) (D.dH rfl (by decide) _ rfl) rfl rfl
 refine R X (R e2 ?_);have i:=D.wI (Bg:=⟨o,Y,E,H,U,P+1,ls⟩) rfl;have F3:Fr Gl I (wI I 0 (.Mem,cm ⟨o,Y,E,H,U,P+1,ls⟩)):=Fr.wI (.inl rfl);generalize wI I 0 (.Mem,cm ⟨o,Y,E,H,U,P+1,ls⟩)=H3 at b F3 i;have s:∀e,aG e H3 (.aA 0) 27=.ok (.int (P+1:Z),H3):=λe=>i.at rfl;refine jK H3 ?_ i (a9.trans F3);clear a9 p F2 F3 C G D i B J hl w X e2;induction o using RE<;>simp only[PG,Oj,reduceCtorEq] at b<;>walk_at "ev"
noncomputable def has(b:AH):Ad->Prop
 |.L q=>q<b.L.length
 |.D q=>q<b.D.length
 |.I q=>q<b.I.length
 |.B q=>q<b.B.length
structure HI(H H':AH)(μ:MG)(svs:V Sv)(J:V Q)(md:V (Z×pZ))(cost:MN)(bl:Z)(b:Bd)(c:Ct)(e:Z):Prop where
 G:GM H' {μ with lb:=μ.lb+1,u:=if μ.g then μ.u else μ.u+cost,ug:=if μ.g then μ.ug+cost else μ.ug} svs J (md++[(μ.lb+1,(cost,μ.g,bl))])
 F:Fr Gl H H'
 M:MB H' (λε=>e) b c
 n:b.num=μ.lb+1
 g:b.g=μ.g
 lv:b.lv=bl
 f:∀z,eT (λε=>e) b z->¬has H z
 w:∀z,eT (λε=>e) b z->has H' z
theorem Fr.has{P:Ad->Prop}{r:AH}(A:Fr P a r){z:Ad}(q:¬P z)(b:has a z):Mine.Lake.has r z:=by
 induction z using Ad.casesOn with
 |L H=>exact bP (A.L H _ q (RB b))
 |D H=>exact bP (A.D H _ q (RB b))
 |I H=>exact bP (A.I H _ q (RB b))
 |B H=>exact bP (A.B H _ q (RB b))
theorem Bh(C:GM a d g m j):(∀E,GM (aL a E) d g m j)/\(∀E,GM (aD a E) d g m j)/\(∀E,GM (aI a E) d g m j)/\∀E,GM (aB a E) d g m j:=(qu (λE=>⟨C.i,ec C.s,ec C.j,C.m,C.n,C.sl,C.jl,C.ml⟩) (λE=>⟨C.i,C.s,C.j,ec C.m,C.n,C.sl,C.jl,C.ml⟩) (λE=>⟨ec C.i,C.s,C.j,C.m,C.n,C.sl,C.jl,C.ml⟩) (λE=>⟨C.i,C.s,C.j,C.m,C.n,C.sl,C.jl,C.ml⟩))
theorem yT{H:AH}{v:Q}{x:Q}{y:Q}{z:Q}{u:Q}{i:MN}{m:Z}(a:1<=m):aC m (.cls .Row) [x,.lst [y,z,u],v,.int i] H=.ok (.obj .Row [x,.aE H.L.length,v,.int i],aL H [y,z,u]):=by refine aM (eE a) λb bE Y=>R bE ?_;rfl
theorem vM{H:AH}{v:Q}{x:Q}{y:Q}{i:MN}{m:Z}(a:1<=m):aC m (.cls .Dict) [x,y,v,.int i] H=.ok (.aA H.I.length,aI (aD H []) (.Dict,[x,y,v,.int i,.int 3,.ab H.D.length])):=by refine aM (eE a) λb cj Y=>R cj ?_;rfl
theorem Ei{a0:V Q}{p:V (Z×pZ)}{m:Z}{D:Z}{i:MN}{j:MN}{k:MN}(C:GM a d g a0 p)(hm:4<=m)(B:d.u+d.ug+24<=16777216)(J:cn (d.lb+1) p=N)(l:p.length<98)(w:D=if d.g then 0 else g.length):∃r I,(∀h,HI a r d g a0 p 24 D ⟨.row,d.lb+1,d.g,D,h,I⟩ ⟨[i,j,k],[],3,0⟩ 0)/\
  aC m (.fn 26) [.aA 0,.lst [tI i,tI j,tI k]] a=.ok (bv ⟨.row,d.lb+1,d.g,D,0,I⟩,r):=by
 refine aM (eE hm) λt du n=>R du (mM (tb (m:=t) C n B J l w) λz X G F1=>?_);have H:∀i,aC t (.fn 13) [tI i] a=.ok (.bool MT,a):=λi=>sY n;have e3:aC t (.fn 50) [.int 3,.int 65535] a=.ok (.none,a):=sZ (n4 n rfl) (RQ _) (RQ _);have Y:=p9 G (m:=t) (n4 n rfl);rw[<-w] at Y;have E:=yT (m:=t) (H:=z) (x:=.int (d.lb+1:Z)) (y:=tI i) (z:=tI j) (u:=tI k) (v:=.bool d.g) (i:=(D:Z)) (n4 n rfl);refine dI (aL z [tI i,tI j,tI k]) z.L.length (λh=>⟨(Bh G).1 _,F1.trans Fr.aL,dK,rfl,rfl,rfl,λU s=>?_,λU s=>?_⟩) ?_
 ·obtain rfl:U=.L z.L.length:=s;intro q;by_cases P:Gl (.L z.L.length)
  ·rcases P with P|P|P;·cases P
   ·cases P
   ·exact S7 (bP G.j) (Ad.L.inj P)
  ·exact RV _ (F1.has P q)
 ·obtain rfl:U=.L z.L.length:=s;show _<(z.L++[_]).length;exact R RF (SD _)
 have K:aK a (.aA 0) 37=S (.own 22):=C.rc rfl;have r2:aK z (.aA 0) 31=S (.own 21):=G.rc rfl;have A:∀e,aG e a (.aA 0) 33=.ok (iZ,a):=λe=>C.at rfl;have a2:∀e,aG e a iZ 39=.ok (.int 65535,a):=λe=>aS rfl;have L:∀e,aG e a (.aA 0) 15=.ok (.bool d.g,a):=λe=>C.at rfl;have M:∀e,aG e z (.aA 0) 15=.ok (.bool d.g,z):=λe=>G.at rfl;have c1:bA a .gS [.lst [tI i,tI j,tI k]]=S (.bool MT,a):=rfl;have c2:bA a .len [.lst [tI i,tI j,tI k]]=S (.int 3,a):=rfl;have T:bY .mul (.int 8) (.int 3)=S (.int 24):=rfl;have b:srcOf a (.lst [tI i,tI j,tI k])=S (.dS [tI i,tI j,tI k],3):=rfl;refine(aN (f:=HV) [S (.aA 0),S (.lst [tI i,tI j,tI k]),N] rfl rfl).trans ?_;delta HV;have c:=H i;have a6:=H j;have a5:=H k;induction o:d.g using RE<;>rw[o] at E L M<;>walk_at "ev"
theorem Ej{o:V Q}{m:Z}{b:Z}(C:GM a d g o j)(k:4<=m)(B:d.u+d.ug+32<=16777216)(J:cn (d.lb+1) j=N)(l:j.length<98)(w:b=if d.g then 0 else g.length):∃r I D,(∀h,HI a r d g o j 32 b ⟨.dict,d.lb+1,d.g,b,h,I⟩ ⟨[],[],3,2⟩ D)/\
  aC m (.fn 27) [.aA 0,.int 2] a=.ok (bv ⟨.dict,d.lb+1,d.g,b,0,I⟩,r):=by
 refine aM (eE k) λc dV n=>R dV (mM (tb (m:=c) C n B J l w) λz X G p=>?_);have t:aC c (.fn 50) [.int 2,.int 65535] a=.ok (.none,a):=sZ (n4 n rfl) (RQ _) (RQ _);have Y:=p9 G (m:=c) (n4 n rfl);rw[<-w] at Y;have E:=vM (m:=c) (H:=z) (x:=.int (d.lb+1:Z)) (y:=.int 2) (v:=.bool d.g) (i:=(b:Z)) (n4 n rfl);refine zM (aI (aD z []) (.Dict,[.int (d.lb+1:Z),.int 2,.bool d.g,.int b,.int 3,.ab z.D.length])) z.I.length z.D.length (λh=>⟨(Bh ((Bh G).2.1 _)).2.2.1 _,(p.trans Fr.aD).trans Fr.aI,⟨dK,dK⟩,rfl,rfl,rfl,λU s=>?_,λU s=>?_⟩) ?_
 ·rcases s with rfl|rfl<;>intro q
  ·by_cases P:Gl (.I z.I.length)
   ·rcases P with P|P|P;·exact S7 (bP G.i) (Ad.I.inj P)
    ·cases P
    ·cases P
   ·exact RV _ (p.has P q)
  ·by_cases P:Gl (.D z.D.length)
   ·rcases P with P|P|P;·cases P
    ·exact S7 (bP G.m) (Ad.D.inj P)
    ·cases P
   ·exact RV _ (p.has P q)
 ·rcases s with rfl|rfl;·show _<(z.I++[_]).length;exact R RF (SD _)
  ·show _<(z.D++[_]).length;exact R RF (SD _)
 have K:aK a (.aA 0) 37=S (.own 22):=C.rc rfl;have H:aK z (.aA 0) 31=S (.own 21):=G.rc rfl;have A:∀e,aG e a (.aA 0) 33=.ok (iZ,a):=λe=>C.at rfl;have L:∀e,aG e a iZ 0=.ok (.int 65535,a):=λe=>aS rfl;have M:∀e,aG e z (.aA 0) 15=.ok (.bool d.g,z):=λe=>G.at rfl;have T:bY .mul (.int 16) (.int 2)=S (.int 32):=rfl;refine(aN (f:=HW) [S (.aA 0),S (.int 2)] rfl rfl).trans ?_;delta HW;walk_at "ev"
theorem Ek{x:Z}(C:GM a d g m j)(B:d.u+d.ug+2<=16777216)(J:cn (d.lb+1) j=N)(l:j.length<98)(w:x=if d.g then 0 else g.length):∃r I,(∀h,HI a r d g m j 2 x ⟨.text,d.lb+1,d.g,x,h,I⟩ ⟨[0,0],[],3,0⟩ 0)/\
  km [.aA 0,.int 2] a=.ok (bv ⟨.text,d.lb+1,d.g,x,0,I⟩,r):=by
 refine mM (tb (m:=10) C (by decide) B J l w) λz X G p=>?_;have c:aC 10 (.fn 50) [.int 2,.int 65535] a=.ok (.none,a):=sZ (Va _) (RQ _) (RQ _);have Y:=p9 G (m:=10) (SR _ _);replace Y:=w.symm▸Y;refine dI (aB z [0,0]) z.B.length (λh=>⟨(Bh G).2.2.2 _,p.trans Fr.aB,dK,rfl,rfl,rfl,λU s=>?_,λU s=>?_⟩) ?_;·obtain rfl:U=.B z.B.length:=s;intro L;exact RV _ (p.has (by rintro(P|P|P)<;>cases P) L)
 ·obtain rfl:U=.B z.B.length:=s;show _<(z.B++[_]).length;exact R RF (SD _)
 have K:aK a (.aA 0) 37=S (.own 22):=C.rc rfl;have f:aK z (.aA 0) 31=S (.own 21):=G.rc rfl;have H:aK a (.aA 0) 35=S (.own 25):=C.rc rfl;have A:∀e,aG e a (.aA 0) 33=.ok (iZ,a):=λe=>C.at rfl;have k:∀e,aG e a iZ 36=.ok (.int 65535,a):=λe=>aS rfl;have M:∀e,aG e z (.aA 0) 15=.ok (.bool d.g,z):=λe=>G.at rfl;have i:bA a .bytes [.int 2]=S (.bw [0,0],a):=rfl;have o:bA a .len [.bw [0,0]]=S (.int 2,a):=rfl;have b:only (.cls .Text) (pT eX) (.cls .Text) [.int (d.lb+1:Z),.bw [0,0],.bool d.g,.int x] z=.ok (bv ⟨.text,d.lb+1,d.g,x,0,z.B.length⟩,aB z [0,0]):=rfl;have Hp:GQ [.aA 0,.bw [0,0]] a=.ok (bv ⟨.text,d.lb+1,d.g,x,0,z.B.length⟩,aB z [0,0]):=by show zE BO (cH eX _ GP) _ _=_;dsimp only[GP,BO,aH,kY,zD];apply sV [S (.aA 0),S (.bw [0,0])] rfl;walk_at "nl";rfl
 show zE zJ (cH eX _ GR) _ _=_;dsimp only[GR,zJ,aH,kY,zD,yt];apply sV [S (.aA 0),S (.int 2)] rfl;walk_at "nl";rfl
noncomputable def wV(b k:Z)(g:Q):V (Q×Q):=[(.str 64,.aA 0),(.str 58,.aE b),(.str 25,.aE k),(.str 70,g)]
structure LW(H:AH)(kb gR:Z)(gone:Q)(ds:V Z)(sv:V Q):Prop where
 w:H.D[1]? = S (wV kb gR gone)
 b:H.L[kb]? = S (ds.map .ab)
 s:H.L[gR]? = S sv
 n1:kb≠1
 n2:gR≠1
 n3:kb≠gR
 bl:ds.length<99
 sl:sv.length<99
noncomputable def Bi(b:Z):Ad->Prop:=λU=>Gl U\/U=.L b
theorem LW.fr{P:Ad->Prop}{r:AH}{b:Z}{k:Z}{g:Q}{j:V Z}{Y:V Q}(c:LW a b k g j Y)(x:Fr P a r)(d:¬P (.D 1))(n1:¬P (.L b))(n2:¬P (.L k)):LW r b k g j Y:=⟨x.D _ _ d c.w,x.L _ _ n1 c.b,x.L _ _ n2 c.s,c.n1,c.n2,c.n3,c.bl,c.sl⟩
theorem Cn(B:n≠1):¬Gl (.L n):=λP=>by
 rcases P with P|P|P;·cases P
 ·cases P
 ·exact B (Ad.L.inj P)
theorem zF(B:n≠0):¬Gl (.D n):=λP=>by
 rcases P with P|P|P;·cases P
 ·exact B (Ad.D.inj P)
 ·cases P
theorem LW.gl{r:AH}{b:Z}{k:Z}{g:Q}{j:V Z}{Y:V Q}(P:LW a b k g j Y)(x:Fr Gl a r):LW r b k g j Y:=P.fr x (zF (by decide)) (Cn P.n1) (Cn P.n2)
theorem rn{y:V (Q×Q)}(B:a.D[n]? = S y)(D:(cW y w).bind id=S k):aR a (.ab n) w=S k:=(oL B).trans D
theorem LW.sub{b:Z}{k:Z}{v:Q}{x:Q}{g:Q}{j:V Z}{Y:V Q}(P:LW a b k g j Y)(D:(cW (wV b k g) x).bind id=S v):aR a (.ab 1) x=S v:=rn P.w D
theorem fI{x:Q}{w:V Q}(B:a.L[n]? = S w)(l:w.length<1000):gH a (.aE n) 44 [x]=S (.none,wL a n (w++[x])):=(oL B).trans (Nb (Nn l))
theorem uF(C:GM a d g m j)(o:MP):dH a (.aA 0) 15 (.bool o)=S (wI a 0 (.Mem,cm {d with g:=o}))/\GM (wI a 0 (.Mem,cm {d with g:=o})) {d with g:=o} g m j/\Fr Gl a (wI a 0 (.Mem,cm {d with g:=o})):=(fA (C.dH rfl (by decide) _ rfl) (C.wI rfl) (Fr.wI (.inl rfl)))
theorem vN{kb:Z}{k:Z}{a9:Z}{a7:Q}{way:Q}{b:Bd}{rest:MN}{ds:V Z}{Y:V Q}(h:Key->NF)(C:GM a d g m j)(t:d.ks≠kb)(a0:LW a kb k a7 ds Y)(w:MB a (λε=>a9) b c)(J:∀U,eT (λε=>a9) b U->¬Bi kb U)(q:b.d=a.D.length)(T:c.acc=3)
  (o:b.g=MX (rest.fmod 4=3)) (a8:b.lv=if b.g then 0 else Y.length) (l:ds.length<98) :
  ∃r l',cH eX h (.cons (.a (aH gO.body 3)) (.cons (.a (aH gO.body 4)) (.cons (.a (aH gO.body 5)) .nil))) [S (.ab 1),S way,S (.int rest),S (.aA 0),S (kS b.k),S (cR b.k c),S (bv b),x',y'] a=.ok (.next,l',r)/\
   GM r {d with g:=MT} g m j/\LW r kb k a7 (ds++[b.d]) Y/\MB r (λε=>a9) b c/\r.D[b.d]? = S (dy b c)/\Fr (Bi kb) a r:=by
 have p:Fr (Bi kb) a (aD a (dy b c)):=Fr.aD;have G:=(Bh C).2.1 (dy b c);have e:LW (aD a (dy b c)) kb k a7 ds Y:=a0.fr (P:=λε=>Nx) Fr.aD id id id;have D1:(aD a (dy b c)).D[b.d]? = S (dy b c):=by exact R q dK
 have A:aR a (.ab 1) (.str 25)=S (.aE k):=a0.sub rfl;have a2:aR a (.ab 1) (.str 58)=S (.aE kb):=a0.sub rfl;have L:=jG a0.s (by have:=a0.sl;exact n1 this rfl);have X:({a with D:=a.D++[[(.str 14,bv b),(.str 9,kS b.k),(.str 59,.bool b.g),(.str 26,.int b.lv),(.str 60,cR b.k c),(.str 16,.int 3)]]}:AH)=aD a (dy b c):=by unfold dy;exact R T rfl
 have H:Q.ab a.D.length=.ab b.d:=by rw[q]
 generalize aD a (dy b c)=z at p G e D1 X;have M:=fI (x:=.ab b.d) e.b (by refine R (Rz ..) ?_;have:=e.bl;exact n1 l rfl);have f:Fr (Bi kb) z (wL z kb (ds.map .ab++[.ab b.d])):=Fr.wL (.inr rfl);have D:GM (wL z kb (ds.map .ab++[.ab b.d])) d g m j:=G.fr (P:=λU=>U=.L kb) (Fr.wL rfl) nofun nofun (λa5=>a0.n1 (Ad.L.inj a5).symm) (λa5=>t (Ad.L.inj a5));have n:LW (wL z kb (ds.map .ab++[.ab b.d])) kb k a7 (ds++[b.d]) Y:=⟨e.w,by refine R R8 ?_;exact bW e.b,dZ (S8 e.n3) e.s,e.n1,e.n2,e.n3,by refine R RF ?_;exact Ux l,e.sl⟩;have B:(wL z kb (ds.map .ab++[.ab b.d])).D[b.d]? = S (dy b c):=D1;generalize wL z kb (ds.map .ab++[.ab b.d])=I at M f D n B;refine fK (uF D MT) λs3 i F3=>?_;have a6:Fr (Bi kb) a (wI I 0 (.Mem,cm {d with g:=MT})):=(p.trans f).trans (F3.mono λε a5=>Vd a5);have y:=n.gl F3;have D3:(wI I 0 (.Mem,cm {d with g:=MT})).D[b.d]? = S (dy b c):=B;generalize wI I 0 (.Mem,cm {d with g:=MT})=E at s3 i F3 a6 y D3;refine KL E [S (.ab 1),S way,S (.int rest),S (.aA 0),S (kS b.k),S (cR b.k c),S (bv b),S (.int b.lv),y'] ?_ i y (w.fr a6 J) D3 a6;have K:bY .mod (.int rest) (.int 4)=S (.int (rest.fmod 4)):=rfl;have r6:aK z (.aE kb) 44=S .bI:=rfl;have s:Q.int b.lv=if b.g then .int 0 else .int Y.length:=by rw[a8];induction b.g using RE<;>rfl
 have o:=o.symm;clear a6 p f F3 C G D i a0 e n y D1 B D3 w J T l t a8 q;have k3:cN eX (aH gO.body 3) [S (.ab 1),S way,S (.int rest),S (.aA 0),S (kS b.k),S (cR b.k c),S (bv b),x',y'] a=.ok (.next,[S (.ab 1),S way,S (.int rest),S (.aA 0),S (kS b.k),S (cR b.k c),S (bv b),S (.int b.lv),y'],a):=by dsimp only[gO,aH];rw[s];generalize b.g=b9 at *;clear X;induction b9 using RE<;>walk_at "ev"
 have k4:cN eX (aH gO.body 4) [S (.ab 1),S way,S (.int rest),S (.aA 0),S (kS b.k),S (cR b.k c),S (bv b),S (.int b.lv),y'] a=.ok (.next,[S (.ab 1),S way,S (.int rest),S (.aA 0),S (kS b.k),S (cR b.k c),S (bv b),S (.int b.lv),y'],I):=by
  refine Ja (Lp (v:=.aE kb) (H1:=a) ?_ (rfl) (Ci (v:=.ab b.d) (H1:=z) ((I' (us:=[bv b,kS b.k,.bool b.g,.int b.lv,cR b.k c,.int 3]) ?_ rfl).trans (Nc Res.ok (NU.ext H X))) G8) M);·walk_at "xe"
  ·walk_at "xl"
 have k5:cN eX (aH gO.body 5) [S (.ab 1),S way,S (.int rest),S (.aA 0),S (kS b.k),S (cR b.k c),S (bv b),S (.int b.lv),y'] I=.ok (.next,[S (.ab 1),S way,S (.int rest),S (.aA 0),S (kS b.k),S (cR b.k c),S (bv b),S (.int b.lv),y'],E):=by dsimp only[gO,aH];walk_at "ev"
 exact rC k3 (rC k4 (rC k5 rfl))
structure uG(H H':AH)(μ:MG)(svs:V Sv)(J:V Q)(md:V (Z×pZ))(kb gR:Z)(gone:Q)(ds:V Z)(sv:V Q)(b:Bd)(c:Ct)(e:Z)(cost:MN):Prop where
 G:GM H' {μ with g:=MT,lb:=μ.lb+1,u:=if b.g then μ.u else μ.u+cost,ug:=if b.g then μ.ug+cost else μ.ug} svs J (md++[(μ.lb+1,(cost,b.g,b.lv))])
 W:LW H' kb gR gone (ds++[b.d]) sv
 M:MB H' (λε=>e) b c
 D:H'.D[b.d]? = S (dy b c)
 F:Fr (Bi kb) H H'
 n:b.num=μ.lb+1
 lv:b.lv=if b.g then 0 else svs.length
 fd:¬has H (.D b.d)
 fp:∀z,eT (λε=>e) b z->¬has H z
 ne:b.k=.dict->e≠b.d
 en:c.en=[]
 acc:c.acc=3
 il:b.k=.row->c.cw.length=3
 it:b.k=.text->c.cw.length=2
 dk:b.k=.dict->c.cw=[]/\c.most=2
 co:cost<=32
theorem vO{b:Z}{Y:V Q}{n:Z}(C:GM a d g m j)(w:a.L[b]? = S Y){U:Ad}(B:¬has a U):¬Bi b U:=λP=>by
 rcases P with(rfl|rfl|rfl)|rfl;·exact B (bP C.i)
 ·exact B (bP C.m)
 ·exact B (bP C.j)
 ·exact B (bP w)
theorem mG{q:AH}{r:AH}{x:Z}{z:Z}{k:Z}{D:Z}{K:Q}{b:Bd}{rest:MN}{way:MN}{A:MN}{E:V Z}{Y:V Q}{nf:Key->NF}{a:O Q}{b':O Q}(C:GM q d g m j)(G:LW q z k K E Y)(t:d.ks≠z)(a0:Y.length=g.length)(l:E.length<98)(o:d.g=MX (rest.fmod 4=3))
  (p:∀h,HI q r d g m j A x {b with d:=h} c D) (w:x=if d.g then 0 else g.length) (T:c.acc=3) (e:c.en=[]) (M:b.k=.row->c.cw.length=3) (a1:b.k=.text->c.cw.length=2) (H:b.k=.dict->c.cw=[]/\c.most=2) (i:A<=32) :
  ∃I v h,cH eX nf (.cons (.a (aH gO.body 3)) (.cons (.a (aH gO.body 4)) (.cons (.a (aH gO.body 5)) .nil))) [S (.ab 1),S (.int way),S (.int rest),S (.aA 0),S (kS b.k),S (cR b.k c),S (bv b),a,b'] r=.ok (.next,v,I)/\
   uG q I d g m j z k K E Y {b with d:=h} c D A:=by
 have p:=p r.D.length;have J:∀U,eT (λε=>D) {b with d:=r.D.length} U->¬Bi z U:=λU s=>vO (n:=0) C G.b (p.f U s);refine KX (vN (b:={b with d:=r.D.length}) (way:=.int way) (rest:=rest) (x':=a) (y':=b') nf p.G t (G.gl p.F) p.M J rfl T (p.g.trans o) (by refine p.lv.trans ?_;refine w.trans (R p.g (R a0 rfl))) l) λI v X G2 W2 M2 B f=>?_;refine zM I v r.D.length X ⟨?_,W2,M2,B,(p.F.mono λε P=>Vd P).trans f,p.n,by refine p.lv.trans ?_;refine w.trans ?_;refine R p.g rfl,λP=>?_,p.f,λL y=>?_,e,T,M,a1,H,i⟩;·have g1:=p.g;refine R g1 ?_;refine R (p.lv) ?_;exact G2
 ·by_cases L:Gl (.D r.D.length)
  ·rcases L with L|L|L;·cases L
   ·exact S7 (bP p.G.m) (Ad.D.inj L)
   ·cases L
  ·exact RV _ (p.F.has L P)
 ·have:=p.w (.D D) (by show(match b.k with|.row=>_|.text=>_|.dict=>_);exact R (show b.k=.dict from L) (.inr rfl));exact Nh (show D<r.D.length from this) (R (show D=r.D.length from y) (RV _))
theorem El{b:Z}{a4:Z}{a3:Q}{rest:MN}{way:MN}{ds:V Z}{sv:V Q}(C:GM a d g m j)(P:LW a b a4 a3 ds sv)(a5:d.ks≠b)(r:sv.length=g.length)(l:ds.length<98)(h:j.length<98)(J:cn (d.lb+1) j=N)(B:d.u+d.ug+32<=16777216) :
  ∃I M a2 D c,kn [.ab 1,.int way,.int rest] a=.ok (.none,I)/\uG a I d g m j b a4 a3 ds sv M a2 D c:=by
 refine hF λA=>?_;have m4:bY .mod (.int rest) (.int 4)=S (.int (rest.fmod 4)):=rfl;have m7:bY .mod (.int rest) (.int 7)=S (.int (rest.fmod 7)):=rfl;have a1:aR a (.ab 1) (.str 64)=S (.aA 0):=P.sub rfl;refine fK (uF C (MX (rest.fmod 4=3))) λs1 G p=>?_;have e:=P.gl p;have hs:∀U,has a U->has (wI a 0 (.Mem,cm {d with g:=MX (rest.fmod 4=3)})) U:=λU a0=>by induction U using Ad.casesOn<;>first|exact a0|exact TJ a0 (Tb ..).symm
 generalize wI a 0 (.Mem,cm {d with g:=MX (rest.fmod 4=3)})=z at s1 G p e hs;have y:fm eX (only (.fn 24) km) (.a (aH gO.body 0)) [S (.ab 1),S (.int way),S (.int rest),N,N,N,N,N,N] a=.ok (.next,[S (.ab 1),S (.int way),S (.int rest),S (.aA 0),N,N,N,N,N],a):=by dsimp only[gO,aH];clear C G p P e;walk_at "ev"
 have q:fm eX (only (.fn 24) km) (.a (aH gO.body 1)) [S (.ab 1),S (.int way),S (.int rest),S (.aA 0),N,N,N,N,N] a=.ok (.next,[S (.ab 1),S (.int way),S (.int rest),S (.aA 0),N,N,N,N,N],z):=by dsimp only[gO,aH];clear C G p P e;walk_at "ev"
 obtain⟨x,hb⟩:∃x:Z,x=if MX (rest.fmod 4=3) then 0 else g.length:=⟨_,rfl⟩;have T:∀{l':Loc} {I:AH},(cH eX (only (.fn 24) km) (.cons (.ifs (dA (aH gO.body 2)) (.cons (.a (aH (dY (aH gO.body 2)) 0)) (.cons (.a (aH (dY (aH gO.body 2)) 1)) .nil))
  (.cons (.ifs (dA uw) (.cons (.a (aH (dY uw) 0)) .nil) (.cons (.tup [4,5,6] (A6 (aH (cQ uw) 0)).1 (A6 (aH (cQ uw) 0)).2.1 (.aU (yt (A6 (aH (cQ uw) 0)).2.2) 63 24 (kY (A6 (aH (cQ uw) 0)).2.2))) .nil)) .nil)) (.cons (.a (aH gO.body 3)) (.cons (.a (aH gO.body 4)) (.cons (.a (aH gO.body 5)) .nil)))) [S (.ab 1),S (.int way),S (.int rest),S (.aA 0),N,N,N,N,N] z=.ok (.next,l',I))->kn [.ab 1,.int way,.int rest] a=.ok (.none,I):=λ{l' I} U=>by
  show(cH eX (only (.fn 24) km) GS [S (.ab 1),S (.int way),S (.int rest),N,N,N,N,N,N] a).bind _=_
  have:cH eX (only (.fn 24) km) GS [S (.ab 1),S (.int way),S (.int rest),N,N,N,N,N,N] a=.ok (.next,l',I):=by exact rC y (rC q U)
  rw[this];rfl
 have f:∀{E:AH} {M:Bd} {a2:Ct} {D:Z} {c:MN},uG z E {d with g:=MX (rest.fmod 4=3)} g m j b a4 a3 ds sv M a2 D c->uG a E d g m j b a4 a3 ds sv M a2 D c:=λw=>
  ⟨w.G,w.W,w.M,w.D,(p.mono λε a0=>Vd a0).trans w.F,w.n,w.lv,λL=>w.fd (hs _ L),λU hz L=>w.fp U hz (hs _ L),w.ne,w.en,w.acc,w.il,w.it,w.dk,w.co⟩
 have i:cH eX (only (.fn 24) km) .nil=Du:=rfl;by_cases v:way<2;·refine cg (Ei (m:=10) (i:=rest.fmod 7) (j:=5) (k:=5) G (by decide) (o8 B (by decide)) J h hb) λI o n e2=>?_;have s:∀K a,aC 10 (.fn 3) [.int K] a=.ok (tI K,a):=λK a=>yN (by decide);refine wb (mG (way:=way) (rest:=rest) (nf:=only (.fn 24) km) (b:=⟨.row,d.lb+1,MX (rest.fmod 4=3),x,0,o⟩) (a:=N) (b':=N) G e a5 r l rfl n hb rfl rfl (λε=>rfl) nofun nofun (RQ _)) λE l' a6 Y MB=>?_;refine A ⟨E,_,_,_,_,T (l':=l') ?_,f MB⟩;have c4:srcOf z (.lst [.int (rest.fmod 7),.int 5,.int 5])=S (.dS [.int (rest.fmod 7),.int 5,.int 5],3):=rfl;have r1:aK z (.aA 0) 61=S (.own 26):=G.rc rfl;have H:=Nn v;refine rC (X:=.ok (.next,[S (.ab 1),S (.int way),S (.int rest),S (.aA 0),S (kS .row),S (cR .row ⟨[rest.fmod 7,5,5],[],3,0⟩),S (bv ⟨.row,d.lb+1,MX (rest.fmod 4=3),x,0,o⟩),N,N],I)) ?_ Y;dsimp only[gO,aH,dA,dY];have a7:=s (rest.fmod 7) z;have a8:=s 5 z;clear Y MB n C G p P e y q T f hs v;walk_at "ev"
 ·by_cases t:way=2;·refine wb (Ej (m:=10) G (by decide) B J h hb) λI o D n e2=>?_;refine wb (mG (way:=way) (rest:=rest) (nf:=only (.fn 24) km) (b:=⟨.dict,d.lb+1,MX (rest.fmod 4=3),x,0,o⟩) (a:=N) (b':=N) G e a5 r l rfl n hb rfl rfl nofun nofun (λε=>⟨rfl,rfl⟩) (Vp _)) λE l' a6 Y MB=>?_;refine A ⟨E,_,_,_,_,T (l':=l') ?_,f MB⟩;have r1:aK z (.aA 0) 62=S (.own 27):=G.rc rfl;have H:=NH v;have d2:=Nn t;refine rC (X:=.ok (.next,[S (.ab 1),S (.int way),S (.int rest),S (.aA 0),S (kS .dict),S (cR .dict ⟨[],[],3,2⟩),S (bv ⟨.dict,d.lb+1,MX (rest.fmod 4=3),x,0,o⟩),N,N],I)) ?_ Y;dsimp only[gO,uw,aH,dA,dY,cQ];clear Y MB n C G p P e y q T f hs t v;walk_at "ev"
  ·refine cg (Ek G (o8 B (by decide)) J h hb) λI o n e2=>?_;refine wb (mG (way:=way) (rest:=rest) (nf:=only (.fn 24) km) (b:=⟨.text,d.lb+1,MX (rest.fmod 4=3),x,0,o⟩) (a:=N) (b':=N) G e a5 r l rfl n hb rfl rfl nofun (λε=>rfl) nofun (RQ _)) λE l' a6 Y MB=>?_;refine A ⟨E,_,_,_,_,T (l':=l') ?_,f MB⟩;have r1:aK z (.aA 0) 63=S (.own 24):=G.rc rfl;have H:=NH v;have d2:=NH t;refine rC (X:=.ok (.next,[S (.ab 1),S (.int way),S (.int rest),S (.aA 0),S (kS .text),S (cR .text ⟨[0,0],[],3,0⟩),S (bv ⟨.text,d.lb+1,MX (rest.fmod 4=3),x,0,o⟩),N,N],I)) ?_ Y;dsimp only[gO,uw,aH,dA,dY,cQ,A6,HE,HF,yt,kY];have e2:=(OI (OI (show only (.fn 24) km (.fn 24)=km from Nb rfl) _) _).trans e2;clear Y MB n C G p P e y q T f hs t v;walk_at "ev"
theorem c0:((0:Z):MN)=0:=rfl
noncomputable def aV(M:Bd):Un->Q
 |.item K E=>.tup [.str 45,bv M,.int K,tI E]
 |.most x=>.tup [.str 47,bv M,.int x]
 |.acc I=>.tup [.str 16,bv M,.int I]
 |.ent a N=>.tup [.str 49,bv M,kW a,.none]
 |.ent a (S E)=>.tup [.str 49,bv M,kW a,eN a E]
 |.drop a E g=>.tup [.str 52,bv M,kW a,eN a E,.lst (g.map kW)]
noncomputable def yU(y:Z->Z)(M:Bd):Ad->Prop:=λU=>Gl U\/eT y M U
noncomputable def cv(s:V Sv)(M:Bd):MP:=!M.g&&MX (M.lv<s.length)
noncomputable def jw(el:MP)(b:AH)(h:V Q)(x:Q):AH:=if el then wL b 1 (h++[x]) else b
theorem L5{b:LE}{I:dR}{D:MP}(C:aO f b e a=.ok (.bool D,a))(n:aW f I e a=.ok (.next,e,wL a 1 (m++[w]))):cN f (.ifs b I .nil) e a=.ok (.next,e,jw D a m w):=by
 refine rK.trans ?_;refine(bL C).trans ?_;induction D using RE;·rfl
 ·exact n
noncomputable def jn(x:MP)(h:V Q)(r:Q):V Q:=if x then h++[r] else h
structure Sp(μ:MG)(es:Z->Z)(b:Bd):Prop where
 g:∀z,eT es b z->¬Gl z
 k:∀z,eT es b z->z≠.L μ.ks
theorem GM.jw{x:Q}{el:MP}(C:GM a d g m j)(M:m.length<98):GM (jw el a m x) d g (jn el m x) j/\Fr Gl a (Mine.Lake.jw el a m x):=by
 induction el using RE;·exact⟨C,Fr.refl⟩
 ·exact⟨C.wJ (R RF (Ux M)),Fr.wL (.inr (.inr rfl))⟩
theorem Sp.fr{r:AH}(T:Sp d l b)(x:Fr Gl a r)(w:MB a l b c):MB r l b c:=w.fr x T.g
theorem Sp.gm{r:AH}(T:Sp d l b)(x:Fr (eT l b) a r)(C:GM a d g m j):GM r d g m j:=C.fr x (λP=>T.g _ P (.inl rfl)) (λP=>T.g _ P (.inr (.inl rfl))) (λP=>T.g _ P (.inr (.inr rfl))) λP=>T.k _ P rfl
theorem Co{y:Z->Z}(J:b.k=.row)(w:MB a y b c){l:V MN}:MB (wL a b.a (l.map tI)) y b {c with cw:=l}/\Fr (eT y b) a (wL a b.a (l.map tI)):=by unfold MB eT at *;rw[J] at w;refine R J ?_;exact⟨bW w,Fr.wL rfl⟩
theorem uH(J:b.k=.dict)(w:MB a l b c){c':Ct}(B:c'.en=c.en):MB (wI a b.a (.Dict,ft b c' (l b.num))) l b c'/\Fr (eT l b) a (wI a b.a (.Dict,ft b c' (l b.num))):=by unfold MB eT at *;rw[J] at w;refine R J ?_;exact⟨⟨bW w.1,by refine R B ?_;exact w.2⟩,Fr.wI (.inl rfl)⟩
theorem uI{y:Z->Z}(J:b.k=.dict)(w:MB a y b c){l:V (Z×MN)}:MB (wD a (y b.num) (l.map ent)) y b {c with en:=l}/\Fr (eT y b) a (wD a (y b.num) (l.map ent)):=by unfold MB eT at *;rw[J] at w;refine R J ?_;exact⟨⟨w.1,bW w.2⟩,Fr.wD (.inr rfl)⟩
theorem Em{y:Z->Z}(J:b.k=.text)(w:MB a y b c){l:V MN}:MB (wB a b.a l) y b {c with cw:=l}/\Fr (eT y b) a (wB a b.a l):=by unfold MB eT at *;rw[J] at w;refine R J ?_;exact⟨bW w,Fr.wB rfl⟩
theorem ew(J:b.k=.dict)(w:MB a l b c){A:Z}(D:((gG .Dict A).bind λK=>(ft b c (l b.num))[K]?)=S k):aG f a (bv b) A=.ok (k,a):=by refine aS ?_;unfold MB at w;unfold bv;rw[J] at w;refine R J ?_;exact(oL w.1).trans D
theorem lF{v:Q}(J:b.k=.dict)(w:MB a l b c){f i:Z}(D:gG .Dict f=S i)(d:i<6)(o:Ct)(P:(ft b c (l b.num)).set i v=ft b o (l b.num)):dH a (bv b) f v=S (wI a b.a (.Dict,ft b o (l b.num))):=by unfold MB at w;unfold bv;rw[J] at w;refine R J ?_;refine(oL w.1).trans ((oL D).trans ?_);exact(Nb ⟨d,rfl⟩).trans (R P rfl)
theorem En{m:Z}{i:MN}(v:1<=m)(J:b.k=.text)(w:MB a l b c){p:Z}(s:p<c.cw.length)(G:c.cw.length<1000)(d:0<=i)(h:i<256):aC m (.fn 32) [.aA 0,bv b,.int p,.int i] a=.ok (.none,wB a b.a (c.cw.set p i)):=by
 refine aM (eE v) λg bE n=>R bE ?_;have j:a.B[b.a]? = S c.cw:=by unfold MB at w;replace w:=J▸w;exact w
 have D:bv b=.obj .Text [.int b.num,.eO b.a,.bool b.g,.int b.lv]:=by unfold bv;rw[J]
 have I:∀e,aG e a (bv b) 4=.ok (.eO b.a,a):=λe=>aS (R D rfl);have t:dm a (.eO b.a) (.int p) (.int i)=S (wB a b.a (c.cw.set p i)):=by refine(oL j).trans ?_;refine(Nb ⟨by exact RQ _,by exact RU.mpr s,d,h,Nn G⟩).trans ?_;rfl
 refine(aN (f:=HZ) [S (.aA 0),S (bv b),S (.int p),S (.int i)] rfl rfl).trans ?_;delta HZ;walk_at "ev"
theorem Eo{h:V Q}{m:Z}{i:MN}(C:GM a d g h j)(M:h.length<98)(T:Sp d l b)(o:3<=m)(J:b.k=.dict)(w:MB a l b c)(z:i<=c.acc):∃r,aC m (.fn 37) [.aA 0,bv b,.int i] a=.ok (.none,r)/\
  GM r d g (jn (cv g b) h (aV b (.acc c.acc))) j/\MB r l b {c with acc:=i}/\Fr (yU l b) a r:=by refine hF λy=>aM (eE o) λI cj n=>?_;clear o;subst cj;refine fK (gN w) λb1 b2 b3=>?_;have X:=mE C n b1 b2;have K:aK a (.aA 0) 42=S (.own 28):=C.rc rfl;have A:∀e,aG e a (bv b) 16=.ok (.int c.acc,a):=λe=>ew J w rfl;have L:∀e,aG e a (.aA 0) 43=.ok (.aE 1,a):=λe=>C.at rfl;have H:=NH (TU.mpr z);have t:=fI (x:=aV b (.acc c.acc)) C.j (n1 M rfl);refine bK (C.jw (el:=cv g b) (x:=aV b (.acc c.acc)) M) λG p=>?_;have B:=T.fr p w;have E:=lF J B (f:=16) (i:=4) (v:=.int i) rfl (by decide) {c with acc:=i} rfl;refine bK (uH J B (c':={c with acc:=i}) rfl) λk s=>y (zz _ ?_ (T.gm s G) k ((p.mono λY=>.inl).trans (s.mono λY=>.inr)));have D:aK a (.aE 1) 44=S .bI:=rfl;refine(aN (f:=H9) [S (.aA 0),S (bv b),S (.int i)] rfl rfl).trans ?_;delta H9;walk_at "ev"
theorem Ep{h:V Q}{m:Z}{i:MN}(C:GM a d g h j)(M:h.length<98)(T:Sp d l b)(v:6<=m)(J:b.k=.row)(w:MB a l b c){p:Z}(s:p<c.cw.length)(G:c.cw.length<1000)(x:∀m,3<=m->∀a,aC m (.fn 13) [tI i] a=.ok (.bool MT,a)):∃r z,c.cw[p]? = S z/\aC m (.fn 30) [.aA 0,bv b,.int p,tI i] a=.ok (.none,r)/\
  GM r d g (jn (cv g b) h (aV b (.item p z))) j/\MB r l b {c with cw:=c.cw.set p i}/\Fr (yU l b) a r:=by
 refine hF λE=>aM (eE v) λa5 du n=>?_;clear v;subst du;refine aM (eE n) λH dV U=>?_;clear n;subst dV;refine fK (gN w) λb1 b2 b3=>?_;have X:=mE C (m:=H) (n4 U rfl) b1 b2;have I:=p8 (m:=H) (H:=a) (y:=tI i) U b1 (l:=false) λm a3=>x m a3 a;have K:aK a (.aA 0) 42=S (.own 28):=C.rc rfl;have r3:aK a (.aA 0) 46=S (.own 29):=C.rc rfl;have r4:aK a (.aA 0) 41=S (.own 31):=C.rc rfl;have D:bv b=.obj .Row [.int b.num,.aE b.a,.bool b.g,.int b.lv]:=by unfold bv;rw[J]
 have A:∀e a,aG e a (bv b) 6=.ok (.aE b.a,a):=λe a=>aS (R D rfl);have a2:∀e,aG e a (.aA 0) 43=.ok (.aE 1,a):=λe=>C.at rfl;have M':a.L[b.a]? = S (c.cw.map tI):=by unfold MB at w;rw[J] at w;exact w
 have q1:aR a (.aE b.a) (.int p)=S (tI c.cw[p]):=by show(a.L[b.a]?).bind _=_;rw[M'];show(place p (c.cw.map tI).length).bind _=_;unfold place;rw[Nb (RQ _),Nb (by rw[Rz];exact⟨RU.mpr s,S6.mpr (qi (RO s G) rfl)⟩)];show(c.cw.map tI)[p]? = _;rw[RK,RB s];rfl
 have t:=fI (x:=aV b (.item p c.cw[p])) C.j (n1 M rfl);refine bK (C.jw (el:=cv g b) (x:=aV b (.item p c.cw[p])) M) λG1 L=>?_;have B:=T.fr L w;refine bK (Co J B (l:=c.cw.set p i)) λk F2=>?_;have s1:dm (jw (cv g b) a h (aV b (.item p c.cw[p]))) (.aE b.a) (.int p) (tI i)=S (wL (jw (cv g b) a h (aV b (.item p c.cw[p]))) b.a ((c.cw.set p i).map tI)):=by
  have o:(jw (cv g b) a h (aV b (.item p c.cw[p]))).L[b.a]? = S (c.cw.map tI):=by unfold MB at B;rw[J] at B;exact B
  show((jw _ a h _).L[b.a]?).bind _=_;rw[o];show(if 0<=(p:MN)/\(p:MN)<((c.cw.map tI).length:MN)/\sm (c.cw.map tI).length=ML then _ else N)=_;rw[Nb ⟨by exact RQ _,by rw[Rz];exact RU.mpr s,by rw[Rz];exact Nn G⟩,VN];rfl
 refine E (E9 _ (c.cw[p]) (RB s) ?_ (T.gm F2 G1) k ((L.mono λY=>.inl).trans (F2.mono λY=>.inr)));have r2:aK a (.aE 1) 44=S .bI:=rfl;have q2:srcOf a (.lst [tI i])=S (.dS [tI i],1):=rfl;rw[aN (f:=Fq) [S (.aA 0),S (bv b),S (.int p),S (tI i)] rfl rfl];delta Fq;have a6:aC (H+1) (.fn 31) [.aA 0,bv b,.int p,.lst [tI i]] a=.ok (.none,wL (jw (cv g b) a h (aV b (.item p c.cw[p]))) b.a ((c.cw.set p i).map tI)):=by rw[aN (f:=Fs) [S (.aA 0),S (bv b),S (.int p),S (.lst [tI i]),N,N] rfl rfl];delta Fs;have a7:=λe=>A e a;have a4:=λe=>A e (jw (cv g b) a h (aV b (.item p c.cw[p])));have P:bY .add (.int p) (.int (0:Z))=S (.int p):=Nc (λa0=>S (Q.int a0)) (MN.add_zero _);replace I:=I.trans (Nf (λq=>RX ((UO _).symm.trans q)));walk_at "ev"
 walk_at "ev"
theorem qa{T:V (Z×q)}:(ow h T).isSome=(cn h T).isSome:=by
 induction B:ow h T using Ry with
 |none=>refine R (lD.mp B) ?_;rfl
 |some K=>induction G:cn h T using Ry with
  |none=>exact nX ((lD.mpr G)▸B)
  |some z=>rfl
theorem dM(J:b.k=.dict)(w:MB a l b c):a.D[l b.num]? = S (c.en.map ent):=by unfold MB at w;replace w:=J▸w;exact w.2
theorem qb{w:Z}{D:Z}(B:a.D[D]? = S (c.en.map ent)):cq a .in (kW w) (.ab D)=S (cn w c.en).isSome/\cq a .qn (kW w) (.ab D)=S (!(cn w c.en).isSome):=by
 have:E6 a (kW w) (.ab D)=S (cn w c.en).isSome:=by refine(oL B).trans ?_;show(eG (kW w) (c.en.map ent)).map (·.isSome)=_;exact R (gb kK rfl) (R qa.symm rfl)
 exact⟨this,by show(E6 a (kW w) (.ab D)).map _=_;refine R this ?_;rfl⟩
theorem qc{w:Z}{D:Z}{c:Ct}{z:MN}(B:a.D[D]? = S (c.en.map ent))(o:cn w c.en=S z):aR a (.ab D) (kW w)=S (eN w z):=by refine rn B ?_;exact(oL (gB kK rfl)).trans (R o rfl)
theorem qd{w:Z}{D:Z}{c:Ct}{i:MN}(B:a.D[D]? = S (c.en.map ent))(l:c.en.length<1000):dm a (.ab D) (kW w) (eN w i)=S (wD a D ((eu w i c.en).map ent)):=by refine(oL B).trans ?_;show(mS (c.en.map ent) (kW w) (eN w i)).map _=_;exact R (uC kK rfl l) rfl
theorem uJ{D:Z}{z:MN}(B:a.D[D]? = S (c.en.map ent))(o:cn h c.en=S z)(l:c.en.length<1000):gH a (.ab D) 51 [kW h]=S (eN h z,wD a D ((iX h c.en).map ent)):=by refine(oL B).trans ?_;refine(Nb (by refine R (Rz ..) ?_;exact Nn l)).trans ?_;refine R (gB kK rfl) (R o ?_);refine R (uD kK rfl (by refine R o ?_;rfl)) ?_;rfl
theorem Bj{w:Z}{D:Z}(B:a.D[D]? = S (c.en.map ent)):gH a (.ab D) 48 [kW w]=S (((cn w c.en).map (eN w)).getD .none,a):=by refine(oL B).trans ?_;show(cW (c.en.map ent) (kW w)).map _=_;exact R (gB kK rfl) rfl
theorem yV{D:Z}(B:a.D[D]? = S (c.en.map ent))(l:c.en.length<1000):bA a .list [.ab D]=S (.lst ((c.en.map (·.1)).map kW),a):=by refine(oL B).trans ?_;refine(Nb (by refine R (Rz ..) ?_;exact Nn l)).trans ?_;exact R SX (R SX rfl)
theorem Bk{D:Z}(B:a.D[D]? = S (c.en.map ent))(l:c.en.length<1000):bA a .len [.ab D]=S (.int c.en.length,a):=by refine(oL B).trans ?_;refine(Nb (by refine R (Rz ..) ?_;exact Nn l)).trans ?_;refine R (Rz ..) rfl
theorem Er{m:Z}(v:3<=m)(J:b.k=.dict)(w:MB a l b c)(n:cn h c.en=N):aC m (.fn 36) [.aA 0,bv b,tN h] a=.ok (.none,a):=by refine aM (eE v) λg bE d=>R bE ?_;have X:=sW (H:=a) (w:=h) d;have A:∀e,aG e a (bv b) 0=.ok (.ab (l b.num),a):=λe=>ew J w rfl;have y:=(qb (w:=h) (dM J w)).1;rw[n] at y;refine(aN (f:=Ft) [S (.aA 0),S (bv b),S (tN h),N] rfl rfl).trans ?_;delta Ft;walk_at "ev"
theorem Et{o:V Q}{m:Z}(C:GM a d g o j)(M:o.length<98)(T:Sp d l b)(v:3<=m)(J:b.k=.dict)(w:MB a l b c){z:MN}(G:cn h c.en=S z)(I:c.en.length<1000):∃r,aC m (.fn 36) [.aA 0,bv b,tN h] a=.ok (.none,r)/\
  GM r d g (jn (cv g b) o (aV b (.drop h z (c.en.map (·.1))))) j/\MB r l b {c with en:=iX h c.en}/\Fr (yU l b) a r:=by refine hF λE=>aM (eE v) λU cj n=>?_;clear v;subst cj;refine fK (gN w) λb1 b2 b3=>?_;have i:=mE C n b1 b2;have X:=sW (H:=a) (w:=h) n;have K:aK a (.aA 0) 42=S (.own 28):=C.rc rfl;have A:∀e,aG e a (bv b) 0=.ok (.ab (l b.num),a):=λe=>ew J w rfl;have a2:∀e,aG e a (.aA 0) 43=.ok (.aE 1,a):=λe=>C.at rfl;have y:=(qb (w:=h) (dM J w)).1;rw[G] at y;have q2:=qc (dM J w) G;have q3:=yV (dM J w) I;have t:=fI (x:=aV b (.drop h z (c.en.map (·.1)))) C.j (n1 M rfl);refine bK (C.jw (el:=cv g b) (x:=aV b (.drop h z (c.en.map (·.1)))) M) λP p=>?_;have B:=T.fr p w;have L:∀e,aG e (jw (cv g b) a o (aV b (.drop h z (c.en.map (·.1))))) (bv b) 0=.ok (.ab (l b.num),(jw (cv g b) a o (aV b (.drop h z (c.en.map (·.1)))))):=λe=>ew J B rfl;have s:=uJ (dM J B) G I;refine bK (uI J B (l:=iX h c.en)) λk D=>E (zz _ ?_ (T.gm D P) k ((p.mono λY=>.inl).trans (D.mono λY=>.inr)));have r2:aK a (.aE 1) 44=S .bI:=rfl;have H:∀a,aK a (.ab (l b.num)) 51=S .bI:=λY=>rfl;refine(aN (f:=Ft) [S (.aA 0),S (bv b),S (tN h),N] rfl rfl).trans ?_;delta Ft;walk_at "ev"
theorem Eu{h:V Q}{m:Z}{a0:MN}(C:GM a d g h j)(M:h.length<98)(b9:Sp d l b)(hm:3<=m)(J:b.k=.dict)(w:MB a l b c)(h2:c.most=2)(E:cn b.num j=S (a0,b.g,b.lv))(d0:d.u+d.ug+96<=16777216) :
  ∃r,aC m (.fn 34) [.aA 0,bv b] a=.ok (.none,r)/\
  GM r {d with u:=if b.g then d.u else d.u+96,ug:=if b.g then d.ug+96 else d.ug} g (jn (cv g b) h (aV b (.most 2))) (eu b.num (a0+96,b.g,b.lv) j)/\MB r l b {c with most:=8}/\Fr (yU l b) a r:=by
 refine hF λd7=>aM (eE hm) λc9 du n=>?_;clear hm;subst du;refine fK (gN w) λb1 b2 b3=>?_;have r1:aK a (.aA 0) 32=S (.own 23):=C.rc rfl;have A:∀e,aG e a (bv b) 47=.ok (.int 2,a):=λe=>ew J w (by rw[<-h2];rfl);have a2:∀e,aG e a (.aA 0) 33=.ok (iZ,a):=λe=>C.at rfl;have a3:∀e,aG e a iZ 0=.ok (.int 65535,a):=λe=>aS rfl;have a4:∀e,aG e a (bv b) 23=.ok (.int b.num,a):=λe=>aS b3;have a5:∀e,aG e a (.aA 0) 30=.ok (.ab 0,a):=λe=>C.at rfl;have t:∀e,aG e a (bv b) 15=.ok (.bool b.g,a):=λe=>aS b1;have a7:∀e,aG e a (bv b) 26=.ok (.int b.lv,a):=λe=>aS b2;have c1:bY .mul (.int 2) (.int 2)=S (.int 4):=rfl;have c2:bA a .max [.int 4,.int 8]=S (.int 8,a):=rfl;have c3:bA a .min [.int 8,.int 65535]=S (.int 8,a):=rfl;have c4:MX ((8:MN)<=2)=MT:=rfl;have c5:bY .mul (.int 16) (.int (8 - 2))=S (.int 96):=rfl;have e1:=yS (m:=c9) C (n4 n rfl) d0;have c6:cq a .in (.int b.num) (.ab 0)=S ML:=by show(a.D[0]?).bind _=_;rw[C.m];show(eG (kI b.num) (j.map lE)).map (·.isSome)=_;rw[gb mF rfl];show S ((ow b.num j).isSome)=_;rw[qa,E];rfl
 have c7:aR a (.ab 0) (.int b.num)=S (.tup [.int a0,.bool b.g,.int b.lv]):=by refine rn C.m ?_;show(cW (j.map lE) (kI b.num)).bind id=_;rw[gB mF rfl,E];rfl
 have c8:aR a (.tup [.int a0,.bool b.g,.int b.lv]) (.int 0)=S (.int a0):=rfl;have s1:=ta C.m (k:=b.num) (i:=a0+96) (g:=b.g) (l:=b.lv) (by have:=C.ml;exact n1 this rfl);have ml:(eu b.num (a0+96,b.g,b.lv) j).length=j.length:=pY (by rw[E];rfl);have G:=C.wD (md':=eu b.num (a0+96,b.g,b.lv) j) (by rw[ml];exact C.ml);have p:Fr Gl a (wD a 0 ((eu b.num (a0+96,b.g,b.lv) j).map lE)):=Fr.wD (.inr (.inl rfl));have B:=b9.fr p w;generalize wD a 0 ((eu b.num (a0+96,b.g,b.lv) j).map lE)=z at s1 G p B;refine fK (gN B) λd1 y d3=>?_;have a8:∀e,aG e z (bv b) 15=.ok (.bool b.g,z):=λe=>aS d1;have a9:∀e,aG e z (.aA 0) 28=.ok (.int d.ug,z):=λe=>G.at rfl;have K:∀e,aG e z (.aA 0) 29=.ok (.int d.u,z):=λe=>G.at rfl;obtain⟨H,U,s3,s,e2⟩:∃H U:MN,dH z (.aA 0) (if b.g then 28 else 29) (if b.g then .int (d.ug+96) else .int (d.u+96))=S (wI z 0 (.Mem,cm {d with u:=H,ug:=U}))/\(if b.g then d.u else d.u+96)=H/\(if b.g then d.ug+96 else d.ug)=U:=by
  induction b.g using RE;·exact qq (d.u+96) d.ug (G.dH rfl (by decide) _ rfl) rfl rfl
  ·exact qq d.u (d.ug+96) (G.dH rfl (by decide) _ rfl) rfl rfl
 refine d7 ?_;rw[s,e2];have D:=G.wI (Bg:={d with u:=H,ug:=U}) rfl;have F2:Fr Gl z (wI z 0 (.Mem,cm {d with u:=H,ug:=U})):=Fr.wI (.inl rfl);have M2:=b9.fr F2 B;generalize wI z 0 (.Mem,cm {d with u:=H,ug:=U})=I at s3 F2 D M2;refine fK (gN M2) λd4 d5 d6=>?_;have e4:=mE D n d4 d5;have r4:aK I (.aA 0) 42=S (.own 28):=D.rc rfl;have e0:∀e,aG e I (.aA 0) 43=.ok (.aE 1,I):=λe=>D.at rfl;have d9:∀e,aG e I (bv b) 47=.ok (.int 2,I):=λe=>ew J M2 (by rw[<-h2];rfl);have m1:=fI (x:=aV b (.most 2)) D.j (n1 M rfl);refine bK (D.jw (el:=cv g b) (x:=aV b (.most 2)) M) λG3 F3=>?_;have o:=b9.fr F3 M2;have X:=lF J o (f:=47) (i:=1) (v:=.int 8) rfl (by decide) {c with most:=8} rfl;refine bK (uH J o (c':={c with most:=8}) rfl) λM4 L=>?_;have S':Sp {d with u:=H,ug:=U} l b:=⟨b9.g,b9.k⟩;have G4:=S'.gm L G3;refine zz _ ?_ G4 M4 ((((p.trans F2).trans F3).mono λY=>.inl).trans (L.mono λY=>.inr));have r2:aK I (.aE 1) 44=S .bI:=rfl;rw[aN (f:=E7) [S (.aA 0),S (bv b),N,N,N] rfl rfl];delta E7;change aC c9 _ _ _=.ok (.bool (cv g b),I) at e4;clear C G D G3 G4 w B M2 o M4 p F2 F3 L b9 S' b1 b2 b3 J d1 y d3 d4 d5 d6 s e2 E ml h2 d0;have ch:∀T:Loc,T=((([S (.aA 0),S (bv b),N,N,N].set 2 (S (.int 8))).set 3 (S (.int 96))).set 4 (S (.int a0)))->cN (aC c9) (aH E7.body 6) T z=.ok (.next,T,I):=by intro T hl;have P:T[0]? = S (S (.aA 0)):=hl▸rfl;have v1:T[1]? = S (S (bv b)):=hl▸rfl;have v3:T[3]? = S (S (.int 96)):=hl▸rfl;dsimp only[E7,aH];generalize b.g=d8 at *;induction d8 using RE<;>simp only[PG,Oj,SU] at s3<;>walk_at "ev"
 replace ch:=ch _ rfl;dsimp only[E7,aH] at ch;walk_at "ev"
noncomputable def ro:V LS->dR->dR
 |[],M=>M
 |t :: y,M=>.cons t (ro y M)
theorem tc{M:dR}{v:Loc}{r:AH}:∀{xs:V LS} {T:Loc} {b:AH},aW f (ro xs .nil) T b=.ok (.next,v,r)->aW f (ro xs M) T b=aW f M v r:=by
 intro xs;induction xs with
 |nil=>intro T b B;have B:=B;cases B;rfl
 |cons t y a=>
  intro T b B
  replace B:=fc.symm.trans B
  refine fc.trans ?_
  induction D:cN f t T b using Wn with
  |ok L=>
   rw[D] at B
   obtain⟨A,l2,I⟩:=L
   induction A using Fl.casesOn with
   |next=>exact a B
   |ret E=>cases B
  |exc n b=>replace B:=D▸B;cases B
  |bad=>replace B:=D▸B;cases B
theorem Ew{J:V Q}{x:Q}{el:MP}:(jn el J x).length<=J.length+1:=by
 unfold jn;split;·exact R RF (Sd _)
 ·exact So _
theorem uK{n:Z}{w:Z}{i:MN}(C:GM a d g m j)(M:m.length<98)(T:Sp d l b)(v:2<=n)(J:b.k=.dict)(D:MB a l b c)(X:c.en.length<999):∃r,aW (aC n) (.cons (aH mT.body 4) (.cons (aH mT.body 5) (.cons (aH mT.body 6) .nil))) [S (.aA 0),S (bv b),S (tN w),S (tI i),S (kW w),N] a=.ok (.next,[S (.aA 0),S (bv b),S (tN w),S (tI i),S (kW w),S (tN w)],r)/\
  GM r d g (jn (cv g b) m (aV b (.ent w (cn w c.en)))) j/\MB r l b {c with en:=eu w i c.en}/\Fr (yU l b) a r:=by
 refine fK (gN D) λb1 b2 b3=>?_;have e0:=mE C v b1 b2;have K:aK a (.aA 0) 42=S (.own 28):=C.rc rfl;have A:∀e,aG e a (bv b) 0=.ok (.ab (l b.num),a):=λe=>ew J D rfl;have h:∀e,aG e a (.aA 0) 43=.ok (.aE 1,a):=λe=>C.at rfl;have y:=Bj (w:=w) (dM J D);have t:=fI (x:=aV b (.ent w (cn w c.en))) C.j (n1 M rfl);refine bK (C.jw (el:=cv g b) (x:=aV b (.ent w (cn w c.en))) M) λG p=>?_;have B:=T.fr p D;have L:∀e,aG e (jw (cv g b) a m (aV b (.ent w (cn w c.en)))) (bv b) 0=.ok (.ab (l b.num),(jw (cv g b) a m (aV b (.ent w (cn w c.en))))):=λe=>ew J B rfl;have q:=(qb (w:=w) (dM J B)).1;have I:∀z,cn w c.en=S z->aR (jw (cv g b) a m (aV b (.ent w (cn w c.en)))) (.ab (l b.num)) (kW w)=S (eN w z):=λz U=>qc (dM J B) U;have s:=qd (w:=w) (i:=i) (dM J B) (n1 X rfl);have E:=yR (m:=n) (H:=jw (cv g b) a m (aV b (.ent w (cn w c.en)))) (w:=w) (n4 v rfl);have q6:∀z a,aR a (eN w z) (.int 0)=S (tN w):=λY Y=>rfl;have P:Q.tup [tN w,tI i]=eN w i:=rfl;refine bK (uI J B (l:=eu w i c.en)) λk f=>zz _ ?_ (T.gm f G) k ((p.mono λY=>.inl).trans (f.mono λY=>.inr));have r2:aK a (.aE 1) 44=S .bI:=rfl;have H:∀a,aK a (.ab (l b.num)) 48=S .bI:=λY=>rfl;dsimp only[mT,aH];induction o:cn w c.en using Ry with
 |none=>rw[o] at y t L q s E;walk_at "ev"
 |some z=>
  have I:=I z o
  rw[o] at y t L q I s
  walk_at "ev"
noncomputable def wh(a:Z)(C:Ct):MP:=!(cn a C.en).isSome&&MX (C.most<=C.en.length)
noncomputable def Jf(o:MP)(M:Bd)(a:MG):MG:=if o then{a with u:=if M.g then a.u else a.u+96,ug:=if M.g then a.ug+96 else a.ug} else a
theorem Ex{h:V Q}{m:Z}{w:Z}{i:MN}{a0:MN}(C:GM a d g h j)(M:h.length<97)(T:Sp d l b)(v:6<=m)(J:b.k=.dict)(U:MB a l b c)(hl:c.en.length<999)(h2:wh w c=ML->c.most=2)(E:cn b.num j=S (a0,b.g,b.lv))(B:d.u+d.ug+96<=16777216) :
  ∃r,aC m (.fn 35) [.aA 0,bv b,tN w,tI i] a=.ok (.none,r)/\
  GM r (Jf (wh w c) b d) g (jn (cv g b) (if wh w c then jn (cv g b) h (aV b (.most 2)) else h) (aV b (.ent w (cn w c.en)))) (if wh w c then eu b.num (a0+96,b.g,b.lv) j else j)/\MB r l b {c with en:=eu w i c.en,most:=if wh w c then 8 else c.most}/\Fr (yU l b) a r:=by
 refine aM (eE v) λL bE n=>?_;subst bE;refine fK (gN U) λb1 b2 b3=>?_;have e1:=sW (m:=L) (H:=a) (w:=w) (n4 n rfl);have e2:=p8 (m:=L) (H:=a) (y:=tI i) (n4 n rfl) b1 (l:=false) λm B=>sY B;have s:=p8 (m:=L) (H:=a) (y:=tN w) (n4 n rfl) b1 (l:=false) λm B=>Eh B;rw[UO,Nf (by decide)] at e2 s;have Y:=yR (m:=L) (H:=a) (w:=w) (n4 n rfl);have K:aK a (.aA 0) 46=S (.own 29):=C.rc rfl;have r2:aK a (.aA 0) 50=S (.own 34):=C.rc rfl;have A:∀e,aG e a (bv b) 0=.ok (.ab (l b.num),a):=λe=>ew J U rfl;have a2:∀e,aG e a (bv b) 47=.ok (.int c.most,a):=λe=>ew J U rfl;have q1:=(qb (w:=w) (dM J U)).2;have q2:=Bk (dM J U) (n1 hl rfl);have go:∀z,aW (aC L) (.cons (aH mT.body 0) (.cons (aH mT.body 1) (.cons (aH mT.body 2) (.cons (aH mT.body 3) .nil)))) [S (.aA 0),S (bv b),S (tN w),S (tI i),N,N] a=.ok (.next,[S (.aA 0),S (bv b),S (tN w),S (tI i),S (kW w),N],z)->
   ∀I,aW (aC L) (.cons (aH mT.body 4) (.cons (aH mT.body 5) (.cons (aH mT.body 6) .nil))) [S (.aA 0),S (bv b),S (tN w),S (tI i),S (kW w),N] z=.ok (.next,[S (.aA 0),S (bv b),S (tN w),S (tI i),S (kW w),S (tN w)],I)->aC (L+1) (.fn 35) [.aA 0,bv b,tN w,tI i] a=.ok (.none,I):=λz p I h2=>by
  change (aW (aC L) (ro [aH mT.body 0,aH mT.body 1,aH mT.body 2,aH mT.body 3] (.cons (aH mT.body 4) (.cons (aH mT.body 5) (.cons (aH mT.body 6) .nil)))) _ a).bind _=_
  exact R (tc p) (R h2 rfl)
 induction o:wh w c using RE with
 |false=>
  refine wF (uK (n:=L) (w:=w) (i:=i) C (n1 M rfl) T (n4 n rfl) J U hl) λI X x2 G x4=>?_;refine zz I (go a ?_ I X) x2 G x4;dsimp only[mT,aH];unfold wh at o;refine v9 ((cn w c.en).isSome) (λP=>?_) (λP=>?_)<;>rw[P] at o q1;·rw[Wc,MP.true_and] at o;walk_at "ev"
  ·walk_at "ev"
 |true=>refine wF (Eu (m:=L) C (n1 M rfl) T (n4 n rfl) J U (h2 o) E B) λz H y2 D y4=>?_;have f:Sp {d with u:=if b.g then d.u else d.u+96,ug:=if b.g then d.ug+96 else d.ug} l b:=⟨T.g,T.k⟩;refine wF (uK (n:=L) (w:=w) (i:=i) y2 (by have:=Ew (el:=cv g b) (J:=h) (x:=aV b (.most 2));exact n2 (RH this M) rfl) f (n4 n rfl) J D hl) λI X x2 G x4=>?_;refine zz I (go z ?_ I X) x2 G (y4.trans x4);dsimp only[mT,aH];refine bK (RT.mp o) λt k=>?_;walk_at "ev"
noncomputable def fv(L:MN):V Sv->O Z
 |[]=>N
 |t :: y=>if(t.num:MN)=L then S 0 else(fv L y).map (· + 1)
theorem Ey{L:MN}{t:Sv}{y:V Sv}:fv L (t :: y)=if(t.num:MN)=L then S 0 else(fv L y).map (· + 1):=rfl
noncomputable def td:O Z->Q|none=>.none|some P=>.int P
theorem qe{cf:CF}{i x:Z}{e:LE}{M:dR}{l:Loc}{H H1:AH}{v:Q}{t:Src}{R:Res (Fl×Loc×AH)}(p:aO cf e l H=.ok (v,H1))(G:srcOf H1 v=S (t,o))(T:bZ (λa v l H=>aW cf M ((l.set i (S (.int a))).set x (S v)) H) t (o+1) 0 l H1=R):cN cf (.iM i x e M) l H=R:=by refine(bL p).trans ?_;dsimp only[Res.bind];rw[G];exact T
theorem ik{cf:CF}{x:Z}{e:LE}{M:dR}{l:Loc}{H1:AH}{v:Q}{t:Src}{R:Res (Fl×Loc×AH)}(p:aO cf e l a=.ok (v,H1))(G:srcOf H1 v=S (t,o))(T:bZ (λY v l a=>aW cf M (l.set x (S v)) a) t (o+1) 0 l H1=R):cN cf (.di x e M) l a=R:=by refine(bL p).trans ?_;dsimp only[Res.bind];rw[G];exact T
theorem aX{s:LS}{y:dR}{l':Loc}{H':AH}(B:cN f s e a=.ok (.next,l',H')):aW f (.cons s y) e a=aW f y l' H':=by exact fc.trans ((bL B).trans rfl)
theorem yW{t:LS}{y:dR}{v:Loc}{r:AH}(B:cN f t e a=.ok (.ret k,v,r)):aW f (.cons t y) e a=.ok (.ret k,v,r):=by exact fc.trans ((bL B).trans rfl)
theorem yX{x I:Z}{l:Loc}{v:Q}(B:l[x]? = S (S v))(G:aG f a v I=.ok (t,a)):aO f (.attr (.var x) I) l a=.ok (t,a):=by refine hV.trans ((bL iN).trans (R B ?_));exact G
theorem yY{cf:CF}{h:Z}{q:MN}(s:a.L[h]? = S (g.map eC)):∀(y:V Sv) (K:Z) (I M:O Q),g.drop K=y->∃v,bZ (λH E T a=>aW cf (.cons (.ifs (.cmp .eq (.attr (.var 3) 23) (.var 1)) (.cons (.ret (.var 2)) .nil) .nil) .nil) ((T.set 2 (S (.int H))).set 3 (S E)) a) (.lI h) (y.length+1) K [S (.aA 0),S (.int q),I,M] a =
  .ok ((match fv q y with|some P=>.ret (.int (K+P:Z))|none=>.next),v,a):=by
 intro y;induction y with
 |nil=>
  intro K I M B;refine⟨[S (.aA 0),S (.int q),I,M],?_⟩;refine Hn.trans ?_;have D:Src.at (.lI h) K a=S N:=by show(a.L[h]?).map _=_;refine R s ?_;show S ((g.map eC)[K]?)=_;refine R RK ?_;exact R (Cj B) rfl
  exact R D rfl
 |cons t y f=>
  intro K I M B;have D:Src.at (.lI h) K a=S (S (eC t)):=by show(a.L[h]?).map _=_;refine R s ?_;show S ((g.map eC)[K]?)=_;refine R RK ?_;exact R (Ck B) rfl
  have A:∀cf,aG cf a (eC t) 23=.ok (.int t.num,a):=λcf=>aS rfl;refine R Ey ?_;by_cases o:(t.num:MN)=q
  ·have G:=Nn o;refine R (Nb o) ⟨[S (.aA 0),S (.int q),S (.int K),S (eC t)],?_⟩;apply wg D;·walk_at "z1"
   ·exact LN
  ·have G:=NH o
   refine R (Nf o) (dD (f (K+1) (S (.int K)) (S (eC t)) (Cm B)) λv d=>⟨v,?_⟩)
   refine(wg D (X:=.ok (.next,[S (.aA 0),S (.int q),S (.int K),S (eC t)],a)) (by show aW cf _ [S (.aA 0),S (.int q),S (.int K),S (eC t)] a=_;walk_at "ev") (yL d)).trans ?_
   cases fv q y with
   |none=>rfl
   |some P=>show Res.ok (Fl.ret (.int ((K+1+P:Z):MN)),v,a)=.ok (Fl.ret (.int ((K+(P+1):Z):MN)),v,a);refine R (show K+1+P=K+(P+1) by exact TV ..) rfl
theorem te{o:V Q}{m:Z}{q:MN}(C:GM a d g o j)(v:1<=m):aC m (.fn 39) [.aA 0,.int q] a=.ok (td (fv q g),a):=by
 refine aM (eE v) λc bE n=>R bE ?_;have h:srcOf a (.aE d.ks)=S (.lI d.ks,g.length):=by refine(oL C.s).trans ?_;refine(Nb (by refine R (Rz ..) ?_;exact Nn (by have:=C.sl;exact n1 this rfl))).trans ?_;rw[Rz]
 refine dD (yY (cf:=aC c) (q:=q) C.s g 0 N N rfl) λk D=>?_;have b:=qe (i:=2) (x:=3) (yX (x:=0) (l:=[S (.aA 0),S (.int q),N,N]) rfl ((show∀e,aG e a (.aA 0) 25=.ok (.aE d.ks,a) from λe=>C.at rfl) _)) h D;refine(aN (f:=Jv) [S (.aA 0),S (.int q),N,N] rfl rfl).trans ?_;induction B:fv q g using Ry with
 |none=>rw[B] at b;exact(bL (aX b)).trans rfl
 |some P=>rw[B] at b;dsimp only at b;rw[T5] at b;exact(bL (yW b)).trans rfl
theorem tf{h:V Q}{m:Z}{q:MN}(C:GM a d g h j)(v:2<=m):aC m (.fn 42) [.aA 0,.int q] a=match fv q g with|some P=>.ok (.int P,a)|none=>.exc (.bw [105,110,118,97,108,105,100,114,101,115,116,111,114,101]) a:=by
 refine aM (eE v) λb cj n=>R cj ?_;have K:aK a (.aA 0) 54=S (.own 39):=C.rc rfl;have D:=te (q:=q) C n;refine(aN (f:=Ic) [S (.aA 0),S (.int q),N] rfl rfl).trans ?_;delta Ic;induction B:fv q g using Ry with
 |none=>replace D:=B▸D;clear B;have i1:isNone .none=S ML:=rfl;walk_at "ev"
 |some P=>rw[B] at D;clear B;have i1:isNone (.int P)=S MT:=rfl;walk_at "ev"
theorem Ez{h:V Q}{m:Z}{q:MN}(C:GM a d g h j)(v:2<=m):aC m (.fn 40) [.aA 0,.int q] a=.ok (.bool (fv q g).isSome,a):=by
 refine aM (eE v) λb du n=>R du ?_;have K:aK a (.aA 0) 54=S (.own 39):=C.rc rfl;have D:=te (q:=q) C n;refine(aN (f:=Ib) [S (.aA 0),S (.int q)] rfl rfl).trans ?_;delta Ib;induction B:fv q g using Ry with
 |none=>replace D:=B▸D;clear B;have i1:isNone .none=S ML:=rfl;walk_at "ev"
 |some P=>rw[B] at D;clear B;have i1:isNone (.int P)=S MT:=rfl;walk_at "ev"
theorem EA{p:V Q}{m:Z}{c':Ct}{q:MN}(C:GM a d g p j)(v:4<=m)(w:MB a l b c){P:Z}(s:fv q g=S P):aC m (.fn 43) [.aA 0,.int q,dB b c'] a=.ok (.bool (!b.g&&MX (P<b.lv)),a):=by
 refine aM (eE v) λi dV n=>R dV (fK (gN w) λb1 b2 b3=>?_);have X:=rk (m:=i) (b:=b) (c:=c') (H:=a) (n4 n rfl);have k:=tf (q:=q) (m:=i) C (n4 n rfl);rw[s] at k;have K:aK a (.aA 0) 55=S (.own 42):=C.rc rfl;have A:∀e,aG e a (dB b c') 9=.ok (.str (match b.k with|.row=>7|.text=>5|.dict=>8),a):=λe=>aS (by unfold dB;induction b.k using Wo<;>rfl);have k1:((match b.k with|.row=>7|.text=>5|.dict=>8:Z)==21)=MT:=by induction b.k using Wo<;>rfl
 have h:∀e,aG e a (bv b) 15=.ok (.bool b.g,a):=λe=>aS b1;have L:∀e,aG e a (bv b) 26=.ok (.int b.lv,a):=λe=>aS b2;have i1:=@uE b;have H:cq a .gt (.int b.lv) (.int P)=S (MX (P<b.lv)):=Nc S (Pw.mpr RU);refine(aN (f:=Ie) [S (.aA 0),S (.int q),S (dB b c'),N,N,N,N,N] rfl rfl).trans ?_;delta Ie;clear C w b1 b2 b3 s;generalize (match b.k with|.row=>7|.text=>5|.dict=>8:Z)=z at *;generalize b.g=o at *;induction o using RE<;>walk_at "ev"
theorem EB{b:V Q}{m:Z}(C:GM a d g b j)(v:2<=m):aC m (.fn 46) [.aA 0] a=.ok (.tup [.int g.length,.int (d.u+d.ug),.int 16777216],a):=by refine aM (eE v) λc fB n=>?_;subst fB;have i:=p0 C n;have A:∀e,aG e a (.aA 0) 29=.ok (.int d.u,a):=λe=>C.at rfl;have h:∀e,aG e a (.aA 0) 28=.ok (.int d.ug,a):=λe=>C.at rfl;have L:∀e,aG e a (.aA 0) 33=.ok (iZ,a):=λe=>C.at rfl;have M:∀e,aG e a iZ 34=.ok (.int 16777216,a):=λe=>aS rfl;refine(aN (f:=Ig) [S (.aA 0)] rfl rfl).trans ?_;delta Ig;walk_at "ev"
theorem yZ{H:AH}{x:Q}{y:Q}{z:Q}{u:Q}{m:Z}(v:1<=m):aC m (.cls .jN) [x,y,z,u] H=.ok (.obj .jN [x,y,z,u],H):=by refine aM (eE v) λa i7 Y=>R i7 ?_;rfl
theorem EC{h:V Q}{m:Z}(C:GM a d g h j)(v:2<=m)(P:g.length<15)(b:V Bd)(c:Z->Ct):∃r,aC m (.fn 38) [.aA 0] a=.ok (.int (d.ls+1:Z),r)/\
  GM r {d with ls:=d.ls+1} (g++[⟨d.ls+1,h.length,d.u,b,c⟩]) h j/\Fr (λU=>Gl U\/U=.L d.ks) a r:=by refine aM (eE v) λo jQ n=>?_;clear v;subst jQ;have i:=p0 C n;have A:∀e,aG e a (.aA 0) 53=.ok (.int d.ls,a):=λe=>C.at rfl;have L:∀e,aG e a (.aA 0) 33=.ok (iZ,a):=λe=>C.at rfl;have M:∀e,aG e a iZ 25=.ok (.int 15,a):=λe=>aS rfl;have H:MX ((15:MN)<=g.length)=MT:=NH (mt S6.mp (Uo.mpr P));have k:dH a (.aA 0) 53 (.int (d.ls+1))=S (wI a 0 (.Mem,cm {d with ls:=d.ls+1})):=C.dH rfl (by decide) _ rfl;have G:=C.wI (Bg:={d with ls:=d.ls+1}) rfl;have p:Fr Gl a (wI a 0 (.Mem,cm {d with ls:=d.ls+1})):=Fr.wI (.inl rfl);generalize wI a 0 (.Mem,cm {d with ls:=d.ls+1})=z at k G p;have J:∀e,aG e z (.aA 0) 25=.ok (.aE d.ks,z):=λe=>G.at rfl;have B:∀e,aG e z (.aA 0) 53=.ok (.int (d.ls+1:Z),z):=λe=>G.at rfl;have w:∀e,aG e z (.aA 0) 43=.ok (.aE 1,z):=λe=>G.at rfl;have s:∀e,aG e z (.aA 0) 29=.ok (.int d.u,z):=λe=>G.at rfl;have l1:=jG G.j (by have:=G.jl;exact n1 this rfl);have n1:=yZ (m:=o) (H:=z) (x:=.int (d.ls+1:Z)) (y:=.int h.length) (z:=.int d.u) (u:=.none) n;have t:=fI (x:=.obj .jN [.int (d.ls+1:Z),.int h.length,.int d.u,.none]) G.s (by refine R (Rz ..) ?_;have:=G.sl;exact n3 P rfl);have D:GM (wL z d.ks (g.map eC++[.obj .jN [.int (d.ls+1:Z),.int h.length,.int d.u,.none]])) {d with ls:=d.ls+1} (g++[⟨d.ls+1,h.length,d.u,b,c⟩]) h j:=⟨G.i,by refine R R8 ?_;exact bW G.s,dZ (S8 G.n) G.j,G.m,G.n,by refine R RF ?_;exact Ux P,G.jl,G.ml⟩;have l:Fr (λU=>Gl U\/U=.L d.ks) z (wL z d.ks (g.map eC++[.obj .jN [.int (d.ls+1:Z),.int h.length,.int d.u,.none]])):=Fr.wL (.inr rfl);generalize wL z d.ks (g.map eC++[.obj .jN [.int (d.ls+1:Z),.int h.length,.int d.u,.none]])=I at t D l;have E:∀e,aG e I (.aA 0) 53=.ok (.int (d.ls+1:Z),I):=λe=>D.at rfl;refine jK I ?_ D ((p.mono λY=>.inl).trans l);have K:aK z (.aE d.ks) 44=S .bI:=rfl;refine(aN (f:=Ia) [S (.aA 0),S .none] rfl rfl).trans ?_;delta Ia;walk_at "ev"
theorem uL{E:Z->Z}(w:MB a l b c)(B:E b.num=l b.num):MB a E b c:=by
 unfold MB at *;induction D:b.k using Wo<;>rw[D] at w<;>dsimp only at w;·exact w
 ·exact R B w
 ·exact w
theorem ED{I M:Z}:cq a .eq (kW I) (kW M)=S (MX (I=M)):=by show eqT (kW I) (kW M)=_;exact kK I M
theorem vP{cf:CF}{w:Z}{a0:Z}{b:Bd}{o:MN}{e:V (Z×MN)}:∀(g:V Z) (K:Z) (a:V (Z×MN)) (z:AH) (h:Z) (M:O Q) (I:V Z),I.drop K=g->z.D[h]? = S (a.map ent)->h≠a0->z.D[a0]? = S (e.map ent)->(∀r:AH,r.I=z.I->aG cf r (bv b) 0=.ok (.ab a0,r))->g.Nodup->(∀i∈g,cn i a=N)->(∀i∈g,i≠w->(cn i e).isSome=ML)->a.length+g.length<99->
  ∃r v,bZ (λY E a2 a1=>aW cf (.cons (.ek (.var 3) (.var 4) (.ite (.cmp .eq (.var 4) (.sub (.var 0) (.int 2))) (.sub (.var 0) (.int 3)) (.sub (.attr (.var 2) 0) (.var 4)))) .nil) (a2.set 4 (S E)) a1) (.dS (I.map kW)) (g.length+1) K [S (.tup [.str 52,bv b,kW w,eN w o,.lst (I.map kW)]),S (.str 52),S (bv b),S (.ab h),M] z =
   .ok (.next,[S (.tup [.str 52,bv b,kW w,eN w o,.lst (I.map kW)]),S (.str 52),S (bv b),S (.ab h),v],r)/\r.L=z.L/\r.B=z.B/\r.I=z.I/\r.D=z.D.set h ((a++g.map λH=>(H,if H=w then o else(cn H e).getD 0)).map ent):=by
 intro g;induction g with
 |nil=>
  intro K a z h M I t q hn p T n s P l;refine E9 z M ?_ rfl rfl rfl ?_;·refine Ea (show S ((I.map kW)[K]?)=_ from ?_);refine R RK ?_;exact R (Cj t) rfl
  ·refine R VO ?_;refine R (Sy ..) ?_;have:=RG.mp q;refine R this.2.symm ?_;rw[VA]
 |cons i g f=>
  intro K a z h M I t q hn p T n s P l;refine hF λA=>?_;rw[RW] at n;have a4:=Cm t;have X:Src.at (.dS (I.map kW)) K z=S (S (kW i)):=by show S ((I.map kW)[K]?)=_;refine R RK ?_;exact R (Ck t) rfl
  have G:∃E,(if i=w then o else(cn i e).getD 0)=E/\(i≠w->cn i e=S E)/\(i=w->E=o):=by
   refine jK _ rfl (λB=>?_) (λB=>Nb B)
   refine R (Nf B) ?_
   have:=P i (.head _) B
   induction a3:cn i e using Ry with
   |none=>replace this:=a3▸this;cases this
   |some a5=>rfl
  refine mM G λE v1 v2 L=>?_;have k:dm z (.ab h) (kW i) (eN i E)=S (wD z h ((a++[(i,E)]).map ent)):=by have:=qd (c:=⟨[],a,0,0⟩) (w:=i) (i:=E) q (n1 (RO (R6 ..) l) rfl);rw[ig (s i (.head _))] at this;exact this
  have r1:aR z (.tup [.str 52,bv b,kW w,eN w o,.lst (I.map kW)]) (.int 2)=S (kW w):=rfl;have x:aR z (.tup [.str 52,bv b,kW w,eN w o,.lst (I.map kW)]) (.int 3)=S (eN w o):=rfl;have r3:cq z .eq (kW i) (kW w)=S (MX (i=w)):=ED;have d:=T z rfl;have j:aW cf (.cons (.ek (.var 3) (.var 4) (.ite (.cmp .eq (.var 4) (.sub (.var 0) (.int 2))) (.sub (.var 0) (.int 3)) (.sub (.attr (.var 2) 0) (.var 4)))) .nil) [S (.tup [.str 52,bv b,kW w,eN w o,.lst (I.map kW)]),S (.str 52),S (bv b),S (.ab h),S (kW i)] z=.ok (.next,[S (.tup [.str 52,bv b,kW w,eN w o,.lst (I.map kW)]),S (.str 52),S (bv b),S (.ab h),S (kW i)],wD z h ((a++[(i,E)]).map ent)):=by
   by_cases C:i=w
   ·have D:=Nn C;have L:=L C;refine R L.symm ?_;have m:eN i E=eN w E:=by rw[C]
    rw[m] at k;walk_at "ev"
   ·have D:=NH C;have y:=qc (c:=⟨[],e,0,0⟩) (w:=i) p (v2 C);replace r3:=D▸r3;walk_at "ev"
  obtain⟨r,v,f1,f2,f3,f4,f5⟩:=f (K+1) (a++[(i,E)]) (wD z h ((a++[(i,E)]).map ent)) h (S (kW i)) I a4 (bW q) hn (dZ (S8 hn) p) T n.2 (λH J=>by refine R (ig (s i (.head _))).symm ?_;rw[pX,Nf (λU:H=i=>n.1 (U▸J))];exact s H (.tail _ J)) (λH J=>P H (.tail _ J)) (by rw[RF];exact FC l);refine A (E9 r v ?_ f2 f3 f4 ?_);·exact wg X j (yL f1)
  ·rw[f5,R5,v1];show(z.D.set h _).set h _=_;rw[Tf,Sn];rfl
theorem EG{m:Z}(hm:1<=m)(w:MB a l b c){a0:Un}(ok:yF b.k a0 c)(hl:c.cw.length<1000)(he:c.en.length<50):∃r e',aC m (.fn 51) [aV b a0] a=.ok (.none,r)/\MB r (upd l b.num e') b (gQ a0 c)/\Fr (eT l b) a r/\(e'=l b.num\/e'=a.D.length):=by
 refine aM (eE hm) λa2 bE hn=>R bE ?_;have h:∀p,a.D[0]? = a.D[0]?/\∀r,aW (aC a2) wk.body [S (aV b a0),N,N,N,N] a=.ok (.next,p,r)->aC (a2+1) (.fn 51) [aV b a0] a=.ok (.none,r):=λp=>⟨rfl,λr B=>by rw[aN (f:=wk) [S (aV b a0),N,N,N,N] rfl rfl,B];rfl⟩;have K:∀{r:AH} {c':Ct},MB r l b c'->MB r (upd l b.num (l b.num)) b c':=λw=>uL w bD;induction a0 using Un.casesOn with
 |item P z=>
  refine hF λM=>bK ok λJ s=>bK (Co J w (l:=c.cw.set P z)) λk I=>M (qr _ (l b.num) ((h [S (aV b (.item P z)),S (.str 45),S (bv b),N,N]).2 _ ?_) (K k) I (.inl rfl));have D:bv b=.obj .Row [.int b.num,.aE b.a,.bool b.g,.int b.lv]:=by unfold bv;rw[J]
  have a1:∀e a,aG e a (bv b) 6=.ok (.aE b.a,a):=λe a=>aS (by rw[D];rfl);have j:a.L[b.a]? = S (c.cw.map tI):=by unfold MB at w;rw[J] at w;exact w
  have s1:dm a (.aE b.a) (.int P) (tI z)=S (wL a b.a ((c.cw.set P z).map tI)):=by show(a.L[b.a]?).bind _=_;rw[j];show(if 0<=(P:MN)/\(P:MN)<((c.cw.map tI).length:MN)/\sm (c.cw.map tI).length=ML then _ else N)=_;rw[Nb ⟨by exact RQ _,by rw[Rz];exact RU.mpr s,by rw[Rz];exact Nn hl⟩,VN];rfl
  have d:aR a (aV b (.item P z)) (.int 0)=S (.str 45):=rfl;have y:aR a (aV b (.item P z)) (.int 1)=S (bv b):=rfl;have q2:aR a (aV b (.item P z)) (.int 2)=S (.int P):=rfl;have C:aR a (aV b (.item P z)) (.int 3)=S (tI z):=rfl;have a8:=λe=>a1 e a;simp only[wk];walk_at "ev"
 |most P=>
  have s1:=lF ok.1 w (f:=47) (i:=1) (v:=.int P) rfl (by decide) {c with most:=P} rfl
  refine bK (uH ok.1 w (c':={c with most:=P}) rfl) λk I=>qr _ (l b.num) ((h [S (aV b (.most P)),S (.str 47),S (bv b),N,N]).2 _ ?_) (K k) I (.inl rfl)
  have d:aR a (aV b (.most P)) (.int 0)=S (.str 47):=rfl
  have y:aR a (aV b (.most P)) (.int 1)=S (bv b):=rfl
  have q2:aR a (aV b (.most P)) (.int 2)=S (.int P):=rfl
  simp only[wk]
  clear w k I ok h K
  walk_at "ev"
 |acc P=>
  have s1:=lF ok w (f:=16) (i:=4) (v:=.int P) rfl (by decide) {c with acc:=P} rfl
  refine bK (uH ok w (c':={c with acc:=P}) rfl) λk I=>qr _ (l b.num) ((h [S (aV b (.acc P)),S (.str 16),S (bv b),N,N]).2 _ ?_) (K k) I (.inl rfl)
  have d:aR a (aV b (.acc P)) (.int 0)=S (.str 16):=rfl
  have y:aR a (aV b (.acc P)) (.int 1)=S (bv b):=rfl
  have q2:aR a (aV b (.acc P)) (.int 2)=S (.int P):=rfl
  simp only[wk]
  clear w k I ok h K
  walk_at "ev"
 |ent p z=>
  refine bK ok λJ o=>?_
  have a1:∀e,aG e a (bv b) 0=.ok (.ab (l b.num),a):=λe=>ew J w rfl
  induction z using Ry with
  |none=>refine dD (Um.mp o) λz G=>bK (uI J w (l:=iX p c.en)) λk I=>?_;have p1:=uJ (dM J w) G (n1 he rfl);refine qr _ (l b.num) ((h [S (aV b (.ent p N)),S (.str 49),S (bv b),N,N]).2 _ ?_) (K k) I (.inl rfl);have d:aR a (aV b (.ent p N)) (.int 0)=S (.str 49):=rfl;have y:aR a (aV b (.ent p N)) (.int 1)=S (bv b):=rfl;have q2:aR a (aV b (.ent p N)) (.int 2)=S (kW p):=rfl;have C:aR a (aV b (.ent p N)) (.int 3)=S .none:=rfl;have i1:isNone .none=S ML:=rfl;have r1:aK a (.ab (l b.num)) 51=S .bI:=rfl;simp only[wk];clear w k I J h K o;walk_at "ev"
  |some E=>refine hF λa7=>bK (uI J w (l:=eu p E c.en)) λk I=>?_;have p1:=qd (w:=p) (i:=E) (dM J w) (n1 he rfl);refine a7 (qr _ (l b.num) ((h [S (aV b (.ent p (S E))),S (.str 49),S (bv b),N,N]).2 _ ?_) (K k) I (.inl rfl));have d:aR a (aV b (.ent p (S E))) (.int 0)=S (.str 49):=rfl;have y:aR a (aV b (.ent p (S E))) (.int 1)=S (bv b):=rfl;have q2:aR a (aV b (.ent p (S E))) (.int 2)=S (kW p):=rfl;have C:aR a (aV b (.ent p (S E))) (.int 3)=S (eN p E):=rfl;have i1:isNone (eN p E)=S MT:=rfl;simp only[wk];clear w k I J h K o;walk_at "ev"
 |drop p E g=>
  refine qj ok λJ n hs a6=>?_;have dl:(aD a []).D[a.D.length]? = S (([]:V (Z×MN)).map ent):=dK;have a5:=dM J w;have j:a.I[b.a]? = S (.Dict,ft b c (l b.num)):=by unfold MB at w;rw[J] at w;exact w.1
  have a3:bv b=.aA b.a:=by unfold bv;rw[J]
  have A:∀e (r:AH),r.I=(aD a []).I->aG e r (bv b) 0=.ok (.ab (l b.num),r):=λe r U=>aS (by rw[a3];show(r.I[b.a]?).bind _=_;rw[U];show(a.I[b.a]?).bind _=_;rw[j];rfl);refine Hr (vP (cf:=aC a2) (w:=p) (o:=E) (b:=b) g 0 [] (aD a []) a.D.length N g rfl dl (λU=>by have:=bP a5;exact Nh (U.symm▸this) (RV _)) (ec a5) (A _) n (λa9 Y=>rfl) hs (n2 (RH (R2 (T5 _)) a6) rfl)) λL v f1 f2 f3 f4 f5=>?_;have s1:dH L (bv b) 0 (.ab a.D.length)=S (wI L b.a (.Dict,ft b c a.D.length)):=by rw[a3];show(L.I[b.a]?).bind _=_;rw[show L.I[b.a]? = S (.Dict,ft b c (l b.num)) by rw[f4];exact j];rfl
  have M1:L.I[b.a]? = S (.Dict,ft b c (l b.num)):=by rw[f4];exact j
  have D1:L.D[a.D.length]? = S ((g.map λH=>(H,if H=p then E else(cn H c.en).getD 0)).map ent):=by rw[f5];exact bW dl
  refine qr (wI L b.a (.Dict,ft b c a.D.length)) a.D.length ((h [S (aV b (.drop p E g)),S (.str 52),S (bv b),S (.ab a.D.length),v]).2 _ ?_) ?_ ?_ (.inr rfl)
  ·have d:aR a (aV b (.drop p E g)) (.int 0)=S (.str 52):=rfl;have y:aR a (aV b (.drop p E g)) (.int 1)=S (bv b):=rfl;have q4:∀a,aO (aC a2) (.sub (.var 0) (.int 4)) [S (aV b (.drop p E g)),S (.str 52),S (bv b),S (.ab a.D.length),N] a=.ok (.lst (g.map kW),a):=λY=>rfl;have X:srcOf (aD a []) (.lst (g.map kW))=S (.dS (g.map kW),g.length):=by show(if sm (g.map kW).length=ML then _ else N)=_;rw[Nb (by rw[Rz];exact Nn (n2 a6 rfl)),Rz]
   have a4:=ik (x:=4) (l:=[S (aV b (.drop p E g)),S (.str 52),S (bv b),S (.ab a.D.length),N]) (show aO (aC a2) (.sub (.var 0) (.int 4)) _ (aD a [])=.ok (.lst (g.map kW),aD a []) from rfl) X f1;show aW _ (.cons (aH wk.body 0) (.cons (aH wk.body 1) .nil)) _ a=_;rw[aX (l':=[S (aV b (.drop p E g)),S (.str 52),S (bv b),N,N]) (H':=a) (by dsimp only[wk,aH];clear f1 f2 f3 f4 f5 s1 M1 D1 a4 w h K A a3;walk_at "ev")];have T:aW (aC a2) (.cons (.asg 3 (.tm [] .nil)) (.cons (.di 4 (.sub (.var 0) (.int 4)) (.cons (.ek (.var 3) (.var 4) (.ite (.cmp .eq (.var 4) (.sub (.var 0) (.int 2))) (.sub (.var 0) (.int 3)) (.sub (.attr (.var 2) 0) (.var 4)))) .nil)) (.cons (.eM (.var 2) 0 (.var 3)) .nil))) [S (aV b (.drop p E g)),S (.str 52),S (bv b),N,N] a=.ok (.next,[S (aV b (.drop p E g)),S (.str 52),S (bv b),S (.ab a.D.length),v],wI L b.a (.Dict,ft b c a.D.length)):=by rw[aX (l':=[S (aV b (.drop p E g)),S (.str 52),S (bv b),S (.ab a.D.length),N]) (H':=aD a []) rfl,aX a4];clear f1 f2 f3 f4 f5 M1 D1 a4 w h K A a3;unfold aV;walk_at "ev"
   exact Bf (HG (t:=false) rfl (fF rfl (Bf (HG (t:=false) rfl (fF rfl (Bf (HG (t:=false) rfl (fF rfl (Bf (HG (t:=true) rfl (fT rfl T)) rfl))) rfl))) rfl))) rfl
  ·have:(gQ (.drop p E g) c).en=g.map λH=>(H,if H=p then E else(cn H c.en).getD 0):=rfl;unfold MB;rw[J];refine⟨?_,?_⟩;·rw[bD];exact bW M1
   ·rw[bD];exact D1
  ·refine(Fr.trans (H':=L) ⟨λH E Y B=>?_,λH E nk B=>?_,λH E Y B=>?_,λH E Y B=>?_⟩ (Fr.wI (by unfold eT;rw[J];exact .inl rfl)));·rw[f2];exact B
   ·rw[f5];exact dZ (λU=>by have:=bP B;exact Nh (U.symm▸this) (RV _)) (ec B)
   ·rw[f4];exact B
   ·rw[f3];exact B
structure Sep(X:Ad->Prop)(es:Z->Z)(bs:V Bd):Prop where
 x:∀b∈bs,∀z,eT es b z->¬X z
 d:∀b∈bs,∀b'∈bs,b.num≠b'.num->∀z,eT es b z->¬eT es b' z
noncomputable def y0(C:Ct):Prop:=C.cw.length<=3/\C.en.length<=3
noncomputable def enc(b:Z->Bd)(P:Z×Un):Q:=aV (b P.1) P.2
theorem Bl{T:V (Z×q)}:(iX h T).length<=T.length:=by
 induction T with
 |nil=>exact Sd _
 |cons P y d=>
  refine R Cg ?_;by_cases L:P.1=h;·exact R (Nb L) (So _)
  ·exact R (Nf L) (VY d)
theorem y8{H:Kq}{b:Un}(B:y0 c)(z:yF H b c):y0 (gQ b c):=by
 induction b using Un.casesOn with
 |item K E=>exact⟨by show(c.cw.set K E).length<=3;refine R Tb ?_;exact B.1,B.2⟩
 |most x=>exact B
 |acc I=>exact B
 |ent a d=>induction d using Ry with
  |none=>exact⟨B.1,RH Bl B.2⟩
  |some E=>exact⟨B.1,by show(eu a E c.en).length<=3;refine R (pY z.2) ?_;exact B.2⟩
 |drop a E g=>exact⟨B.1,by show(V.map _ g).length<=3;refine R (Rz ..) ?_;exact z.2.2.2⟩
theorem GM.has(C:GM a d g m j){z:Ad}(B:Gl z\/z=.L d.ks):has a z:=by
 rcases B with(rfl|rfl|rfl)|rfl;·exact bP C.i
 ·exact bP C.m
 ·exact bP C.j
 ·exact bP C.s
theorem MB.has(w:MB a l b c){z:Ad}(B:eT l b z):Mine.Lake.has a z:=by
 unfold MB eT at *;induction D:b.k using Wo<;>rw[D] at w<;>simp only[D] at B;·subst B;exact bP w
 ·rcases B with rfl|rfl;·exact bP w.1
  ·exact bP w.2
 ·subst B;exact bP w
theorem Bm{j h:Z}(C:j=l b.num\/j=h){U:Ad}(B:eT (upd l b.num j) b U):eT l b U\/U=.D h:=by
 unfold eT at *;induction D:b.k using Wo<;>simp only[D] at B⊢;·exact .inl B
 ·rcases B with B|B;·exact .inl (.inl B)
  ·rw[bD] at B;rcases C with L|L;·exact .inl (.inr (L▸B))
   ·exact .inr (L▸B)
 ·exact .inl B
theorem lG{j:Z}(n:b.num≠o){U:Ad}:eT (upd l o j) b U↔eT l b U:=by unfold eT;rw[cF n]
noncomputable abbrev Jg:dR:=.cons (.exp (.aU (.var 4) 44 (.cons (.aU (.attr (.var 0) 43) 51 .nil) .nil))) (.cons (.exp (.call (.gf 51) (.cons (.sub (.var 4) (.neg (.int 1))) .nil))) .nil)
noncomputable abbrev Jh:LE:=.cmp .gt (.bq .len (.cons (.attr (.var 0) 43) .nil)) (.attr (.var 3) 19)
theorem EH{r:Ad->Prop}{m:Z}{un:Z}{f:V Bd}{bd:Z->Bd}(hm:1<=m)(J:∀U,Gl U\/U=.L d.ks->r U)(t:Sv)(p:Jo)(P:t.many=p.length)(c6:∀M∈f,∀b'∈f,M.num=b'.num->M=b')(X x2:O Q)(l5:Loc):∀(a:Jo) (b:AH) (y:Z->Z) (cs:Z->Ct) (ul:V Q) (a0:Z),
  GM b d g (((a++p).map (enc bd)).reverse) j->(∀M∈f,MB b y M (cs M.num))->(∀M∈f,y0 (cs M.num))->Sep r y f->(∀U,r U->has b U)->(∀L∈a,bd L.1∈f/\(bd L.1).num=L.1)->qm (λq=>(bd q).k) cs a->
  b.L[un]? = S ul->¬r (.L un)->(∀M∈f,¬eT y M (.L un))->a.length+ul.length<98->a.length<a0->
  ∃H' d6,gJ (λc9 b=>(aO (aC m) Jh c9 b).bind λd9=>match truthy d9.1 with|some e0=>.ok (e0,d9.2)|none=>.bad) (λc9 b=>aW (aC m) Jg c9 b) a0 (S (.aA 0) :: X :: x2 :: S (eC t) :: S (.aE un) :: l5) b=.ok (.next,S (.aA 0) :: X :: x2 :: S (eC t) :: S (.aE un) :: l5,H')/\
   GM H' d g ((p.map (enc bd)).reverse) j/\(∀M∈f,MB H' d6 M (kJ cs a M.num))/\(∀M∈f,y0 (kJ cs a M.num))/\Sep r d6 f/\(∀U,r U->has H' U)/\H'.L[un]? = S (ul++a.map (enc bd))/\Fr (λU=>¬r U\/Gl U) b H':=by
 intro a;induction a with
 |nil=>
  intro b y cs ul a0 C A sm T l hq ok hu nu h hl hf
  induction a0 using RY with
  |zero=>exact Nh hf (UC _)
  |succ a0=>refine JF b y ?_ C A sm T l (by refine R VO ?_;refine R (Sy ..) ?_;exact hu) Fr.refl;have a1:∀e,aG e b (.aA 0) 43=.ok (.aE 1,b):=λe=>C.at rfl;have l1:=jG C.j (by have:=C.jl;exact n1 this rfl);rw[Sr,Rz,Uh] at l1;have a2:∀e,aG e b (eC t) 19=.ok (.int t.many,b):=λe=>aS rfl;have d1:=NH (mt RU.mp (Tj.mpr (R2 P.symm)));refine LP ?_;walk_at "xe"
 |cons q_ a e3=>
  obtain⟨q,c⟩:=q_
  intro b y cs ul a0 C A sm T l hq ok hu nu h hl hf
  induction a0 using RY with
  |zero=>exact Nh hf (UC _)
  |succ a0=>
   refine bK (hq _ (.head _)) λw n=>?_;dsimp only at w n;generalize c2:bd q=M at w n;have c3:yF M.k c (cs M.num):=by rw[<-c2];refine R (show(bd q).num=q by rw[c2];exact n) ?_;exact ok.1
   have E:((((q,c) :: a)++p).map (enc bd)).reverse=((a++p).map (enc bd)).reverse++[aV M c]:=by rw[V6,R5,Us];show _++[aV (bd q) c]=_;rw[c2]
   have a7:((a++p).map (enc bd)).reverse.length<98:=by have:=C.jl;rw[E,RF] at this;exact qi this rfl
   have Gj:=C.j;replace Gj:=E▸Gj;have p1:gH b (.aE 1) 51 []=S (aV M c,wL b 1 ((a++p).map (enc bd)).reverse):=by show(b.L[1]?).bind _=_;rw[Gj];show(if Mine.Lake.sm (((a++p).map (enc bd)).reverse++[aV M c]).length=ML then _ else N)=_;rw[Nb (by rw[RF];exact Nn (n2 a7 rfl)),V.getLast?_concat,V.dropLast_concat];rfl
   have a1:∀e,aG e b (.aA 0) 43=.ok (.aE 1,b):=λe=>C.at rfl;have l1:=jG Gj (by rw[RF];exact n2 a7 rfl);have a2:∀e,aG e b (eC t) 19=.ok (.int t.many,b):=λe=>aS rfl;have d1:MX ((t.many:MN)<(((a++p).map (enc bd)).reverse++[aV M c]).length)=ML:=Nn (by rw[RF,Sr,Rz,RF];exact VI (MN.le_of_eq (Nc Z.cast P)) (RU.mpr (VY (SR ..))));have G:=C.wJ (J':=((a++p).map (enc bd)).reverse) (n1 a7 rfl);have F1:Fr Gl b (wL b 1 ((a++p).map (enc bd)).reverse):=Fr.wL (.inr (.inr rfl));have c1:un≠1:=λU=>nu (by rw[U];exact J _ (.inl (.inr (.inr rfl))));have a6:(wL b 1 ((a++p).map (enc bd)).reverse).L[un]? = S ul:=dZ c1 hu;have c5:=λU s=>by
    by_cases o:Gl U;·exact G.has (.inl o)
    ·exact F1.has o (l U s)
   have c4:=λM w=>(A M w).fr F1 λU s o=>T.x M w U s (J U (.inl o));generalize wL b 1 ((a++p).map (enc bd)).reverse=z at p1 G F1 a6 c5 c4;have p2:=fI (x:=aV M c) a6 (n1 (RO (SR ..) hl) rfl);have F2:Fr (λU=>U=.L un) z (wL z un (ul++[aV M c])):=Fr.wL rfl;have nX:∀U,r U->U≠.L un:=λU s L=>nu (L▸s);have D:GM (wL z un (ul++[aV M c])) d g ((a++p).map (enc bd)).reverse j:=G.fr F2 (nX _ (J _ (.inl (.inl rfl)))) (nX _ (J _ (.inl (.inr (.inl rfl))))) (nX _ (J _ (.inl (.inr (.inr rfl))))) (nX _ (J _ (.inr rfl)));have H:(wL z un (ul++[aV M c])).L[un]? = S (ul++[aV M c]):=bW a6;have a8:∀U,r U->Mine.Lake.has (wL z un (ul++[aV M c])) U:=λU s=>F2.has (nX U s) (c5 U s);have a5:∀v∈f,MB (wL z un (ul++[aV M c])) y v (cs v.num):=λv d8=>(c4 v d8).fr F2 λU s (o:U=.L un)=>h v d8 (o▸s);generalize wL z un (ul++[aV M c])=I at p2 F2 D H a8 a5;have q1:aR I (.aE un) (.int (-1))=S (aV M c):=by show(I.L[un]?).bind _=_;rw[H];show(place (-1) (ul++[aV M c]).length).bind _=_;rw[show place (-1) (ul++[aV M c]).length=S ul.length by unfold place;rw[RF];rfl];show(ul++[aV M c])[ul.length]? = _;exact dK
   refine uP (EG (m:=m) hm (a5 M w) c3 (by have:=(sm M w).1;exact n2 this rfl) (by have:=(sm M w).2;exact n2 this rfl)) λH3 e' f1 M3 F3 he=>?_;have a4:∀U,r U->¬eT y M U:=λU s L=>T.x M w U L s;have i:=D.fr F3 (a4 _ (J _ (.inl (.inl rfl)))) (a4 _ (J _ (.inl (.inr (.inl rfl))))) (a4 _ (J _ (.inl (.inr (.inr rfl))))) (a4 _ (J _ (.inr rfl)));have c7:∀U,r U->Mine.Lake.has H3 U:=λU s=>F3.has (a4 U s) (a8 U s);have a3:∀v∈f,v≠M->v.num≠M.num:=λv K ne L=>ne (c6 _ K _ w L);have fx:∀U,eT (upd y M.num e') M U->eT y M U\/U=.D I.D.length:=λU s=>Bm he s;have k:¬Mine.Lake.has I (.D I.D.length):=λL=>RV _ L;have c8:∀v∈f,MB H3 (upd y M.num e') v (upd cs q (gQ c (cs q)) v.num):=λv K=>by
    by_cases L:v=M;·rw[L,n,bD,<-n];exact M3
    ·have:=a3 _ K L;rw[cF (by rw[<-n];exact this)];refine uL ((a5 _ K).fr F3 λU s=>T.d _ K _ w this U s) (cF this)
   have d0:∀v∈f,y0 (upd cs q (gQ c (cs q)) v.num):=λv K=>by
    by_cases L:v=M;·rw[L,n,bD,<-n];exact y8 (sm M w) c3
    ·rw[cF (by rw[<-n];exact a3 _ K L)];exact sm _ K
   have S3:Sep r (upd y M.num e') f:=⟨λv K U s hx=>by
     clear n f1 M3 he a1 l1 a2 d1 E a7 Gj p1 c1 a6 p2 H q1;by_cases L:v=M
     ·subst L;rcases fx U s with B|B;·exact T.x _ w U B hx
      ·exact k (B▸a8 U hx)
     ·exact T.x _ K U ((lG (a3 _ K L)).mp s) hx,λv K d7 a9 ne U s d4=>by
     have al:∀b9∈f,b9≠M->eT (upd y M.num e') b9 U->eT y b9 U/\Mine.Lake.has I U:=λb9 d5 L s=>by have:=(lG (a3 _ d5 L)).mp s;exact⟨this,(a5 _ d5).has this⟩
     clear n f1 M3 he a1 l1 a2 d1 E a7 Gj p1 c1 a6 p2 H q1;by_cases q2:v=M
     ·by_cases q3:d7=M;·exact ne (by rw[q2];refine R q3 rfl)
      ·refine bK (al _ a9 q3 d4) λk1 k2=>?_;subst q2;rcases fx U s with B|B;·exact T.d _ K _ a9 ne U B k1
       ·exact k (B▸k2)
     ·refine bK (al _ K q2 s) λk1 k2=>?_;by_cases q3:d7=M
      ·subst q3;rcases fx U d4 with B|B;·exact T.d _ K _ a9 ne U k1 B
       ·exact k (B▸k2)
      ·exact T.d _ K _ a9 ne U k1 (al _ a9 q3 d4).1⟩
   have d2:∀v∈f,¬eT (upd y M.num e') v (.L un):=λv K s=>by
    clear n f1 M3 he a1 l1 a2 d1 E a7 Gj p1 c1 a6 p2 H q1 k;by_cases L:v=M
    ·subst L;rcases fx _ s with B|B;·exact h _ w B
     ·cases B
    ·exact h _ K ((lG (a3 _ K L)).mp s)
   have d3:qm (λq=>(bd q).k) (upd cs q (gQ c (cs q))) a:=ok.2;refine JJ (e3 H3 (upd y M.num e') (upd cs q (gQ c (cs q))) (ul++[aV M c]) a0 i c8 d0 S3 c7 (λL e2=>hq L (.tail _ e2)) d3 (F3.L _ _ (h M w) H) nu d2 (by rw[RF];exact Hp hl) (by rw[S0] at hf;exact T1 hf)) λH4 e1 w1 w2 w3 w4 Y w6 w7 w8=>?_;refine JF H4 e1 ?_ w2 w3 w4 Y w6 ?_ ?_
   ·have r1:aK b (.aE un) 44=S .bI:=rfl;have r2:aK b (.aE 1) 51=S .bI:=rfl;have t1:aO (aC m) Jh (S (.aA 0) :: X :: x2 :: S (eC t) :: S (.aE un) :: l5) b=.ok (.bool ML,b):=by clear w1 w2 w3 w4 Y w6 w7 w8 S3 c8 a5 c4 A sm d0 h d2 F1 F2 F3 C G D i ok d3 c3 l c5 a8 c7 hq J P c6 fx a3 nX a4 T;walk_at "xe"
    have t2:aW (aC m) Jg (S (.aA 0) :: X :: x2 :: S (eC t) :: S (.aE un) :: l5) b=.ok (.next,S (.aA 0) :: X :: x2 :: S (eC t) :: S (.aE un) :: l5,H3):=by clear w1 w2 w3 w4 Y w6 w7 w8 S3 c8 a5 c4 A sm d0 h d2 F1 F2 F3 C G D i ok d3 c3 l c5 a8 c7 hq J P c6 fx a3 nX a4 T t1;walk_at "ev"
    exact LQ t1 t2 w1
   ·rw[w7,Sn];show _=S (ul++([aV (bd q) c]++_));rw[c2]
   ·exact(((F1.mono λε o=>US o).trans (F2.mono λU (o:U=.L un)=>Vd (o▸nu))).trans (F3.mono λU s=>Vd (T.x M w U s))).trans w8
noncomputable def rp(P:Z×pZ):Z×MP×Z:=(P.1,P.2.2)
noncomputable def oy(place:Z)(P:Z×pZ):MP:=P.2.2.1||MX (P.2.2.2<=place)
theorem y9{c0 i:MN}{o:MP}{T:Z}:∀{p:V (Z×pZ)},cn n p=S (c0,o,T)->(eu n (i,o,T) p).map rp=p.map rp:=by
 intro p;induction p with
 |nil=>intro B;exact nX B
 |cons P y f=>
  intro B;rw[jD] at B;refine R rh ?_;by_cases L:P.1=n;·rw[Nb L] at B;refine R (Nb L) ?_;show(P.1,o,T) :: _=(P.1,P.2.2) :: _;rw[Sl B]
  ·rw[Nf L] at B;refine R (Nf L) ?_;refine R5.trans ?_;refine R (f B) rfl
theorem Bn{E:q}:∀{I y:V (Z×q)},n∉I.map (·.1)->iX n (I++(n,E) :: y)=I++y:=by
 intro I;induction I with
 |nil=>intro y _;exact(Nb rfl).trans rfl
 |cons P I f=>intro y B;rw[R5,RC,Om] at B;refine(Nf (S8 B.1)).trans ?_;exact R (f B.2) rfl
theorem Bo{E:q}:∀{I y:V (Z×q)},n∉I.map (·.1)->cn n (I++(n,E) :: y)=S E:=by
 intro I;induction I with
 |nil=>intro y _;exact(Nb rfl)
 |cons P I f=>intro y B;rw[R5,RC,Om] at B;exact(Nf (S8 B.1)).trans (f B.2)
theorem zc(B:a.D[0]? = S (j.map lE)){P:pZ}(J:cn n j=S P):aR a (.ab 0) (.int n)=S (.tup [.int P.1,.bool P.2.1,.int P.2.2]):=by refine rn B ?_;exact(oL (gB mF rfl)).trans (R J rfl)
theorem EI(B:a.D[0]? = S (j.map lE)){P:pZ}(J:cn n j=S P)(l:j.length<1000):gH a (.ab 0) 51 [.int n]=S (.tup [.int P.1,.bool P.2.1,.int P.2.2],wD a 0 ((iX n j).map lE)):=by refine(oL B).trans ?_;refine(Nb (by refine R (Rz ..) ?_;exact Nn l)).trans ?_;refine R (gB mF rfl) (R J ?_);refine R (uD mF rfl (by refine R J ?_;rfl)) ?_;rfl
noncomputable abbrev Ji:dR:=.cons (.qo [6,7,8] (.sub (.attr (.var 0) 30) (.var 5))) (.cons (.ifs (.and (.not (.var 7)) (.cmp .gt (.var 8) (.var 2))) (.cons (.exp (.aU (.attr (.var 0) 30) 51 (.cons (.var 5) .nil))) (.cons (.exp (.aU (.attr (.var 0) 57) 44 (.cons (.var 5) .nil))) .nil)) .nil) .nil)
theorem Cp(I M:Z):MX ((M:MN)<(I:MN)) = !MX (I<=M):=by exact R decide_not.symm (Pw.mpr (RU.trans Uo.symm))
theorem Bp{μ:MG}{cf:CF}{fa:Z}{place:Z}(hf:μ.fr=.aE fa)(f1:fa≠1)(f2:fa≠μ.ks)(e:V Z)(X G a:O Q):∀(y D:V (Z×pZ)) (K:Z) (b:AH) (q:V Q) (Y L y7 j:O Q),e.drop K=y.map (·.1)->GM b μ g m (D++y)->((D++y).map (·.1)).Nodup->b.L[fa]? = S q->q.length+y.length<900->
  ∃r v,bZ (λε E T b=>aW cf Ji (T.set 5 (S E)) b) (.dS (e.map kI)) (y.length+1) K [S (.aA 0),X,S (.int place),G,a,Y,L,y7,j] b=.ok (.next,S (.aA 0) :: X :: S (.int place) :: G :: a :: v,r)/\
   GM r μ g m (D++y.filter (oy place))/\Fr (λU=>U=.D 0\/U=.L fa) b r/\v.length=4:=by
 intro y;induction y with
 |nil=>
  intro D K b q Y L y7 j J C n s l;refine qr b [Y,L,y7,j] ?_ C Fr.refl rfl;have:Src.at (.dS (e.map kI)) K b=S N:=by show S ((e.map kI)[K]?)=_;refine R RK ?_;exact R (Cj J) rfl
  exact Ea this
 |cons q_ y a7=>
  obtain⟨H,a9⟩:=q_;intro D K b q Y L y7 j J C n s l;have hi:e[K]? = S H:=Ck J;have a3:=Cm J;have e1:Src.at (.dS (e.map kI)) K b=S (S (.int H)):=by show S ((e.map kI)[K]?)=_;rw[RK,hi];rfl
  have d:=λU=>by rw[R8,R5,Sm] at n;exact n.2.2 H U H (.head _) rfl
  obtain⟨i,o,M⟩:=a9;have A:cn H (D++(H,i,o,M) :: y)=S (i,o,M):=Bo d;have q1:=zc C.m A;have a1:∀cf,aG cf b (.aA 0) 30=.ok (.ab 0,b):=λcf=>C.at rfl;have h:=C.ml;have d1:MX ((place:MN)<(M:MN)) = !MX (M<=place):=by
   by_cases B:M<=place;·rw[Nn B,NH (mt RU.mp (Tj.mpr B))];rfl
   ·rw[NH B,Nn (RU.mpr (Uo.mp B))];rfl
  refine v9 (oy place (H,i,o,M)) (λc=>?_) (λc=>?_)
  ·have p1:=EI C.m A (n1 h rfl);rw[Bn d] at p1;have G1:=C.wD (md':=D++y) (by rw[RF];rw[RF,S0] at h;exact qi h rfl);have p:Fr (λU=>U=.D 0\/U=.L fa) b (wD b 0 ((D++y).map lE)):=Fr.wD (.inl rfl);have a0:(wD b 0 ((D++y).map lE)).L[fa]? = S q:=s;generalize wD b 0 ((D++y).map lE)=z at p1 G1 p a0;have a2:∀cf,aG cf z (.aA 0) 57=.ok (.aE fa,z):=λcf=>by rw[<-hf];exact G1.at rfl
   have p2:=fI (x:=.int H) a0 (n1 (RO (R6 ..) l) rfl);have f:Fr (λU=>U=.D 0\/U=.L fa) z (wL z fa (q++[.int H])):=Fr.wL (.inr rfl);have G2:GM (wL z fa (q++[.int H])) μ g m (D++y):=G1.fr (P:=λU=>U=.L fa) (Fr.wL rfl) nofun nofun (λU=>f1 (Ad.L.inj U).symm) (λU=>f2 (Ad.L.inj U).symm);have a4:(wL z fa (q++[.int H])).L[fa]? = S (q++[.int H]):=bW a0;generalize wL z fa (q++[.int H])=I at p2 f G2 a4;refine hF λa8=>?_;obtain⟨r,v,w1,w,t,k⟩:=a7 D (K+1) I (q++[.int H]) (S (.int H)) (S (.int i)) (S (.bool o)) (S (.int M)) a3 G2 (by refine n.sublist ?_;rw[R8,R8];exact V.Sublist.append_left (V.sublist_cons_self _ _) _) a4 (by rw[RF];exact FC l);refine a8 ?_;refine qr r v ?_ (by rw[TO,c];exact w) ((p.trans f).trans t) k;have a6:aW cf Ji [S (.aA 0),X,S (.int place),G,a,S (.int H),L,y7,j] b=.ok (.next,[S (.aA 0),X,S (.int place),G,a,S (.int H),S (.int i),S (.bool o),S (.int M)],I):=by unfold oy at c;have r1:aK b (.ab 0) 51=S .bI:=rfl;have r2:aK z (.aE fa) 44=S .bI:=rfl;clear w1 w t k J a3 hi d A s l n h hf f1 f2 C G1 G2 p f a0 a4;dsimp only at q1 c p1;have d1:cq b .gt (.int M) (.int place)=S (!MX (M<=place)):=Nc S (Cp ..);generalize MX (M<=place)=a5 at *;induction o using RE<;>induction a5 using RE<;>first|exact Nh c (by decide)|(clear c;walk_at "ev")
   exact wg e1 a6 (yL w1)
  ·refine uP (a7 (D++[(H,i,o,M)]) (K+1) b q (S (.int H)) (S (.int i)) (S (.bool o)) (S (.int M)) a3 (by rw[Sn];exact C) (by rw[Sn];exact n) s (by rw[S0] at l;exact qi l rfl)) λr v w1 w t k=>?_;refine qr r v ?_ (by rw[TO,c,Nb rfl];rw[Sn] at w;exact w) t k;have a6:aW cf Ji [S (.aA 0),X,S (.int place),G,a,S (.int H),L,y7,j] b=.ok (.next,[S (.aA 0),X,S (.int place),G,a,S (.int H),S (.int i),S (.bool o),S (.int M)],b):=by unfold oy at c;clear w1 w t k J a3 hi d A s l n h hf f1 f2 C;dsimp only at q1 c;have d1:cq b .gt (.int M) (.int place)=S (!MX (M<=place)):=Nc S (Cp ..);generalize MX (M<=place)=a5 at *;induction o using RE<;>induction a5 using RE<;>first|exact Nh c (by decide)|(clear c;walk_at "ev")
   exact wg e1 a6 (yL w1)
noncomputable abbrev HJ:dR:=.cons (.ifs (.and (.cmp .eq (.sub (.var 2) (.int 0)) (.str 47)) (.cmp .in (.attr (.sub (.var 2) (.int 1)) 23) (.attr (.var 0) 30))) (.cons (.qo [3,4,5] (.sub (.attr (.var 0) 30) (.attr (.sub (.var 2) (.int 1)) 23))) (.cons (.ek (.attr (.var 0) 30) (.attr (.sub (.var 2) (.int 1)) 23) (.tup (.cons (.bin .mul (.gi 40 16) (.sub (.var 2) (.int 2))) (.cons (.var 4) (.cons (.var 5) .nil))))) .nil)) .nil) .nil
theorem EJ(B:(cn o j).isSome=ML){P:pZ}:(eu o P j).length=j.length:=pY B
theorem zd{cf:CF}{un:Z}{f:V Bd}{bd:Z->Bd}{cs:Z->Ct}(b9:∀a7∈f,¬eT l a7 (.D 0))(I:Jo)(X:O Q):∀(y:Jo) (K:Z) (b:AH) (p:V (Z×pZ)) (y2 D c Y:O Q),I.drop K=y->GM b d g m p->b.L[un]? = S (I.map (enc bd))->(∀a7∈f,MB b l a7 (cs a7.num))->(∀a0∈y,bd a0.1∈f/\∀x,a0.2=.most x->x=2)->
  ∃r v L,bZ (λε E T b=>aW cf HJ (T.set 2 (S E)) b) (.lI un) (y.length+1) K [S (.aA 0),X,y2,D,c,Y] b=.ok (.next,v,r)/\GM r d g m L/\L.map rp=p.map rp/\Fr (λU=>U=.D 0) b r:=by
 intro y;induction y with
 |nil=>
  intro K b p y2 D c Y J C s A e;refine zA b [S (.aA 0),X,y2,D,c,Y] p ?_ C rfl Fr.refl;have:Src.at (.lI un) K b=S N:=by show(b.L[un]?).map _=_;refine R s ?_;show S ((I.map (enc bd))[K]?)=_;refine R RK ?_;exact R (Cj J) rfl
  exact Ea this
 |cons i y c1=>
  obtain⟨q,a3⟩:=i
  intro K b p y2 D c Y J C s A e
  have hi:=Ck J
  have a6:=Cm J
  have e1:Src.at (.lI un) K b=S (S (aV (bd q) a3)):=by show(b.L[un]?).map _=_;refine R s ?_;show S ((I.map (enc bd))[K]?)=_;refine R RK ?_;exact R hi rfl
  refine bK (e _ (.head _)) λhb G=>?_
  dsimp only at hb G
  refine LM (P:=∃H,aR b (aV (bd q) a3) (.int 0)=S (.str H)/\(H==47)=MT) (λB=>?_) λa4=>?_
  ·refine hF λc7=>aM B λH q0 q1=>CM (c1 (K+1) b p (S (aV (bd q) a3)) D c Y a6 C s A (λa0 B=>e a0 (.tail _ B))) λr v L w1 w t k=>c7 (zA r v L ?_ w t k);have j:aW cf HJ [S (.aA 0),X,S (aV (bd q) a3),D,c,Y] b=.ok (.next,[S (.aA 0),X,S (aV (bd q) a3),D,c,Y],b):=by walk_at "ev"
   exact wg e1 j (yL w1)
  induction a3 using Un.casesOn with
  |item a5 c3=>exact a4 (ba 45 rfl rfl)
  |acc a5=>exact a4 (ba 16 rfl rfl)
  |ent c4 c3=>induction c3 using Ry<;>exact a4 (ba 49 rfl rfl)
  |drop c4 E ks=>exact a4 (ba 52 rfl rfl)
  |most a5=>
   clear a4;obtain rfl:=G a5 rfl;refine fK (gN (A _ hb)) λε ε b3=>?_;have a1:∀cf,aG cf b (bv (bd q)) 23=.ok (.int (bd q).num,b):=λcf=>aS b3;have a2:∀cf,aG cf b (.aA 0) 30=.ok (.ab 0,b):=λcf=>C.at rfl;have q0:aR b (aV (bd q) (.most 2)) (.int 0)=S (.str 47):=rfl;have q1:aR b (aV (bd q) (.most 2)) (.int 1)=S (bv (bd q)):=rfl;have q2:aR b (aV (bd q) (.most 2)) (.int 2)=S (.int 2):=rfl;have n:bY .mul (.int 16) (.int 2)=S (.int 32):=rfl;have c6:cq b .in (.int (bd q).num) (.ab 0)=S (cn (bd q).num p).isSome:=by refine(oL C.m).trans ?_;show(eG (kI (bd q).num) (p.map lE)).map (·.isSome)=_;refine R (gb mF rfl) ?_;show S ((ow (bd q).num p).isSome)=_;rw[qa]
   refine kA (cn (bd q).num p) (λhg=>?_) (λa5 hg=>?_)
   ·refine CM (c1 (K+1) b p (S (aV (bd q) (.most 2))) D c Y a6 C s A (λa0 B=>e a0 (.tail _ B))) λr v L w1 w t k=>zA r v L ?_ w t k;replace c6:=hg▸c6;unfold VD at c6;have j:aW cf HJ [S (.aA 0),X,S (aV (bd q) (.most 2)),D,c,Y] b=.ok (.next,[S (.aA 0),X,S (aV (bd q) (.most 2)),D,c,Y],b):=by clear w1 w t k J a6 hi s A e hb G C b9 hg b3;walk_at "ev"
    exact wg e1 j (yL w1)
   ·obtain⟨cc,o,M⟩:=a5;have q3:=zc C.m hg;have h:=C.ml;have s1:=ta C.m (k:=(bd q).num) (i:=32) (g:=o) (l:=M) (n1 h rfl);have G1:=C.wD (md':=eu (bd q).num (32,o,M) p) (by refine R (EJ (by refine R hg ?_;rfl)) ?_;exact h);have F1:Fr (λU=>U=.D 0) b (wD b 0 ((eu (bd q).num (32,o,M) p).map lE)):=Fr.wD rfl;have a8:(wD b 0 ((eu (bd q).num (32,o,M) p).map lE)).L[un]? = S (I.map (enc bd)):=s;have a:∀a9∈f,MB (wD b 0 ((eu (bd q).num (32,o,M) p).map lE)) l a9 (cs a9.num):=λa9 c2=>(A _ c2).fr F1 λU hz (H:U=.D 0)=>b9 _ c2 (H▸hz);generalize wD b 0 ((eu (bd q).num (32,o,M) p).map lE)=z at s1 G1 F1 a8 a;refine CM (c1 (K+1) z (eu (bd q).num (32,o,M) p) (S (aV (bd q) (.most 2))) (S (.int cc)) (S (.bool o)) (S (.int M)) a6 G1 a8 a (λa0 B=>e a0 (.tail _ B))) λr v L w1 w t k=>zA r v L ?_ w (t.trans (y9 hg)) (F1.trans k);replace c6:=hg▸c6;unfold VD at c6;have j:aW cf HJ [S (.aA 0),X,S (aV (bd q) (.most 2)),D,c,Y] b=.ok (.next,[S (.aA 0),X,S (aV (bd q) (.most 2)),S (.int cc),S (.bool o),S (.int M)],z):=by clear w1 w t k J a6 hi s A e hb G C b9 hg b3 G1 F1 a8 a h;dsimp only at q3;walk_at "ev"
    exact wg e1 j (yL w1)
theorem EK{B:V Q}{m:Z}{c:Z}{es:Z->Z}{i:V Bd}{bd:Z->Bd}{cs:Z->Ct}(C:GM a d g B j)(v:1<=m)(H:∀M∈i,¬eT es M (.D 0))(I:Jo)(z:I.length<500)(s:a.L[c]? = S (I.map (enc bd)))(A:∀M∈i,MB a es M (cs M.num))(p:∀q∈I,bd q.1∈i/\∀m,q.2=.most m->m=2) :
  ∃r L,aC m (.fn 45) [.aA 0,.aE c] a=.ok (.none,r)/\GM r d g B L/\L.map rp=j.map rp/\Fr (λU=>U=.D 0) a r:=by
 refine aM (eE v) λo bE n=>R bE (CM (zd (cf:=aC o) H I (S (.aE c)) I 0 a j N N N N rfl C s A p) λr D L b w t k=>?_);have h:srcOf a (.aE c)=S (.lI c,I.length):=by refine(oL s).trans ?_;refine(Nb (by refine R (Rz ..) ?_;exact Nn (n1 z rfl))).trans ?_;rw[Rz]
 refine qr r L ?_ w t k;have y:=ik (cf:=aC o) (x:=2) (e:=.var 1) (l:=[S (.aA 0),S (.aE c),N,N,N,N]) (show aO _ _ _ a=.ok (.aE c,a) from rfl) h b;refine(aN (f:=Jw) [S (.aA 0),S (.aE c),N,N,N,N] rfl rfl).trans ?_;exact(bL (aX y)).trans rfl
theorem ze{w:V Q}{P:Z}:cut w N (S (P:MN))=w.take P:=by show V.drop 0 (V.take (TR P) w)=_;refine V.drop_zero.trans ?_;refine R (T2 ..) rfl
theorem Bq{lo d:O Q}{T B:O MN}(p:oE lo=S T)(G:oE d=S B):dP a (.aE n) lo d=(a.L[n]?).bind λw=>if sm w.length then S (.aE a.L.length,{a with L:=a.L++[cut w T B]}) else N:=by unfold dP;refine R p (R G rfl)
theorem rq{place:Z}(s:place<1000):oE (S (.int place))=S (S (place:MN)):=by unfold oE;exact Nb ⟨by exact RQ _,TS (show(place:MN)<1000 by exact RU.mpr s) (by decide)⟩
theorem Cq{place:Z}{w:V Q}(B:a.L[n]? = S w)(l:w.length<1000)(s:place<1000):dP a (.aE n) N (S (.int place))=S (.aE a.L.length,aL a (w.take place)):=by refine(Bq (lo:=N) rfl (rq s)).trans ((oL B).trans ?_);exact(Nb (show sm w.length=ML from Nn l)).trans rfl
theorem L6{U:AH}{g:Z}{a:MN}{t l1 P:Q}{r:Q×AH}{L:Loc}(c:∀f,aG f p (.aA 0) 25=.ok (.aE g,p))(I:dP p (.aE g) N (S P)=S r)(b:dH r.2 (.aA 0) 25 r.1=S U):cN f (aH jJ.body 4) (S (.aA 0) :: S (.int a) :: S P :: S t :: S l1 :: L) p=.ok (.next,S (.aA 0) :: S (.int a) :: S P :: S t :: S l1 :: L,U):=by dsimp only[jJ,aH];walk_at "ev"
theorem Br{C:LE}{M:dR}{R:Res (Fl×Loc×AH)}(B:gJ (λe a=>(aO f C e a).bind λy=>match truthy y.1 with|some n=>.ok (n,y.2)|none=>.bad) (λe a=>aW f M e a) 100 e a=R):cN f (.zu C M) e a=R:=wz.trans B
theorem Jj:(j.map lE).map (·.1)=(j.map (·.1)).map kI:=by exact SX.trans (R SX rfl)
theorem EL{b:Z}{a h:AH}{X e G:O Q}{l:Loc}(r:aK a (.aA 0) 56=S (.own 45))(B:aC o (.fn 45) [.aA 0,.aE b] a=.ok (.none,h)):cN (aC o) (aH jJ.body 7) (S (.aA 0) :: X :: e :: G :: S (.aE b) :: l) a=.ok (.next,S (.aA 0) :: X :: e :: G :: S (.aE b) :: l,h):=by dsimp only[jJ,aH];walk_at "ev"
theorem EM{h b:AH}{X e a:O Q}{t:Sv}{l:Loc}(s:∀c,aG c h (eC t) 29=.ok (.int t.used,h))(w:dH h (.aA 0) 29 (.int t.used)=S b):cN (aC o) (aH jJ.body 8) (S (.aA 0) :: X :: e :: S (eC t) :: a :: l) h=.ok (.next,S (.aA 0) :: X :: e :: S (eC t) :: a :: l,b):=by dsimp only[jJ,aH];walk_at "ev"
theorem EN{X:Ad->Prop}{m:Z}{place:Z}{q:MN}{bs:V Bd}{b:Z->Bd}{cs:Z->Ct}(hm:3<=m){pre suf:Jo}{s:Sv}(C:GM a d g (((pre++suf).map (enc b)).reverse) j)(hp:fv q g=S place)(hs:g[place]? = S s)(a8:s.many=suf.length)(J:∀U,Gl U\/U=.L d.ks->X U)(D:∀M∈bs,∀b'∈bs,M.num=b'.num->M=b')
  (MM:∀M∈bs,MB a l M (cs M.num)) (a6:∀M∈bs,y0 (cs M.num)) (T:Sep X l bs) (hh:∀U,X U->has a U) (hq:∀a3∈pre,b a3.1∈bs/\(b a3.1).num=a3.1) (a5:∀a3∈pre,∀m,a3.2=.most m->m=2) (z:qm (λa2=>(b a2).k) cs pre) (n:(j.map (·.1)).Nodup) (a7:pre.length<98) :
  ∃r E c2 a0 c9 c6,aC m (.fn 44) [.aA 0,.int q] a=.ok (c6,r)/\GM r {d with ks:=a0,fr:=c9,u:=s.used} (g.take place) ((suf.map (enc b)).reverse) c2/\c2.map rp=(j.filter (oy place)).map rp/\
   (∀M∈bs,MB r E M (kJ cs pre M.num))/\(∀M∈bs,y0 (kJ cs pre M.num))/\Sep (λU=>X U\/U=.L a0) E bs/\(∀U,X U->has r U)/\¬has a (.L a0)/\Fr (λU=>¬X U\/Gl U) a r:=by
 refine aM (eE hm) λa2 bE hn=>R bE ?_;have hJ:pre.length+suf.length<99:=by have:=C.jl;rw[Sr,Rz,RF] at this;exact this
 have e1:=tf (q:=q) (m:=a2) C hn;rw[hp] at e1;have r1:aK a (.aA 0) 55=S (.own 42):=C.rc rfl;have a1:∀e,aG e a (.aA 0) 25=.ok (.aE d.ks,a):=λe=>C.at rfl;have pl:=(RG.mp hs).1;have sl:=C.sl;have q1:aR a (.aE d.ks) (.int place)=S (eC s):=by show(a.L[d.ks]?).bind _=_;refine(oL C.s).trans ?_;show(Mine.Lake.place place (g.map eC).length).bind _=_;refine(oL (show Mine.Lake.place place (g.map eC).length=S place by refine(Nb (RQ _)).trans ?_;refine(Nb (by refine R (Rz ..) ?_;exact⟨RU.mpr pl,S6.mpr (qi (RO pl sl) rfl)⟩)).trans ?_;rfl)).trans ?_;show(g.map eC)[place]? = _;refine RK.trans ?_;exact R hs rfl
 have k0:cN (aC a2) (aH jJ.body 0) [S (.aA 0),S (.int q),N,N,N,N,N,N,N] a=.ok (.next,[S (.aA 0),S (.int q),S (.int place),N,N,N,N,N,N],a):=by dsimp only[jJ,aH];clear C J D MM a6 T hh hq a5 z n hp hs a8;walk_at "ev"
 have k1:cN (aC a2) (aH jJ.body 1) [S (.aA 0),S (.int q),S (.int place),N,N,N,N,N,N] a=.ok (.next,[S (.aA 0),S (.int q),S (.int place),S (eC s),N,N,N,N,N],a):=by dsimp only[jJ,aH];clear C J D MM a6 T hh hq a5 z n hp hs a8;walk_at "ev"
 have e5:=bP C.s;refine JJ (EH (un:=a.L.length) (m:=a2) (n4 hn rfl) J s suf a8 D (S (.int q)) (S (.int place)) [N,N,N,N] pre (aL a []) l cs [] 100 ((Bh C).1 _) (λM w=>(MM M w).fr (P:=λY=>Nx) Fr.aL λY Y=>id) a6 T (λU hz=>Fr.has (P:=λY=>Nx) Fr.aL id (hh U hz)) hq z dK (λB=>RV _ (hh _ B)) (λM w hz=>by have:=(MM M w).has hz;exact RV _ this) (by simp only[V.length_nil];exact a7) (n1 a7 rfl)) λI a4 w1 G2 k c8 S2 d0 a9 F2=>?_;rw[Uh] at a9;have d4:dP I (.aE d.ks) N (S (.int place))=S (.aE I.L.length,aL I ((g.take place).map eC)):=by have:=Cq (place:=place) G2.s (R (Rz ..) (n1 sl rfl)) (qi (RO pl sl) rfl);refine this.trans ?_;rw[UX]
 have b9:=bP a9;have t:=λU=>Z.lt_asymm (show a.L.length<I.L.length from b9) (show I.L.length<a.L.length from U);have i:GM (aL I ((g.take place).map eC)) d g ((suf.map (enc b)).reverse) j:=(Bh G2).1 _;have s3:dH (aL I ((g.take place).map eC)) (.aA 0) 25 (.aE I.L.length)=S (wI (aL I ((g.take place).map eC)) 0 (.Mem,cm {d with ks:=I.L.length})):=i.dH rfl (by decide) _ rfl;have G4:GM (wI (aL I ((g.take place).map eC)) 0 (.Mem,cm {d with ks:=I.L.length})) {d with ks:=I.L.length} (g.take place) ((suf.map (enc b)).reverse) j:=⟨bW i.i,dK,i.j,i.m,λU=>S7 (VL (bP C.j) (show a.L.length<I.L.length from b9)) U,by refine R S4 ?_;exact RO (T8 ..) sl,i.jl,i.ml⟩;have F4:Fr Gl I (wI (aL I ((g.take place).map eC)) 0 (.Mem,cm {d with ks:=I.L.length})):=Fr.aL.trans (Fr.wI (.inl rfl));have c1:(wI (aL I ((g.take place).map eC)) 0 (.Mem,cm {d with ks:=I.L.length})).L[a.L.length]? = S (pre.map (enc b)):=ec a9;have k4:∀L,cN (aC a2) (aH jJ.body 4) (S (.aA 0) :: S (.int q) :: S (.int place) :: S (eC s) :: S (.aE a.L.length) :: L) I=.ok (.next,S (.aA 0) :: S (.int q) :: S (.int place) :: S (eC s) :: S (.aE a.L.length) :: L,wI (aL I ((g.take place).map eC)) 0 (.Mem,cm {d with ks:=I.L.length})):=λL=>by exact L6 (λe=>G2.at rfl) d4 s3
 have v:∀M∈bs,MB (wI (aL I ((g.take place).map eC)) 0 (.Mem,cm {d with ks:=I.L.length})) a4 M (kJ cs pre M.num):=λM w=>(k M w).fr F4 λU hz o=>S2.x M w U hz (J U (.inl o));have c3:∀U,X U->has (wI (aL I ((g.take place).map eC)) 0 (.Mem,cm {d with ks:=I.L.length})) U:=λU hz=>by
  by_cases o:Gl U;·exact G4.has (.inl o)
  ·exact F4.has o (d0 U hz)
 have d3:has (wI (aL I ((g.take place).map eC)) 0 (.Mem,cm {d with ks:=I.L.length})) (.L I.L.length):=G4.has (.inr rfl);generalize d6:I.L.length=a0 at *;generalize wI (aL I ((g.take place).map eC)) 0 (.Mem,cm {d with ks:=a0})=H4 at *;have G5:GM (aL H4 []) {d with ks:=a0} (g.take place) ((suf.map (enc b)).reverse) j:=(Bh G4).1 _;have s5:dH (aL H4 []) (.aA 0) 57 (.aE H4.L.length)=S (wI (aL H4 []) 0 (.Mem,cm {d with ks:=a0,fr:=.aE H4.L.length})):=G5.dH rfl (by decide) _ rfl;have A:=G5.wI (Bg:={d with ks:=a0,fr:=.aE H4.L.length}) rfl;have F6:Fr Gl H4 (wI (aL H4 []) 0 (.Mem,cm {d with ks:=a0,fr:=.aE H4.L.length})):=Fr.aL.trans (Fr.wI (.inl rfl));have c5:(wI (aL H4 []) 0 (.Mem,cm {d with ks:=a0,fr:=.aE H4.L.length})).L[H4.L.length]? = S []:=dK;have d9:(wI (aL H4 []) 0 (.Mem,cm {d with ks:=a0,fr:=.aE H4.L.length})).L[a.L.length]? = S (pre.map (enc b)):=ec c1;have k5:∀L,cN (aC a2) (aH jJ.body 5) (S (.aA 0) :: S (.int q) :: S (.int place) :: S (eC s) :: S (.aE a.L.length) :: L) H4=.ok (.next,S (.aA 0) :: S (.int q) :: S (.int place) :: S (eC s) :: S (.aE a.L.length) :: L,wI (aL H4 []) 0 (.Mem,cm {d with ks:=a0,fr:=.aE H4.L.length})):=λL=>by change (match dH (aL H4 []) (.aA 0) 57 (.aE H4.L.length) with|some r=>Res.ok (Fl.next,_,r)|none=>.bad)=_;rw[s5]
 have M6:∀M∈bs,MB (wI (aL H4 []) 0 (.Mem,cm {d with ks:=a0,fr:=.aE H4.L.length})) a4 M (kJ cs pre M.num):=λM w=>(v M w).fr F6 λU hz o=>S2.x M w U hz (J U (.inl o));have c4:∀U,X U->has (wI (aL H4 []) 0 (.Mem,cm {d with ks:=a0,fr:=.aE H4.L.length})) U:=λU hz=>by
  by_cases o:Gl U;·exact A.has (.inl o)
  ·exact F6.has o (c3 U hz)
 have d1:H4.L.length≠1:=λU=>by have:=bP G4.j;exact Nh (U.symm▸this) (RV _)
 have e3:H4.L.length≠a0:=λU=>by have:=show a0<H4.L.length from d3;exact Nh (U.symm▸this) (RV _)
 have d7:∀M∈bs,¬eT a4 M (.L H4.L.length):=λM w hz=>RV _ ((v M w).has hz);have d8:¬X (.L H4.L.length):=λhz=>RV _ (c3 _ hz);have e0:a.L.length≠H4.L.length:=λU=>by have:=bP c1;exact Nh (U.symm▸this) (RV _)
 generalize H4.L.length=fa at *;generalize wI (aL H4 []) 0 (.Mem,cm {d with ks:=a0,fr:=.aE fa})=H6 at *;refine uP (Bp (place:=place) (cf:=aC a2) (μ:={d with ks:=a0,fr:=.aE fa}) rfl d1 e3 (j.map (·.1)) (S (.int q)) (S (eC s)) (S (.aE a.L.length)) j [] 0 H6 [] N N N N rfl A n c5 (n1 (RO (R2 (T5 _)) C.ml) rfl)) λH7 l7 w7 G F7 e4=>?_;rw[Uh] at G;have n7:∀U,X U->¬(U=.L fa):=λU hz H=>d8 (H▸hz);have M7:=λM w=>(M6 M w).fr F7 λU hz o=>by
  rcases o with o|o;·exact S2.x M w U hz (J U (.inl (.inr (.inl o))))
  ·exact d7 M w (o▸hz)
 have c7:∀U,X U->has H7 U:=λU hz=>by
  by_cases o:Gl U;·exact G.has (.inl o)
  ·exact F7.has (λH=>H.elim (λH=>o (.inr (.inl H))) (n7 U hz)) (c4 U hz)
 have k6:cN (aC a2) (aH jJ.body 6) [S (.aA 0),S (.int q),S (.int place),S (eC s),S (.aE a.L.length),N,N,N,N] H6=.ok (.next,S (.aA 0) :: S (.int q) :: S (.int place) :: S (eC s) :: S (.aE a.L.length) :: l7,H7):=by
  have ml:=A.ml;have b6:bA H6 .list [.ab 0]=S (.lst ((j.map (·.1)).map kI),H6):=by show(H6.D[0]?).bind _=_;refine(oL A.m).trans ?_;show(if Mine.Lake.sm (j.map lE).length=ML then _ else N)=_;rw[Nb (by rw[Rz];exact Nn (n1 ml rfl)),Jj]
  have s6:srcOf H6 (.lst ((j.map (·.1)).map kI))=S (.dS ((j.map (·.1)).map kI),j.length):=by show(if Mine.Lake.sm ((j.map (·.1)).map kI).length=ML then _ else N)=_;rw[Nb (by rw[Rz,Rz];exact Nn (n1 ml rfl)),Rz,Rz]
  have ee:aO (aC a2) (.bq .list (.cons (.attr (.var 0) 30) .nil)) [S (.aA 0),S (.int q),S (.int place),S (eC s),S (.aE a.L.length),N,N,N,N] H6=.ok (.lst ((j.map (·.1)).map kI),H6):=by exact xB (Ci (yX (x:=0) (v:=.aA 0) rfl ((λe=>A.at rfl) _)) G8) b6
  exact ik ee s6 w7
 refine uP (EK (m:=a2) (es:=a4) (cs:=λa2=>kJ cs pre a2) (bd:=b) G (n4 hn rfl) (λM w hz=>S2.x M w _ hz (J _ (.inl (.inr (.inl rfl))))) pre (n1 a7 rfl) (show H7.L[a.L.length]? = S (pre.map (enc b)) from F7.L _ _ (λH=>H.elim (λH=>nomatch H) λH=>e0 (Ad.L.inj H)) d9) M7 (λa3 hp=>⟨(hq a3 hp).1,a5 a3 hp⟩)) λh e2 e8 y p c=>?_;have d2:∀U,X U->has h U:=λU hz=>by
  by_cases o:Gl U;·exact y.has (.inl o)
  ·exact c.has (λH=>o (.inr (.inl H))) (c7 U hz)
 have s8:dH h (.aA 0) 29 (.int s.used)=S (wI h 0 (.Mem,cm {d with ks:=a0,fr:=.aE fa,u:=s.used})):=y.dH rfl (by decide) _ rfl;have G9:=y.wI (Bg:={d with ks:=a0,fr:=.aE fa,u:=s.used}) rfl;have F9:Fr Gl h (wI h 0 (.Mem,cm {d with ks:=a0,fr:=.aE fa,u:=s.used})):=Fr.wI (.inl rfl);have M9:∀M∈bs,MB (wI h 0 (.Mem,cm {d with ks:=a0,fr:=.aE fa,u:=s.used})) a4 M (kJ cs pre M.num):=λM w=>((λM w=>(M7 M w).fr c λU hz (o:U=.D 0)=>S2.x M w U hz (J U (.inl (.inr (.inl o))))) M w).fr F9 λU hz o=>S2.x M w U hz (J U (.inl o));have d5:∀U,X U->has (wI h 0 (.Mem,cm {d with ks:=a0,fr:=.aE fa,u:=s.used})) U:=λU hz=>by
  by_cases o:Gl U;·exact G9.has (.inl o)
  ·exact F9.has o (d2 U hz)
 have hf:∀M∈bs,¬eT a4 M (.L a0):=λM w hz=>by have:=(k M w).has hz;rw[<-d6] at this;exact RV _ this
 have K:∀U,U=.D 0->Gl U:=λU B=>.inr (.inl B);refine⟨_,a4,e2,a0,.aE fa,.aE a.L.length,?_,G9,p,M9,c8,⟨λM w U hz hx=>hx.elim (S2.x M w U hz) λH=>hf M w (H▸hz),S2.d⟩,d5,t,?_⟩
 ·have r7:aK H7 (.aA 0) 56=S (.own 45):=G.rc rfl;have k7:cN (aC a2) (aH jJ.body 7) (S (.aA 0) :: S (.int q) :: S (.int place) :: S (eC s) :: S (.aE a.L.length) :: l7) H7=.ok (.next,S (.aA 0) :: S (.int q) :: S (.int place) :: S (eC s) :: S (.aE a.L.length) :: l7,h):=by exact EL r7 e8
  have k8:cN (aC a2) (aH jJ.body 8) (S (.aA 0) :: S (.int q) :: S (.int place) :: S (eC s) :: S (.aE a.L.length) :: l7) h=.ok (.next,S (.aA 0) :: S (.int q) :: S (.int place) :: S (eC s) :: S (.aE a.L.length) :: l7,wI h 0 (.Mem,cm {d with ks:=a0,fr:=.aE fa,u:=s.used})):=by exact EM (λe=>aS rfl) s8
  rw[aN (f:=jJ) [S (.aA 0),S (.int q),N,N,N,N,N,N,N] rfl rfl];show(aW _ (.cons (aH jJ.body 0) (.cons (aH jJ.body 1) (.cons (aH jJ.body 2) (.cons (.zu Jh Jg) (.cons (aH jJ.body 4) (.cons (aH jJ.body 5) (.cons (aH jJ.body 6) (.cons (aH jJ.body 7) (.cons (aH jJ.body 8) (.cons (.ret (.var 4)) .nil)))))))))) _ a).bind _=_;rw[aX k0,aX k1,aX (show cN (aC a2) (aH jJ.body 2) [S (.aA 0),S (.int q),S (.int place),S (eC s),N,N,N,N,N] a=.ok (.next,[S (.aA 0),S (.int q),S (.int place),S (eC s),S (.aE a.L.length),N,N,N,N],aL a []) from rfl),aX (Br w1),aX (k4 _),aX (k5 _),aX k6,aX k7,aX k8];rfl
 ·refine((((((Fr.aL (v:=[])).trans F2).trans (F4.mono λY=>US)).trans (F6.mono λY=>US)).trans (F7.mono λU H=>?_)).trans (c.mono λU H=>US (K U H))).trans (F9.mono λY=>US);rcases H with H|H;·exact US (K U H)
  ·exact Vd λhz=>n7 U hz H
theorem L7{I:MP}:cq a .ne (.bool I) (.bool I)=S MT:=by show S (!(I==I))=_;exact R (Pc ..) rfl
theorem vQ{g:Q->AH->Res (O Q×AH)}{t:Src}{j:V Q}{o:Q->O Q}(P:∀K,t.at K a=S j[K]?):∀(y:V Q) (K:Z),j.drop K=y->(∀r∈y,g r a=.ok (o r,a))->bO g t (y.length+1) K a=.ok (y.filterMap o,a):=by
 intro y;induction y with
 |nil=>intro K B _;exact LV ((P _).trans (Nc S (Cj B)))
 |cons r y f=>intro K B x;refine(LX ((P _).trans (Nc S (Ck B))) (x r (.head _)) (f (K+1) (Cm B) λs J=>x s (.tail _ J))).trans (R TP ?_);induction(o r) using Ry<;>rfl
theorem gE{cf:CF}{elt it:LE}{ts:V Z}{cond:LO}{l:Loc}{H:AH}{v:Q}{t:Src}{j:V Q}{g:Q->O Q}(p:aO cf it l H=.ok (v,i))(G:srcOf i v=S (t,j.length))(P:∀K,t.at K i=S j[K]?)
  (x:∀r∈j,br cf elt ts cond l r i=.ok (g r,i)):aO cf (.comp elt ts it cond) l H=.ok (.lst (j.filterMap g),i):=by refine(bL p).trans ?_;dsimp only[Res.bind];refine R G ((bL (vQ P j 0 rfl x)).trans rfl)
theorem mH{j:V Q}(B:a.L[n]? = S j)(l:j.length<1000):srcOf a (.aE n)=S (.lI n,j.length)/\∀K,(Src.lI n).at K a=S j[K]?:=by
 refine⟨?_,λK=>?_⟩;·exact(oL B).trans (Nb (show sm j.length=ML from Nn l))
 ·show(a.L[n]?).map _=_;exact R B rfl
theorem rt{H:AH}{xs:V Q}(l:xs.length<1000):srcOf H (.lst xs)=S (.dS xs,xs.length)/\∀K,(Src.dS xs).at K H=S xs[K]?:=⟨Nb (show sm xs.length=ML from Nn l),λY=>rfl⟩
theorem vR:∀{T:V Q},(∀r∈T,eqT r r=S ML)->rD T T=S ML:=by
 intro T;induction T with
 |nil=>intro _;rfl
 |cons r T f=>intro B;show(match eqT r r,rD T T with|some r,S s=>S (r&&s)|_,_=>N)=_;refine R (B r (.head _)) ?_;exact R (f λs J=>B s (.tail _ J)) rfl
theorem mJ{T:V Q}(B:∀r∈T,eqT r r=S ML):cq a .eq (.lst T) (.lst T)=S ML/\cq a .ne (.lst T) (.lst T)=S MT:=by
 have:zw a (.lst T) (.lst T)=S ML:=by exact(Nb rfl).trans ((vR B))
 exact⟨this,by show(zw a (.lst T) (.lst T)).map _=_;refine R this ?_;rfl⟩
theorem vS{I:V (Z×MN)}(n:(I.map (·.1)).Nodup):∀{T:V (Z×MN)},(∀P∈T,P∈I)->iC (I.map ent) (T.map ent)=S (T.map λP=>eN P.1 P.2):=by
 intro T;induction T with
 |nil=>intro _;rfl
 |cons P T f=>
  intro B;have o:cn P.1 I=S P.2:=by
   have G:∀{x:V (Z×MN)},(x.map (·.1)).Nodup->P∈x->cn P.1 x=S P.2:=by
    intro x
    induction x with
    |nil=>intro _ B;cases B
    |cons L y d=>
     intro n B;rw[R5,RW] at n;rcases RC.mp B with rfl|B;·exact(Nb rfl)
     ·exact(Nf (λD:L.1=P.1=>n.1 (D▸R3 B))).trans ((d n.2 B))
   exact G n (B P (.head _))
  show(match (cW (I.map ent) (kW P.1)).bind id,iC (I.map ent) (T.map ent) with|some E,S w=>S (E :: w)|_,_=>N)=_;refine R (gB kK rfl) ?_;refine R o ?_;exact R (f λL e=>B L (.tail _ e)) rfl
theorem ld{h:Z}{H:Q}(t:a.D[h]? = S (dy b c))(D:(cW (dy b c) H).bind id=S k):aR a (.ab h) H=S k:=rn t D
theorem Hd{h:Z}(B:a.B[h]? = S ll)(l:ll.length<1000):bA a .len [.eO h]=S (.int ll.length,a):=(oL B).trans (Nb (Nn l))
theorem zf{m:Z}{b:Bd}{c:Ct}{o:Ct}(v:3<=m)(t:a.D[b.d]? = S (dy b o))(w:MB a l b c)(T:c.cw.length<=3):aC m (.fn 53) [.ab b.d] a=.ok (dB b c,a):=by
 refine aM (eE v) λg bE n=>?_;clear v;subst bE;refine aM (eE n) λg cj H=>?_;clear n;subst cj;have A:aR a (.ab b.d) (.str 9)=S (kS b.k):=ld t rfl;have h:aR a (.ab b.d) (.str 14)=S (bv b):=ld t rfl;have d:∀r s,aC g (.cls .Thing) [r,s,.bool MT,.int 3] a=.ok (.obj .Thing [r,s,.bool MT,.int 3],a):=λr s=>Ef H;have M:∀r s,aC g (.cls .Thing) [r,s] a=.ok (.obj .Thing [r,s,.bool MT,.int 3],a):=λr s=>yM H;have x:∀r s U,aC g (.cls .Span) [r,s,U] a=.ok (.obj .Span [r,s,U],a):=λr s U=>Hb H;have p:gT [39,8,36] [.fn 7,.fn 8,.fn 6] (kS b.k) a=.ok (.fn (match b.k with|.row=>7|.dict=>8|.text=>6),a):=by induction b.k using Wo<;>rfl
 have y:aC (g+1) (.fn (match b.k with|.row=>7|.dict=>8|.text=>6)) [bv b] a=.ok (dB b c,a):=by
  induction J:b.k using Wo with
  |row=>
   have j:a.L[b.a]? = S (c.cw.map tI):=by unfold MB at w;rw[J] at w;exact w
   have l1:=jG j (R (Rz ..) (n2 T rfl))
   rw[Rz] at l1
   have L:∀e,aG e a (bv b) 6=.ok (.aE b.a,a):=λe=>aS (by unfold bv;exact R J rfl)
   have D:dB b c=.obj .Thing [.str 7,.obj .Span [bv b,.int 0,.int c.cw.length],.bool MT,.int 3]:=by unfold dB;rw[J]
   refine(aN (f:=f7) [S (bv b),S (.bool MT),S (.int 3)] rfl rfl).trans ?_;rw[f7];refine R D ?_
   walk_at "ev"
  |text=>
   have j:a.B[b.a]? = S c.cw:=by unfold MB at w;rw[J] at w;exact w
   have l1:=Hd j (n2 T rfl)
   have L:∀e,aG e a (bv b) 4=.ok (.eO b.a,a):=λe=>aS (by unfold bv;exact R J rfl)
   have D:dB b c=.obj .Thing [.str 5,.obj .Span [bv b,.int 0,.int c.cw.length],.bool MT,.int 3]:=by unfold dB;rw[J]
   refine(aN (f:=f6) [S (bv b),S (.bool MT),S (.int 3)] rfl rfl).trans ?_;rw[f6];refine R D ?_
   walk_at "ev"
  |dict=>
   have D:dB b c=.obj .Thing [.str 8,bv b,.bool MT,.int 3]:=by unfold dB;rw[J]
   refine(aN (f:=f8) [S (bv b)] rfl rfl).trans ?_;rw[f8,D]
   walk_at "ev"
 refine(aN (f:=Ii) [S (.ab b.d)] rfl rfl).trans ?_;delta Ii;have k:(match b.k with|.row=>7|.dict=>8|.text=>6:Z)<60:=by induction b.k using Wo<;>decide
 generalize (match b.k with|.row=>7|.dict=>8|.text=>6:Z)=i at *;have z:keyOf (.fn i)=S (.fn i):=Nb k;walk_at "ev"
theorem mK{step:Z->AV->Loc->AH->Res (Fl×Loc×AH)}{t:Src}{j:V AV}{Q:Loc->Prop}(P:∀K,t.at K a=S j[K]?)(x:∀K r T,j[K]? = S r->Q T->∃v,step K r T a=.ok (.next,v,a)/\Q v):∀(y:V AV) (K:Z) (T:Loc),j.drop K=y->Q T->∃v,bZ step t (y.length+1) K T a=.ok (.next,v,a)/\Q v:=by
 intro y;induction y with
 |nil=>intro K T B L;exact ba T (Ea ((P _).trans (Nc S (Cj B)))) L
 |cons r y f=>intro K T B L;have d:=Ck B;refine aM (x K r T d L) λl1 X b=>aM (f (K+1) l1 (Cm B) b) λl2 m q=>ba l2 ?_ q;exact wg ((P _).trans (Nc S d)) X (yL m)
theorem nH{x:Z}(B:e[x]? = S (S k))(G:aR a k (.str n)=S t):aO f (.sub (.var x) (.str n)) e a=.ok (t,a):=I7 (I6 B) I9 G
theorem jH:∀{K:Z} {t:Sv},(g.map (·.num)).Nodup->g[K]? = S t->fv t.num g=S K:=by
 induction g with
 |nil=>exact λ_ B=>nX B
 |cons a y d=>
  intro K t n B
  induction K using RY with
  |zero=>exact Nb (Nc (λt=>(Sv.num t:MN)) (sX B))
  |succ K=>replace n:=RW.mp n;have B:=B;have:a.num≠t.num:=λD=>n.1 (by show a.num∈_;refine R D ?_;exact R3 (f:=λt:Sv=>t.num) (RJ B));refine(Nf (λD=>this (U2.mp D))).trans ?_;exact R (d n.2 B) rfl
noncomputable abbrev EO:dR:=.cons (.ifs (.cmp .ne (.aU (.sub (.var 0) (.str 64)) 74 (.cons (.sub (.var 5) (.int 0)) (.cons (.call (.gf 53) (.cons (.var 1) .nil)) .nil))) (.and (.not (.sub (.var 1) (.str 59))) (.cmp .gt (.sub (.var 1) (.str 26)) (.var 4)))) (.cons (.ret (.qg MT)) .nil) .nil) .nil
theorem vT{kb:Z}{k:Z}{a0:AV}{c':Ct}{ds:V Z}(C:GM a d g m j)(P:LW a kb k a0 ds (g.map jF))(v:4<=o)(t:a.D[b.d]? = S (dy b c'))(w:MB a l b c)(I:c.cw.length<=3)(n:(g.map (·.num)).Nodup)(e G y Y:O AV)(s:Loc) :
  ∃U f,cN (aC o) (.iM 4 5 (.sub (.var 0) (.str 25)) EO) (S (.ab 1) :: S (.ab b.d) :: e :: G :: y :: Y :: s) a=.ok (.next,S (.ab 1) :: S (.ab b.d) :: e :: G :: U :: f :: s,a):=by refine hF λA=>?_;refine bK (mH P.s (by have:=P.sl;exact n1 this rfl)) λJ s2=>?_;have a1:aR a (.ab 1) (.str 64)=S (.aA 0):=P.sub rfl;have h:aR a (.ab b.d) (.str 59)=S (.bool b.g):=ld t rfl;have L:aR a (.ab b.d) (.str 26)=S (.int b.lv):=ld t rfl;have X:=zf (m:=o) (n4 v rfl) t w I;have r1:aK a (.aA 0) 74=S (.own 43):=C.rc rfl;obtain⟨l',D,⟨U,f,rfl⟩⟩:=mK (step:=λH E T a=>aW (aC o) EO ((T.set 4 (S (.int H))).set 5 (S E)) a) (Q:=λT=>∃U f,T=S (.ab 1) :: S (.ab b.d) :: e :: G :: U :: f :: s) s2 (λK r T x p=>by refine mN p λU f bE=>R bE ?_;rw[RK,Sb] at x;refine aM x λi hs cj=>R cj.symm ⟨_,?_,S (.int K),S (jF i),rfl⟩;have e2:=EA (m:=o) (c':=c) C v w (jH n hs);have M:aR a (jF i) (.int 0)=S (.int i.num):=rfl;have d1:cq a .gt (.int b.lv) (.int K)=S (MX (K<b.lv)):=Nc S (Pw.mpr RU);generalize b.g=z at *;have B:cq a .ne (.bool (!MT&&MX (K<b.lv))) (.bool (MX (K<b.lv)))=S MT:=L7;induction z using RE<;>walk_at "ev") _ 0 _ rfl (v7 y Y rfl);exact A (v7 U f (qe (v:=.aE k) (H1:=a) (nH rfl (P.sub rfl)) J D))
theorem zg{n:Z}(w:MB a l b c)(a5:a.D[b.d]? = S (dy b c))(v:1<=n)(T:y0 c)(nd:(c.en.map (·.1)).Nodup)(t G C x z X i p h:O Q) :
  cN (aC n) (.ifs (.cmp .eq (.sub (.var 1) (.str 9)) (.str 39)) (.cons (.asg 3 (.comp (.attr (.var 8) 11) [8] (.attr (.var 2) 6) .no)) .nil) (.cons (.ifs (.cmp .eq (.sub (.var 1) (.str 9)) (.str 36)) (.cons (.asg 3 (.bq .list (.cons (.attr (.var 2) 4) .nil))) .nil) (.cons (.asg 3 (.comp (.tup (.cons (.attr (.var 9) 11) (.cons (.attr (.var 10) 11) .nil))) [9,10] (.aU (.var 2) 75 .nil) .no)) .nil)) .nil))
   [t,S (.ab b.d),S (bv b),G,C,x,z,X,i,p,h] a=.ok (.next,[t,S (.ab b.d),S (bv b),S (cR b.k c),C,x,z,X,i,p,h],a):=by
 have A:aR a (.ab b.d) (.str 9)=S (kS b.k):=ld a5 rfl;refine bK T λa0 a2=>?_;induction J:b.k using Wo with
 |row=>
  have j:a.L[b.a]? = S (c.cw.map tI):=by unfold MB at w;rw[J] at w;exact w
  refine bK (mH j (by refine R (Rz ..) ?_;exact n2 a0 rfl)) λk o=>?_
  have L:∀e,aG e a (bv b) 6=.ok (.aE b.a,a):=λe=>aS (by unfold bv;exact R J rfl)
  have I:=gE (cf:=aC n) (elt:=.attr (.var 8) 11) (ts:=[8]) (cond:=.no) (l:=[t,S (.ab b.d),S (bv b),G,C,x,z,X,i,p,h]) (g:=λE:Q=>match E with|AV.obj .Thing [_,s,_,_]=>S s|_=>N) (yX (x:=2) rfl (L _)) k o λr hx=>by refine aM (Sj.mp hx) λK d du=>R du.symm ?_;rfl
  have D:(c.cw.map tI).filterMap (λE:Q=>match E with|AV.obj .Thing [_,s,_,_]=>S s|_=>N)=c.cw.map .int:=by exact Tt.trans (R Tu.symm rfl)
  rw[D] at I
  rw[J] at A
  generalize (LE.comp (.attr (.var 8) 11) [8] (.attr (.var 2) 6) .no)=ce at *
  walk_at "ev"
 |text=>
  have j:a.B[b.a]? = S c.cw:=by unfold MB at w;rw[J] at w;exact w
  have L:∀e,aG e a (bv b) 4=.ok (.eO b.a,a):=λe=>aS (by unfold bv;rw[J];rfl)
  have M:bA a .list [.eO b.a]=S (.lst (c.cw.map .int),a):=by show(a.B[b.a]?).bind _=_;rw[j];exact Nb (show sm c.cw.length=ML from Nn (n2 a0 rfl))
  replace A:=J▸A
  walk_at "ev"
 |dict=>
  refine aM (eE v) λH dV Y=>R dV ?_;have y:=dM J w;have L:∀e,aG e a (bv b) 0=.ok (.ab (l b.num),a):=λe=>ew J w rfl;have vv:kz a (.ab (l b.num))=.ok (.lst (c.en.map λP=>eN P.1 P.2),a):=by show(match a.D[l b.num]? with|some l=>if sm l.length then(match iC l l with|some vs=>Res.ok (Q.lst vs,a)|none=>.bad) else .bad|none=>.bad)=_;rw[y];dsimp only;rw[Nb (show sm _=ML from Nn (by rw[Rz];exact n2 a2 rfl)),vS nd λP B=>B]
  have a6:aC (H+1) (.fn 2) [bv b] a=.ok (.lst (c.en.map λP=>eN P.1 P.2),a):=by rw[aN (f:=f2) [S (bv b),N] rfl rfl];delta f2;walk_at "ev"
  have r1:aK a (bv b) 75=S (.own 2):=by
   have j:a.I[b.a]? = S (.Dict,ft b c (l b.num)):=by unfold MB at w;replace w:=J▸w;exact w.1
   unfold bv;rw[J];show(match a.I[b.a]? with|some (c,_)=>_|none=>_)=_;rw[j];rfl
  have m:aO (aC (H+1)) (.aU (.var 2) 75 .nil) [t,S (.ab b.d),S (bv b),G,C,x,z,X,i,p,h] a=.ok (.lst (c.en.map λP=>eN P.1 P.2),a):=by clear w a5 y a0 a2 nd J vv L A;walk_at "ev"
  refine bK (rt (H:=a) (xs:=c.en.map λP=>eN P.1 P.2) (by rw[Rz];exact n2 a2 rfl)) λk o=>?_;have I:=gE (cf:=aC (H+1)) (elt:=.tup (.cons (.attr (.var 9) 11) (.cons (.attr (.var 10) 11) .nil))) (ts:=[9,10]) (cond:=.no) (g:=λE:Q=>match E with|AV.tup [Q.obj .Thing [_,s,_,_],Q.obj .Thing [_,U,_,_]]=>S (Q.tup [s,U])|_=>N) m k o λr hx=>by refine aM (Sj.mp hx) λK d fB=>?_;clear hx d;subst fB;rfl
  have D:(c.en.map λP=>eN P.1 P.2).filterMap (λE:Q=>match E with|AV.tup [Q.obj .Thing [_,s,_,_],Q.obj .Thing [_,U,_,_]]=>S (Q.tup [s,U])|_=>N)=c.en.map λP=>.tup [wd P.1,.int P.2]:=by rw[Tt,<-Tu];rfl
  rw[D] at I;rw[J] at A;unfold kS at A;show _=Res.ok (Fl.next,[t,S (.ab b.d),S (bv b),S (.lst (c.en.map λP=>.tup [wd P.1,.int P.2])),C,x,z,X,i,p,h],a);generalize (LE.comp (.tup (.cons (.attr (.var 9) 11) (.cons (.attr (.var 10) 11) .nil))) [9,10] (.aU (.var 2) 75 .nil) .no)=ce at *;clear w a5 y k o L a0 a2 nd D J vv a6 r1 m;walk_at "ev"
theorem Bs{H:AH}{k:Kq}{c:Ct}:cq H .ne (cR k c) (cR k c)=S MT:=by
 have a:cq H .ne (.lst (c.cw.map .int)) (.lst (c.cw.map .int))=S MT:=(mJ λr x=>by refine aM (Sj.mp x) λK Y i7=>R i7.symm ?_;show S (MX (K=K))=_;refine R (Nn rfl) rfl).2;induction k using Wo with
 |row=>exact a
 |text=>exact a
 |dict=>exact(mJ λr x=>by refine aM (Sj.mp x) λP Y jQ=>?_;clear x a;subst jQ;show S ((([97+P.1]:V Z)==[97+P.1])&&(MX (P.2=P.2)&&ML))=_;refine R (Pc ..) ?_;exact R (Nn rfl) rfl).2
noncomputable abbrev EP:dR:=.cons (.asg 2 (.sub (.var 1) (.str 14))) (.cons (.ifs (.cmp .eq (.sub (.var 1) (.str 9)) (.str 39)) (.cons (.asg 3 (.comp (.attr (.var 8) 11) [8] (.attr (.var 2) 6) .no)) .nil) (.cons (.ifs (.cmp .eq (.sub (.var 1) (.str 9)) (.str 36)) (.cons (.asg 3 (.bq .list (.cons (.attr (.var 2) 4) .nil))) .nil) (.cons (.asg 3 (.comp (.tup (.cons (.attr (.var 9) 11) (.cons (.attr (.var 10) 11) .nil))) [9,10] (.aU (.var 2) 75 .nil) .no)) .nil)) .nil)) (.cons (.ifs (.or (.cmp .ne (.var 3) (.sub (.var 1) (.str 60))) (.and (.cmp .eq (.sub (.var 1) (.str 9)) (.str 8)) (.cmp .ne (.attr (.var 2) 16) (.sub (.var 1) (.str 16))))) (.cons (.ret (.qg MT)) .nil) .nil) (.cons (.iM 4 5 (.sub (.var 0) (.str 25)) EO) .nil)))
theorem Bt{kb:Z}{a6:Z}{a0:Q}{ds:V Z}(C:GM a d g m j)(P:LW a kb a6 a0 ds (g.map jF))(v:4<=o)(t:a.D[b.d]? = S (dy b c))(w:MB a l b c)(T:y0 c)(n:(g.map (·.num)).Nodup)(E:(c.en.map (·.1)).Nodup)(K G p x z X i f h:O Q) :
  ∃I B U q,aW (aC o) EP [S (.ab 1),S (.ab b.d),K,G,p,x,z,X,i,f,h] a=.ok (.next,[S (.ab 1),S (.ab b.d),I,B,U,q,z,X,i,f,h],a):=by
 refine mN (vT C P v t w T.1 n (S (bv b)) (S (cR b.k c)) p x [z,X,i,f,h]) λU q Y=>?_;have r:=zg w t (n:=o) (n4 v rfl) T E (S (.ab 1)) G p x z X i f h;have A:aR a (.ab b.d) (.str 9)=S (kS b.k):=ld t rfl;have a2:aR a (.ab b.d) (.str 14)=S (bv b):=ld t rfl;have L:aR a (.ab b.d) (.str 60)=S (cR b.k c):=ld t rfl;have M:aR a (.ab b.d) (.str 16)=S (.int c.acc):=ld t rfl;have i1:=Bs (H:=a) (k:=b.k) (c:=c);refine⟨S (bv b),S (cR b.k c),U,q,?_⟩;refine(aX (s:=.asg 2 (.sub (.var 1) (.str 14))) (l':=[S (.ab 1),S (.ab b.d),S (bv b),G,p,x,z,X,i,f,h]) (H':=a) (by clear C P t w T n E Y r;walk_at "ev")).trans ?_;refine(aX r).trans ?_;have D:cN (aC o) (.ifs (.or (.cmp .ne (.var 3) (.sub (.var 1) (.str 60))) (.and (.cmp .eq (.sub (.var 1) (.str 9)) (.str 8)) (.cmp .ne (.attr (.var 2) 16) (.sub (.var 1) (.str 16))))) (.cons (.ret (.qg MT)) .nil) .nil) [S (.ab 1),S (.ab b.d),S (bv b),S (cR b.k c),p,x,z,X,i,f,h] a=.ok (.next,[S (.ab 1),S (.ab b.d),S (bv b),S (cR b.k c),p,x,z,X,i,f,h],a):=by
  induction J:b.k using Wo with
  |dict=>
   have y:∀e,aG e a (bv b) 16=.ok (.int c.acc,a):=λe=>ew J w rfl
   have H:MX (c.acc=c.acc)=ML:=Nn rfl
   rw[J] at A L i1
   walk_at "ev"
  |row=>rw[J] at A L i1;clear C P t w T n E Y r J;walk_at "ev"
  |text=>rw[J] at A L i1;clear C P t w T n E Y r J;walk_at "ev"
 exact(aX D).trans ((aX Y).trans rfl)
theorem ER{kb:Z}{a4:Z}{a6:AV}{bs:V Bd}{cs:Z->Ct}(v:5<=s)(C:GM a d g m j)(P:LW a kb a4 a6 (bs.map (·.d)) (g.map jF))(DD:∀M∈bs,a.D[M.d]? = S (dy M (cs M.num)))(A:∀M∈bs,MB a l M (cs M.num))(h3:∀M∈bs,y0 (cs M.num))(nk:∀M∈bs,((cs M.num).en.map (·.1)).Nodup)(n:(g.map (·.num)).Nodup):aC s (.fn 57) [.ab 1] a=.ok (.bool ML,a):=by
 refine hF λb=>aM (eE v) λa0 lM hn=>?_;clear v;subst lM;refine bK (mH P.b (by refine R (Rz ..) ?_;have:=P.bl;exact n1 this rfl)) λk o=>?_;obtain⟨l',a2,⟨H,y2,D,c,Y,z,X,i,J,h,rfl⟩⟩:=mK (step:=λε E T a=>aW (aC a0) EP (T.set 1 (S E)) a) (Q:=λT=>∃H y2 D c Y z X i J h,T=[S (.ab 1),H,y2,D,c,Y,z,X,i,J,h]) o (λK r T hi ql=>by refine hF λa5=>?_;obtain⟨H,y2,D,c,Y,z,X,i,J,h,rfl⟩:=ql;rw[SX,RK,Sb] at hi;refine aM hi λM w iR=>?_;clear hi;subst iR;have w:=RJ w;refine CO (Bt C P hn (DD M w) (A M w) (h3 M w) n (nk M w) y2 D c Y z X i J h) λz2 z3 U z5 a2=>a5 ?_;exact⟨_,a2,_,_,_,_,_,_,_,_,_,_,rfl⟩) _ 0 _ rfl ⟨N,N,N,N,N,N,N,N,N,N,rfl⟩;have a1:aR a (.ab 1) (.str 64)=S (.aA 0):=P.sub rfl;have a3:aR a (.ab 1) (.str 25)=S (.aE a4):=P.sub rfl;have e0:=ik (cf:=aC a0) (x:=1) (e:=.sub (.var 0) (.str 58)) (l:=[S (.ab 1),N,N,N,N,N,N,N,N,N,N]) (v:=.aE kb) (H1:=a) (nH (x:=0) rfl (P.sub rfl)) k a2;refine b ((aN (f:=Jx) [S (.ab 1),N,N,N,N,N,N,N,N,N,N] rfl rfl).trans ?_);show(aW _ (.cons (.di 1 (.sub (.var 0) (.str 58)) EP) (.cons (.asg 6 (.bq .len (.cons (.sub (.var 0) (.str 25)) .nil))) (.cons (.ret (.and (.cmp .eq (.sub (.aU (.sub (.var 0) (.str 64)) 73 .nil) (.int 0)) (.var 6)) (.cmp .eq (.comp (.aU (.sub (.var 0) (.str 64)) 54 (.cons (.sub (.var 7) (.int 0)) .nil)) [7] (.sub (.var 0) (.str 25)) .no) (.bq .fJ (.cons (.var 6) .nil))))) .nil))) _ a).bind _=_;refine(bL (aX e0)).trans ?_;have sl:=P.sl;rw[Rz] at sl;have l1:=jG P.s (by rw[Rz];exact n1 sl rfl);rw[Rz] at l1;refine bK (mH P.s (by rw[Rz];exact n1 sl rfl)) λB t2=>?_;have r1:aK a (.aA 0) 73=S (.own 46):=C.rc rfl;have r2:aK a (.aA 0) 54=S (.own 39):=C.rc rfl;have e1:=EB (m:=a0) C (n4 hn rfl);have q0:aR a (.tup [.int g.length,.int (d.u+d.ug),.int 16777216]) (.int 0)=S (.int g.length):=rfl;have I:=gE (cf:=aC a0) (elt:=.aU (.sub (.var 0) (.str 64)) 54 (.cons (.sub (.var 7) (.int 0)) .nil)) (ts:=[7]) (cond:=.no) (it:=.sub (.var 0) (.str 25)) (l:=[S (.ab 1),H,y2,D,c,Y,S (.int g.length),X,i,J,h]) (H:=a) (v:=.aE a4) (g:=λE:AV=>match E with|AV.tup [AV.int q,_]=>S (td (fv q g))|_=>N) (nH (x:=0) rfl a3) B t2 λr x=>by refine aM (Sj.mp x) λt hs lO=>R lO.symm ?_;have y:aR a (jF t) (.int 0)=S (.int t.num):=rfl;have e2:=te (m:=a0) (q:=t.num) C (n4 hn rfl);show br _ _ _ _ _ _ _=Res.ok (S (td (fv t.num g)),a);walk_at "ev"
 have L:(g.map jF).filterMap (λE:AV=>match E with|AV.tup [AV.int q,_]=>S (td (fv q g))|_=>N)=(Ti g.length).map λ(K:Z)=>AV.int K:=by rw[Tt];show g.filterMap (λt=>S (td (fv t.num g)))=_;rw[show(λt:Sv=>S (td (fv t.num g)))=S ∘ (λt=>td (fv t.num g)) from rfl,Tu];refine V.ext_getElem (by rw[Rz,Rz,VW]) λK p G=>?_;rw[Rz] at p;rw[V8,V8,V.getElem_range,jH n (RB p)];rfl
 rw[L] at I;have lr:bA a .fJ [.int g.length]=S (.lst ((Ti g.length).map λ(K:Z)=>AV.int K),a):=Nb ⟨by exact RQ _,by exact RU.mpr (n1 sl rfl)⟩;have a7:cq a .eq (.lst ((Ti g.length).map λ(K:Z)=>AV.int K)) (.lst ((Ti g.length).map λ(K:Z)=>AV.int K))=S ML:=(mJ λr x=>by refine aM (Sj.mp x) λK ε lP=>R lP.symm ?_;show S (MX ((K:MN)=K))=_;rw[Nn rfl]).1;have d1:MX ((g.length:MN)=g.length)=ML:=Nn rfl;generalize LE.comp (.aU (.sub (.var 0) (.str 64)) 54 (.cons (.sub (.var 7) (.int 0)) .nil)) [7] (.sub (.var 0) (.str 25)) .no=e at *;clear C P DD A h3 nk n k o a2 e0 B t2 L;generalize (Ti g.length).map (λ(K:Z)=>AV.int K)=rl at *;walk_at "ev"
structure Sg where
 μ:MG
 svs:V Sv
 jo:Jo
 md:V (Z×pZ)
 kb:Z
 gR:Z
 gone:O Z
 bs:V Bd
 es:Z->Z
 cs:Z->Ct
 bd:Z->Bd
noncomputable def gg:O Z->Q|none=>.none|some q=>.int q
noncomputable def good(H:Kq)(C:Ct):Prop:=match H with
 |.row=>C.cw.length=3/\C.en=[]
 |.text=>C.cw.length=2/\C.en=[]
 |.dict=>C.cw=[]/\(C.en.map (·.1)).Nodup/\(∀i∈C.en.map (·.1),i<3)/\(C.most=2\/C.most=8)
structure Jk(bs:V Bd)(bd:Z->Bd)(cs:Z->Ct)(jo:Jo)(p:Z)(s:Sv):Prop where
 pf:∃rest,bs=s.kb++rest/\(∀b∈s.kb,b.g=MT->b.lv<=p)/\∀b∈rest,b.g=MT->p<b.lv
 sp:∃pre suf,jo=pre++suf/\s.many=suf.length/\(∀b∈s.kb,b.g=MT->b.k≠.text->kJ cs pre b.num=s.kc b.num)/\∀q∈suf,bd q.1∈s.kb/\(bd q.1).lv<p
 gk:∀b∈s.kb,good b.k (s.kc b.num)
structure Pu(svs:V Sv)(jo:Jo)(bs:V Bd)(cs:Z->Ct)(bd:Z->Bd):Prop where
 nn:(bs.map (·.num)).Nodup
 zG:∀b∈bs,bd b.num=b
 gd:∀b∈bs,good b.k (cs b.num)
 lv:∀b∈bs,b.g=MT->b.lv<=svs.length
 jk:∀q∈jo,bd q.1∈bs/\(bd q.1).num=q.1/\(bd q.1).g=MT/\(bd q.1).lv<svs.length
 Bu:qm (λn=>(bd n).k) cs jo
 sv:∀p s,svs[p]? = S s->Jk bs bd cs jo p s
 mm:∀(p q:Z) (s t:Sv),p<=q->svs[p]? = S s->svs[q]? = S t->s.many<=t.many
theorem L8(q:Z):∀T:V Z,T.Nodup->(∀i∈T,i<q)->T.length<=q:=by
 induction q with
 |zero=>
  intro T _ B
  induction T using RD with
  |nil=>exact Sd _
  |cons r y=>exact Nh (B r (.head _)) (UC _)
 |succ q d=>
  intro T n B;have L:=d (T.erase q) (n.erase q) λi M=>
   have h:=(V.Nodup.mem_erase_iff n).mp M
   Z.lt_of_le_of_ne (T1 (B i h.2)) h.1
  refine RH ?_ (TC L);refine R V.length_erase ?_;split;·exact JD
  ·exact So _
theorem Jl{l:V Z}(n:l.Nodup)(B:∀i∈l,i<3):l.length<=3:=L8 3 l n B
theorem hU{H:Kq}(B:good H c):y0 c/\(c.en.map (·.1)).Nodup:=by
 induction H using Wo with
 |row=>exact⟨⟨by refine R B.1 ?_;exact Sd _,by rw[B.2];exact Vo _⟩,by rw[B.2];exact TL⟩
 |text=>exact⟨⟨by refine R B.1 ?_;decide,by rw[B.2];exact Vo _⟩,by rw[B.2];exact TL⟩
 |dict=>exact⟨⟨by refine R B.1 ?_;exact Vo _,by have:=Jl B.2.1 B.2.2.1;rw[Rz] at this;exact this⟩,B.2.1⟩
theorem jI{c:V Bd}(a:(c.map (·.num)).Nodup):∀M∈c,∀G∈c,M.num=G.num->M=G:=by
 induction c with
 |nil=>intro M B;cases B
 |cons r y d=>
  rw[R5,RW] at a;intro M w G b D;rcases RC.mp w with rfl|p
  ·rcases RC.mp b with rfl|b;·rfl
   ·exact Nh (R3 (f:=λM:Bd=>M.num) b) (R D.symm a.1)
  ·rcases RC.mp b with rfl|b;·exact Nh (R3 (f:=λM:Bd=>M.num) p) (R D a.1)
   ·exact d a.2 M p G b D
theorem zh{z:Z->Kq}:∀{j:Jo} {a:Z->Ct},qm z a j->∀L∈j,∀x,L.2=.most x->x=2:=by
 intro j;induction j with
 |nil=>intro _ _ L B;cases B
 |cons i y f=>
  obtain⟨q,c⟩:=i;intro a H L B;rcases RC.mp B with rfl|B;·intro x D;have:=H.1;subst D;exact this.2
  ·exact f H.2 L B
theorem Pu.cv{j:Jo}{f:V Bd}{a:Z->Ct}{n:Z->Bd}{o:Ct}{c:Un}(B:Pu g j f a n)(w:b∈f)(r:b.g=MT)(l:b.lv<g.length)(k:gQ c o=a b.num)(z:yF b.k c o)(d:good b.k o):Pu g ((b.num,c) :: j) f (upd a b.num o) n:=by
 have cut:∀i,kJ (upd a b.num o) ((b.num,c) :: i)=kJ a i:=λi=>by show kJ (upd (upd a b.num o) b.num (gQ c (upd a b.num o b.num))) i=_;refine R bD ?_;refine R k ?_;rw[ri]
 refine⟨B.nn,B.zG,λv K=>?_,B.lv,λL e=>?_,?_,λP t x=>?_,B.mm⟩
 ·by_cases D:v.num=b.num;·obtain rfl:=jI B.nn _ K _ w D;exact R bD d
  ·exact R (cF D) (B.gd _ K)
 ·rcases RC.mp e with rfl|e;·exact R (B.zG _ w) (qu w rfl r l)
  ·exact B.jk _ e
 ·show yF (n b.num).k c (upd a b.num o b.num)/\qm _ (upd (upd a b.num o) b.num (gQ c (upd a b.num o b.num))) j;refine R bD ?_;refine R k ?_;refine R ri ?_;refine R (B.zG _ w) ?_;exact⟨z,B.Bu⟩
 ·refine hF λh=>?_;obtain⟨q,⟨i,p,D,m,s,Y⟩,A⟩:=B.sv P t x;refine h ?_;exact⟨q,(qr ((b.num,c) :: i) p (R D rfl) m (λv K T X=>by exact R (cut ..) (s v K T X)) Y),A⟩
theorem Pu.plain{j:Jo}{E:V Bd}{a:Z->Ct}{x:Z->Bd}{J:Ct}(B:Pu g j E a x)(w:b∈E)(o:b.g=ML\/b.k=.text\/g.length<=b.lv)(d:good b.k J):Pu g j E (upd a b.num J) x:=by
 have l:∀L∈j,L.1≠b.num:=λL e D=>by
  refine qj (B.jk L e) λk1 i k z=>?_;have:=B.zG _ w;rw[D,this] at k z;rcases o with o|o|o;·replace k:=o.symm.trans k;cases k
  ·have G:∀{j:Jo} {a:Z->Ct},qm (λq=>(x q).k) a j->∀L∈j,(x L.1).k≠.text:=by
    intro j
    induction j with
    |nil=>intro _ _ L B;cases B
    |cons r y ih=>
     obtain⟨q,c⟩:=r;intro a H L e D;rcases RC.mp e with rfl|e;·have:=H.1;simp only[D] at this;induction c using Un.casesOn<;>first|exact nomatch this.1|exact nomatch this
     ·exact ih H.2 L e D
   exact G B.Bu L e (R D (R this o))
  ·exact Nh z (Tj.mpr o)
 refine⟨B.nn,B.zG,λv K=>?_,B.lv,B.jk,uz l B.Bu,λM t P=>?_,B.mm⟩
 ·by_cases D:v.num=b.num;·obtain rfl:=jI B.nn _ K _ w D;exact R bD d
  ·exact R (cF D) (B.gd _ K)
 ·refine hF λn=>?_;obtain⟨⟨I,f,h,C⟩,⟨a0,p,D,m,s,Y⟩,A⟩:=B.sv M t P;refine n ⟨(jK I f h C),(qr a0 p D m (λv K T X=>?_) Y),A⟩;refine R (uy (λL e=>l L (D▸RL _ e))) ?_;have:v.num≠b.num:=λU=>by
   have:=jI B.nn _ (f▸RL _ K) _ w U;clear D U l B w d I f C;subst this;rcases o with o|o|o;·replace T:=o.symm.trans T;cases T
   ·exact X o
   ·exact RV _ (RS (RG.mp P).1 (RH o (h _ K T)))
  exact(cF this).trans (s v K T X)
theorem Pu.new{j:Jo}{f:V Bd}{a:Z->Ct}{c:Z->Bd}{G:Ct}(B:Pu g j f a c)(n:b.num∉f.map (·.num))(z:b.g=MT->b.lv=g.length)(d:good b.k G):Pu g j (f++[b]) (upd a b.num G) (upd c b.num b):=by
 have m:∀v∈f,v.num≠b.num:=λv K D=>n (D▸R3 K);have l:=λL e D=>by exact fK (B.jk L e) λk1 i ε=>m _ k1 (i.trans D)
 have w:∀{j:Jo} {a:Z->Ct},(∀L∈j,L.1≠b.num)->qm (λq=>(c q).k) a j->qm (λq=>(upd c b.num b q).k) a j:=by
  intro j
  induction j with
  |nil=>intros;trivial
  |cons r y ih=>intro a e H;exact⟨by show yF (upd c b.num b r.1).k _ _;refine R (cF (e _ (.head _))) ?_;exact H.1,ih (λL B=>e L (.tail _ B)) H.2⟩
 refine⟨?_,λv K=>?_,λv K=>?_,λv K o=>?_,λL e=>?_,w l (uz l B.Bu),λI t P=>?_,B.mm⟩;·refine R R8 ?_;rw[Sm];refine fA B.nn (M8 rfl) (λr x a1 J D=>?_);rw[UT,Rx] at J;exact n (J▸D▸x)
 ·rcases RM.mp K with K|K;·exact(cF (m _ K)).trans (B.zG _ K)
  ·rw[Rx] at K;exact R K bD
 ·rcases RM.mp K with K|K;·exact R (cF (m _ K)) (B.gd _ K)
  ·rw[Rx] at K;exact R K (R bD d)
 ·rcases RM.mp K with K|K;·exact B.lv _ K o
  ·rw[Rx] at K;subst K;exact R2 (z o)
 ·exact R (cF (l L e)) (bK (B.jk L e) λk1 i=>⟨RL _ k1,i⟩)
 ·refine hF λk=>?_;clear w n d;obtain⟨⟨a0,E,h,C⟩,⟨M,p,D,U,s,Y⟩,A⟩:=B.sv I t P;refine k ?_;refine⟨(jK (a0++[b]) (by refine R E ?_;exact(Sn ..)) h (λv K o=>?_)),(qr M p D U (λv K T X=>?_) (λL e=>?_)),A⟩
  ·rcases RM.mp K with K|K;·exact C _ K o
   ·rw[Rx] at K;subst K;exact R (z o) (((RG.mp P).1))
  ·refine R (uy (λL e=>l L (D▸RL _ e))) ?_;refine(cF (m _ (E▸RL _ K))).trans ?_;exact s v K T X
  ·exact R (cF (l L (D▸RP _ e))) (Y L e)
theorem Pu.save{j:Jo}{f:V Bd}{a:Z->Ct}{q:Z->Bd}(B:Pu g j f a q){t:Sv}(v:t.many=j.length)(J:t.kb=f)(c:t.kc=a):Pu (g++[t]) j f a q:=by
 refine⟨B.nn,B.zG,B.gd,λM w o=>by refine R RF ?_;exact SN (B.lv M w o),λL e=>?_,B.Bu,λP n h=>?_,λP L n X d h b=>?_⟩;·refine qj (B.jk L e) λk1 i k z=>?_;exact qu k1 i k (R RF (U3 z))
 ·by_cases s:P<g.length;·rw[Td s] at h;exact B.sv P n h
  ·have:P=g.length:=by
    have:=(RG.mp h).1;rw[RF] at this;exact Vf (T1 this) (Z.le_of_not_lt s)
   subst this
   rw[To (Sd _),VP] at h
   refine sJ h ?_
   refine⟨(jK [] (by refine R J ?_;refine R (Sy ..) rfl) (λM w o=>B.lv M (J▸w) o) (λM w=>nomatch w)),(qr [] j rfl v (λM w Y Y=>by refine R c ?_;rfl) (λL e=>?_)),λM w=>by refine R c ?_;exact B.gd M (J▸w)⟩
   exact qj (B.jk L e) λk1 i k z=>⟨J▸k1,z⟩
 ·have D:∀{L:Z} {n:Sv},(g++[t])[L]? = S n->n.many<=j.length:=λ{L n} h=>by
   by_cases s:L<g.length
   ·rw[Td s] at h;refine hF λl=>?_;obtain⟨_,⟨r,p,D,m,_⟩,_⟩:=B.sv L n h;refine l ?_;exact R m (R D (R RF (SR _ _)))
   ·replace h:=(To (Tj.mp s))▸h
    induction e:L - g.length using RY with
    |zero=>replace h:=e▸h;exact sJ h (R2 v)
    |succ H=>rw[e] at h;exact nX h
  by_cases e:L<g.length
  ·rw[Td e] at b;rw[Td (RO d e)] at h;exact B.mm P L n X d h b
  ·rw[To (Tj.mp e)] at b
   induction J:L - g.length using RY with
   |zero=>rw[J] at b;cases b;exact R v (D h)
   |succ H=>rw[J] at b;simp at b
theorem Pu.restore{jo:Jo}{f:V Bd}{cs:Z->Ct}{bd:Z->Bd}(B:Pu g jo f cs bd){place:Z}{t:Sv}(hs:g[place]? = S t){a p:Jo}(E:jo=a++p)(l:t.many=p.length)(gd:∀M∈f,M.g=ML\/M.lv<=place->good M.k (kJ cs a M.num)) :
  Pu (g.take place) p (f.filter λM=>M.g||MX (M.lv<=place)) (kJ cs a) bd:=by
 refine hF λk=>?_;have i:∀M,M∈f.filter (λM=>M.g||MX (M.lv<=place))->M∈f/\(M.g=ML\/M.lv<=place):=λM w=>by refine bK (TZ.mp w) λk1 k2=>⟨k1,?_⟩;rw[Vk,OU] at k2;exact k2
 have T:(g.take place).length=place:=by exact S4.trans (Vg (Tg ((RG.mp hs).1)))
 refine hF λH=>?_;obtain⟨⟨a9,pf,a8,a7⟩,⟨c,a4,D,e2,e3,Y⟩,A⟩:=B.sv place t hs;obtain⟨rfl,rfl⟩:a=c/\p=a4:=by have:=E.symm.trans D;exact(V.append_inj' this (l.symm.trans e2))
 have tk:∀{P:Z} {n:Sv},(g.take place)[P]? = S n->g[P]? = S n/\P<place:=λ{P n} h=>by have:=(RG.mp h).1;rw[T] at this;rw[Ul this] at h;exact⟨h,this⟩
 refine H (k ⟨B.nn.sublist (UM.map _),λM w=>B.zG M (i M w).1,λM w=>gd M (i M w).1 (i M w).2,λM w hg=>?_,λL e=>?_,(pW.mp (E▸B.Bu)).2,λP n h=>?_,λP L n X d h a2=>B.mm P L n X d (tk h).1 (tk a2).1⟩)
 ·refine R T ?_;rcases(i M w).2 with U|U;·replace U:=hg.symm.trans U;cases U
  ·exact U
 ·refine qj (B.jk L (E▸RP _ e)) λk1 k2 k3 z=>?_;have k5:=(Y L e).2;exact qu (TZ.mpr ⟨k1,by refine R (Vk ..) ?_;refine R OU ?_;exact .inr (Tg k5)⟩) k2 k3 (R T k5)
 ·refine bK (tk h) λh s=>hF λa3=>?_;obtain⟨⟨a5,y,q,C⟩,⟨a0,m,K,x,r3,r4⟩,G⟩:=B.sv P n h;have a1:=B.mm P place n t (Tg s) h hs;rw[l,x] at a1;have a6:∃o,p=o++m/\a0=a++o:=by
   have r:=E.symm.trans K;refine hF λj=>?_;have hl:a.length<=a0.length:=by have:=Nc Uu r;rw[RF,RF] at this;exact Z.le_of_add_le_add_right (RH (TA a1 _) (R2 this))
   rw[U9] at r;rcases r with⟨I,J,b⟩|⟨I,J,b⟩;·exact j (ba I b J)
   ·have:I=[]:=by
     exact UI (o4 hl ((Nc Uu J).trans RF))
    subst this
    refine j ?_
    exact ba [] (by rw[Uh] at b;exact b.symm) (by rw[Sy] at J⊢;exact J.symm)
  refine aM a6 λo m1 v=>a3 ⟨(jK (a5.filter λM=>M.g||MX (M.lv<=place)) ?_ q (λM w=>C M (TZ.mp w).1)),(qr o m m1 x (λM w h1 h2=>?_) r4),G⟩
  ·refine R y ((VQ ..).trans ?_)
   congr 1
   refine UK.mpr λM w=>?_
   induction hg:M.g using RE with
   |true=>rfl
   |false=>refine(VE ..).trans ?_;refine R OU ?_;have:=q M w hg;exact Tg (RO this s)
  ·exact R Bc.symm (R v.symm (r3 M w h1 h2))
noncomputable def Xs(o:Sg):Ad->Prop:=λU=>Gl U\/U=.L o.μ.ks\/U=.L o.kb\/U=.L o.gR\/U=.D 1\/∃M∈o.bs,U=.D M.d
structure In(N:Z)(H:AH)(σ:Sg):Prop where
 g:σ.μ.g=MT
 G:GM H σ.μ σ.svs ((σ.jo.map (enc σ.bd)).reverse) σ.md
 W:LW H σ.kb σ.gR (gg σ.gone) (σ.bs.map (·.d)) (σ.svs.map jF)
 MM:∀b∈σ.bs,MB H σ.es b (σ.cs b.num)
 DD:∀b∈σ.bs,H.D[b.d]? = some (dy b (σ.cs b.num))
 S:Sep (Xs σ) σ.es σ.bs
 k1:σ.μ.ks≠σ.kb
 k2:σ.μ.ks≠σ.gR
 d0:∀b∈σ.bs,b.d≠0
 d1:∀b∈σ.bs,b.d≠1
 dj:∀b∈σ.bs,∀b'∈σ.bs,b.d=b'.d->b=b'
 P:Pu σ.svs σ.jo σ.bs σ.cs σ.bd
 md:σ.md.map rp=σ.bs.map λb=>(b.num,b.g,b.lv)
 nl:∀b∈σ.bs,b.num<=σ.μ.lb
 sn:(σ.svs.map (·.num)).Nodup
 sl:∀s∈σ.svs,s.num<=σ.μ.ls
 go:∀n,σ.gone=some n->n∉σ.svs.map (·.num)/\n<=σ.μ.ls
 z1:σ.svs.length<=N
 z2:σ.jo.length<=2*N
 z3:σ.bs.length<=N
 z4:σ.μ.u<=200*N
 z5:σ.μ.ug<=200*N
 z6:∀s∈σ.svs,s.used<=200*N
theorem In.has{n:Z}{o:Sg}(k:In n a o){z:Ad}(B:Xs o z):has a z:=by
 rcases B with B|B|rfl|rfl|rfl|⟨M,w,rfl⟩;·exact k.G.has (.inl B)
 ·exact k.G.has (.inr B)
 ·exact bP k.W.b
 ·exact bP k.W.s
 ·exact bP k.W.w
 ·exact bP (k.DD M w)
theorem qf{f:V Bd}(B:j.map rp=f.map λM=>(M.num,M.g,M.lv)):j.map (·.1)=f.map (·.num):=by have:=Nc (V.map NU.fst) B;rw[SX,SX] at this;exact this
theorem In.so{n:Z}{m:Z}{o:Sg}(k:In n a o)(v:5<=m):aC m (.fn 57) [.ab 1] a=.ok (.bool ML,a):=ER v k.G k.W k.DD k.MM (λM w=>(hU (k.P.gd M w)).1) (λM w=>(hU (k.P.gd M w)).2) k.sn
theorem Bv{a:Z->Bd}{j:Jo}(B:∀L∈j,L.1≠b.num):j.map (enc (upd a b.num b))=j.map (enc a):=UL λL e=>by unfold enc;refine R (cF (B L e)) rfl
theorem Bw{n:Z}{o:Sg}{way:MN}{rest:MN}(k:In n a o)(H:n<=14):∃r g,kn [.ab 1,.int way,.int rest] a=.ok (.none,r)/\In (n+1) r g:=by
 have J:=mC.mpr (by refine R (qf k.md) ?_;intro B;refine aM (Sj.mp B) λM hb D=>?_;have:=k.nl M hb;exact Nh (D.symm▸this) (RV _));refine hF λE=>?_;have f:=k.z3;have z4:=k.z4;have q:=k.z5;have h:o.md.length=o.bs.length:=by have:=Nc Uu k.md;rw[Rz,Rz] at this;exact this
 obtain⟨I,M,C,D,c,X,w⟩:=El (way:=way) (rest:=rest) k.G k.W k.k1 (by refine(Rz ..).trans rfl) (by refine R (Rz ..) ?_;exact n2 (RH f H) rfl) (n2 (RH (R2 h) (RH f H)) rfl) J (o3 H z4 q (by decide));have b:M.num∉o.bs.map (·.num):=λB=>by exact aM (Sj.mp B) λv hb D=>Z.not_succ_le_self _ (RH (R2 (w.n.symm.trans D.symm)) (k.nl v hb))
 have m:∀v∈o.bs,v.num≠M.num:=λv K D=>b (D▸R3 K);have l:=λL e D=>by exact fK (k.P.jk L e) λk1 i Y=>m _ k1 (i.trans D)
 have d:good M.k C:=by
  induction J:M.k using Wo with
  |row=>exact⟨w.il J,w.en⟩
  |text=>exact⟨w.it J,w.en⟩
  |dict=>exact qu ((w.dk J).1) (R w.en TL) (R w.en λa3 B=>nomatch B) (.inl (w.dk J).2)
 have nx:=λB=>w.fd (k.has B);have y:∀U,eT (upd o.es M.num D) M U↔eT (λY=>D) M U:=λU=>by unfold eT;rw[bD]
 have A:∀v∈o.bs,∀U,eT (upd o.es M.num D) v U↔eT o.es v U:=λv K U=>lG (m v K);have j:∀U,Xs {o with μ:={o.μ with g:=MT,lb:=o.μ.lb+1,u:=if M.g then o.μ.u else o.μ.u+c,ug:=if M.g then o.μ.ug+c else o.μ.ug},bs:=o.bs++[M]} U->Xs o U\/U=.D M.d:=λU B=>by
  rcases B with B|B|B|B|B|⟨v,K,B⟩;·exact .inl (.inl B)
  ·exact .inl (.inr (.inl B))
  ·exact .inl (.inr (.inr (.inl B)))
  ·exact .inl (.inr (.inr (.inr (.inl B))))
  ·exact .inl (.inr (.inr (.inr (.inr (.inl B)))))
  ·rcases RM.mp K with K|K;·exact .inl (.inr (.inr (.inr (.inr (.inr (ba v K B))))))
   ·rw[Rx] at K;exact R K.symm (.inr B)
 refine E ?_;refine⟨I,⟨{o.μ with g:=MT,lb:=o.μ.lb+1,u:=if M.g then o.μ.u else o.μ.u+c,ug:=if M.g then o.μ.ug+c else o.μ.ug},o.svs,o.jo,o.md++[(o.μ.lb+1,(c,M.g,M.lv))],o.kb,o.gR,o.gone,o.bs++[M],upd o.es M.num D,upd o.cs M.num C,upd o.bd M.num M⟩,X,⟨rfl,by refine R (Bv l) ?_;exact w.G,by refine R R8 ?_;exact w.W,λv K=>?_,λv K=>?_,⟨λv K U s x=>?_,λv K a2 p T U s z=>?_⟩,k.k1,k.k2,λv K=>?_,λv K=>?_,λv K a2 p D=>?_,k.P.new b (λhg=>by exact w.lv.trans (R hg rfl)) d,?_,λv K=>?_,k.sn,k.sl,k.go,by have:=k.z1;exact SN this,by have:=k.z2;exact Vq this,by refine R RF ?_;exact TC f,?_,?_,λt P=>o2 (k.z6 t P)⟩⟩
 ·rcases RM.mp K with K|K;·dsimp only;exact R (cF (m _ K)) (uL ((k.MM _ K).fr w.F λU s a1=>k.S.x _ K U s ((show∀U,Bi o.kb U->Xs o U from λU B=>B.elim .inl λB=>.inr (.inr (.inl B))) U a1)) (cF (m _ K)))
  ·rw[Rx] at K;refine R K ?_;dsimp only;exact R bD (uL w.M bD)
 ·rcases RM.mp K with K|K
  ·dsimp only;refine R (cF (m _ K)) (w.F.D _ _ (λa1=>?_) (k.DD _ K));rcases a1 with a1|a1;·exact zF (k.d0 _ K) a1
   ·cases a1
  ·rw[Rx] at K;refine R K ?_;dsimp only;exact R bD w.D
 ·rcases RM.mp K with K|K
  ·have s:=(A _ K U).mp s;rcases j U x with x|x;·exact k.S.x _ K U s x
   ·exact w.fd (x▸(k.MM _ K).has s)
  ·rw[Rx] at K;subst K;have s:=(y U).mp s;rcases j U x with x|x;·exact w.fp U s (k.has x)
   ·subst x;unfold eT at s;induction J:v.k using Wo<;>replace s:=J▸s;·cases s
    ·rcases s with s|s;·cases s
     ·exact w.ne J (Ad.D.inj s).symm
    ·cases s
 ·rcases RM.mp K with a0|a0
  ·have i:=(A _ a0 U).mp s;clear E J f z4 q h b m l d j H X;rcases RM.mp p with G|G;·exact k.S.d _ a0 _ G T U i ((A _ G U).mp z)
   ·rw[Rx] at G;subst G;exact w.fp U ((y U).mp z) ((k.MM _ a0).has i)
  ·rw[Rx] at a0;subst a0;clear E J f z4 q h b m l d j H X;rcases RM.mp p with G|G;·exact w.fp U ((y U).mp s) ((k.MM _ G).has ((A _ G U).mp z))
   ·rw[Rx] at G;subst G;exact T rfl
 ·rcases RM.mp K with K|K;·exact k.d0 _ K
  ·rw[Rx] at K;refine R K ?_;exact λD=>nx (R D (.inl (.inr (.inl rfl))))
 ·rcases RM.mp K with K|K;·exact k.d1 _ K
  ·rw[Rx] at K;refine R K ?_;exact λD=>nx (R D (.inr (.inr (.inr (.inr (.inl rfl))))))
 ·rcases RM.mp K with a0|a0
  ·rcases RM.mp p with G|G;·exact k.dj _ a0 _ G D
   ·rw[Rx] at G;subst G;exact Nh (bP (k.DD _ a0)) (R D w.fd)
  ·rw[Rx] at a0;subst a0;rcases RM.mp p with G|G;·exact Nh (bP (k.DD _ G)) (R D.symm w.fd)
   ·rw[Rx] at G;exact G.symm
 ·refine R8.trans ?_;rw[R8,k.md,<-w.n];rfl
 ·rcases RM.mp K with K|K;·exact SN (k.nl _ K)
  ·rw[Rx] at K;refine R K ?_;exact R2 w.n
 ·dsimp only;split<;>first|exact o2 z4|exact o1 z4 (SW w.co (by decide))
 ·dsimp only;split<;>first|exact o2 q|exact o1 q (SW w.co (by decide))
theorem zi{a4:Z}{m:Z}{o:Sg}(k:In a4 a o)(H:a4<=14)(v:4<=m):∃H' a6,aC m (.fn 56) [.ab 1] a=.ok (.none,H')/\In (a4+1) H' a6:=by
 refine aM (eE v) λa0 bE n=>R bE ?_;have g:=k.z1;have z3:=k.z3;refine mM (EC (m:=a0) k.G (n4 n rfl) (n2 (RH g H) rfl) o.bs o.cs) λz X G p=>?_;have e:=k.W.fr p (λc=>c.elim (zF (by decide)) nofun) (λc=>c.elim (Cn k.W.n1) λc=>k.k1 (Ad.L.inj c).symm) (λc=>c.elim (Cn k.W.n2) λc=>k.k2 (Ad.L.inj c).symm);have D1:∀M∈o.bs,z.D[M.d]? = S (dy M (o.cs M.num)):=λM w=>p.D _ _ (λc=>c.elim (zF (k.d0 _ w)) nofun) (k.DD _ w);have b:((o.jo.map (enc o.bd)).reverse).length=o.jo.length:=by exact Sr.trans ((Rz ..))
 rw[b] at G;have A:aR a (.ab 1) (.str 25)=S (.aE o.gR):=k.W.sub rfl;have a2:aR a (.ab 1) (.str 64)=S (.aA 0):=k.W.sub rfl;have K:aK a (.aA 0) 72=S (.own 38):=k.G.rc rfl;refine bK (mH e.b (by refine R (Rz ..) ?_;refine R (Rz ..) ?_;exact n2 (RH z3 H) rfl)) λt1 t2=>?_;have I:=gE (cf:=aC a0) (elt:=.tup (.cons (.sub (.var 1) (.str 60)) (.cons (.sub (.var 1) (.str 16)) .nil))) (ts:=[1]) (cond:=.no) (it:=.sub (.var 0) (.str 58)) (l:=[S (.ab 1),N]) (H:=z) (v:=.aE o.kb)
  (g:=λE:Q=>match E with|AV.ab h=>(match z.D[h]? with|some y=>(match (cW y (.str 60)).bind id,(cW y (.str 16)).bind id with|some r,S s=>S (Q.tup [r,s])|_,_=>N)|none=>N)|_=>N) (nH (x:=0) rfl (e.sub rfl)) t1 t2 λr x=>by
  refine aM (Sj.mp x) λh hd cj=>R cj.symm (aM (Sj.mp hd) λM w du=>?_)
  clear t1 t2 hd b A a2 K v
  refine R du.symm ?_
  have a3:=D1 M w
  have q1:aR z (.ab M.d) (.str 60)=S (cR M.k (o.cs M.num)):=ld a3 rfl
  have q2:aR z (.ab M.d) (.str 16)=S (.int (o.cs M.num).acc):=ld a3 rfl
  dsimp only
  refine R a3 ?_
  walk_at "ev"
 have L:((o.bs.map (·.d)).map Q.ab).filterMap (λE:Q=>match E with|AV.ab h=>(match z.D[h]? with|some y=>(match (cW y (.str 60)).bind id,(cW y (.str 16)).bind id with|some r,S s=>S (Q.tup [r,s])|_,_=>N)|none=>N)|_=>N)=o.bs.map λM=>Q.tup [cR M.k (o.cs M.num),.int (o.cs M.num).acc]:=by
  refine R SX (Tt.trans (R Tu.symm ?_));have a5:∀T:V Bd,(∀M∈T,M∈o.bs)->T.filterMap ((λE:Q=>match E with|AV.ab h=>(match z.D[h]? with|some y=>(match (cW y (.str 60)).bind id,(cW y (.str 16)).bind id with|some r,S s=>S (Q.tup [r,s])|_,_=>N)|none=>N)|_=>N) ∘ (Q.ab ∘ λM:Bd=>M.d))=T.filterMap (S ∘ λM=>Q.tup [cR M.k (o.cs M.num),.int (o.cs M.num).acc]):=by
   intro T l
   induction T with
   |nil=>rfl
   |cons M a7 d=>
    have D:((λE:Q=>match E with|AV.ab h=>(match z.D[h]? with|some y=>(match (cW y (.str 60)).bind id,(cW y (.str 16)).bind id with|some r,S s=>S (Q.tup [r,s])|_,_=>N)|none=>N)|_=>N) ∘ (Q.ab ∘ λM:Bd=>M.d)) M=S (Q.tup [cR M.k (o.cs M.num),.int (o.cs M.num).acc]):=by show(match z.D[M.d]? with|some y=>(match (cW y (.str 60)).bind id,(cW y (.str 16)).bind id with|some r,S s=>S (Q.tup [r,s])|_,_=>N)|none=>N)=_;exact R (D1 M (l M (.head _))) rfl
    refine(V.filterMap_cons_some D).trans ?_;exact R (d λC j=>l C (.tail _ j)) rfl
  exact a5 _ λM B=>B
 rw[L] at I;have p1:=fI (x:=jF ⟨o.μ.ls+1,o.jo.length,o.μ.u,o.bs,o.cs⟩) e.s (by have:=e.sl;exact n1 this rfl);have F2:Fr (λU=>U=.L o.gR) z (wL z o.gR (o.svs.map jF++[jF ⟨o.μ.ls+1,o.jo.length,o.μ.u,o.bs,o.cs⟩])):=Fr.wL rfl;have W2:LW (wL z o.gR (o.svs.map jF++[jF ⟨o.μ.ls+1,o.jo.length,o.μ.u,o.bs,o.cs⟩])) o.kb o.gR (gg o.gone) (o.bs.map (·.d)) ((o.svs++([⟨o.μ.ls+1,o.jo.length,o.μ.u,o.bs,o.cs⟩]:V Sv)).map jF):=⟨e.w,dZ e.n3 e.b,by refine R R8 ?_;exact bW e.s,e.n1,e.n2,e.n3,e.bl,by refine R (Rz ..) ?_;refine R RF ?_;exact RO (TC g) (Iq H rfl)⟩;refine dI _ {o with μ:={o.μ with ls:=o.μ.ls+1},svs:=o.svs++[⟨o.μ.ls+1,o.jo.length,o.μ.u,o.bs,o.cs⟩]} ?_ ⟨k.g,(G.fr F2 nofun nofun (λc=>k.W.n2 (Ad.L.inj c).symm) (λc=>k.k2 (Ad.L.inj c))),W2,λM w=>((show∀M∈o.bs,MB z o.es M (o.cs M.num) from λM w=>(k.MM _ w).fr p λU hz c=>k.S.x _ w U hz (c.elim .inl λc=>.inr (.inl c))) _ w).fr F2 λU hz (c:U=.L o.gR)=>k.S.x _ w U hz (.inr (.inr (.inr (.inl c)))),λM w=>F2.D _ _ nofun (D1 M w),k.S,k.k1,k.k2,k.d0,k.d1,k.dj,k.P.save rfl rfl rfl,k.md,k.nl,?_,λt P=>?_,λa0 n=>?_,?_,by exact Vq (k.z2),by exact SN z3,?_,?_,λt P=>?_⟩;·have r2:aK a (.aE o.gR) 44=S .bI:=rfl;have lv:Q.tup [.int (o.μ.ls+1:Z),.lst (o.bs.map λM=>Q.tup [cR M.k (o.cs M.num),.int (o.cs M.num).acc])]=jF ⟨o.μ.ls+1,o.jo.length,o.μ.u,o.bs,o.cs⟩:=rfl;refine(aN (f:=Ij) [S (.ab 1),N] rfl rfl).trans ?_;delta Ij;generalize LE.comp (.tup (.cons (.sub (.var 1) (.str 60)) (.cons (.sub (.var 1) (.str 16)) .nil))) [1] (.sub (.var 0) (.str 58)) .no=ce at *;generalize jF ⟨o.μ.ls+1,o.jo.length,o.μ.u,o.bs,o.cs⟩=Y at *;generalize (Q.lst (o.bs.map λM=>Q.tup [cR M.k (o.cs M.num),.int (o.cs M.num).acc]))=kl at *;rw[<-lv] at p1⊢;walk_at "ev"
 ·show((o.svs++[_]).map _).Nodup;refine R R8 ?_;rw[Sm];refine fA k.sn (M8 rfl) (λr x s J D=>?_);rw[UT,Rx] at J;refine aM (Sj.mp x) λt P dV=>?_;subst dV;have:=k.sl t P;exact RV _ (D▸RO this (TJ (SD _) (J).symm))
 ·rcases RM.mp P with P|P;·exact SN (k.sl t P)
  ·rw[Rx] at P;exact R P (Sd _)
 ·refine bK (k.go a0 n) λk1 i=>⟨λB=>?_,SN i⟩;rw[R8,RM] at B;rcases B with B|B;·exact k1 B
  ·rw[UT,Rx] at B;exact Nh ((B).symm▸i) (RV _)
 ·show(o.svs++[_]).length<=_;exact R RF (TC g)
 ·exact o2 k.z4
 ·exact o2 k.z5
 ·rcases RM.mp P with P|P;·exact o2 (k.z6 t P)
  ·rw[Rx] at P;refine R P ?_;exact o2 k.z4
noncomputable def eR(M:Bd)(n l:Q):V (Q×Q):=[(.str 14,bv M),(.str 9,kS M.k),(.str 59,.bool M.g),(.str 26,.int M.lv),(.str 60,n),(.str 16,l)]
theorem kq:dy b c=eR b (cR b.k c) (.int c.acc):=rfl
theorem Cr{h:Z}{n l v:Q}(B:a.D[h]? = S (eR b n l)):dm a (.ab h) (.str 60) v=S (wD a h (eR b v l)):=(oL B).trans rfl
theorem Cs{h:Z}{n l v:Q}(B:a.D[h]? = S (eR b n l)):dm a (.ab h) (.str 16) v=S (wD a h (eR b n v)):=(oL B).trans rfl
noncomputable def cJ(place:Z)(M:Bd):MP:=M.g||MX (M.lv<=place)
noncomputable abbrev Jm:dR:=.cons (.ifs (.or (.sub (.var 7) (.str 59)) (.cmp .le (.sub (.var 7) (.str 26)) (.var 2))) (.cons (.ifs (.and (.not (.sub (.var 7) (.str 59))) (.cmp .ne (.sub (.var 7) (.str 9)) (.str 36))) (.cons (.kN (.cons (.var 7) (.cons (.var 7) .nil)) (.cons (.str 60) (.cons (.str 16) .nil)) (.cons (.sub (.sub (.var 4) (.var 6)) (.int 0)) (.cons (.sub (.sub (.var 4) (.var 6)) (.int 1)) .nil))) .nil) .nil) (.cons (.exp (.aU (.var 5) 44 (.cons (.var 7) .nil))) .nil)) .nil) .nil
theorem Bx{cf:CF}{f:V Bd}{kb:V Bd}{cs:Z->Ct}{cs':Z->Ct}{kc:Z->Ct}{kbA:Z}{kl:Z}{place:Z}{x0:O Q}{x1:O Q}{x3:O Q}(a:∀M∈f,∀G∈f,M.d=G.d->M=G)(n:f.Nodup)(c7:kl≠kbA)(c1:∃j,f=kb++j)(J:∀M∈f,M.g=MT->M.lv<=place->M∈kb)(h:f.length<900)
  (P:∀M∈f,M.g=MT->M.k≠.text->M.lv<=place->cs' M.num=kc M.num) (a9:∀M∈f,M.g=ML\/M.k=.text->cs' M.num=cs M.num):∀(y D:V Bd) (b:AH) (y6 y7:O Q),f=D++y->
  b.L[kbA]? = S ((f.map (·.d)).map Q.ab)->b.L[kl]? = S (((D.filter (cJ place)).map (·.d)).map Q.ab)->(∀M∈y,b.D[M.d]? = S (dy M (cs M.num)))->
  ∃r z6 X,bZ (λH E c3 b=>aW cf Jm ((c3.set 6 (S (.int H))).set 7 (S E)) b) (.lI kbA) (y.length+1) D.length [x0,x1,S (.int place),x3,S (.lst (kb.map λM=>.tup [cR M.k (kc M.num),.int (kc M.num).acc])),S (.aE kl),y6,y7] b =
   .ok (.next,[x0,x1,S (.int place),x3,S (.lst (kb.map λM=>.tup [cR M.k (kc M.num),.int (kc M.num).acc])),S (.aE kl),z6,X],r)/\
   r.L[kl]? = S (((f.filter (cJ place)).map (·.d)).map Q.ab)/\(∀M∈y,cJ place M=ML->r.D[M.d]? = S (dy M (cs' M.num)))/\Fr (λU=>U=.L kl\/∃M∈y,U=.D M.d) b r:=by
 intro y;induction y with
 |nil=>
  intro D b y6 y7 a0 s l T;refine zA b y6 y7 ?_ (by rw[a0];exact R (Sy ..) l) (λM a6=>nomatch a6) Fr.refl;have:Src.at (.lI kbA) D.length b=S N:=by show(b.L[kbA]?).map _=_;rw[s];show S (((f.map (·.d)).map Q.ab)[D.length]?)=_;rw[Sk (by rw[Rz,Rz,a0,Sy];exact Sd _)]
  exact Ea this
 |cons M y d5=>
  intro D b y6 y7 a0 s l T;have w:M∈f:=by rw[a0];exact RP _ (.head _)
  have t:=T M (.head _);have e1:Src.at (.lI kbA) D.length b=S (S (.ab M.d)):=by show(b.L[kbA]?).map _=_;rw[s];show S (((f.map (·.d)).map Q.ab)[D.length]?)=_;rw[RK,RK,a0,To (Sd _),VP];rfl
  have m:f=(D++[M])++y:=by rw[a0,Sn];rfl
  have B:=λa6=>by rw[a0,Sm] at n;exact(RW.mp n.2.1).1 a6
  have A:aR b (.ab M.d) (.str 59)=S (.bool M.g):=ld t rfl;have a2:aR b (.ab M.d) (.str 26)=S (.int M.lv):=ld t rfl;have d1:MX ((M.lv:MN)<=(place:MN))=MX (M.lv<=place):=by simp
  have a5:∀L,cJ place M=L->(D++[M]).filter (cJ place)=D.filter (cJ place)++(if L then[M] else[]):=λL hq=>by rw[VQ,TO,hq];induction L using RE<;>rfl
  have a7:∀{r:AH} {E:V (Q×Q)},r.D=b.D.set M.d E->∀v∈y,r.D[v.d]? = S (dy v (cs v.num)):=λ{r E} U v K=>by rw[U];refine dZ (λL=>B ?_) (T v (.tail _ K));have:=a _ (by rw[a0];exact RP _ (.tail _ K)) _ w L;exact this▸K
  have a4:∀{H1:AH},aW cf Jm [x0,x1,S (.int place),x3,S (.lst (kb.map λM=>.tup [cR M.k (kc M.num),.int (kc M.num).acc])),S (.aE kl),S (.int D.length),S (.ab M.d)] b=.ok (.next,[x0,x1,S (.int place),x3,S (.lst (kb.map λM=>.tup [cR M.k (kc M.num),.int (kc M.num).acc])),S (.aE kl),S (.int D.length),S (.ab M.d)],H1)->
    H1.L[kbA]? = S ((f.map (·.d)).map Q.ab)->H1.L[kl]? = S ((((D++[M]).filter (cJ place)).map (·.d)).map Q.ab)->(∀M∈y,H1.D[M.d]? = S (dy M (cs M.num)))->(cJ place M=ML->H1.D[M.d]? = S (dy M (cs' M.num)))->Fr (λU=>U=.L kl\/U=.D M.d) b H1->
    ∃r z6 X,bZ (λH E c3 b=>aW cf Jm ((c3.set 6 (S (.int H))).set 7 (S E)) b) (.lI kbA) ((M :: y).length+1) D.length [x0,x1,S (.int place),x3,S (.lst (kb.map λM=>.tup [cR M.k (kc M.num),.int (kc M.num).acc])),S (.aE kl),y6,y7] b =
   .ok (.next,[x0,x1,S (.int place),x3,S (.lst (kb.map λM=>.tup [cR M.k (kc M.num),.int (kc M.num).acc])),S (.aE kl),z6,X],r)/\
   r.L[kl]? = S (((f.filter (cJ place)).map (·.d)).map Q.ab)/\(∀v∈M :: y,cJ place v=ML->r.D[v.d]? = S (dy v (cs' v.num)))/\Fr (λU=>U=.L kl\/∃v∈M :: y,U=.D v.d) b r:=λ{H1} w1 w2 w3 w4 w5 w6=>by
   refine CM (d5 (D++[M]) H1 (S (.int D.length)) (S (.ab M.d)) m w2 w3 w4) λr z6 X v1 v2 v3 v4=>zA r z6 X ?_ v2 (λv K d0=>?_) ?_
   ·rw[RF] at v1;exact wg e1 w1 (yL v1)
   ·rcases RC.mp K with rfl|K
    ·refine v4.D _ _ (λo=>?_) (w5 d0);rcases o with o|⟨c8,p,o⟩;·cases o
     ·have:=a _ w _ (by rw[a0];exact RP _ (.tail _ p)) (Ad.D.inj o);exact B (this▸p)
    ·exact v3 v K d0
   ·exact(w6.mono λU o=>o.elim Vd λo=>US (ba M (.head _) o)).trans (v4.mono λU o=>o.elim Vd λ⟨c8,p,o⟩=>US ⟨c8,.tail _ p,o⟩)
  have d:(((D.filter (cJ place)).map (·.d)).map Q.ab).length<1000:=by
   rw[Rz,Rz];have:D.length<=f.length:=by rw[a0,RF];exact R6 _ _
   exact n1 (RO (RH (Uz (cJ place) D) this) h) rfl
  refine v9 (cJ place M) (λc=>?_) (λc=>?_);·refine bK (UD.mp c) λg0 g1=>?_;refine a4 (H1:=b) ?_ s (by rw[a5 _ c,Nf (by decide),Sy];exact l) (λv K=>T v (.tail _ K)) (λL=>by replace L:=(show cJ place M=MT from c).symm.trans L;cases L) Fr.refl;replace A:=g0▸A;rw[g1] at d1;clear a4 a7 a5 T s l t e1 m B n a w a0 c g0 g1 J c1 P a9 d h;walk_at "ev"
  ·have a8:∀{H1:AH},H1.L[kl]? = S (((D.filter (cJ place)).map (·.d)).map Q.ab)->(wL H1 kl (((D.filter (cJ place)).map (·.d)).map Q.ab++[.ab M.d])).L[kl]? = S ((((D++[M]).filter (cJ place)).map (·.d)).map Q.ab):=λ{H1} a6=>by
    rw[a5 _ c,Nb rfl,R8,R8];exact bW a6
   cases i : !M.g&&MX (M.k≠.text) with
   |true=>
    refine bK (RT.mp i) λk s2=>?_;rw[Ta] at k;have s2:=M8 s2;have e:M.lv<=place:=by unfold cJ at c;rw[k,VE,OU] at c;exact c
    have c9:=J M w k e;have ck:=P M w k s2 e;refine dD c1 λj er=>?_;have c2:kb[D.length]? = S M:=by
     have d6:D.length<kb.length:=by
      refine V7 λd4=>?_;have eq:D++M :: y=kb++j:=a0.symm.trans er;rw[er] at n;have:M∈j:=by
       rw[U9] at eq;rcases eq with⟨I,q1,q⟩|⟨I,q1,q⟩
       ·have:I=[]:=by
         exact UI (o4 d4 ((Nc Uu q1).trans RF))
        subst this
        rw[Uh] at q
        rw[<-q];exact .head _
       ·rw[q];exact RP _ (.head _)
      exact(Sm.mp n).2.2 M c9 M this rfl
     have:f[D.length]? = S M:=by rw[a0,To (Sd _),VP];rfl
     rw[er,Td d6] at this;exact this
    have c5:=(RG.mp c2).1;have g:kb.length<=f.length:=by rw[er,RF];exact R6 _ _
    have q1:aR b (.lst (kb.map λM=>.tup [cR M.k (kc M.num),.int (kc M.num).acc])) (.int D.length)=S (.tup [cR M.k (kc M.num),.int (kc M.num).acc]):=by show(Mine.Lake.place D.length (kb.map λM=>Q.tup [cR M.k (kc M.num),.int (kc M.num).acc]).length).bind _=_;rw[show Mine.Lake.place D.length (kb.map λM=>Q.tup [cR M.k (kc M.num),.int (kc M.num).acc]).length=S D.length by unfold Mine.Lake.place;rw[Nb (RQ _),Nb (by rw[Rz];exact⟨RU.mpr c5,S6.mpr (qi (RO c5 (RO g h)) rfl)⟩)];rfl];show(kb.map _)[D.length]? = _;rw[RK,c2];rfl
    have q:aR b (.tup [cR M.k (kc M.num),.int (kc M.num).acc]) (.int 0)=S (cR M.k (kc M.num)):=rfl;have C:aR b (.tup [cR M.k (kc M.num),.int (kc M.num).acc]) (.int 1)=S (.int (kc M.num).acc):=rfl;have v1:=Cr (v:=cR M.k (kc M.num)) (kq▸t);have D1:(wD b M.d (eR M (cR M.k (kc M.num)) (.int (cs M.num).acc))).D[M.d]? = S (eR M (cR M.k (kc M.num)) (.int (cs M.num).acc)):=bW t;have v2:=Cs (v:=.int (kc M.num).acc) D1;have l2:(wD (wD b M.d (eR M (cR M.k (kc M.num)) (.int (cs M.num).acc))) M.d (eR M (cR M.k (kc M.num)) (.int (kc M.num).acc))).L[kl]? = S (((D.filter (cJ place)).map (·.d)).map Q.ab):=l;have v3:=fI (x:=.ab M.d) l2 d;have c4:(wD (wD b M.d (eR M (cR M.k (kc M.num)) (.int (cs M.num).acc))) M.d (eR M (cR M.k (kc M.num)) (.int (kc M.num).acc))).D=b.D.set M.d (eR M (cR M.k (kc M.num)) (.int (kc M.num).acc)):=Tf ..;refine a4 (H1:=wL (wD (wD b M.d (eR M (cR M.k (kc M.num)) (.int (cs M.num).acc))) M.d (eR M (cR M.k (kc M.num)) (.int (kc M.num).acc))) kl (((D.filter (cJ place)).map (·.d)).map Q.ab++[.ab M.d])) ?_ (dZ (S8 c7) s) (a8 l2) (a7 c4) (λY=>by rw[ck,kq];exact(Nc (·[M.d]?) c4).trans (bW t)) (((Fr.wD (.inr rfl)).trans (Fr.wD (.inr rfl))).trans (Fr.wL (.inl rfl)));have d3:∃H,kS M.k=.str H/\(H==36)=MT:=by
     induction J:M.k using Wo with
     |row=>exact ba 39 rfl rfl
     |dict=>exact⟨8,rfl,rfl⟩
     |text=>exact Nh J s2
    refine aM d3 λz d2 d7=>?_;have a3:aR b (.ab M.d) (.str 9)=S (kS M.k):=ld t rfl;rw[d2] at a3;rw[k] at A;rw[Nn e] at d1;have rr:aK (wD (wD b M.d (eR M (cR M.k (kc M.num)) (.int (cs M.num).acc))) M.d (eR M (cR M.k (kc M.num)) (.int (kc M.num).acc))) (.aE kl) 44=S .bI:=rfl;clear a4 a7 a5 T s l t D1 c4 e1 m B n a w a0 c k J P a9 d h a8 i s2 e c9 ck er c2 c5 g d2 l2;generalize (kb.map λM=>Q.tup [cR M.k (kc M.num),.int (kc M.num).acc])=c6 at *;walk_at "ev"
   |false=>
    have b9:M.g=ML\/M.k=.text:=by
     induction hg:M.g using RE with
     |true=>exact .inl rfl
     |false=>rw[hg,Wc,MP.true_and] at i;exact .inr (Classical.not_not.mp (Q6 i))
    have ck:=a9 M w b9
    have v3:=fI (x:=.ab M.d) l d
    refine a4 (H1:=wL b kl (((D.filter (cJ place)).map (·.d)).map Q.ab++[.ab M.d])) ?_ (dZ (S8 c7) s) (a8 l) (λv K=>T v (.tail _ K)) (λY=>by rw[ck];exact t) (Fr.wL (.inl rfl))
    have rr:aK b (.aE kl) 44=S .bI:=rfl
    have a3:aR b (.ab M.d) (.str 9)=S (kS M.k):=ld t rfl
    cases hg:M.g with
    |true=>rw[hg] at A;clear a4 a7 a5 T s l t e1 m B n a w a0 c J P a9 d h a8 i ck c1 a3 b9 hg;generalize (kb.map λM=>Q.tup [cR M.k (kc M.num),.int (kc M.num).acc])=c6 at *;walk_at "ev"
    |false=>rw[hg] at A;have ht:M.k=.text:=b9.resolve_left (by rw[hg];decide);rw[ht] at a3;unfold kS at a3;unfold cJ at c;rw[hg,VE] at c;rw[c] at d1;clear a4 a7 a5 T s l t e1 m B n a w a0 c J P a9 d h a8 i ck c1 ht b9 hg;generalize (kb.map λM=>Q.tup [cR M.k (kc M.num),.int (kc M.num).acc])=c6 at *;walk_at "ev"
theorem nJ{I M:MN}(B:0<M):bY .mod (.int I) (.int M)=S (.int (I.fmod M)):=Nb (Nn B)
theorem gh{a:MN}{n:Z}(B:0<n):∃P:Z,a.fmod n=P/\P<n:=by exact ba ((a.fmod n).toNat) ((UJ (Vr a (b:=n) (by exact RU.mpr B))).symm) ((MN.toNat_lt (Vr a (by exact RU.mpr B))).mpr (MN.fmod_lt_of_pos a (b:=n) (by exact RU.mpr B)))
theorem zj{f:Z->Bd}{j:Jo}{a:Z->Ct}(w:f b.num=b)(o:b.g=ML\/b.k=.text)(z:qm (λq=>(f q).k) a j)(g:∀L∈j,(f L.1).g=MT):kJ a j b.num=a b.num:=by
 refine D7 λL e D=>?_;have h:=g L e;rcases o with o|o;·rw[D,w,o] at h;cases h
 ·have G:∀{j:Jo} {a:Z->Ct},qm (λq=>(f q).k) a j->∀L∈j,(f L.1).k≠.text:=by
   intro j
   induction j with
   |nil=>intro _ _ L B;cases B
   |cons r y d=>
    obtain⟨q,c⟩:=r;intro a H L e D;rcases RC.mp e with rfl|e;·have:=H.1;simp only[D] at this;induction c using Un.casesOn<;>first|exact nomatch this.1|exact nomatch this
    ·exact d H.2 L e D
  exact G z L e (by refine R D ?_;refine R w ?_;exact o)
theorem ET{cf:CF}{U b f e:AH}{p:Z}{rest J:MN}{x4 x6 x7 x:O Q}{a k d:Z}{c:Q}(A:aR U (.ab 1) (.str 25)=S (.aE k))(i:dP U (.aE k) N (S c)=S (.aE d,b)){h:AH}(o:dm b (.ab 1) (.str 58) (.aE a)=S f)(g:dm f (.ab 1) (.str 70) (.int J)=S e)(X:dm e (.ab 1) (.str 25) (.aE d)=S h) :
  cN cf (aH mV.body 5) [S (.ab 1),S (.int rest),S c,S (.int J),x4,S (.aE a),x6,x7] U=.ok (.next,[S (.ab 1),S (.int rest),S c,S (.int J),x4,S (.aE a),x6,x7],h):=by dsimp only[mV,aH];walk_at "ev"
theorem He{cf:CF}{rest:MN}{P g:Z}{J K:Q}(A:aR a (.ab 1) (.str 25)=S (.aE g))(l1:bA a .len [.aE g]=S (.int o,a))(t:bY .mod (.int rest) (.int o)=S (.int P))(y:aR a (.aE g) (.int P)=S (.tup [J,K]))(h:aR a (.ab 1) (.str 64)=S (.aA 0))(b:aK a (.aA 0) 71=S (.own 44))(X:cf (.fn 44) [.aA 0,J] a=.ok (k,p)) :
  aW cf (.cons (aH mV.body 0) (.cons (aH mV.body 1) (.cons (aH mV.body 2) (.cons (aH mV.body 3) .nil)))) [S (.ab 1),S (.int rest),N,N,N,N,N,N] a=.ok (.next,[S (.ab 1),S (.int rest),S (.int P),S J,S K,S (.aE p.L.length),N,N],aL p []):=by dsimp only[mV,aH];walk_at "ev"
theorem ru{c7:Z}{m:Z}{o:Sg}{rest:MN}(k:In c7 a o)(H:c7<=14)(hm:5<=m)(e0:o.svs≠[]):∃r d6,aC m (.fn 55) [.ab 1,.int rest] a=.ok (.none,r)/\In (c7+1) r d6:=by
 refine hF λA=>?_;refine aM (eE hm) λa4 bE hn=>?_;clear hm;subst bE;have g:=k.z1;have z2:=k.z2;have z3:=k.z3;have lp:=VG.mpr e0;refine aM (gh (a:=rest) lp) λa0 hp pl=>?_;obtain⟨t,hs⟩:∃t,o.svs[a0]? = S t:=⟨_,RB pl⟩;have sm:=RJ hs;obtain⟨⟨d5,d3,e7,d8⟩,⟨a7,c2,E,em,e3,e4⟩,gk⟩:=k.P.sv a0 t hs;have z:a7.length+c2.length=o.jo.length:=by refine R E ?_;rw[RF]
 have ck:=λM w hg=>zj (k.P.zG M w) hg (pW.mp (E▸k.P.Bu)).1 λq e=>(k.P.jk q (E▸RL _ e)).2.2.1;have c3:∀M∈o.bs,M.g=MT->M.lv<=a0->M∈t.kb:=λM w hg hl=>by
  rw[d3] at w;rcases RM.mp w with w|w;·exact w
  ·have:=d8 M w hg;exact Nh hl (Uo.mpr this)
 obtain⟨I,c9,L,a5,d4,v,e1,G2,d7,M2,e5,S2,c1,e9,F2⟩:=EN (m:=a4) (pre:=a7) (suf:=c2) (s:=t) (q:=t.num) (X:=Xs o) (place:=a0) (by exact n4 hn rfl) (by refine R E.symm ?_;exact k.G) (jH k.sn hs) hs em (λU B=>B.elim .inl λB=>.inr (.inl B)) (jI k.P.nn) k.MM (λM w=>(hU (k.P.gd M w)).1) k.S (λU B=>k.has B) (λq e=>by refine fK (k.P.jk q (E▸RL _ e)) λk1 k2 _=>?_;exact⟨k1,k2⟩) (λq e=>zh k.P.Bu q (E▸RL _ e)) (pW.mp (E▸k.P.Bu)).1 (by refine R (qf k.md) ?_;exact k.P.nn) (by exact n2 (RH (RH (R6 ..) (R2 z)) (RH z2 (Ub 2 H))) rfl);have nG:∀U,Xs o U->¬Gl U->¬(¬Xs o U\/Gl U):=λU B a2 q=>q.elim (λc4=>c4 B) a2;have b9:Xs o (.L o.kb):=.inr (.inr (.inl rfl));have c6:Xs o (.L o.gR):=.inr (.inr (.inr (.inl rfl)));have a9:Xs o (.D 1):=.inr (.inr (.inr (.inr (.inl rfl))));have c5:∀M∈o.bs,Xs o (.D M.d):=λM w=>.inr (.inr (.inr (.inr (.inr (ba M w rfl)))));refine A ?_;have y:LW (aL I []) o.kb o.gR (gg o.gone) (o.bs.map (·.d)) (o.svs.map jF):=(k.W.fr F2 (nG _ a9 (zF (by decide))) (nG _ b9 (Cn k.W.n1)) (nG _ c6 (Cn k.W.n2))).fr (P:=λY=>Nx) Fr.aL id id id;have K:∀U,has I U->U≠.L I.L.length:=λU B D=>by rw[D] at B;exact RV _ B
 have e6:I.L.length≠o.gR:=λD=>K _ (c1 _ c6) (by refine R D rfl);have d9:o.bs.Nodup:=by have:=k.P.nn;exact V.Pairwise.of_map _ (λa3 M B D=>B (by refine R D rfl)) this
 refine CM (Bx (cf:=aC a4) (kl:=I.L.length) (x0:=S (.ab 1)) (x1:=S (.int rest)) (x3:=S (.int t.num)) (place:=a0) (kb:=t.kb) (cs:=o.cs) (cs':=λa4=>kJ o.cs a7 a4) (kc:=t.kc) (kbA:=o.kb) k.dj d9 (λD=>K _ (c1 _ b9) (by refine R D rfl)) ⟨d5,d3⟩ c3 (by exact n2 (RH z3 H) rfl) (λM w p h2 T=>e3 M (c3 M w p T) p h2) ck o.bs [] (aL I []) N N rfl y.b dK (λM w=>(λM w=>F2.D _ _ (nG _ (c5 M w) (zF (k.d0 M w))) (k.DD M w)) M w)) λH4 y6 y7 w1 w2 w3 w4=>?_;have nf:∀U,Xs o U->(∀M∈o.bs,U≠.D M.d)->¬(U=.L I.L.length\/∃M∈o.bs,U=.D M.d):=λU p h2 q=>q.elim (λq=>K U (c1 U p) q) λq=>aM q λM w q=>h2 M w q;have a8:∀U,Gl U\/U=.L a5->¬(U=.L I.L.length\/∃M∈o.bs,U=.D M.d):=λU B q=>by
  rcases q with q|⟨M,w,q⟩;·exact K U (G2.has B) q
  ·subst q;rcases B with B|B;·exact zF (k.d0 M w) B
   ·cases B
 have G4:=((Bh G2).1 []).fr w4 (a8 _ (.inl (.inl rfl))) (a8 _ (.inl (.inr (.inl rfl)))) (a8 _ (.inl (.inr (.inr rfl)))) (a8 _ (.inr rfl));have C:=y.fr w4 (nf _ a9 λM w q=>k.d1 M w (Ad.D.inj q).symm) (nf _ b9 λM w q=>nomatch q) (nf _ c6 λM w q=>nomatch q);have M4:=λM w=>((M2 M w).fr (P:=λY=>Nx) Fr.aL λY Y=>id).fr w4 λU s q=>by
  rcases q with q|⟨G,b,q⟩;·exact K U ((M2 M w).has s) q
  ·exact S2.x M w U s (.inl (q▸c5 G b))
 have c8:(aL H4 ((o.svs.map jF).take a0)).D[1]? = S (wV o.kb o.gR (gg o.gone)):=C.w;have t1:∀{a:AH} {a3 M:Z} {a2 v:Q},a.D[1]? = S (wV a3 M a2)->dm a (.ab 1) (.str 58) (.aE 0)=S (wD a 1 (wV 0 M a2)):=λB=>by show(AH.D _)[1]?.bind _=_;refine(oL B).trans ?_;rfl
 have t2:∀{a:AH} {a3 M c:Z} {a2:Q},a.D[1]? = S (wV a3 M a2)->dm a (.ab 1) (.str 58) (.aE c)=S (wD a 1 (wV c M a2)):=λ{a a3 M c a2} B=>by show(a.D[1]?).bind _=_;rw[B];rfl
 have t3:∀{a:AH} {a3 M:Z} {a2 v:Q},a.D[1]? = S (wV a3 M a2)->dm a (.ab 1) (.str 70) v=S (wD a 1 (wV a3 M v)):=λ{a a3 M a2 v} B=>by show(a.D[1]?).bind _=_;rw[B];rfl
 have t4:∀{a:AH} {a3 M c:Z} {a2:Q},a.D[1]? = S (wV a3 M a2)->dm a (.ab 1) (.str 25) (.aE c)=S (wD a 1 (wV a3 c a2)):=λ{a a3 M c a2} B=>by show(a.D[1]?).bind _=_;rw[B];rfl
 have u2:=t2 (c:=I.L.length) c8;have d1:(wD (aL H4 ((o.svs.map jF).take a0)) 1 (wV I.L.length o.gR (gg o.gone))).D[1]? = S (wV I.L.length o.gR (gg o.gone)):=bW c8;have d0:(wD (wD (aL H4 ((o.svs.map jF).take a0)) 1 (wV I.L.length o.gR (gg o.gone))) 1 (wV I.L.length o.gR (.int t.num))).D[1]? = S (wV I.L.length o.gR (.int t.num)):=bW d1;have F8:Fr (λU=>U=.D 1) H4 (wD (wD (wD (aL H4 ((o.svs.map jF).take a0)) 1 (wV I.L.length o.gR (gg o.gone))) 1 (wV I.L.length o.gR (.int t.num))) 1 (wV I.L.length H4.L.length (.int t.num))):=(((Fr.aL (P:=λU=>U=.D 1)).trans (Fr.wD (P:=λU=>U=.D 1) rfl)).trans (Fr.wD (P:=λU=>U=.D 1) rfl)).trans (Fr.wD (P:=λU=>U=.D 1) rfl);have tk:(o.svs.map jF).take a0=(o.svs.take a0).map jF:=by rw[UX]
 have W8:LW (wD (wD (wD (aL H4 ((o.svs.map jF).take a0)) 1 (wV I.L.length o.gR (gg o.gone))) 1 (wV I.L.length o.gR (.int t.num))) 1 (wV I.L.length H4.L.length (.int t.num))) I.L.length H4.L.length (gg (S t.num)) ((o.bs.filter (cJ a0)).map (·.d)) ((o.svs.take a0).map jF):=⟨bW d0,ec w2,by rw[<-tk];exact(dK),λD=>by have:=bP G2.j;exact Nh (D.symm▸this) (RV _),λD=>by have:=bP G4.j;exact Nh (D.symm▸this) (RV _),Te (bP w2),by rw[Rz];have:=Uz (cJ a0) o.bs;exact n2 (RH this (RH z3 H)) rfl,by rw[Rz,S4];exact n2 (RH (T8 ..) (RH g H)) rfl⟩;have i:∀M,M∈o.bs.filter (cJ a0)->M∈o.bs/\cJ a0 M=ML:=λM w=>TZ.mp w;have e2:∀{M U},M∈o.bs->eT c9 M U->U≠.L I.L.length/\U≠.L H4.L.length:=λ{M U} w s=>⟨K U ((M2 M w).has s),λD=>by have:=(M4 M w).has s;rw[D] at this;exact RV _ this⟩;refine dI _ ⟨{o.μ with ks:=a5,fr:=d4,u:=t.used},o.svs.take a0,c2,L,I.L.length,H4.L.length,S t.num,o.bs.filter (cJ a0),c9,kJ o.cs a7,o.bd⟩ ?_ ⟨k.g,(G4.fr F8 nofun (λq=>nomatch q) nofun nofun),W8,λM w=>(M4 M (i M w).1).fr F8 λU s (a2:U=.D 1)=>S2.x M (i M w).1 U s (.inl (a2▸a9)),λM w=>F8.D _ _ (λa2=>k.d1 M (i M w).1 (Ad.D.inj a2)) (w3 M (i M w).1 (i M w).2),⟨λM w U s hx=>?_,λM w G b=>S2.d M (i M w).1 G (i G b).1⟩,λD=>?_,λD=>?_,λM w=>k.d0 M (i M w).1,λM w=>k.d1 M (i M w).1,λM w G b=>k.dj M (i M w).1 G (i G b).1,k.P.restore hs E em λM w hg=>?_,?_,λM w=>k.nl M (i M w).1,?_,λn h=>k.sl n (UG h),λc4 J=>?_,?_,?_,?_,?_,?_,λn h=>?_⟩
 ·have a1:aR a (.ab 1) (.str 25)=S (.aE o.gR):=k.W.sub rfl;have l1:=jG k.W.s (by rw[Rz];exact n2 (RH g H) rfl);rw[Rz] at l1;have m1:bY .mod (.int rest) (.int o.svs.length)=S (.int a0):=by rw[nJ (by exact RU.mpr lp),hp]
  have q1:aR a (.aE o.gR) (.int a0)=S (jF t):=by show(a.L[o.gR]?).bind _=_;rw[k.W.s];show(Mine.Lake.place a0 (o.svs.map jF).length).bind _=_;rw[show Mine.Lake.place a0 (o.svs.map jF).length=S a0 by unfold Mine.Lake.place;rw[Nb (by exact RQ _),Nb (by rw[Rz];exact⟨RU.mpr pl,RU.mpr (n1 (RS pl (RH g H)) rfl)⟩)];rfl];show(o.svs.map jF)[a0]? = _;rw[RK,hs];rfl
  refine bK (mH y.b (by rw[Rz,Rz];exact n2 (RH z3 H) rfl)) λt1 t2=>?_;rw[Rz,Rz] at t1;have k4:=qe (cf:=aC a4) (i:=6) (x:=7) (e:=.sub (.var 0) (.str 58)) (l:=[S (.ab 1),S (.int rest),S (.int a0),S (.int t.num),S (.lst (t.kb.map λM=>.tup [cR M.k (t.kc M.num),.int (t.kc M.num).acc])),S (.aE I.L.length),N,N]) (H:=aL I []) (nH (x:=0) rfl (y.sub rfl)) t1 w1;rw[aN (f:=mV) [S (.ab 1),S (.int rest),N,N,N,N,N,N] rfl rfl];change (aW _ (ro [aH mV.body 0,aH mV.body 1,aH mV.body 2,aH mV.body 3] (.cons (aH mV.body 4) (.cons (aH mV.body 5) .nil))) _ a).bind _=_;rw[tc (xs:=[aH mV.body 0,aH mV.body 1,aH mV.body 2,aH mV.body 3]) (He (cf:=aC a4) (rest:=rest) a1 l1 m1 q1 (k.W.sub rfl) (k.G.rc rfl) e1),aX (s:=aH mV.body 4) k4,aX (s:=aH mV.body 5) (ET (cf:=aC a4) (p:=a0) (rest:=rest) (x4:=S (.lst (t.kb.map λM=>.tup [cR M.k (t.kc M.num),.int (t.kc M.num).acc]))) (x6:=y6) (x7:=y7) (x:=N) (C.sub rfl) (Cq (place:=a0) C.s (by rw[Rz];exact n2 (RH g H) rfl) (by exact n1 (RS pl (RH g H)) rfl)) u2 (t3 (v:=.int t.num) d1) (t4 (c:=H4.L.length) d0))];rfl
 ·have w:=(i M w).1;refine bK (e2 w s) λf1 f2=>?_;rcases hx with B|B|B|B|B|⟨G,b,B⟩;·exact S2.x M w U s (.inl (.inl B))
  ·exact S2.x M w U s (.inr B)
  ·exact f1 B
  ·exact f2 B
  ·exact S2.x M w U s (.inl (B▸a9))
  ·exact S2.x M w U s (.inl (B▸c5 G (i G b).1))
 ·exact K (.L a5) (G2.has (.inr rfl)) (Nc Ad.L D)
 ·have:=G4.has (z:=.L a5) (.inr rfl);rw[show a5=H4.L.length from D] at this;exact RV _ this
 ·refine v9 M.g (λa6=>?_) (λa6=>?_)
  ·by_cases h:M.k=.text;·rw[ck M w (.inr h)];exact k.P.gd M w
   ·have hl:=hg.resolve_left (by rw[a6];decide);have d2:=c3 M w a6 hl;rw[e3 M d2 a6 h];exact gk M d2
  ·rw[ck M w (.inl a6)];exact k.P.gd M w
 ·rw[d7];have k1:(o.md.filter (oy a0)).map rp=(o.md.map rp).filter λn=>n.2.1||MX (n.2.2<=a0):=by rw[V.filter_map];rfl
  have k2:((o.bs.filter (cJ a0)).map λM=>(M.num,M.g,M.lv))=(o.bs.map λM=>(M.num,M.g,M.lv)).filter λn=>n.2.1||MX (n.2.2<=a0):=by rw[V.filter_map];rfl
  rw[k1,k2,k.md]
 ·exact k.sn.sublist ((V.take_sublist a0 o.svs).map _)
 ·obtain rfl:t.num=c4:=Sl J;refine⟨λB=>?_,k.sl t sm⟩;refine aM (Sj.mp B) λn h D=>?_;refine dD (V.getElem?_of_mem h) λe8 d=>?_;have j:=(RG.mp d).1;replace j:=S4▸j;rw[Ul (by exact RS j (Tc ..))] at d;have:=jH k.sn d;rw[D,jH k.sn hs] at this;exact Nh (Sl this) (S7 (RS j (Tc ..)))
 ·show(o.svs.take a0).length<=_;rw[S4];exact RH (T8 ..) (SN g)
 ·exact RH (RH (SR ..) (R2 z)) (RH z2 (Ub 2 (So c7)))
 ·have:=Uz (cJ a0) o.bs;exact RH this (RH z3 (R6 _ _))
 ·exact o2 (k.z6 t sm)
 ·exact o2 k.z5
 ·exact o2 (k.z6 n (UG h))
noncomputable def Jn(y:Z->Z)(M:Bd):Ad->Prop:=λU=>yU y M U\/U=.D M.d
theorem By{E:q}{T:V (Z×q)}{i:Z}(B:i∈(eu h E T).map (·.1)):i=h\/i∈T.map (·.1):=by
 rw[<-jE,pX] at B;by_cases D:i=h;·exact .inl D
 ·rw[Nf D,jE] at B;exact .inr B
theorem In.sp{n:Z}{o:Sg}(k:In n a o)(w:b∈o.bs):Sp o.μ o.es b:=⟨λU s c=>k.S.x b w U s (.inl c),λU s D=>k.S.x b w U s (.inr (.inl D))⟩
theorem oz{f:Z}{r:AH}{o:Sg}{c':Ct}{d:Jo}{e:V (Z×pZ)}{u':MN}{ug':MN}(k:In f a o)(w:b∈o.bs)(C:GM r {o.μ with u:=u',ug:=ug'} o.svs ((d.map (enc o.bd)).reverse) e)(j:MB r o.es b c')(l:r.D[b.d]? = S (dy b c'))(x:Fr (Jn o.es b) a r)(c:Pu o.svs d o.bs (upd o.cs b.num c') o.bd)(E:e.map rp=o.md.map rp)
  (y:u'<=o.μ.u+96) (h:ug'<=o.μ.ug+96) (M:d.length<=o.jo.length+2):∃g,In (f+1) r g:=by
 have m:∀v∈o.bs,v≠b->v.num≠b.num:=λv K q D=>q (jI k.P.nn _ K _ w D);have n:∀U,Xs o U->¬Gl U->U≠.D b.d->¬Jn o.es b U:=λU p G T L=>L.elim (λL=>L.elim G λL=>k.S.x b w U L p) T;have i:∀H,H∈[0,1]->Ad.D H≠.D b.d:=λH J D=>by
  have D:=Ad.D.inj D;rcases RC.mp J with rfl|J;·exact k.d0 b w D.symm
  ·rw[Rx] at J;subst J;exact k.d1 b w D.symm
 refine⟨{o with μ:={o.μ with u:=u',ug:=ug'},jo:=d,md:=e,cs:=upd o.cs b.num c'},k.g,C,k.W.fr x (n _ (.inr (.inr (.inr (.inr (.inl rfl))))) (zF (by decide)) (i 1 (by decide))) (n _ (.inr (.inr (.inl rfl))) (Cn k.W.n1) nofun) (n _ (.inr (.inr (.inr (.inl rfl)))) (Cn k.W.n2) nofun),λv K=>?_,λv K=>?_,k.S,k.k1,k.k2,k.d0,k.d1,k.dj,c,E.trans k.md,k.nl,k.sn,k.sl,k.go,SN k.z1,by exact RH M (Tw (k.z2) _),SN k.z3,SW y (o1 (k.z4) (by decide)),SW h (o1 (k.z5) (by decide)),λt P=>o2 (k.z6 t P)⟩
 ·by_cases D:v=b;·refine R D ?_;dsimp only;exact R bD j
  ·dsimp only;refine R (cF (m _ K D)) ((k.MM _ K).fr x λU s L=>?_);rcases L with(L|L)|L;·exact k.S.x _ K U s (.inl L)
   ·exact k.S.d _ K _ w (m _ K D) U s L
   ·exact k.S.x _ K U s (.inr (.inr (.inr (.inr (.inr (ba b w L))))))
 ·by_cases D:v=b;·refine R D ?_;dsimp only;exact R bD l
  ·dsimp only;exact R (cF (m _ K D)) (x.D _ _ (n _ (.inr (.inr (.inr (.inr (.inr (ba v K rfl)))))) (zF (k.d0 _ K)) λL=>D (k.dj _ K _ w (Ad.D.inj L))) (k.DD _ K))
noncomputable def Fj(s:V Sv)(M:Bd)(c:Un)(j:Jo):Jo:=if cv s M then(M.num,c) :: j else j
theorem kr{a:Z->Bd}{j:Jo}{c:Un}(B:a b.num=b):jn (cv g b) ((j.map (enc a)).reverse) (aV b c)=((Fj g b c j).map (enc a)).reverse:=by
 unfold jn Fj;split;·refine R R5 (R Us ?_);show _=_++[aV (a b.num) c];rw[B]
 ·rfl
theorem ip{b:Bd}{svs:V Sv}{jo:Jo}{u:Un}:(Fj svs b u jo).length<=jo.length+1:=by
 unfold Fj;split;·exact Sd _
 ·exact So _
theorem iq{c':Ct}{j:Jo}{f:V Bd}{a:Z->Ct}{c:Z->Bd}{u:Un}(B:Pu g j f a c)(w:b∈f)(k:gQ u c'=a b.num)(z:yF b.k u c')(J:b.k≠.text)(d:good b.k c'):Pu g (Fj g b u j) f (upd a b.num c') c:=by
 unfold Fj;induction C:cv g b using RE with
 |true=>obtain⟨p,G⟩:=RT.mp C;rw[Ta] at p;exact B.cv w p (M8 G) k z d
 |false=>
  refine B.plain w ?_ d
  unfold cv at C
  induction o:b.g using RE with
  |true=>exact .inl rfl
  |false=>rw[o] at C;exact .inr (.inr (by have:=Q6 C;exact Tj.mp this))
theorem vU{P:Z}{E:MN}(B:good .row c):good .row {c with cw:=c.cw.set P E}:=⟨by show(c.cw.set P E).length=3;refine Tb.trans ?_;exact B.1,B.2⟩
theorem rx{E:MN}(C:h<3)(B:good .dict c){a:MN}(v:a=2\/a=8):good .dict {c with en:=eu h E c.en,most:=a}:=(qu B.1 (yI B.2.1) (λi M=>(By M).elim (λD=>D▸C) (B.2.2.1 i)) v)
theorem vV(B:good .dict c):good .dict {c with en:=iX h c.en}:=⟨B.1,yJ B.2.1,λi M=>B.2.2.1 i (by have M:i∈(iX h c.en).map (·.1):=M;rw[gA B.2.1] at M;exact(UM.map _).subset M),B.2.2.2⟩
theorem Bz{z:MN}(B:good .dict c):yF .dict (.drop h z (c.en.map (·.1))) {c with en:=iX h c.en}:=⟨rfl,B.2.1,λi M D=>by refine R (uA D) ?_;rw[jE];exact M,Jl B.2.1 B.2.2.1⟩
theorem vW{P:Z}{E z:MN}(B:c.cw[P]? = S z):gQ (.item P z) {c with cw:=c.cw.set P E}=c:=by show({c with cw:=(c.cw.set P E).set P z}:Ct)=c;refine dD (RG.mp B) λs D=>?_;refine R (Tf ..) ?_;refine R D.symm ?_;refine R (VA ..) rfl
theorem ry{c:Ct}{E:MN}:gQ (.ent h (cn h c.en)) {c with en:=eu h E c.en}=c:=by
 induction D:cn h c.en using Ry with
 |none=>show({c with en:=iX h (eu h E c.en)}:Ct)=c;rw[yH D]
 |some z=>show({c with en:=eu h z (eu h E c.en)}:Ct)=c;refine R (yG D) rfl
theorem vX{z:MN}(n:(c.en.map (·.1)).Nodup)(B:cn h c.en=S z):gQ (.drop h z (c.en.map (·.1))) {c with en:=iX h c.en}=c:=by show({c with en:=(c.en.map (·.1)).map λH=>(H,if H=h then z else(cn H (iX h c.en)).getD 0)}:Ct)=c;refine R (vL n B) rfl
noncomputable def Jp:LE:=.comp (.sub (.var 10) (.int 0)) [10] (.sub (.var 3) (.str 60)) .no
theorem EU:LE.comp (.sub (.var 10) (.int 0)) [10] (.sub (.var 3) (.str 60)) .no=Jp:=rfl
noncomputable def Jq:LE:=.comp (.tup (.cons (.var 8) (.cons (.ite (.cmp .eq (.var 8) (.var 6)) (.bin .fdiv (.var 2) (.int 3)) (.var 9)) .nil))) [8,9] (.sub (.var 3) (.str 60)) .no
theorem zk:LE.comp (.tup (.cons (.var 8) (.cons (.ite (.cmp .eq (.var 8) (.var 6)) (.bin .fdiv (.var 2) (.int 3)) (.var 9)) .nil))) [8,9] (.sub (.var 3) (.str 60)) .no=Jq:=rfl
noncomputable def Jr:LE:=.comp (.var 11) [11] (.sub (.var 3) (.str 60)) (.so (.cmp .ne (.sub (.var 11) (.int 0)) (.var 6)))
theorem zl:LE.comp (.var 11) [11] (.sub (.var 3) (.str 60)) (.so (.cmp .ne (.sub (.var 11) (.int 0)) (.var 6)))=Jr:=rfl
theorem BA{r:Q}{q:Q}{g:Q}{j:Q}{d:Q}{pv:Q}{pv1:Q}{n:Q}{vv:Q}{tv:Q}{iv:Q}{m:Q}{l1:Q}{l12:Q}{l3:Q}(A:aR a j (.str 9)=S (.str 39))(t:bY .mod g (.int 3)=S pv)(h:aR a j (.str 14)=S n)(y:aK a d 65=S (.own 30))(H:bY .fdiv g (.int 3)=S vv)(T:f (.fn 3) [vv] a=.ok (tv,a))(e:f (.fn 30) [d,n,pv,tv] a=.ok (w,i))
  (L:aR i j (.str 60)=S iv) (k:dP i iv N (S pv)=S (l1,i)) (b:bY .add l1 (.lst [vv])=S l12) (l:bY .add pv (.int 1)=S pv1) (o:dP i iv (S pv1) N=S (l3,i)) (c:bY .add l12 l3=S m) (G:dm i j (.str 60) m=S p) :
  cN f (aH mU.body 2) [S r,S q,S g,S j,S d,N,N,N,N,N,N,N] a=.ok (.next,[S r,S q,S g,S j,S d,S pv,N,N,N,N,N,N],p):=by dsimp only[mU,aH];walk_at "ev"
theorem zm{k:Q}{g:Q}{d:Q}{j:Q}{b:Q}{pv:Q}{e:Q}{K:Q}{i0:Q}{i1:Q}{rv2:Q}{ov:Q}{t:MP}(A:aR a j (.str 9)=S (.str 36))(h:aR a j (.str 14)=S e)(y:aK a b 66=S (.own 32))(l:bY .mod d (.int 2)=S pv)(H:bY .fdiv d (.int 2)=S rv2)(v:bY .mod rv2 (.int 256)=S ov)(C:f (.fn 32) [b,e,pv,ov] a=.ok (w,i))
  (D:cq i .eq pv (.int 0)=S t) (L:aR i j (.str 60)=S K) (J:aR i K (.int 0)=S i0) (c:aR i K (.int 1)=S i1) (G:dm i j (.str 60) (if t then .lst [ov,i1] else .lst [i0,ov])=S p) :
  cN f (aH mU.body 2) [S k,S g,S d,S j,S b,N,N,N,N,N,N,N] a=.ok (.next,[S k,S g,S d,S j,S b,N,N,N,N,N,N,N],p):=by dsimp only[mU,aH];induction t using RE<;>simp only[PG,Oj,SU] at G<;>walk_at "ev"
theorem BB{n:Q}{m:Q}{e:Q}{j:Q}{d:Q}{pv:Q}{pv1:Q}{s:Q}{vv:Q}{tv:Q}{tn:Q}{iv:Q}{r:Q}{wdv:Q}{g:Q}{t:MP}(A:aR a j (.str 9)=S (.str 8))(v:cq a .lt m (.int 7)=S ML)(x:bY .mod e (.int 3)=S pv)(l:bY .add pv (.int 1)=S pv1)(k:dP a (.bw [97,98,99]) (S pv) (S pv1)=S (wdv,a))(K:aO f Jp [S n,S m,S e,S j,S d,N,N,N,N,N,N,N] a=.ok (g,a))
  (h:aR a j (.str 14)=S s) (y:aK a d 67=S (.own 35)) (b:f (.fn 4) [wdv] a=.ok (tn,a)) (H:bY .fdiv e (.int 3)=S vv) (T:f (.fn 3) [vv] a=.ok (tv,a)) (q:f (.fn 35) [d,s,tn,tv] a=.ok (w,i))
  (D:cq i .in wdv g=S t) (c:t=ML->aO f Jq [S n,S m,S e,S j,S d,N,S wdv,S g,N,N,N,N] i=.ok (r,i)) (L:aR i j (.str 60)=S iv) (o:t=MT->bY .add iv (.lst [.tup [wdv,vv]])=S r) (G:dm i j (.str 60) r=S p) :
  cN f (aH mU.body 2) [S n,S m,S e,S j,S d,N,N,N,N,N,N,N] a=.ok (.next,[S n,S m,S e,S j,S d,N,S wdv,S g,N,N,N,N],p):=by
 dsimp only[mU,aH];refine R zk ?_;induction t using RE with
 |true=>have c:=c rfl;clear o;walk_at "ev"
 |false=>have o:=o rfl;clear c;walk_at "ev"
theorem BC{n:Q}{d:Q}{e:Q}{j:Q}{b:Q}{pv:Q}{g:Q}{l:Q}{c:Q}(A:aR a j (.str 9)=S (.str 8))(o:cq a .lt d (.int 7)=S MT)(t:bY .mod e (.int 4)=S pv)(D:cq a .eq pv (.int 3)=S ML)(L:aR a j (.str 16)=S l)(m:bA a .min [l,.int 2]=S (c,a))(G:dm a j (.str 16) c=S i)(y:aK i b 68=S (.own 37))(h:aR i j (.str 14)=S g)(M:aR i j (.str 16)=S c)(k:f (.fn 37) [b,g,c] i=.ok (w,p)) :
  cN f (aH mU.body 2) [S n,S d,S e,S j,S b,N,N,N,N,N,N,N] a=.ok (.next,[S n,S d,S e,S j,S b,N,N,N,N,N,N,N],p):=by dsimp only[mU,aH];walk_at "ev"
theorem rz{o:Q}{g:Q}{e:Q}{j:Q}{d:Q}{pv:Q}{pv1:Q}{r:Q}{tn:Q}{q:Q}{wdv:Q}{av:Q}(A:aR a j (.str 9)=S (.str 8))(s:cq a .lt g (.int 7)=S MT)(t:bY .mod e (.int 4)=S pv)(D:cq a .eq pv (.int 3)=S MT)(m:bY .mod e (.int 3)=S av)(l:bY .add av (.int 1)=S pv1)(k:dP a (.bw [97,98,99]) (S av) (S pv1)=S (wdv,a))(h:aR a j (.str 14)=S r)(y:aK a d 69=S (.own 36))(b:f (.fn 4) [wdv] a=.ok (tn,a))(n:f (.fn 36) [d,r,tn] a=.ok (w,i))
  (c:aO f Jr [S o,S g,S e,S j,S d,N,S wdv,N,N,N,N,N] i=.ok (q,i)) (G:dm i j (.str 60) q=S p) :
  cN f (aH mU.body 2) [S o,S g,S e,S j,S d,N,N,N,N,N,N,N] a=.ok (.next,[S o,S g,S e,S j,S d,N,S wdv,N,N,N,N,N],p):=by dsimp only[mU,aH];refine R zl ?_;walk_at "ev"
theorem BD{cf:CF}{w:Q}{wy:Q}{rv:Q}{one:Q}{mem:Q}{pv:Q}{rv2:Q}{kbv nv:Q}(A:aR a w (.str 58)=S kbv)(l1:bA a .len [kbv]=S (nv,a))(t:bY .mod rv (.int 0)=bY .mod rv (.int 0))(v:bY .mod rv nv=S pv)(L:aR a kbv pv=S one)(H:bY .fdiv rv nv=S rv2)(h:aR a w (.str 64)=S mem) :
  aW cf (ro [aH mU.body 0,aH mU.body 1] .nil) [S w,S wy,S rv,N,N,N,N,N,N,N,N,N] a=.ok (.next,[S w,S wy,S rv2,S one,S mem,N,N,N,N,N,N,N],a):=by dsimp only[mU,aH,ro];walk_at "ev"
theorem Cu{T:V Q}{p:Z}(l:T.length<1000)(s:p<1000):dP a (.lst T) N (S (.int p))=S (.lst (T.take p),a):=by
 have:∀{lo d:O Q} {I M:O MN},oE lo=S I->oE d=S M->dP a (.lst T) lo d=if sm T.length then S (.lst (cut T I M),a) else N:=λ{lo d I M} b G=>by unfold dP;refine R b ?_;rw[G]
 refine(this (lo:=N) rfl (rq s)).trans ?_;refine(Nb (show sm T.length=ML from Nn l)).trans ?_;refine R ze rfl
theorem Hf{T:V Q}{P:Z}(l:T.length<1000)(s:P<1000):dP a (.lst T) (S (.int P)) N=S (.lst (T.drop P),a):=by
 have:∀{o hi:O Q} {I M:O MN},oE o=S I->oE hi=S M->dP a (.lst T) o hi=if sm T.length then S (.lst (cut T I M),a) else N:=λ{o hi I M} p G=>by unfold dP;refine R p ?_;rw[G]
 refine(this (hi:=N) (rq s) rfl).trans ?_;refine(Nb (show sm T.length=ML from Nn l)).trans ?_;show S (Q.lst (V.drop (TR P) (T.take T.length)),a)=_;refine R V.take_length ?_;refine R (T2 ..) rfl
theorem zo{P:Z}(s:P<3):dP a (.bw [97,98,99]) (S (.int P)) (S (.int (P+1:Z)))=S (wd P,a):=by
 have:∀{o d:O Q} {I M:O MN} {T:V Z},T.length<1000->oE o=S I->oE d=S M->dP a (.bw T) o d=S (.bw (cut T I M),a):=λ{o d I M T} B p G=>by unfold dP;refine R p (R G ?_);exact Nb (show sm T.length=ML from Nn B)
 refine(this (by decide) (rq (n1 s rfl)) (rq (n2 s rfl))).trans ?_;have:=o5 s;clear s;rcases this with rfl|rfl|rfl<;>rfl
theorem mZ{I M:V Q}(B:I.length+M.length<1000):bY .add (.lst I) (.lst M)=S (.lst (I++M)):=Nb (Nn B)
theorem rA{I M:MN}(B:0<M)(G:M<2 ^ 30):bY .fdiv (.int I) (.int M)=S (.int (I.fdiv M)):=Nb (R (Nn B) ((Nn G).trans rfl))
theorem EV{P:Z×q}:∀{T:V (Z×q)},(T.map (·.1)).Nodup->P∈T->cn P.1 T=S P.2:=by
 intro T;induction T with
 |nil=>intro _ B;cases B
 |cons L y f=>
  intro n B;rw[R5,RW] at n;rcases RC.mp B with rfl|B;·exact(Nb rfl)
  ·refine(Nf (λD:L.1=P.1=>n.1 (D▸R3 B))).trans ?_;exact(f n.2 B)
theorem BE{E:q}:∀{T:V (Z×q)},(T.map (·.1)).Nodup->(cn h T).isSome=ML->eu h E T=T.map λP=>(P.1,if P.1=h then E else P.2):=by
 intro T;induction T with
 |nil=>intro _ B;cases B
 |cons P y f=>
  intro n B;rw[R5,RW] at n;rw[jD] at B;refine rh.trans ?_;by_cases D:P.1=h
  ·refine(Nb D).trans ?_;refine R R5 ?_;refine R (Nb D) ?_
   congr 1
   conv=>lhs;rw[<-V1 y]
   refine UL λL e=>?_
   have:L.1≠h:=λU=>n.1 (by refine R D ?_;refine R U.symm ?_;exact R3 e)
   refine R (Nf this) ?_;rfl
  ·rw[Nf D] at B;refine R (Nf D) ?_;refine R R5 ?_;refine R (Nf D) ?_;refine R (f n.2 B) rfl
theorem BF{i:Type}{A:Z->i}{I M:i}:upd (upd A o I) o M=upd A o M:=by funext K;unfold upd;split<;>rfl
set_option tactic.hygienic true in
theorem EW{i:Type}{A:Z->i}:upd A o (A o)=A:=by
 funext K;unfold upd;split;·rename_i B;rw[B]
 ·rfl
theorem Kl{H:AH}{a w:Z}:cq H .eq (wd a) (wd w)=S (MX (a=w))/\cq H .ne (wd a) (wd w)=S (!MX (a=w)):=by
 have:zw H (wd a) (wd w)=S (MX (a=w)):=by show S (([97+a]:V Z)==[97+w])=_;rw[sU]
 exact⟨this,by show(zw H (wd a) (wd w)).map _=_;refine R this ?_;rfl⟩
theorem L9:∀{T:V (Z×MN)},gn (wd h) (T.map λP=>wd P.1)=S (cn h T).isSome:=by
 intro T;induction T with
 |nil=>exact rfl
 |cons P y f=>
  show(gn (wd h) (y.map λP=>wd P.1)).map ((([97+P.1]:V Z)==[97+h])||·)=_
  refine R f ?_;refine R sU ?_
  show _=S (if P.1=h then S P.2 else cn h y).isSome
  by_cases D:P.1=h
  ·refine R (Nb D) ?_;refine R (Nn D) ?_;rfl
  ·refine R (Nf D) ?_;refine R (NH D) ?_;rfl
theorem Js(J:b.k=.dict)(t:a.D[b.d]? = S (dy b c))(l:c.en.length<500)(T:e[3]? = S (S (.ab b.d)))(A:e.length=12):aO f Jp e a=.ok (.lst (c.en.map λP=>wd P.1),a):=by
 have d:cR b.k c=.lst (c.en.map λP=>.tup [wd P.1,.int P.2]):=by refine R J ?_;rfl
 have h:aR a (.ab b.d) (.str 60)=S (.lst (c.en.map λP=>.tup [wd P.1,.int P.2])):=by refine R d.symm ?_;exact ld t rfl
 refine bK (rt (H:=a) (xs:=c.en.map λP=>Q.tup [wd P.1,.int P.2]) (by refine R (Rz ..) ?_;exact n1 l rfl)) λk o=>?_;have:=gE (cf:=f) (elt:=.sub (.var 10) (.int 0)) (ts:=[10]) (cond:=.no) (g:=λE:Q=>match E with|AV.tup [r,_]=>S r|_=>N) (nH T h) k o λr x=>by
  refine aM (Sj.mp x) λP Y bE=>?_;clear k o x d h J t l T;subst bE;have:(e.set 10 (S (Q.tup [wd P.1,.int P.2])))[10]? = S (S (.tup [wd P.1,.int P.2])):=by exact(Th (by exact n7 A rfl))
  walk_at "ev"
 rw[Tt] at this;refine R EU.symm ?_;refine this.trans ?_;rw[<-Tu];rfl
theorem Jt{w:Z}{y:MN}{E:MN}(J:b.k=.dict)(t:a.D[b.d]? = S (dy b c))(l:c.en.length<500)(T:e[3]? = S (S (.ab b.d)))(A:e.length=12)(m:e[6]? = S (S (wd w)))(G:e[2]? = S (S (.int y)))(i:bY .fdiv (.int y) (.int 3)=S (.int E)):aO f Jq e a=.ok (.lst (c.en.map λP=>.tup [wd P.1,.int (if P.1=w then E else P.2)]),a):=by
 have d:cR b.k c=.lst (c.en.map λP=>.tup [wd P.1,.int P.2]):=by refine R J ?_;rfl
 have h:aR a (.ab b.d) (.str 60)=S (.lst (c.en.map λP=>.tup [wd P.1,.int P.2])):=by rw[<-d];exact ld t rfl
 refine bK (rt (H:=a) (xs:=c.en.map λP=>Q.tup [wd P.1,.int P.2]) (by rw[Rz];exact n1 l rfl)) λk o=>?_
 have:=gE (cf:=f) (elt:=.tup (.cons (.var 8) (.cons (.ite (.cmp .eq (.var 8) (.var 6)) (.bin .fdiv (.var 2) (.int 3)) (.var 9)) .nil))) (ts:=[8,9]) (cond:=.no) (g:=λr:Q=>match r with|AV.tup [Q.bw H,s]=>S (Q.tup [.bw H,if H=[97+w] then .int E else s])|_=>N) (nH T h) k o λr x=>by
  refine aM (Sj.mp x) λP Y cj=>?_;clear k o x d h J t l T;subst cj;have b8:((e.set 8 (S (wd P.1))).set 9 (S (.int P.2)))[8]? = S (S (wd P.1)):=by rw[R7 (by decide),Th (by exact n7 A rfl)]
  have B:((e.set 8 (S (wd P.1))).set 9 (S (.int P.2)))[9]? = S (S (.int P.2)):=by rw[Th (by rw[Tb];exact n7 A rfl)]
  have b6:((e.set 8 (S (wd P.1))).set 9 (S (.int P.2)))[6]? = S (S (wd w)):=by rw[R7 (by decide),R7 (by decide)];exact m
  have b2:((e.set 8 (S (wd P.1))).set 9 (S (.int P.2)))[2]? = S (S (.int y)):=by rw[R7 (by decide),R7 (by decide)];exact G
  have D:=(Kl (H:=a) (a:=P.1) (w:=w)).1;show br _ _ _ _ _ _ _=Res.ok (S (Q.tup [wd P.1,if([97+P.1]:V Z)=[97+w] then .int E else .int P.2]),a);by_cases U:P.1=w;·rw[Nn U] at D;rw[Nb (by rw[U])];walk_at "ev"
  ·rw[NH U] at D;rw[Nf (by simpa using U)];walk_at "ev"
 rw[Tt] at this
 rw[<-zk,this,<-Tu]
 congr 4
 funext P
 show S (Q.tup [wd P.1,if([97+P.1]:V Z)=[97+w] then .int E else .int P.2])=S (Q.tup [wd P.1,.int (if P.1=w then E else P.2)])
 by_cases U:P.1=w
 ·rw[Nb (by rw[U]),Nb U]
 ·rw[Nf (by simpa using U),Nf U]
noncomputable def gF(a:Z)(r:Q):O Q:=match r with|AV.tup [Q.bw H,s]=>if H=[97+a] then N else S (Q.tup [.bw H,s])|_=>N
theorem Cv{s:Q}:gF h (.tup [wd n,s])=if n=h then N else S (.tup [wd n,s]):=by
 by_cases U:n=h;·refine(Nb (by refine R U rfl)).trans ?_;rw[Nb U]
 ·refine(Nf (by simpa using U)).trans ?_;refine R (Nf U) rfl
theorem Hg{w:Z}(J:b.k=.dict)(t:a.D[b.d]? = S (dy b c))(l:c.en.length<500)(T:e[3]? = S (S (.ab b.d)))(A:e.length=12)(m:e[6]? = S (S (wd w)))(n:(c.en.map (·.1)).Nodup):aO f Jr e a=.ok (.lst ((iX w c.en).map λP=>.tup [wd P.1,.int P.2]),a):=by
 have i:cR b.k c=.lst (c.en.map λP=>.tup [wd P.1,.int P.2]):=by refine R J ?_;rfl
 have h:aR a (.ab b.d) (.str 60)=S (.lst (c.en.map λP=>.tup [wd P.1,.int P.2])):=by rw[<-i];exact ld t rfl
 refine bK (rt (H:=a) (xs:=c.en.map λP=>Q.tup [wd P.1,.int P.2]) (by rw[Rz];exact n1 l rfl)) λk o=>?_
 have:=gE (cf:=f) (elt:=.var 11) (ts:=[11]) (cond:=.so (.cmp .ne (.sub (.var 11) (.int 0)) (.var 6))) (g:=gF w) (nH T h) k o λr x=>by
  refine aM (Sj.mp x) λP Y du=>?_
  subst du
  have B:(e.set 11 (S (Q.tup [wd P.1,.int P.2])))[11]? = S (S (.tup [wd P.1,.int P.2])):=by rw[Th (by exact n7 A rfl)]
  have b6:(e.set 11 (S (Q.tup [wd P.1,.int P.2])))[6]? = S (S (wd w)):=by rw[R7 (by decide)];exact m
  have q:aR a (.tup [wd P.1,.int P.2]) (.int 0)=S (wd P.1):=rfl
  have D:=(Kl (H:=a) (a:=P.1) (w:=w)).2
  rw[Cv]
  by_cases U:P.1=w
  ·rw[Nn U] at D
   rw[Nb U]
   walk_at "ev"
  ·rw[NH U] at D
   rw[Nf U]
   walk_at "ev"
 rw[Tt] at this
 rw[<-zl,this,gA n]
 congr 3
 induction c.en with
 |nil=>rfl
 |cons P y d=>
  rw[TP,TO]
  rw[show(gF w ∘ λP:Z×MN=>Q.tup [wd P.1,.int P.2]) P=_ from Cv]
  by_cases U:P.1=w
  ·rw[Nb U,Nf (by simp[U])]
   exact d
  ·rw[Nf U,Nb (by simp[U]),R5]
   exact Nc _ d
theorem Cw:∀U,yU l b U->Jn l b U:=λU B=>.inl B
theorem nD{n:Z}{o:Sg}(k:In n a o)(w:b∈o.bs):¬yU o.es b (.D b.d):=λL=>L.elim (zF (k.d0 b w)) λL=>k.S.x b w _ L (.inr (.inr (.inr (.inr (.inr (ba b w rfl))))))
theorem EX{n:Z}{o:Sg}{way:MN}{rest:MN}{cf:CF}(k:In n a o)(H:n<=14)(E:o.bs≠[]):∃M∈o.bs,∃y:MN,∀{v:Loc} {r:AH},cN cf (aH mU.body 2) [S (.ab 1),S (.int way),S (.int y),S (.ab M.d),S (.aA 0),N,N,N,N,N,N,N] a=.ok (.next,v,r)->aW cf mU.body [S (.ab 1),S (.int way),S (.int rest),N,N,N,N,N,N,N,N,N] a=.ok (.next,v,r):=by
 have f:=k.z3;have l:=VG.mpr E;refine aM (gh (a:=rest) l) λP s pl=>?_;refine⟨o.bs[P],V.getElem_mem pl,rest.fdiv o.bs.length,λ{v r} D=>?_⟩;have l1:=jG k.W.b (by refine R (Rz ..) ?_;refine R (Rz ..) ?_;exact n2 (RH f H) rfl);rw[Rz,Rz] at l1;have b:aR a (.aE o.kb) (.int P)=S (.ab o.bs[P].d):=by refine(oL k.W.b).trans ?_;refine(oL (show place P ((o.bs.map (·.d)).map Q.ab).length=S P by refine(Nb (by exact RQ _)).trans ?_;refine(Nb (by refine R (Rz ..) ?_;refine R (Rz ..) ?_;exact⟨RU.mpr pl,RU.mpr (n1 (RS pl (RH f H)) rfl)⟩)).trans ?_;rfl)).trans ?_;refine RK.trans ?_;refine R RK ?_;refine R (RB pl) ?_;rfl
 change aW cf (ro [aH mU.body 0,aH mU.body 1] (.cons (aH mU.body 2) .nil)) _ a=_;refine(tc (BD (cf:=cf) (w:=.ab 1) (wy:=.int way) (rv:=.int rest) (pv:=.int P) (one:=.ab o.bs[P].d) (mem:=.aA 0) (rv2:=.int (rest.fdiv o.bs.length)) (kbv:=.aE o.kb) (nv:=.int o.bs.length) (k.W.sub rfl) l1 rfl (by refine(nJ (by exact RU.mpr l)).trans ?_;refine R s rfl) b (rA (by exact RU.mpr l) (by exact RU.mpr (n2 (RH f H) rfl))) (k.W.sub rfl))).trans ?_;refine(aX D).trans ?_;rfl
theorem BG{T:V MN}{P:Z}{E:MN}(B:P<T.length):(T.take P).map Q.int++[Q.int E]++(T.drop (P+1)).map Q.int=(T.set P E).map Q.int:=by refine R V.set_eq_take_append_cons_drop ?_;refine R (Nb B) ?_;refine R R8 ?_;refine(Sn ..).trans ?_;rfl
theorem th{c7:Z}{m:Z}{o:Sg}{way:MN}{rest:MN}(k:In c7 a o)(hN:c7<=14)(h0:o.bs≠[])(hm:7<=m):∃H' g,aC m (.fn 54) [.ab 1,.int way,.int rest] a=.ok (.none,H')/\In (c7+1) H' g:=by
 refine hF λb9=>?_;refine aM (eE hm) λa5 dV n=>?_;subst dV;have b:=k.z2;have z3:=k.z3;have z4:=k.z4;have z5:=k.z5;obtain⟨M,w,y,h⟩:=EX (cf:=aC a5) (way:=way) (rest:=rest) k hN h0;have c2:∀{l':Loc} {H':AH},cN (aC a5) (aH mU.body 2) [S (.ab 1),S (.int way),S (.int y),S (.ab M.d),S (.aA 0),N,N,N,N,N,N,N] a=.ok (.next,l',H')->aC (a5+1) (.fn 54) [.ab 1,.int way,.int rest] a=.ok (.none,H'):=λ{l' H'} D=>by refine(aN (f:=mU) [S (.ab 1),S (.int way),S (.int rest),N,N,N,N,N,N,N,N,N] rfl rfl).trans ?_;refine(bL (h D)).trans ?_;rfl
 have jl:((o.jo.map (enc o.bd)).reverse).length<97:=by refine R Sr ?_;refine R (Rz ..) ?_;exact n2 (RH b (Ub 2 hN)) rfl
 have T:=k.sp w;have a4:=k.MM M w;have a9:=k.DD M w;have d:=k.P.gd M w;have c5:=k.P.zG M w;refine bK (hU d) λfB E=>?_;refine bK fB λx a8=>?_;have c6:∀{z:AH},Fr (yU o.es M) a z->z.D[M.d]? = S (dy M (o.cs M.num)):=λc8=>c8.D _ _ (nD k w) a9;have a2:aR a (.ab M.d) (.str 14)=S (bv M):=ld a9 rfl;have A:aR a (.ab M.d) (.str 9)=S (kS M.k):=ld a9 rfl;refine b9 ?_;refine hF λc3=>?_;have L:∀{z:AH} {c':Ct} {jo':Jo} {md':V (Z×pZ)} {u' ug':MN},GM z {o.μ with u:=u',ug:=ug'} o.svs ((jo'.map (enc o.bd)).reverse) md'->MB z o.es M c'->Fr (yU o.es M) a z->c'.acc=(o.cs M.num).acc->Pu o.svs jo' o.bs (upd o.cs M.num c') o.bd->md'.map rp=o.md.map rp->u'<=o.μ.u+96->ug'<=o.μ.ug+96->jo'.length<=o.jo.length+2->
   dm z (.ab M.d) (.str 60) (cR M.k c')=S (wD z M.d (eR M (cR M.k c') (.int (o.cs M.num).acc)))/\∃g,In (c7+1) (wD z M.d (eR M (cR M.k c') (.int (o.cs M.num).acc))) g:=λ{z c' jo' md' u' ug'} e0 a4 c8 ha g3 e1 e2 e3 e4=>by
  have Dn:=c6 c8
  replace Dn:=kq▸Dn
  refine⟨Cr Dn,?_⟩
  have F2:Fr (λU=>U=.D M.d) z (wD z M.d (eR M (cR M.k c') (.int (o.cs M.num).acc))):=Fr.wD rfl
  refine oz (c':=c') k w (e0.fr F2 nofun (λq=>k.d0 M w (Ad.D.inj q).symm) nofun nofun) (a4.fr F2 λU hz q=>?_) ?_ ((c8.mono Cw).trans (F2.mono λU q=>.inr q)) g3 e1 e2 e3 e4
  ·exact k.S.x M w U hz (.inr (.inr (.inr (.inr (.inr (ba M w q))))))
  ·refine R kq ?_;refine R ha.symm ?_;exact bW Dn
 have mu:{o.μ with u:=o.μ.u,ug:=o.μ.ug}=o.μ:=rfl;induction J:M.k using Wo with
 |row=>rw[J] at d A;refine aM (gh (a:=y) (n:=3) (by decide)) λP s pl=>?_;have il:=d.1;refine Hr (Ep (m:=a5) (p:=P) (i:=y.fdiv 3) k.G (by exact n1 jl rfl) T (by exact n) J a4 (by exact RS pl (R2 il.symm)) (by exact n6 il rfl) λm a7 a=>sY a7) λz a3 ho d7 G B p=>?_;rw[kr c5] at G;have st:=iq (c':={o.cs M.num with cw:=(o.cs M.num).cw.set P (y.fdiv 3)}) (u:=.item P a3) k.P w (vW ho) (by rw[J];exact⟨rfl,by show P<(V.set _ _ _).length;rw[Tb];exact RS pl (R2 il.symm)⟩) (by rw[J];decide) (by rw[J];exact vU d);clear b9 b z3 z4 z5 mu hN h0 hm h x;obtain⟨a6,g,H⟩:=L (u':=o.μ.u) (ug':=o.μ.ug) G B p rfl st rfl (by exact i6 rfl) (by exact i6 rfl) (by have:=ip (b:=M) (svs:=o.svs) (jo:=o.jo) (u:=.item P a3);exact Ho this rfl);refine c3 ?_;refine dI _ g (c2 (BA (pv:=.int P) (pv1:=.int (P+1:Z)) (vv:=.int (y.fdiv 3)) (tv:=tI (y.fdiv 3)) (l1:=.lst (((o.cs M.num).cw.map Q.int).take P)) (l12:=.lst (((o.cs M.num).cw.map Q.int).take P++[.int (y.fdiv 3)])) (l3:=.lst (((o.cs M.num).cw.map Q.int).drop (P+1))) (iv:=.lst ((o.cs M.num).cw.map Q.int)) A (by rw[nJ (by decide)];exact Nc (λr=>S (Q.int r)) s) a2 (k.G.rc rfl) (rA (by decide) (by decide)) (yN (by exact n4 n rfl)) d7 (by rw[show Q.lst ((o.cs M.num).cw.map Q.int)=cR M.k (o.cs M.num) by rw[J];rfl];exact ld (c6 p) rfl) (Cu (by rw[Rz];exact n6 il rfl) (by exact n1 pl rfl)) (mZ (by rw[S4,Rz,UA];exact Kz (RO (Tc ..) pl) rfl)) rfl (Hf (by rw[Rz];exact n6 il rfl) (by exact n2 pl rfl)) ?_ a6)) H;rw[mZ (by rw[RF,S4,TF,Rz,UA];exact o6 il),J,<-UX,<-V.map_drop,BG (by exact RS pl (R2 il.symm))];rfl
 |text=>
  rw[J] at d A;refine aM (gh (a:=y) (n:=2) (by decide)) λP s pl=>?_;refine aM (gh (a:=y.fdiv 2) (n:=256) (by decide)) λa3 ho ol=>?_;have il:=d.1;refine bK (Em J a4 (l:=(o.cs M.num).cw.set P a3)) λB p=>?_;have G:=T.gm p k.G;clear b9 b z3 z4 z5 mu hN h0 hm h x;obtain⟨a6,g,H⟩:=L (c':={o.cs M.num with cw:=(o.cs M.num).cw.set P a3}) (u':=o.μ.u) (ug':=o.μ.ug) G B (p.mono λU q=>.inr q) rfl (k.P.plain w (.inr (.inl J)) (by rw[J];exact⟨by show(V.set _ _ _).length=2;rw[Tb];exact il,d.2⟩)) rfl (by exact i6 rfl) (by exact i6 rfl) (by exact R6 _ _);obtain⟨I,i1,ii⟩:=Al il;have iv:aR (wB a M.a ((o.cs M.num).cw.set P a3)) (.ab M.d) (.str 60)=S (.lst [.int I,.int i1]):=by rw[show Q.lst [.int I,.int i1]=cR M.k (o.cs M.num) by rw[J];show _=Q.lst ((o.cs M.num).cw.map Q.int);rw[ii];rfl];exact ld (c6 (p.mono λU q=>.inr q)) rfl
  refine c3 ?_;refine dI _ g (c2 (zm (t:=MX (P=0)) (pv:=.int P) (rv2:=.int (y.fdiv 2)) (ov:=.int a3) (i0:=.int I) (i1:=.int i1) A a2 (k.G.rc rfl) (by rw[nJ (by decide)];exact Nc (λr=>S (Q.int r)) s) (rA (by decide) (by decide)) (by rw[nJ (by decide)];exact Nc (λr=>S (Q.int r)) ho) (En (m:=a5) (i:=a3) (by exact n4 n rfl) J a4 (p:=P) (by exact RS pl (R2 il.symm)) (by exact n6 il rfl) (by exact RQ _) (by exact RU.mpr ol)) ?_ iv rfl rfl ?_)) H
  ·show S (MX ((P:MN)=0))=_;by_cases a7:P=0;·rw[Nn a7,Nn (by exact Nc Z.cast a7)]
   ·rw[NH a7,NH (by exact mt U2.mp a7)]
  ·rw[<-a6]
   congr 1
   rw[J]
   show _=Q.lst (((o.cs M.num).cw.set P a3).map Q.int)
   rw[ii]
   have:=KH pl
   clear s pl ho ol il ii
   rcases this with rfl|rfl<;>rfl
 |dict=>
  rw[J] at d A;refine aM (gh (a:=y) (n:=3) (by decide)) λa0 C wl=>?_;have m3:bY .mod (.int y) (.int 3)=S (.int a0):=by rw[nJ (by decide)];exact Nc (λr=>S (Q.int r)) C
  have p1:bY .add (.int a0) (.int 1)=S (.int (a0+1:Z)):=rfl;have c4:aC a5 (.fn 4) [wd a0] a=.ok (tN a0,a):=Hc (by exact n4 n rfl);have d0:o.md.length=o.bs.length:=by have:=Nc Uu k.md;rw[Rz,Rz] at this;exact this
  refine v9 (MX (way<7)) (λY=>?_) (λY=>?_)
  ·have w7:cq a .lt (.int way) (.int 7)=S MT:=by rw[<-Y];rfl
   have K:bY .mod (.int y) (.int 4)=S (.int (y.fmod 4)):=nJ (by decide);refine v9 (MX (y.fmod 4=3)) (λX=>?_) (λX=>?_)
   ·have d5:cq a .eq (.int (y.fmod 4)) (.int 3)=S MT:=by rw[<-X];rfl
    refine kA (cn a0 (o.cs M.num).en) (λhg=>?_) (λa3 hg=>?_)
    ·have d1:=Er (m:=a5) (by exact n4 n rfl) J a4 hg;refine hF λe9=>?_;obtain⟨a6,g,H⟩:=L (c':=o.cs M.num) (jo':=o.jo) (md':=o.md) (u':=o.μ.u) (ug':=o.μ.ug) k.G a4 Fr.refl rfl (by rw[EW];exact k.P) rfl (by exact i6 rfl) (by exact i6 rfl) (by exact R6 _ _);refine e9 ?_;refine c3 ?_;refine dI _ g (c2 (rz (pv:=.int (y.fmod 4)) (av:=.int a0) (pv1:=.int (a0+1:Z)) (wdv:=wd a0) (tn:=tN a0) A w7 K d5 m3 p1 (zo wl) a2 (k.G.rc rfl) c4 d1 ?_ a6)) H;rw[Hg (w:=a0) J a9 (by exact n2 a8 rfl) rfl rfl rfl E,J];have:iX a0 (o.cs M.num).en=(o.cs M.num).en:=by rw[gA E];refine UK.mpr λq hq=>?_;have:=mC.mp hg;rw[OU];exact λU=>this (U▸R3 hq)
     rw[this];rfl
    ·refine wF (Et (m:=a5) k.G (by exact n1 jl rfl) T (by exact n4 n rfl) J a4 hg (by exact n2 a8 rfl)) λz d1 G B p=>?_;rw[kr c5] at G;have st:=iq (c':={o.cs M.num with en:=iX a0 (o.cs M.num).en}) (u:=.drop a0 a3 ((o.cs M.num).en.map (·.1))) k.P w (vX E hg) (by rw[J];exact Bz d) (by rw[J];decide) (by rw[J];exact vV d);obtain⟨a6,g,H⟩:=L (u':=o.μ.u) (ug':=o.μ.ug) G B p rfl st rfl (by exact i6 rfl) (by exact i6 rfl) (by have:=ip (b:=M) (svs:=o.svs) (jo:=o.jo) (u:=.drop a0 a3 ((o.cs M.num).en.map (·.1)));exact Ho this rfl);refine c3 ?_;refine dI _ g (c2 (rz (pv:=.int (y.fmod 4)) (av:=.int a0) (pv1:=.int (a0+1:Z)) (wdv:=wd a0) (tn:=tN a0) A w7 K d5 m3 p1 (zo wl) a2 (k.G.rc rfl) c4 d1 ?_ a6)) H;rw[Hg (w:=a0) J (c6 p) (by exact n2 a8 rfl) rfl rfl rfl E,J];rfl
   ·obtain⟨e,e7,d9⟩:∃e:MN,bA a .min [.int (o.cs M.num).acc,.int 2]=S (.int e,a)/\e<=(o.cs M.num).acc:=by
     refine ba _ rfl ?_;split<;>first|exact Vp _|exact VK (by assumption)
    have F0:Fr (λU=>U=.D M.d) a (wD a M.d (eR M (cR M.k (o.cs M.num)) (.int e))):=Fr.wD rfl
    have G0:=k.G.fr F0 nofun (λq=>k.d0 M w (Ad.D.inj q).symm) nofun nofun
    have D0:(wD a M.d (eR M (cR M.k (o.cs M.num)) (.int e))).D[M.d]? = S (eR M (cR M.k (o.cs M.num)) (.int e)):=bW a9
    have d2:(wD a M.d (eR M (cR M.k (o.cs M.num)) (.int e))).D[M.d]? = S (dy M {o.cs M.num with acc:=e}):=by rw[D0,kq];induction M.k using Wo<;>rfl
    refine wF (Eo (m:=a5) (i:=e) G0 (by exact n1 jl rfl) T (by exact n4 n rfl) J (a4.fr F0 λU hz q=>k.S.x M w U hz (.inr (.inr (.inr (.inr (.inr (ba M w q))))))) d9) λH2 e6 G2 M2 F2=>?_
    rw[kr c5] at G2
    refine dD (oz (u':=o.μ.u) (ug':=o.μ.ug) k w G2 M2 (F2.D _ _ (nD k w) d2) ((F0.mono λU q=>.inr q).trans (F2.mono Cw)) (iq (c':={o.cs M.num with acc:=e}) (u:=.acc (o.cs M.num).acc) k.P w rfl (by rw[J];rfl) (by rw[J];decide) (by rw[J];exact d)) rfl (by exact i6 rfl) (by exact i6 rfl) (by have:=ip (b:=M) (svs:=o.svs) (jo:=o.jo) (u:=.acc (o.cs M.num).acc);exact Ho this rfl)) λg H=>?_
    refine c3 ?_
    exact dI H2 g (c2 (BC (pv:=.int (y.fmod 4)) A w7 K (by rw[<-X];rfl) (ld a9 rfl) e7 (Cs (v:=.int e) (kq▸a9)) (G0.rc rfl) (ld d2 rfl) (ld d2 rfl) e6)) H
  ·have j:(o.md.map (·.1)).Nodup:=by rw[qf k.md];exact k.P.nn
   obtain⟨c,hc⟩:∃c,cn M.num o.md=S (c,M.g,M.lv):=by
    have:(M.num,M.g,M.lv)∈o.md.map rp:=by rw[k.md];exact Sj.mpr (ba M w rfl)
    refine hF λe5=>?_;refine aM (Sj.mp this) λq hq D=>?_;obtain⟨g4,c1,g1,l1⟩:=q;refine bK (NU.mk.inj D) λi7 e2=>?_;subst i7;refine bK (NU.mk.inj e2) λjQ lM=>?_;clear b9 C e2 b z3 z4 z5 mu d0 hN h0 hm h x;subst jQ;subst lM;refine e5 ?_;exact⟨c1,EV j hq⟩
   have gm:wh a0 (o.cs M.num)=ML->(o.cs M.num).most=2:=λhg=>by
    refine bK (RT.mp hg) λg1 g2=>?_;rw[Ta] at g1;have g2:=M8 g2;have n:a0∉(o.cs M.num).en.map (·.1):=by rw[<-jE,g1];decide
    have:=Jl (l:=a0 :: (o.cs M.num).en.map (·.1)) (RW.mpr ⟨n,E⟩) (λe8 hj=>by
     clear b9 C g1 g2 b z3 z4 z5 mu d0 j hN h0 hm h x;rcases RC.mp hj with rfl|hj;·exact wl
     ·exact d.2.2.1 e8 hj)
    rw[S0] at this;rcases d.2.2.2 with U|U;·exact U
    ·exact Nh (SW (U▸g2) (S6.mpr a8)) (by decide)
   refine wF (Ex (m:=a5) (w:=a0) (i:=y.fdiv 3) k.G jl T (by exact n) J a4 (by exact n2 a8 rfl) gm hc (by exact o3 hN z4 z5 (by decide))) λz d8 G B p=>?_;have d6:dm z (.ab M.d) (.str 60) (cR M.k {o.cs M.num with en:=eu a0 (y.fdiv 3) (o.cs M.num).en,most:=if wh a0 (o.cs M.num) then 8 else(o.cs M.num).most})=S (wD z M.d (eR M (cR M.k {o.cs M.num with en:=eu a0 (y.fdiv 3) (o.cs M.num).en,most:=if wh a0 (o.cs M.num) then 8 else(o.cs M.num).most}) (.int (o.cs M.num).acc)))/\∃g,In (c7+1) (wD z M.d (eR M (cR M.k {o.cs M.num with en:=eu a0 (y.fdiv 3) (o.cs M.num).en,most:=if wh a0 (o.cs M.num) then 8 else(o.cs M.num).most}) (.int (o.cs M.num).acc))) g:=by
    have d4:∀c9:Ct,c9.en=eu a0 (y.fdiv 3) (o.cs M.num).en->yF M.k (.ent a0 (cn a0 (o.cs M.num).en)) c9:=λc9 D=>by rw[J];refine⟨rfl,?_⟩;rw[D,pX,Nb rfl];rfl
    clear b9 C b z3 z4 z5 jl T a4 mu d0 j hN h0 hm h x
    induction hg:wh a0 (o.cs M.num) using RE with
    |false=>rw[hg] at G B;simp only[SU,Oj,Jf] at G B;rw[kr c5] at G;exact L (u':=o.μ.u) (ug':=o.μ.ug) G B p rfl (iq (c':={o.cs M.num with en:=eu a0 (y.fdiv 3) (o.cs M.num).en}) (u:=.ent a0 (cn a0 (o.cs M.num).en)) k.P w ry (d4 _ rfl) (by rw[J];decide) (by rw[J];exact rx wl d d.2.2.2)) rfl (by exact i6 rfl) (by exact i6 rfl) (by have:=ip (b:=M) (svs:=o.svs) (jo:=o.jo) (u:=.ent a0 (cn a0 (o.cs M.num).en));exact Ho this rfl)
    |true=>rw[hg] at G B;simp only[PG,Jf] at G B;rw[kr c5,kr c5] at G;have dw:=iq (c':={o.cs M.num with most:=8}) (u:=.most 2) k.P w (by show({o.cs M.num with most:=2}:Ct)=o.cs M.num;rw[<-(gm hg)]) (by rw[J];exact⟨rfl,rfl⟩) (by rw[J];decide) (by rw[J];exact qu d.1 d.2.1 d.2.2.1 (.inr rfl));have cM:=iq (c':={o.cs M.num with en:=eu a0 (y.fdiv 3) (o.cs M.num).en,most:=8}) (u:=.ent a0 (cn a0 (o.cs M.num).en)) dw w (by rw[bD];exact ry (c:={o.cs M.num with most:=8})) (d4 _ rfl) (by rw[J];decide) (by rw[J];exact rx wl d (.inr rfl));rw[BF] at cM;refine L (u':=if M.g then o.μ.u else o.μ.u+96) (ug':=if M.g then o.μ.ug+96 else o.μ.ug) G B p rfl cM (y9 hc) (by split<;>first|exact Vp _|exact i6 rfl) (by split<;>first|exact Vp _|exact i6 rfl) ?_;exact RH ip (TC ip)
   obtain⟨a6,g,H⟩:=d6;have d3:bY .fdiv (.int y) (.int 3)=S (.int (y.fdiv 3)):=rA (by decide) (by decide);have hi:cR M.k (o.cs M.num)=.lst ((o.cs M.num).en.map λP=>.tup [wd P.1,.int P.2]):=by rw[J];rfl
   refine c3 ?_;refine dI _ g (c2 (BB (t:=(cn a0 (o.cs M.num).en).isSome) (pv:=.int a0) (pv1:=.int (a0+1:Z)) (wdv:=wd a0) (tn:=tN a0) (vv:=.int (y.fdiv 3)) (tv:=tI (y.fdiv 3)) (iv:=.lst ((o.cs M.num).en.map λP=>.tup [wd P.1,.int P.2])) A (by rw[<-Y];rfl) m3 p1 (zo wl) (Js J a9 (by exact n2 a8 rfl) rfl rfl) a2 (k.G.rc rfl) c4 d3 (yN (by exact n4 n rfl)) d8 L9 (λht=>?_) (by rw[<-hi];exact ld (c6 p) rfl) (λht=>?_) a6)) H;·rw[Jt (w:=a0) J (c6 p) (by exact n2 a8 rfl) rfl rfl rfl rfl d3,J];show _=Res.ok (Q.lst ((eu a0 (y.fdiv 3) (o.cs M.num).en).map λP=>.tup [wd P.1,.int P.2]),z);rw[BE E ht,SX];rfl
   ·rw[mZ (by rw[Rz,UA];exact Iq a8 rfl),J];show _=S (Q.lst ((eu a0 (y.fdiv 3) (o.cs M.num).en).map λP=>.tup [wd P.1,.int P.2]));have n:cn a0 (o.cs M.num).en=N:=by
     induction a7:cn a0 (o.cs M.num).en using Ry with
     |none=>rfl
     |some a3=>rw[a7] at ht;cases ht
    rw[ig n,R8];rfl
theorem oA{step:Z->AV->Loc->AH->Res (Fl×Loc×AH)}{s:Src}{j:V AV}{Q:Loc->AH->Prop}(P:∀T b,Q T b->∀K,s.at K b=S j[K]?)(x:∀K a T b,j[K]? = S a->Q T b->∃v r,step K a T b=.ok (.next,v,r)/\Q v r):∀(y:V AV) (K:Z) (T:Loc) (b:AH),j.drop K=y->Q T b->∃v r,bZ step s (y.length+1) K T b=.ok (.next,v,r)/\Q v r:=by
 intro y;induction y with
 |nil=>exact λK T b B L=>(dI T b (Ea ((P T b L _).trans (Nc S (Cj B)))) L)
 |cons a y e=>intro K T b B L;have d:=Ck B;exact cg (x K a T b d L) λl1 z X c=>cg (e (K+1) l1 z (Cm B) c) λl2 I m q=>dI l2 I (wg ((P T b L _).trans (Nc S d)) X (yL m)) q
theorem In.Hh{c:Z}{r:AH}{o:Sg}{P:Ad->Prop}(k:In c a o)(x:Fr P a r)(H:∀U,P U->¬Mine.Lake.has a U):In c r o:=by have n:=λU B b=>H U b (k.has B);exact⟨k.g,k.G.fr x (n _ (.inl (.inl rfl))) (n _ (.inl (.inr (.inl rfl)))) (n _ (.inl (.inr (.inr rfl)))) (n _ (.inr (.inl rfl))),k.W.fr x (n _ (.inr (.inr (.inr (.inr (.inl rfl)))))) (n _ (.inr (.inr (.inl rfl)))) (n _ (.inr (.inr (.inr (.inl rfl))))),λM w=>(k.MM M w).fr x λU s b=>H U b ((k.MM M w).has s),λM w=>x.D _ _ (n _ (.inr (.inr (.inr (.inr (.inr (ba M w rfl))))))) (k.DD M w),k.S,k.k1,k.k2,k.d0,k.d1,k.dj,k.P,k.md,k.nl,k.sn,k.sl,k.go,k.z1,k.z2,k.z3,k.z4,k.z5,k.z6⟩
theorem In.emp{n:Z}{o:Sg}(k:In n a o):In n (aL a []) o:=k.Hh (P:=λY=>Nx) Fr.aL λY B=>B.elim
theorem In.one{n:Z}{o:Sg}(k:In n a o):In n (wL (aL a []) a.L.length [w]) o:=k.Hh (P:=λU=>U=.L a.L.length) (Fr.aL.trans (Fr.wL rfl)) λU D B=>by subst D;exact RV _ B
theorem EY{m:Z}{z:Bd}{h:V Q}{p c3:Ct}(C:GM a d g h j)(v:6<=m)(w:MB a l b c)(k:MB a l z p)(o:b.g=ML)(G:z.g=MT):aC m (.fn 30) [.aA 0,bv b,.int 0,dB z c3] a=.exc (.bw [105,110,118,97,108,105,100,97,99,99,101,115,115]) a:=by
 refine aM (eE v) λr bE n=>?_;clear v;subst bE;refine aM (eE n) λH cj J=>?_;clear n;subst cj;have i:=p8 (m:=H) (H:=a) (y:=dB z c3) J (gN w).1 (l:=true) λm B=>by exact(yQ B k).trans (R G rfl)
 rw[o] at i;have K:aK a (.aA 0) 46=S (.own 29):=C.rc rfl;have s:aK a (.aA 0) 41=S (.own 31):=C.rc rfl;have t:srcOf a (.lst [dB z c3])=S (.dS [dB z c3],1):=rfl;refine(aN (f:=Fq) [S (.aA 0),S (bv b),S (.int 0),S (dB z c3)] rfl rfl).trans ?_;delta Fq;have e:aC (H+1) (.fn 31) [.aA 0,bv b,.int 0,.lst [dB z c3]] a=.exc (.bw [105,110,118,97,108,105,100,97,99,99,101,115,115]) a:=by refine(aN (f:=Fs) [S (.aA 0),S (bv b),S (.int 0),S (.lst [dB z c3]),N,N] rfl rfl).trans ?_;delta Fs;walk_at "ev"
 walk_at "ev"
theorem EZ{m:Z}{h:V Q}(C:GM a d g h j)(v:3<=m){q:MN}(B:fv q g=N):aC m (.fn 44) [.aA 0,.int q] a=.exc (.bw [105,110,118,97,108,105,100,114,101,115,116,111,114,101]) a:=by refine aM (eE v) λb du n=>?_;subst du;have D:=tf (q:=q) (m:=b) C n;replace D:=B▸D;have K:aK a (.aA 0) 55=S (.own 42):=C.rc rfl;refine(aN (f:=jJ) [S (.aA 0),S (.int q),N,N,N,N,N,N,N] rfl rfl).trans ?_;delta jJ;walk_at "ev"
theorem vY{L:Z}(B:L∉g.map (·.num)):fv L g=N:=by
 induction g with
 |nil=>rfl
 |cons t y d=>rw[R5,RC,Om] at B;refine(Nf (λU=>B.1 (U2.mp U).symm)).trans ?_;exact R (d B.2) rfl
theorem zp{r:V Z}(B:a.L[n]? = S [.bw r]):cq a .ne (.aE n) (.lst [.bw r])=S MT:=by
 have:zw a (.aE n) (.lst [.bw r])=S ML:=by show(match a.L[n]?,S [Q.bw r] with|some r,S s=>zI r s|none,N=>eqT (.aE n) (.lst [.bw r])|_,_=>N)=_;refine R B ?_;show S ((r==r)&&ML)=_;exact R (Pc ..) rfl
 show(zw a _ _).map _=_;exact R this rfl
noncomputable abbrev HK:dR:=.cons (.ifs (.and (.sub (.var 4) (.str 59)) (.and (.not (.sub (.var 5) (.str 59))) (.cmp .eq (.sub (.var 4) (.str 9)) (.str 39)))) (.cons (.asg 2 (.emp)) (.cons (.kO (.aU (.var 1) 65 (.cons (.sub (.var 4) (.str 14)) (.cons (.int 0) (.cons (.call (.gf 53) (.cons (.var 5) .nil)) .nil)))) 3 (.aU (.var 2) 44 (.cons (.attr (.var 3) 76) .nil))) (.cons (.ifs (.cmp .ne (.var 2) (.lst (.cons (.bw [105,110,118,97,108,105,100,97,99,99,101,115,115]) .nil))) (.cons (.ret (.qg MT)) .nil) .nil) .nil))) .nil) .nil
theorem E0{y:Z}{o:Sg}{z:Bd}(k:In y a o)(w:b∈o.bs)(t:z∈o.bs)(v:6<=s)(j D:O Q):∃P f r,aW (aC s) HK [S (.ab 1),S (.aA 0),j,D,S (.ab b.d),S (.ab z.d)] a=.ok (.next,[S (.ab 1),S (.aA 0),P,f,S (.ab b.d),S (.ab z.d)],r)/\In y r o:=by
 refine hF λn=>?_;have A:aR a (.ab b.d) (.str 59)=S (.bool b.g):=ld (k.DD b w) rfl;have h:aR a (.ab z.d) (.str 59)=S (.bool z.g):=ld (k.DD z t) rfl;have L:aR a (.ab b.d) (.str 9)=S (kS b.k):=ld (k.DD b w) rfl;obtain⟨C,k1,i⟩:∃H,kS b.k=.str H/\((H==39)=ML↔b.k=.row):=by
  induction J:b.k using Wo;·exact ba 39 rfl ⟨λY=>rfl,λY=>rfl⟩
  ·exact ba 8 rfl ⟨nofun,nofun⟩
  ·exact ba 36 rfl ⟨nofun,nofun⟩
 replace L:=k1▸L;refine v9 (b.g&&(!z.g&&(C==39))) (λB=>?_) (λB=>?_);·refine n (zM j D a ?_ k);clear k k1 i;generalize b.g=I at *;generalize z.g=X at *;refine v9 (C==39) (λg=>?_) (λg=>?_)<;>rw[g] at B<;>induction I using RE<;>induction X using RE<;>first|exact Nh B (by decide)|(clear B;walk_at "ev")
 ·refine bK (RT.mp B) λp G=>bK (RT.mp G) λG T=>?_;rw[Ta] at G;have q:=k.emp;have m:=zf (m:=s) (b:=z) (c:=o.cs z.num) (n4 v rfl) (q.DD z t) (q.MM z t) (hU (k.P.gd z t)).1.1;have E:=EY (m:=s) (c3:=o.cs z.num) q.G v (q.MM b w) (q.MM z t) p G;have K:aK (aL a []) (.aA 0) 65=S (.own 30):=q.G.rc rfl;have M:aR (aL a []) (.ab b.d) (.str 14)=S (bv b):=ld (q.DD b w) rfl;have e0:({a with L:=a.L++[[]]}:AH)=aL a []:=rfl;have l1:(aL a []).L[a.L.length]? = S []:=dK;have l:=fI (x:=.bw [105,110,118,97,108,105,100,97,99,99,101,115,115]) l1 (by decide);have l2:(wL (aL a []) a.L.length ([]++[.bw [105,110,118,97,108,105,100,97,99,99,101,115,115]])).L[a.L.length]? = S [.bw [105,110,118,97,108,105,100,97,99,99,101,115,115]]:=bW l1;have n1:=zp l2;have U:In y (wL (aL a []) a.L.length ([]++[.bw [105,110,118,97,108,105,100,97,99,99,101,115,115]])) o:=k.one;refine n (zM (S (.aE a.L.length)) N _ ?_ U);have r2:aK (aL a []) (.aE a.L.length) 44=S .bI:=rfl;have d:∀e,aG e (aL a []) (.exc (.bw [105,110,118,97,108,105,100,97,99,99,101,115,115])) 76=.ok (.bw [105,110,118,97,108,105,100,97,99,99,101,115,115],aL a []):=λe=>aS rfl;replace A:=p▸A;rw[G] at h;clear k q U k1 i B p G l1 l2;walk_at "ev"
theorem ti{n:Z}{m:Z}{o:Sg}(k:In n a o)(hm:7<=m)(H:n<=14):∃H',aC m (.fn 58) [.ab 1] a=.ok (.bool ML,H'):=by
 refine hF λa4=>aM (eE hm) λy dV hn=>?_;subst dV;have z3:=k.z3;have A:aR a (.ab 1) (.str 64)=S (.aA 0):=k.W.sub rfl;have C:=k.emp;have k0:cN (aC y) (aH zK.body 0) [S (.ab 1),N,N,N,N,N] a=.ok (.next,[S (.ab 1),S (.aA 0),S (.aE a.L.length),N,N,N],aL a []):=by dsimp only[zK,aH];walk_at "ev"
 have l1:(aL a []).L[a.L.length]? = S []:=dK;obtain⟨b,v,I,k1,U⟩:∃b z3 I,cN (aC y) (aH zK.body 1) [S (.ab 1),S (.aA 0),S (.aE a.L.length),N,N,N] (aL a [])=.ok (.next,[S (.ab 1),S (.aA 0),b,z3,N,N],I)/\In n I o:=by
  refine hF λi=>?_;have a2:aR (aL a []) (.ab 1) (.str 70)=S (gg o.gone):=C.W.sub rfl;refine kA o.gone (λP=>?_) (λX P=>?_);·rw[P] at a2;have i1:isNone .none=S ML:=rfl;refine i (zM (S (.aE a.L.length)) N (aL a []) ?_ C);dsimp only[zK,aH];clear k C k0 l1 P A;walk_at "ev"
  ·rw[P] at a2;unfold gg at a2;have p:=vY (k.go X P).1;have a9:=EZ (m:=y) C.G (n4 hn rfl) p;have l:=fI (x:=.bw [105,110,118,97,108,105,100,114,101,115,116,111,114,101]) l1 (by decide);have l2:(wL (aL a []) a.L.length ([]++[.bw [105,110,118,97,108,105,100,114,101,115,116,111,114,101]])).L[a.L.length]? = S [.bw [105,110,118,97,108,105,100,114,101,115,116,111,114,101]]:=bW l1;have n1:=zp l2;have U:In n (wL (aL a []) a.L.length ([]++[.bw [105,110,118,97,108,105,100,114,101,115,116,111,114,101]])) o:=k.one;have L:aR (wL (aL a []) a.L.length ([]++[.bw [105,110,118,97,108,105,100,114,101,115,116,111,114,101]])) (.ab 1) (.str 70)=S (.int X):=by have:=U.W.sub (x:=.str 70) (v:=gg o.gone) rfl;rw[P] at this;exact this
   have a0:=Ez (m:=y) (q:=X) U.G (n4 hn rfl);rw[p] at a0;refine i (zM (S (.aE a.L.length)) N _ ?_ U);have i1:isNone (.int X)=S MT:=rfl;have r1:aK (aL a []) (.aA 0) 71=S (.own 44):=C.G.rc rfl;have r2:aK (aL a []) (.aE a.L.length) 44=S .bI:=rfl;have r3:aK (wL (aL a []) a.L.length ([]++[.bw [105,110,118,97,108,105,100,114,101,115,116,111,114,101]])) (.aA 0) 77=S (.own 40):=U.G.rc rfl;have a7:∀cf,aG cf (aL a []) (.exc (.bw [105,110,118,97,108,105,100,114,101,115,116,111,114,101])) 76=.ok (.bw [105,110,118,97,108,105,100,114,101,115,116,111,114,101],aL a []):=λcf=>aS rfl;unfold VD at a0;dsimp only[zK,aH];clear k C U k0 l1 l2 P A p;walk_at "ev"
 refine a4 ?_;refine hF λa5=>?_;have g:∀{a:AH},In n a o->srcOf a (.aE o.kb)=S (.lI o.kb,((o.bs.map (·.d)).map AV.ab).length)/\∀K,(Src.lI o.kb).at K a=S ((o.bs.map (·.d)).map AV.ab)[K]?:=λh=>mH h.W.b (by rw[Rz,Rz];exact n2 (RH z3 H) rfl);have w:∀{K:Z} {r:AV},((o.bs.map (·.d)).map AV.ab)[K]? = S r->∃M∈o.bs,r=.ab M.d:=λ{K r} B=>by rw[SX,RK,Sb] at B;refine aM B λM hb fB=>?_;subst fB;exact ba M (RJ hb) rfl
 obtain⟨l3,H3,t,⟨j,D,c,Y,rfl⟩,I3⟩:=oA (step:=λε E T a=>aW (aC y) (.cons (.di 5 (.sub (.var 0) (.str 58)) HK) .nil) (T.set 4 (S E)) a) (s:=.lI o.kb) (Q:=λT a=>(∃j D c Y,T=[S (.ab 1),S (.aA 0),j,D,c,Y])/\In n a o) (λT a q=>(g q.2).2) (λK r T a d q=>by refine hF λG=>bK q λi7 h=>CO i7 λj D c Y Hi=>?_;clear i7;subst Hi;refine aM (w d) λM hb jQ=>?_;subst jQ;obtain⟨l4,H4,w4,⟨u2,x,u5,rfl⟩,J4⟩:=oA (step:=λε E T a=>aW (aC y) HK (T.set 5 (S E)) a) (s:=.lI o.kb) (Q:=λT a=>(∃j D Y,T=[S (.ab 1),S (.aA 0),j,D,S (.ab M.d),Y])/\In n a o) (λT a q=>(g q.2).2) (λK r T a d q=>by refine hF λa6=>bK q λlM h=>?_;clear a4 q A l1 hm H;obtain⟨j,D,Y,rfl⟩:=lM;refine aM (w d) λa8 ho rM=>?_;clear q K d;subst rM;refine wb (E0 h hb ho hn j D) λu2 x H5 e5 J=>a6 ?_;exact qq _ H5 e5 (Hq u2 x _ rfl) J) _ 0 [S (.ab 1),S (.aA 0),j,D,S (.ab M.d),Y] a rfl ⟨(Hq j D Y rfl),h⟩;refine G (qq _ H4 ?_ ⟨u2,x,S (.ab M.d),u5,rfl⟩ J4);dsimp only[V.set_cons_succ,V.set_cons_zero];rw[aX (ik (nH (x:=0) rfl (h.W.sub rfl)) (g h).1 w4)];rfl) _ 0 [S (.ab 1),S (.aA 0),b,v,N,N] I rfl ⟨⟨b,v,N,N,rfl⟩,U⟩;have k2:=ik (cf:=aC y) (x:=4) (e:=.sub (.var 0) (.str 58)) (l:=[S (.ab 1),S (.aA 0),b,v,N,N]) (nH (x:=0) rfl (U.W.sub rfl)) (g U).1 t;have so:=I3.so (m:=y) (n4 hn rfl);refine a5 ⟨H3,?_⟩;rw[aN (f:=zK) [S (.ab 1),N,N,N,N,N] rfl rfl];show(aW _ (.cons (aH zK.body 0) (.cons (aH zK.body 1) (.cons (.di 4 (.sub (.var 0) (.str 58)) (.cons (.di 5 (.sub (.var 0) (.str 58)) HK) .nil)) (.cons (.ret (.call (.gf 57) (.cons (.var 0) .nil))) .nil)))) _ a).bind _=_;rw[aX k0,aX k1,aX k2];clear k C U I3 k0 k1 k2 t g w;walk_at "ev"
noncomputable def Km:MG:=⟨MT,0,.aE 2,0,0,0,0⟩
noncomputable def H0:AH:=⟨[[],[],[],[],[]],[[],wV 3 4 .none],[],[(.Mem,cm Km)]⟩
noncomputable def Kn:Sg:=⟨Km,[],[],[],3,4,N,[],λY=>0,λY=>⟨[],[],0,0⟩,λY=>⟨.row,0,MT,0,0,0⟩⟩
theorem Ma:In 0 H0 Kn:=
 ⟨rfl,⟨rfl,rfl,rfl,rfl,by decide,by decide,by decide,by decide⟩,⟨rfl,rfl,rfl,by decide,by decide,by decide,by decide,by decide⟩,(Si _),(Si _),⟨(Si _),(Si _)⟩,by decide,by decide,(Si _),(Si _),(Si _),
  ⟨TL,(Si _),(Si _),(Si _),(Si _),trivial,λP t B=>nX B,λP L t n Y B=>nX B⟩,rfl,(Si _),TL,(Si _),(λY B=>nX B),by decide,by decide,by decide,by decide,by decide,(Si _)⟩
theorem E1{g:Q}:cN eX (aH mW.body 0) [S g,N,N,N,N] {}=.ok (.next,[S g,S (.ab 1),N,N,N],H0):=rfl
theorem zq{T:V Q}(B:a.L[n]? = S T):cq (aL a []) .eq (.aE n) (.aE a.L.length)=S (MX (T=[])):=by
 show(match (aL a []).L[n]?,(aL a []).L[a.L.length]? with|some r,S s=>zI r s|none,N=>eqT (.aE n) (.aE a.L.length)|_,_=>N)=_;refine R (show(aL a []).L[n]? = S T from ec B) ?_;refine R (show(aL a []).L[a.L.length]? = S [] from dK) ?_;clear B;induction T using RD with
 |nil=>rfl
 |cons r y=>refine(Nf (M8 rfl)).trans ?_;refine R (NH (M8 rfl)) rfl
noncomputable abbrev eL(C:MN):MN:=((C.natAbs:MN)).fmod 1000000
noncomputable abbrev nK(C:MN):MN:=(eL C).fmod 10
noncomputable abbrev nL(C:MN):MN:=(eL C).fdiv 10
theorem Hj{C:MN}{g:O Q}{G:O Q}{b:O Q}{h:Key->NF}{P:iA}(B:cH eX h P [g,S (.ab 1),S (.int (eL C)),S (.int (nK C)),S (.int (nL C))] a=x):cH eX h (.cons (.a (aH (bodyOf nE) 0)) (.cons (.a (aH (bodyOf nE) 1)) P)) [g,S (.ab 1),S (.int C),G,b] a=x:=by
 have b1:bA a .int [.int C]=S (.int C,a):=rfl;have b2:bA a .abs [.int C]=S (.int C.natAbs,a):=rfl;have b3:bY .pow (.int 10) (.int 6)=S (.int 1000000):=rfl;have b4:bY .mod (.int C.natAbs) (.int 1000000)=S (.int (eL C)):=nJ (by decide);have b5:bY .mod (.int (eL C)) (.int 10)=S (.int (nK C)):=nJ (by decide);have b6:bY .fdiv (.int (eL C)) (.int 10)=S (.int (nL C)):=rA (by decide) (by decide);have k0:cN eX (aH (bodyOf nE) 0) [g,S (.ab 1),S (.int C),G,b] a=.ok (.next,[g,S (.ab 1),S (.int (eL C)),G,b],a):=by dsimp only[nE,mW,aH,bodyOf];clear b5 b6 B;generalize eL C=c at *;walk_at "ev"
 have k1:cN eX (aH (bodyOf nE) 1) [g,S (.ab 1),S (.int (eL C)),G,b] a=.ok (.next,[g,S (.ab 1),S (.int (eL C)),S (.int (nK C)),S (.int (nL C))],a):=by dsimp only[nE,mW,aH,bodyOf];clear k0 b1 b2 b3 b4 B;generalize nK C=n at *;generalize nL C=j at *;generalize eL C=c at *;walk_at "ev"
 exact rC (Fi k0) (rC (Fi k1) B)
theorem BH{a1:Z}{o:Sg}{c:MN}{sc:O Q}{x3:O Q}{x4:O Q}(k:In a1 a o)(H:a1<=13):∃v r a2,cH eX (only (.fn 52) kn) yw [sc,S (.ab 1),S (.int c),x3,x4] a=.ok (.next,sc :: S (.ab 1) :: v,r)/\v.length=3/\In (a1+1) r a2:=by
 have J:aR a (.ab 1) (.str 58)=S (.aE o.kb):=k.W.sub rfl;have a3:∃z t,fm eX (only (.fn 52) kn) (.ifs (dA mA) (.cons (.exp (.call (.fn 52) (kY (zD (aH (dY mA) 0))))) .nil) (.cons (.a (aH (cQ mA) 0)) .nil)) [sc,S (.ab 1),S (.int (eL c)),S (.int (nK c)),S (.int (nL c))] a=.ok (.next,[sc,S (.ab 1),S (.int (eL c)),S (.int (nK c)),S (.int (nL c))],z)/\In (a1+1) z t:=by
  generalize eL c=C;generalize nK c=n;generalize nL c=j;have mk:∀{z:AH},In a1 z o->aO eX (dA mA) [sc,S (.ab 1),S (.int C),S (.int n),S (.int j)] a=.ok (.bool ML,z)->∃I A,fm eX (only (.fn 52) kn) (.ifs (dA mA) (.cons (.exp (.call (.fn 52) (kY (zD (aH (dY mA) 0))))) .nil) (.cons (.a (aH (cQ mA) 0)) .nil)) [sc,S (.ab 1),S (.int C),S (.int n),S (.int j)] a=.ok (.next,[sc,S (.ab 1),S (.int C),S (.int n),S (.int j)],I)/\In (a1+1) I A:=λ{z} h D=>by refine cg (Bw (way:=n.fmod 4) (rest:=j) h (by exact n3 H rfl)) λI A e2 L=>?_;refine dI I A ?_ L;refine G' D (L2 rfl ?_);have K:bY .mod (.int n) (.int 4)=S (.int (n.fmod 4)):=nJ (by decide);dsimp only[mA,nE,mW,aH,bodyOf,dY,zD,kY];have e2:=(OI (OI (show only (.fn 52) kn (.fn 52)=kn from Nb rfl) _) _).trans e2;clear k h L D J;walk_at "ev"
  have x:∀{z I:AH},aO eX (dA mA) [sc,S (.ab 1),S (.int C),S (.int n),S (.int j)] a=.ok (.bool MT,z)->cN eX (aH (cQ mA) 0) [sc,S (.ab 1),S (.int C),S (.int n),S (.int j)] z=.ok (.next,[sc,S (.ab 1),S (.int C),S (.int n),S (.int j)],I)->fm eX (only (.fn 52) kn) (.ifs (dA mA) (.cons (.exp (.call (.fn 52) (kY (zD (aH (dY mA) 0))))) .nil) (.cons (.a (aH (cQ mA) 0)) .nil)) [sc,S (.ab 1),S (.int C),S (.int n),S (.int j)] a=.ok (.next,[sc,S (.ab 1),S (.int C),S (.int n),S (.int j)],I):=λ{z I} X e2=>by exact G' X (L3 rfl (rC (Fi e2) rfl))
  have q:=k.emp;have i:({a with L:=a.L++[[]]}:AH)=aL a []:=rfl;have e:=zq k.W.b;have y:n<4\/(¬n<4/\aO eX (dA mA) [sc,S (.ab 1),S (.int C),S (.int n),S (.int j)] a=.ok (.bool (MX ((o.bs.map (·.d)).map Q.ab=[])),aL a [])):=by
   by_cases B:n<4;·exact .inl B
   ·have g:=NH B;refine .inr ⟨B,?_⟩;dsimp only[mA,nE,mW,aH,bodyOf,dA];clear k q mk x B;walk_at "ev"
  rcases y with B|⟨B,a0⟩;·have g:=Nn B;refine mk k ?_;dsimp only[mA,nE,mW,aH,bodyOf,dA];clear k q mk x B;walk_at "ev"
  ·by_cases w:o.bs=[];·rw[w] at a0;exact mk q a0
   ·rw[NH (by simpa using w)] at a0;have b:aR (aL a []) (.ab 1) (.str 25)=S (.aE o.gR):=q.W.sub rfl;by_cases d:n<8;·refine cg (th (m:=10) (way:=n) (rest:=j) q (by exact n3 H rfl) w (by decide)) λI A e2 L=>?_;refine⟨I,A,x a0 ?_,L⟩;have M:=Nn d;have e2:eX (.fn 54) [.ab 1,.int n,.int j] (aL a [])=.ok (.none,I):=e2;dsimp only[mA,nE,mW,aH,bodyOf,cQ];clear k q mk x B a0 L d w;walk_at "ev"
    ·have M:=NH d;have a4:(⟨(aL a []).L++[[]],(aL a []).D,(aL a []).B,(aL a []).I⟩:AH)=aL (aL a []) []:=rfl;have U:=q.emp;have cs:=zq q.W.s;have Y:∀{E:AH},In a1 E o->(MX (n=8)=ML/\E=aL a []\/MX (n=8)=MT/\o.svs=[]/\E=aL (aL a []) [])->∃I A,cN eX (aH (cQ mA) 0) [sc,S (.ab 1),S (.int C),S (.int n),S (.int j)] (aL a [])=.ok (.next,[sc,S (.ab 1),S (.int C),S (.int n),S (.int j)],I)/\In (a1+1) I A:=λ{E} h l=>by
      refine cg (zi (m:=10) h (by exact n3 H rfl) (by decide)) λI A e2 L=>?_;have e2:eX (.fn 56) [.ab 1] E=.ok (.none,I):=e2;refine⟨I,A,?_,L⟩;dsimp only[mA,nE,mW,aH,bodyOf,cQ];rcases l with⟨p,rfl⟩|⟨p,G,rfl⟩;·clear k q U mk x B a0 L d w h cs;walk_at "ev"
      ·rw[G] at cs;change cq (aL (aL a []) []) .eq (.aE o.gR) (.aE (aL a []).L.length)=S ML at cs;clear k q U mk x B a0 L d w h G;walk_at "ev"
     by_cases f:n=8;·refine cg (Y q (.inl ⟨Nn f,rfl⟩)) λI A e2 L=>?_;exact⟨I,A,x a0 e2,L⟩
     ·by_cases P:o.svs=[];·refine cg (Y U (.inr ⟨NH f,P,rfl⟩)) λI A e2 L=>?_;exact⟨I,A,x a0 e2,L⟩
      ·refine cg (ru (m:=10) (rest:=j) U (by exact n3 H rfl) (by decide) P) λI A e2 L=>?_;have e2:eX (.fn 55) [.ab 1,.int j] (aL (aL a []) [])=.ok (.none,I):=e2;refine⟨I,A,x a0 ?_,L⟩;have T:=NH f;rw[NH (by simpa using P)] at cs;dsimp only[mA,nE,mW,aH,bodyOf,cQ];clear k q U mk x B a0 L d w P f Y;walk_at "ev"
 refine cg a3 λz t X h=>?_;have s:=h.so (m:=10) (by decide);have s:eX (.fn 57) [.ab 1] z=.ok (.bool ML,z):=s;refine kQ [S (.int (eL c)),S (.int (nK c)),S (.int (nL c))] z t ?_ rfl h;have k3:cN eX (aH (bodyOf nE) 3) [sc,S (.ab 1),S (.int (eL c)),S (.int (nK c)),S (.int (nL c))] z=.ok (.next,[sc,S (.ab 1),S (.int (eL c)),S (.int (nK c)),S (.int (nL c))],z):=by dsimp only[nE,mW,aH,bodyOf];clear k h X J;walk_at "ev"
 exact Hj (rC X (rC (Fi k3) rfl))
theorem E2{sc:Q}{xs r:V Q}:∀(K n:Z) (e G a:O Q) (b:AH) (o:Sg),xs.drop K=r->(∀y∈r,∃C,y=.int C)->In n b o->n+r.length<=14->
  ∃M B a0 H' g p,bZ (λY E T b=>cH eX (only (.fn 52) kn) yw (T.set 2 (S E)) b) (.dS xs) (r.length+1) K [S sc,S (.ab 1),e,G,a] b=.ok (.next,[S sc,S (.ab 1),M,B,a0],H')/\In p H' g/\p<=14:=by
 induction r with
 |nil=>exact λK n e G a b o i x k H=>⟨e,G,a,b,o,n,Ea (Nc S (Cj i)),k,H⟩
 |cons y r d=>intro K n e G a b o i x k H;refine dD (x y (.head _)) λC bE=>?_;replace H:n+(r.length+1)<=14:=H;refine dF (BH (sc:=S sc) (c:=C) (x3:=G) (x4:=a) k (Z.le_of_succ_le_succ (RH (TC (R6 n r.length)) H))) λv z t X l h=>?_;obtain⟨j,D,c,h3⟩:=C9 l;obtain⟨z2,f,U,I,A,P,m,L,w⟩:=d (K+1) (n+1) j D c z t (Cm i) (λs J=>x s (.tail _ J)) h (by exact RH (R2 (TV n 1 _)) H);exact⟨z2,f,U,I,A,P,wg (Nc S (Ck i)) (bE▸h3▸X) (yL m),L,w⟩
theorem vZ(k:V MN)(P:k.length<=63):∃b,GX k=.ok (.bool ML,b):=by
 refine hF λv=>?_;obtain⟨e,G,a,z,t,d,X,j,h⟩:=E2 (sc:=.lst (k.map .int)) (xs:=(k.map Q.int).take 14) (r:=(k.map Q.int).take 14) 0 0 N N N H0 Kn rfl (λl x=>by refine aM (Sj.mp (UG x)) λC Y cj=>?_;clear x;subst cj;exact⟨C,rfl⟩) Ma (by rw[S4];exact RH (R2 (T5 _)) (Tc ..));refine dD (ti (m:=10) j (by decide) h) λI f=>?_;have f:eX (.fn 58) [.ab 1] z=.ok (.bool ML,I):=f;refine v ?_;refine⟨I,?_⟩;have s:dP H0 (.lst (k.map .int)) N (S (.int 14))=S (.lst ((k.map Q.int).take 14),H0):=Cu (p:=14) (by rw[Rz];exact n2 P rfl) (by decide);have n:aO eX (sO nE) [S (.lst (k.map .int)),S (.ab 1),N,N,N] H0=.ok (.lst ((k.map Q.int).take 14),H0):=by dsimp only[nE,mW,aH,sO];generalize (k.map Q.int).take 14=B at *;generalize Q.lst (k.map .int)=g at *;walk_at "ev"
 have o:srcOf H0 (.lst ((k.map Q.int).take 14))=S (.dS ((k.map Q.int).take 14),((k.map Q.int).take 14).length):=(rt (by rw[S4];exact n2 (Tc ..) rfl)).1;have i:cN eX (aH mW.body 2) [S (.lst (k.map .int)),S (.ab 1),e,G,a] z=.ok (.ret (.bool ML),[S (.lst (k.map .int)),S (.ab 1),e,G,a],I):=by dsimp only[mW,aH];clear X j s n o;walk_at "ev"
 have c:cH eX (only (.fn 52) kn) GU [S (.lst (k.map .int)),N,N,N,N] {}=.ok (.ret (.bool ML),[S (.lst (k.map .int)),S (.ab 1),e,G,a],I):=rC (Fi E1) (Kk (rC (L4 n o X) (Kk (rC (Fi i) L1))));show zE mW (cH eX (only (.fn 52) kn) GU) [.lst (k.map .int)] {}=_;exact sV [S (.lst (k.map .int)),N,N,N,N] rfl c rfl
end
section
open PySem PySem.W PyProof.Rows
section
open PySem.Calls
theorem BJ:LR.prog=PR:=rfl
theorem Hk:LeftO LR.prog iL hT (λY=>ML) (λt=>YH t.heap) (λY=>Nq) 4900:=by rw[BJ];exact GY
theorem zr:chainsOk iL=ML:=by decide +kernel
theorem BK:opensWell LR.prog=ML:=by decide +kernel
theorem BL:frees LR.toRowW=ML:=by decide +kernel
noncomputable def saidG(T:OpenLaw):MP:=T.wellSaid
lay_quick Mine.Lake.saidG
set_option maxHeartbeats 0 in
theorem E3:PySem.W.Fast.tw17626326595003744427 PySem.Challenge.rw_nt0500_01=ML:=by kernel_rfl
theorem E4:OpenLaw.wellSaid PySem.Challenge.rw_nt0500_01=ML:=(OI PySem.W.Fast.te17626326595003744427 _).trans E3
theorem E5:LR.prog.bare:=⟨rfl,rfl,rfl,rfl,rfl,by decide +kernel⟩
theorem Hl:∃h L,defOf iL LR.name=S (h,L)/\LR.prog.theDef LR.name=S (h.params,h.body,h.scope)/\kwWritten? h.params.kwonlyargs h.params.kw_defaults=S L:=⟨_,_,by rfl,by rfl,by rfl⟩
theorem zt(B m:MV)(s:YH B)(H:∀M z,B.get? M=S z->m.get? M=S z):YH m:=aM s λa k1 i=>ba a (λI z D=>H I z (k1 I z D)) i
theorem v5(a9:LR.wellSaid=ML)(hw:LR.toRowW.promised):LR.Holds:=by
 refine wa (frees_parts BL) λm hu ha c4 hm=>?_;have d:=λa=>Hk.behind (XP:=λY Y=>Nq) (λY Y=>trivial) zr a;refine Iz a9 hw ⟨E5,BK,rfl⟩ hw.witness (λa=>⟨(d a).1,λv a7=>?_⟩);refine hF λA=>?_;obtain⟨f,J,k,t,b,hz,L,hg,G0,s⟩:=(d a).2 v a7;clear d a7;have I:RecFacts LR.records t.heap:=recFacts_nil rfl;refine A ?_;refine⟨f,J,k,t,b,λa1 hn=>?_,I.1,I.2.1,λa2 i z ord H=>?_⟩
 ·refine mX Hl λc6 c7 p h2 T=>?_;obtain rfl:a1=LR.name:=by split at hn<;>simp_all
  exact pinned_of_view hg G0 p h2 T
 refine hF λc3=>?_;have L:=M5.eq_empty_of_size_eq_zero (N'.mp L);have C:=I.ground G0;clear A G0 J k b hg;refine dD (Um.mp (layAllW_isSome (P:=a.params) (ord:=ord) C.has a2 LR.args t (pre_splitW i).1)) λbE D=>?_;obtain⟨w,X⟩:=bE;have a3:=layAllW_keeps _ _ _ D;have y:=layAllW_rest _ _ _ D;refine mM (reads_layAllW H _ _ _ D z X.heap (λY Y a0=>a0)) λl a5 a6 g=>?_;have a4:Laid LR.records a t X a2 w l:=⟨⟨ord,H,D⟩,a5,a6,g,a3,y.1.trans L,y.2.2.1⟩;have G:=C.keeps (λY Y Y Y Y=>trivial) a3;clear a5 a6 g I C H z;refine aM (yA vZ G (zt _ _ (of_eq_true s) a3) i a4) λa8 J B=>?_;obtain⟨a1,e,n,t',hs,hr,r,⟨⟨E,rfl⟩,o⟩⟩:=DZ (prog:=LR.prog) (w:=a) (R:=λe n=>(∃E,e=.ok (.ret E))/\GoodWG LR.toRowW.claim (classAt t.heap) (ExcName.means t.heap) a2 X e n) (show X.asleep from MW.asleep_of_life y.2.2.2 hz)
  (t:=do match<-nsGet mainNs LR.name with
   |some a8=>do ret (<-PySem.call a8 w)
   |none=>unsupported "claim.caller:no-such-global")
  (aJ (wpAny_nsGet G.T.g (by refine R J ?_;refine bN (jx (fi B λe n s=>?_));refine bK s λcj o=>?_;obtain⟨E,rfl⟩:=cj;exact qV ⟨_,rfl,⟨⟨_,rfl⟩,o⟩,leftWithCleanup_false_of_bare o.2.2.2⟩)))
 clear B J G s;refine wa (MW.forget_eq r) λeh Y Y eo Y=>?_;refine fK (o.laid (c:=LR.toRowW.claim) m rfl (ident_freeW hu ha c4) a4) λc1 j Y=>?_;rw[<-eo] at j;refine c3 ?_;refine⟨w,X,D,a1,_,t',hs,?_,λY K c5 x=>by rw[L] at x;exact nX x,(λU=>nomatch U),by refine R ((runN_life _ _ _ hr).trans y.2.2.2) rfl,MW.rest_eq j⟩;refine hF λc2=>?_;rcases(c1.congr eh) with⟨E,a0,d1,d2,d3,d4,d5⟩|⟨a0,ob,h,e',_⟩;·cases a0;refine c2 ?_;exact .inl ⟨_,rfl,d1,d2,d3,λM b9 s Y=>d4 M b9 s,d5⟩
 ·cases e'
end
end
end Mine.Lake
open PySem PySem.W PyProof.Rows
set_option maxHeartbeats 8000000 in
theorem PySem.Challenge.cw_nt0500_01_holds : PySem.Challenge.rw_nt0500_01.Holds := by
 refine holds_law Mine.Lake.E4 fun Ju=>?_
 refine Mine.Lake.v5 Ju ?_
 w_witness2
end
