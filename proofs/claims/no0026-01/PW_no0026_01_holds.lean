import PyProof.Rows.All
import OpenK.KLine
import OpenK.KRaise
import KE.KSuperObj
import KE.KDictList
import KE.KRevIter
import KE.KDictOf
import KE.KRevSl
import KE.KDictSum
import KE.KSuper
import Lean
import PySem.Challenge.RW_no0026_01
set_option autoImplicit true
set_option linter.all false
set_option backward.match.sparseCases false
set_option backward.linearNoConfusionType false
set_option genSizeOf false
set_option genSizeOfSpec false
set_option genInjectivity false
set_option Elab.async false
set_option maxHeartbeats 1000000
set_option bootstrap.genMatcherCode false
set_option compiler.extract_closed false
set_option maxRecDepth 100000
open Array renaming getElem?_eq_some_iff->PQ,forIn_toList->abr,toList_push->abu,eq_empty_of_size_eq_zero->abz,length_toList->ab0,getElem?_toList->ab1
open Bool renaming true->ah,false->au,and_eq_true->dE,false_ne_true->k7,or_eq_true->qp,and_eq_true_iff->sB,not_eq_true'->xo,and_true->Av,eq_false_iff->Aw,true_and->Hz,and_false->abU,false_eq_true->acA,or_false->acG
open Classical renaming byContradiction->qh,em->Qv
open Eq renaming symm->wV
open ForInStep renaming yield->Hr
open Int renaming ofNat_lt->gC,natCast_nonneg->nk,le_trans->oS,natCast_pos->o9,le_of_lt->Ar,lt_trans->G3,not_lt->G6,sub_sub->Hi,lt_irrefl->HE,lt_of_le_of_lt->OV,lt_of_lt_of_le->O7,add_comm->Pe,toNat_natCast->P_,sub_zero->Qf,add_sub_cancel->Qs,natAbs->QF,le_natAbs->abm,ofNat_sub->abn,ne_of_gt->abO,ofNat_le->abP,neg_le_neg->abQ,toNat_of_nonneg->abS
open Int.ofNat renaming inj->acO
open List renaming length_map->aP,length_append->aT,mem_singleton->aZ,mem_cons->a_,append_assoc->bt,mem_append->bx,mem_map->bz,map_append->bA,toArray->bH,map_cons->bW,append_nil->cq,all_eq_true->cQ,mem_filter->cW,nodup_cons->dK,length_cons->e_,range'->fc,not_mem_nil->fF,nodup_append->fW,getElem?_toArray->gF,mem_flatMap->gI,map_map->iE,getElem?_eq_some_iff->i8,range->jE,nodup_nil->jG,length_filter_le->jM,forall_mem_cons->j_,mem_range'_1->kb,map_congr_left->ma,perm_middle->mf,replicate->mh,length_eq_zero_iff->na,length_range->nj,getElem?_append_right->nA,mem_range->oA,getElem?_eq_none->oB,getElem?_eq_getElem->oF,size_toArray->oR,filterMap_cons->o0,lookup_cons->o8,length->o_,map_eq_nil_iff->pg,length_reverse->qn,getElem?_map->qq,cons_append->qr,flatMap_append->qu,pairwise_cons->rU,filter_eq_nil_iff->si,filter_cons->ss,find?_cons->uz,drop_eq_nil_iff->uD,flatMap_singleton->uL,length_nil->wZ,flatMap_cons->xn,length_range'->xp,reverse_cons->Au,any_eq_true->Az,filter_cons_of_pos->AA,mem_of_getElem?->AF,forIn_cons->A4,length_zip->A7,of_mem_zip->Ba,contains_cons->Bb,pairwise_map->Bf,flatMap_nil->Bj,append_eq_nil_iff->Bk,exists_mem_of_ne_nil->Bl,perm_append_comm->Bo,getElem_mem->GF,mem_append_right->GI,filter_cons_of_neg->GL,all_cons->GM,mem_filterMap->GX,zip_cons_cons->G',mem_append_left->Hc,sublist_cons_self->HB,nil_sublist->HC,eq_nil_iff_forall_not_mem->HG,filter_append->HI,drop_eq_getElem_cons->Pp,push_toArray->Px,take_append_drop->Qn,sublist_append_right->Qp,elem_eq_true_of_mem->Qq,take_left'->Qr,sum_cons->Qw,getElem?_append_left->Qz,map->QD,reverse->abo,filter->abC,eraseIdxIfInBounds_toArray->abI,any_cons->abM,contains_iff_mem->acb,length_take->ach,map_reverse->acm,mem_reverse->acn,drop_nil->aco,zipIdx_cons->acs,zipIdx_nil->act,forIn_nil->acu,mem_of_mem_take->acI,append_of_mem->acP,filterMap_append->acQ,perm_append_singleton->acT,filterMap_eq_map'->acU,map_take->acV,take_append_of_le_length->acW,length_take_le->acX,pairwise_singleton->acY,zip_map->acZ,filter_congr->ac0,mem_replicate->ac2,count_pos_iff->ac3,length_replicate->ac4,count_le_length->ac5,count_append->ac6,map_id->ac7,filter_nil->ac8,map_nil->ac9,append_cons->ada,range'_concat->adc,all_map->adh,find?_eq_none->adi,mem_of_find?_eq_some->adj,find?_some->adk,getD_eq_getElem?_getD->adl,mem_iff_getElem?->adm,isEmpty_iff->adn
open List.Sublist renaming refl->Hy,append->acS
open List.cons renaming injEq->HD
open Nat renaming le_trans->aI,lt_of_le_of_lt->aR,le_of_lt->bP,le_refl->bQ,lt_trans->bY,le_add_right->b_,lt_of_lt_of_le->c9,add_le_add_left->ds,succ_le_succ->dw,add_comm->dB,add_le_add->dF,beq->dU,add_le_add_right->fC,ne_of_lt->fE,succ_pos->gw,le_succ->gZ,zero_le->g0,add_assoc->hZ,mul_le_mul_left->h_,le_succ_of_le->iH,le_of_eq->jD,lt_succ_self->jY,zero_add->nb,le_of_lt_succ->nz,mul_le_mul_right->nB,min_eq_left->o7,lt_add_of_pos_right->qf,succ->qg,lt_irrefl->qk,sub_self->qx,max_eq_right->qy,sub_add_cancel->sy,add_lt_add_left->ut,ble->uu,le_of_not_lt->uw,le_of_succ_le->w8,min_eq_right->xg,min_le_left->xm,add_lt_add_of_lt_of_le->xq,blt->As,lt_succ_of_lt->AM,blt_eq->AQ,eq_of_beq_eq_true->AV,ne_of_gt->A5,le_total->A8,le_add_left->A_,le_of_ble_eq_true->Bd,lt_of_le_of_ne->Be,mod_eq_of_lt->Bh,max_eq_left->Bm,exists_eq_add_of_le->Bp,mul_succ->GJ,mul_add_mod->HA,lt_succ_of_le->HF,eq_zero_of_not_pos->HH,add_lt_add_right->HJ,add_sub_cancel_left->HK,succ_mul->HL,sub_lt_left_of_lt_add->HN,add_left_cancel->OU,mul_add->OW,not_lt_zero->OY,two_mul->Pd,add_right_comm->PK,div_eq_of_lt->Qo,mod_lt->Qy,succ_ne_zero->QA,one_mul->QB,lt_trichotomy->QC,beq_refl->abp,le_mul_of_pos_left->abY,mul_add_div->acR,succ_lt_succ->ac1,succ_add->adb,pow_le_pow_right->ade,sub_le_of_le_add->adf,one_lt_pow->adg
open Nat.succ renaming inj->jZ
open Ne renaming symm->eJ
open Option renaming some->aa,none->ao,some_ne_none->gH,map_eq_some_iff->iD,map->oM,bind_eq_some_iff->rS,ne_none_iff_exists'->uI,isSome_map->AC,isSome_iff_exists->AL,none->GD,or_none->HM,map_some->Qh,map_eq_none_iff->QE,isSome->abV,isNone_iff_eq_none->ab5
open Option.some renaming inj->cP
open Prod renaming mk->qz,ext->Bi
open PyProof.Rows renaming IsTup->dJ,IsTupIter->dL,args_cons->oX,tail_any->wX,IntsAre->wY,Subscript_->G9,slot_tupleiter_next->Hj,getItem_tuple->Ph,getMethod_list_of->Pw,iter_tuple->PZ,PlainShape->QL,truthy_int->abN,len_tuple->abZ,entry_tupleiter_next->acp,args_tupleiter_next->acq
open PySem renaming Value->av,wpAny_bind->ax,wpAny->ay,Shared->aA,Addr->aB,Heap->aL,Expr->aN,wpAny_pure->aQ,Around->bg,Env->bJ,Stmt->bL,eval->c_,wpAny_holding->dv,World->dO,IsPair->dP,wpAny_field->eK,Builtin->e8,mainGlobals->e9,rawInt->fb,wpAny_mono->fj,callEnvC->fY,codeAny->gG,wpAny_standAt->iI,Program->i6,wpAny_call_entry->i9,FuncData->jb,wpAny_of_eq->jd,sizeLine->jH,sysModules->jI,excClassObj->jK,IsZip->jL,notedBy->j9,starEach->k8,OsState->k9,wpAny_seqItems->l_,intItems->mc,backTo->ng,Flow->nh,pyNext->ni,relabel->nu,cLine->oH,wpAny_specialOf->oJ,wpAny_rule->oK,wpAny_callSpecial?_slot->oN,wpAny_newObj_type->oQ,assign->oZ,Data->ph,Scope->qm,call->qo,Params->qA,intKind->rQ,builtinsNs->rR,typeLookup_type->rV,builtinLookup_eq_fast->rW,Result->rX,NameKind->rY,isTrue->rZ,keeperOf->r8,ZipApart->se,wpAny_attempt->sf,wpAny_loadPart_at->sj,Thread->sA,Model->uv,valueAt->uy,compareOp->uA,bootBuiltins->uB,typeLookup->uC,BoolOp->uF,wpAny_Name->uG,swapsWith->uH,wpAny_setField_rec->uJ,sizeLine_eq->wW,typeOf->w7,standAt->w9,wpAny_loadName_local->w_,wpAny_execs_cons->xa,wpAny_setField->xc,argsOk->xe,compEnvC->xh,wpAny_isSubtype_exc->xk,callEnv->xl,callerA->xv,reduceHash->Ax,wpAny_isInstance->Ay,atKey->AB,call_meetsIn->AD,wpAny_letGo->AG,truthy->AJ,codeAny_builtin->AN,plainId_quiet->AP,spliced->AR,holding->AS,Carries->AT,wpAny_call->AU,interactive->AW,noteFrame->AX,codeAny_of_tree->AY,wpAny_onRaise->AZ,isSubtype_type->A6,treeTable->Bq,eqIsQuiet->GK,storedH->GN,getItem->GO,recursionLimit->GU,concat_meets->G4,slicePick->G5,entryFor->G7,wpAny_typeOf->G8,methodCallForm->G_,methodCallPos->Ha,exec->Hb,assignEach->Hd,wpAny_execs_nil->He,letOwnedTupleGo->Hg,pyIter->Hh,newExc->Hk,firstArgMember->Hl,setField->Ho,updateSeq->Ht,wpAny_updateSeq->Hu,strLen_append->Hx,isInstance->OX,strKind->OZ,size_of_entries->O0,wpAny_notOrdered_dict->O4,storedH_new->O5,wpAny_truthy_bool->O6,binaryOp->O8,noFill_tuple_add->O9,seq_tuple_add->O_,subscripted->Pf,slot_list_getitem->Pg,wpAny_loadPart->Pj,entryFor_of_tree->Pk,call_meets->Pm,wpAny_pyNext_list_end->Po,wpAny_pyNext_list_item->Pq,wpAny_pyIter_list->Pr,getMethod->Pu,behindInMarks->Py,wpAny_Constant_bool->Pz,wpAny_Constant_str->PA,valueOrNone->PC,codeAny_mono->PH,bindName->PJ,arm_assign_Name->PM,swappedStores->PN,wpAny_release->PO,wpAny_Return_some->PP,cameBackBy->PR,theTreesLotGoes->PU,wpAny_noted->PW,wpAny_raiseNew_none->Qa,wpAny_updateSeq_pair->Qc,isSubtype_stop->Qd,foldedSetIterable->Qe,GenState->Qi,bindSpecial->Qj,checkBoundCall->Ql,importedModules->QG,wpAny_forIn_list->abt,wpAny_pyHash_int->abv,wpAny_pyHash_str->abw,eqIsQuiet_byValue->abx,without_of_not_mem->aby,wpAny_dictFind_heap->abD,atKey_none_of_get->abE,wpAny_dictEntries->abF,wpAny_updateDictKeys->abG,wpAny_lookBehind->abW,pastItsLine_dict->abX,getattributeRaised->ab2,wpAny_pyIter_tuple->ab3,getMethod_builtin->ab8,wpAny_list_append_plain->aca,wpAny_Constant_int->acd,wpAny_loadName_free->ace,wpAny_pyIter_slot->acy,wpAny_pyIter_zip->acz,Expr->acH,opaqueClassAbove->acN
open PySem.Arg renaming arg->xj
open PySem.Around renaming under_plainId->AO,frames_deeper->acJ
open PySem.Builtin.Dict renaming takeOut->O1
open PySem.Builtin.List renaming listExtendWith->Hv,listSameRef->acF
open PySem.Builtin.SmallTypes renaming nextOf->r_,ownedTupleIsFree->Hm
open PySem.Builtin.Tuple renaming tupleHashOf->ux
open PySem.Calls renaming spliced_nil->r6,Name_function_global->PB,loadGlobal_global->acf,loadGlobal_builtin->acg
open PySem.Challenge renaming rw_no0026_01->adr
open PySem.Code renaming weight->acj,cUnits->ack,quiet_builtin->acM
open PySem.Data renaming seq->xd
open PySem.DictEntry renaming refKey->abT
open PySem.F renaming slot_dict_get->AE,slot_zip_next->A9,slot_tuple_hash->GG,entry_dict_get->GP,slot_dict_delitem->GR,slot_zip_next->Hn,plain_extend_loop->Hs,slot_tuple_add->Pa,entry_tuple_add->Pb,args_tuple_add_2->Pc,slot_list_getattribute->Pl,ks_slot_super_ga->Qk,args_dict_get_2->abA,args_dict_get_3->abB,entry_dict_delitem->abJ,args_dict_delitem_2->abK,slot_dict_setdefault->abL,slot_tuple_getitem->abR,slot_list_extend->ab6,slot_list_pop->ab7,plainAttrs_dict->ab9,entry_zip_next->acv,args_zip_next_1->acw,slot_tuple_getitem->acx,entry_zip_next->acB,args_zip_next_1->acC,slot_zip_iter->acD,entry_extend_loop->acE,excBase_Exception->acL
open PySem.Heap renaming get?_push_of_some->cu,get?_push_size->cV,SameBut->fV,lt_size->fX,get?_update_self->i_,get?_none_of_le->oP,size_push->qi,get?_update_other->qj,HeldW->GV,ExtBut->PY
open PySem.Heap.DictOf renaming new->Ps
open PySem.Heap.FunFrames renaming cons->acK
open PySem.Heap.SameBut renaming update->j6,refl->acl
open PySem.Keeper renaming machine->r7,frame->PD,boundFrame->PE
open PySem.NameKind renaming free->Hq,cell->Qg
open PySem.Obj renaming mapSeq->ny,putName_eq->oV,putNameByArray->oW,data_mapFields->r9,mapFields->xb,data_mapDictKeys->GQ,isFreed_of_fields->Hf,isFreed_of_dict->abH,cls_mapFields->acr
open PySem.PyData renaming int->QM
open PySem.SeqAt renaming EqAt->i7,RcNeAt->ja,RcAt->jJ
open PySem.SeqAt.RcAt renaming tuples->abq
open PySem.Str renaming ofString->dD
open PySem.Value renaming ref->du,none->jF,type->xi,builtin->GH
open PySem.W renaming Frag->di,nsIn->iG,findIn->j7,Looks->j8,boot_heap->kc,hideAll->k_,SharedT->mn,instObj->oO,emptyDict->oY,ofPy->qB,hideAll_get->sq,boot_drawn->xr,boot_toks->xu,keepIn->AH,topStub->Br,plainGet->GY,typeIn->GZ,of_hideAll->Hw,topRun->HO,WellAll->HP,openGood->HQ,plainGet_of->Pi,looks_findIn->PF,staticsOk->QH,namesBound->QI,gensDone->QJ,laidKept->QK
open PySem.W.Fast renaming tw4187177175401517315->ado,tw3247288618530077131->adp,tw821141287760084731->adq
open PySem.W.Looks renaming ld->Qm,of_pure->aci
open PySem.Walks renaming tuple->ab4
namespace Mine
theorem zA{α:Type _}{a:α}{G:Prop}(h:ao=aa a):G:=nomatch h
theorem zB{α:Type _}{a:α}{G:Prop}(h:aa a=ao):G:=nomatch h
theorem zC{G:Prop}(h:au=ah):G:=nomatch h
theorem zD{G:Prop}(h:ah=au):G:=nomatch h
theorem zE{α:Type _}{a:α}{G:Prop}(h:a∈[]):G:=nomatch h
theorem zF{α:Type _}{a b:α}(h:aa a=aa b):a=b:=cP h
theorem aC{P0 P1:Prop}{G:Prop}(h:P0/\P1)(k:P0->P1->G):G:=k h.1 h.2
theorem be{P0 P1 P2:Prop}{G:Prop}(h:P0/\P1/\P2)(k:P0->P1->P2->G):G:=k h.1 h.2.1 h.2.2
theorem f9{P0 P1 P2 P3:Prop}{G:Prop}(h:P0/\P1/\P2/\P3)(k:P0->P1->P2->P3->G):G:=k h.1 h.2.1 h.2.2.1 h.2.2.2
theorem iX{P0 P1 P2 P3 P4:Prop}{G:Prop}(h:P0/\P1/\P2/\P3/\P4)(k:P0->P1->P2->P3->P4->G):G:=k h.1 h.2.1 h.2.2.1 h.2.2.2.1 h.2.2.2.2
theorem RY{P0 P1 P2 P3 P4 P5:Prop}{G:Prop}(h:P0/\P1/\P2/\P3/\P4/\P5)(k:P0->P1->P2->P3->P4->P5->G):G:=k h.1 h.2.1 h.2.2.1 h.2.2.2.1 h.2.2.2.2.1 h.2.2.2.2.2
theorem H3{P0 P1 P2 P3 P4 P5 P6:Prop}{G:Prop}(h:P0/\P1/\P2/\P3/\P4/\P5/\P6)(k:P0->P1->P2->P3->P4->P5->P6->G):G:=k h.1 h.2.1 h.2.2.1 h.2.2.2.1 h.2.2.2.2.1 h.2.2.2.2.2.1 h.2.2.2.2.2.2
theorem ZS{P0 P1 P2 P3 P4 P5 P6 P7:Prop}{G:Prop}(h:P0/\P1/\P2/\P3/\P4/\P5/\P6/\P7)(k:P0->P1->P2->P3->P4->P5->P6->P7->G):G:=k h.1 h.2.1 h.2.2.1 h.2.2.2.1 h.2.2.2.2.1 h.2.2.2.2.2.1 h.2.2.2.2.2.2.1 h.2.2.2.2.2.2.2
theorem W6{P0 P1 P2 P3 P4 P5 P6 P7 P8:Prop}{G:Prop}(h:P0/\P1/\P2/\P3/\P4/\P5/\P6/\P7/\P8)(k:P0->P1->P2->P3->P4->P5->P6->P7->P8->G):G:=k h.1 h.2.1 h.2.2.1 h.2.2.2.1 h.2.2.2.2.1 h.2.2.2.2.2.1 h.2.2.2.2.2.2.1 h.2.2.2.2.2.2.2.1 h.2.2.2.2.2.2.2.2
theorem J7{P0 P1 P2 P3 P4 P5 P6 P7 P8 P9:Prop}{G:Prop}(h:P0/\P1/\P2/\P3/\P4/\P5/\P6/\P7/\P8/\P9)(k:P0->P1->P2->P3->P4->P5->P6->P7->P8->P9->G):G:=k h.1 h.2.1 h.2.2.1 h.2.2.2.1 h.2.2.2.2.1 h.2.2.2.2.2.1 h.2.2.2.2.2.2.1 h.2.2.2.2.2.2.2.1 h.2.2.2.2.2.2.2.2.1 h.2.2.2.2.2.2.2.2.2
theorem Mw{P0 P1 P2 P3 P4 P5 P6 P7 P8 P9 vL:Prop}{G:Prop}(h:P0/\P1/\P2/\P3/\P4/\P5/\P6/\P7/\P8/\P9/\vL)(k:P0->P1->P2->P3->P4->P5->P6->P7->P8->P9->vL->G):G:=k h.1 h.2.1 h.2.2.1 h.2.2.2.1 h.2.2.2.2.1 h.2.2.2.2.2.1 h.2.2.2.2.2.2.1 h.2.2.2.2.2.2.2.1 h.2.2.2.2.2.2.2.2.1 h.2.2.2.2.2.2.2.2.2.1 h.2.2.2.2.2.2.2.2.2.2
theorem e1a1.{u0}{bG:Sort u0}{P0:bG->Prop}{G:Prop}(h:∃x0,P0 x0)(k:∀x0,P0 x0->G):G:=h.elim λx0 h=>k x0 h
theorem e1a2.{u0}{bG:Sort u0}{P0 P1:bG->Prop}{G:Prop}(h:∃x0,P0 x0/\P1 x0)(k:∀x0,P0 x0->P1 x0->G):G:=h.elim λx0 h=>k x0 h.1 h.2
theorem e1a3.{u0}{bG:Sort u0}{P0 P1 P2:bG->Prop}{G:Prop}(h:∃x0,P0 x0/\P1 x0/\P2 x0)(k:∀x0,P0 x0->P1 x0->P2 x0->G):G:=h.elim λx0 h=>k x0 h.1 h.2.1 h.2.2
theorem e1a4.{u0}{bG:Sort u0}{P0 P1 P2 P3:bG->Prop}{G:Prop}(h:∃x0,P0 x0/\P1 x0/\P2 x0/\P3 x0)(k:∀x0,P0 x0->P1 x0->P2 x0->P3 x0->G):G:=h.elim λx0 h=>k x0 h.1 h.2.1 h.2.2.1 h.2.2.2
theorem e1a5.{u0}{bG:Sort u0}{P0 P1 P2 P3 P4:bG->Prop}{G:Prop}(h:∃x0,P0 x0/\P1 x0/\P2 x0/\P3 x0/\P4 x0)(k:∀x0,P0 x0->P1 x0->P2 x0->P3 x0->P4 x0->G):G:=h.elim λx0 h=>k x0 h.1 h.2.1 h.2.2.1 h.2.2.2.1 h.2.2.2.2
theorem e1a6.{u0}{bG:Sort u0}{P0 P1 P2 P3 P4 P5:bG->Prop}{G:Prop}(h:∃x0,P0 x0/\P1 x0/\P2 x0/\P3 x0/\P4 x0/\P5 x0)(k:∀x0,P0 x0->P1 x0->P2 x0->P3 x0->P4 x0->P5 x0->G):G:=h.elim λx0 h=>k x0 h.1 h.2.1 h.2.2.1 h.2.2.2.1 h.2.2.2.2.1 h.2.2.2.2.2
theorem e1a7.{u0}{bG:Sort u0}{P0 P1 P2 P3 P4 P5 P6:bG->Prop}{G:Prop}(h:∃x0,P0 x0/\P1 x0/\P2 x0/\P3 x0/\P4 x0/\P5 x0/\P6 x0)(k:∀x0,P0 x0->P1 x0->P2 x0->P3 x0->P4 x0->P5 x0->P6 x0->G):G:=h.elim λx0 h=>k x0 h.1 h.2.1 h.2.2.1 h.2.2.2.1 h.2.2.2.2.1 h.2.2.2.2.2.1 h.2.2.2.2.2.2
theorem e2a1.{u0,u1}{bG:Sort u0}{ce:Sort u1}{P0:bG->ce->Prop}{G:Prop}(h:∃x0 x1,P0 x0 x1)(k:∀x0 x1,P0 x0 x1->G):G:=h.elim λx0 h=>h.elim λx1 h=>k x0 x1 h
theorem e2a2.{u0,u1}{bG:Sort u0}{ce:Sort u1}{P0 P1:bG->ce->Prop}{G:Prop}(h:∃x0 x1,P0 x0 x1/\P1 x0 x1)(k:∀x0 x1,P0 x0 x1->P1 x0 x1->G):G:=h.elim λx0 h=>h.elim λx1 h=>k x0 x1 h.1 h.2
theorem e2a3.{u0,u1}{bG:Sort u0}{ce:Sort u1}{P0 P1 P2:bG->ce->Prop}{G:Prop}(h:∃x0 x1,P0 x0 x1/\P1 x0 x1/\P2 x0 x1)(k:∀x0 x1,P0 x0 x1->P1 x0 x1->P2 x0 x1->G):G:=h.elim λx0 h=>h.elim λx1 h=>k x0 x1 h.1 h.2.1 h.2.2
theorem e2a4.{u0,u1}{bG:Sort u0}{ce:Sort u1}{P0 P1 P2 P3:bG->ce->Prop}{G:Prop}(h:∃x0 x1,P0 x0 x1/\P1 x0 x1/\P2 x0 x1/\P3 x0 x1)(k:∀x0 x1,P0 x0 x1->P1 x0 x1->P2 x0 x1->P3 x0 x1->G):G:=h.elim λx0 h=>h.elim λx1 h=>k x0 x1 h.1 h.2.1 h.2.2.1 h.2.2.2
theorem e2a5.{u0,u1}{bG:Sort u0}{ce:Sort u1}{P0 P1 P2 P3 P4:bG->ce->Prop}{G:Prop}(h:∃x0 x1,P0 x0 x1/\P1 x0 x1/\P2 x0 x1/\P3 x0 x1/\P4 x0 x1)(k:∀x0 x1,P0 x0 x1->P1 x0 x1->P2 x0 x1->P3 x0 x1->P4 x0 x1->G):G:=h.elim λx0 h=>h.elim λx1 h=>k x0 x1 h.1 h.2.1 h.2.2.1 h.2.2.2.1 h.2.2.2.2
theorem e2a6.{u0,u1}{bG:Sort u0}{ce:Sort u1}{P0 P1 P2 P3 P4 P5:bG->ce->Prop}{G:Prop}(h:∃x0 x1,P0 x0 x1/\P1 x0 x1/\P2 x0 x1/\P3 x0 x1/\P4 x0 x1/\P5 x0 x1)(k:∀x0 x1,P0 x0 x1->P1 x0 x1->P2 x0 x1->P3 x0 x1->P4 x0 x1->P5 x0 x1->G):G:=h.elim λx0 h=>h.elim λx1 h=>k x0 x1 h.1 h.2.1 h.2.2.1 h.2.2.2.1 h.2.2.2.2.1 h.2.2.2.2.2
theorem e3a1.{u0,u1,u2}{bG:Sort u0}{ce:Sort u1}{dz:Sort u2}{P0:bG->ce->dz->Prop}{G:Prop}(h:∃x0 x1 x2,P0 x0 x1 x2)(k:∀x0 x1 x2,P0 x0 x1 x2->G):G:=h.elim λx0 h=>h.elim λx1 h=>h.elim λx2 h=>k x0 x1 x2 h
theorem e3a2.{u0,u1,u2}{bG:Sort u0}{ce:Sort u1}{dz:Sort u2}{P0 P1:bG->ce->dz->Prop}{G:Prop}(h:∃x0 x1 x2,P0 x0 x1 x2/\P1 x0 x1 x2)(k:∀x0 x1 x2,P0 x0 x1 x2->P1 x0 x1 x2->G):G:=h.elim λx0 h=>h.elim λx1 h=>h.elim λx2 h=>k x0 x1 x2 h.1 h.2
theorem e3a3.{u0,u1,u2}{bG:Sort u0}{ce:Sort u1}{dz:Sort u2}{P0 P1 P2:bG->ce->dz->Prop}{G:Prop}(h:∃x0 x1 x2,P0 x0 x1 x2/\P1 x0 x1 x2/\P2 x0 x1 x2)(k:∀x0 x1 x2,P0 x0 x1 x2->P1 x0 x1 x2->P2 x0 x1 x2->G):G:=h.elim λx0 h=>h.elim λx1 h=>h.elim λx2 h=>k x0 x1 x2 h.1 h.2.1 h.2.2
theorem e3a4.{u0,u1,u2}{bG:Sort u0}{ce:Sort u1}{dz:Sort u2}{P0 P1 P2 P3:bG->ce->dz->Prop}{G:Prop}(h:∃x0 x1 x2,P0 x0 x1 x2/\P1 x0 x1 x2/\P2 x0 x1 x2/\P3 x0 x1 x2)(k:∀x0 x1 x2,P0 x0 x1 x2->P1 x0 x1 x2->P2 x0 x1 x2->P3 x0 x1 x2->G):G:=h.elim λx0 h=>h.elim λx1 h=>h.elim λx2 h=>k x0 x1 x2 h.1 h.2.1 h.2.2.1 h.2.2.2
theorem e3a5.{u0,u1,u2}{bG:Sort u0}{ce:Sort u1}{dz:Sort u2}{P0 P1 P2 P3 P4:bG->ce->dz->Prop}{G:Prop}(h:∃x0 x1 x2,P0 x0 x1 x2/\P1 x0 x1 x2/\P2 x0 x1 x2/\P3 x0 x1 x2/\P4 x0 x1 x2)(k:∀x0 x1 x2,P0 x0 x1 x2->P1 x0 x1 x2->P2 x0 x1 x2->P3 x0 x1 x2->P4 x0 x1 x2->G):G:=h.elim λx0 h=>h.elim λx1 h=>h.elim λx2 h=>k x0 x1 x2 h.1 h.2.1 h.2.2.1 h.2.2.2.1 h.2.2.2.2
theorem e3a6.{u0,u1,u2}{bG:Sort u0}{ce:Sort u1}{dz:Sort u2}{P0 P1 P2 P3 P4 P5:bG->ce->dz->Prop}{G:Prop}(h:∃x0 x1 x2,P0 x0 x1 x2/\P1 x0 x1 x2/\P2 x0 x1 x2/\P3 x0 x1 x2/\P4 x0 x1 x2/\P5 x0 x1 x2)(k:∀x0 x1 x2,P0 x0 x1 x2->P1 x0 x1 x2->P2 x0 x1 x2->P3 x0 x1 x2->P4 x0 x1 x2->P5 x0 x1 x2->G):G:=h.elim λx0 h=>h.elim λx1 h=>h.elim λx2 h=>k x0 x1 x2 h.1 h.2.1 h.2.2.1 h.2.2.2.1 h.2.2.2.2.1 h.2.2.2.2.2
theorem e3a8.{u0,u1,u2}{bG:Sort u0}{ce:Sort u1}{dz:Sort u2}{P0 P1 P2 P3 P4 P5 P6 P7:bG->ce->dz->Prop}{G:Prop}(h:∃x0 x1 x2,P0 x0 x1 x2/\P1 x0 x1 x2/\P2 x0 x1 x2/\P3 x0 x1 x2/\P4 x0 x1 x2/\P5 x0 x1 x2/\P6 x0 x1 x2/\P7 x0 x1 x2)(k:∀x0 x1 x2,P0 x0 x1 x2->P1 x0 x1 x2->P2 x0 x1 x2->P3 x0 x1 x2->P4 x0 x1 x2->P5 x0 x1 x2->P6 x0 x1 x2->P7 x0 x1 x2->G):G:=h.elim λx0 h=>h.elim λx1 h=>h.elim λx2 h=>k x0 x1 x2 h.1 h.2.1 h.2.2.1 h.2.2.2.1 h.2.2.2.2.1 h.2.2.2.2.2.1 h.2.2.2.2.2.2.1 h.2.2.2.2.2.2.2
theorem e3a14.{u0,u1,u2}{bG:Sort u0}{ce:Sort u1}{dz:Sort u2}{P0 P1 P2 P3 P4 P5 P6 P7 P8 P9 vL MZ M0 M3:bG->ce->dz->Prop}{G:Prop}(h:∃x0 x1 x2,P0 x0 x1 x2/\P1 x0 x1 x2/\P2 x0 x1 x2/\P3 x0 x1 x2/\P4 x0 x1 x2/\P5 x0 x1 x2/\P6 x0 x1 x2/\P7 x0 x1 x2/\P8 x0 x1 x2/\P9 x0 x1 x2/\vL x0 x1 x2/\MZ x0 x1 x2/\M0 x0 x1 x2/\M3 x0 x1 x2)(k:∀x0 x1 x2,P0 x0 x1 x2->P1 x0 x1 x2->P2 x0 x1 x2->P3 x0 x1 x2->P4 x0 x1 x2->P5 x0 x1 x2->P6 x0 x1 x2->P7 x0 x1 x2->P8 x0 x1 x2->P9 x0 x1 x2->vL x0 x1 x2->MZ x0 x1 x2->M0 x0 x1 x2->M3 x0 x1 x2->G):G:=h.elim λx0 h=>h.elim λx1 h=>h.elim λx2 h=>k x0 x1 x2 h.1 h.2.1 h.2.2.1 h.2.2.2.1 h.2.2.2.2.1 h.2.2.2.2.2.1 h.2.2.2.2.2.2.1 h.2.2.2.2.2.2.2.1 h.2.2.2.2.2.2.2.2.1 h.2.2.2.2.2.2.2.2.2.1 h.2.2.2.2.2.2.2.2.2.2.1 h.2.2.2.2.2.2.2.2.2.2.2.1 h.2.2.2.2.2.2.2.2.2.2.2.2.1 h.2.2.2.2.2.2.2.2.2.2.2.2.2
theorem e4a1.{u0,u1,u2,u3}{bG:Sort u0}{ce:Sort u1}{dz:Sort u2}{iY:Sort u3}{P0:bG->ce->dz->iY->Prop}{G:Prop}(h:∃x0 x1 x2 x3,P0 x0 x1 x2 x3)(k:∀x0 x1 x2 x3,P0 x0 x1 x2 x3->G):G:=h.elim λx0 h=>h.elim λx1 h=>h.elim λx2 h=>h.elim λx3 h=>k x0 x1 x2 x3 h
theorem e4a3.{u0,u1,u2,u3}{bG:Sort u0}{ce:Sort u1}{dz:Sort u2}{iY:Sort u3}{P0 P1 P2:bG->ce->dz->iY->Prop}{G:Prop}(h:∃x0 x1 x2 x3,P0 x0 x1 x2 x3/\P1 x0 x1 x2 x3/\P2 x0 x1 x2 x3)(k:∀x0 x1 x2 x3,P0 x0 x1 x2 x3->P1 x0 x1 x2 x3->P2 x0 x1 x2 x3->G):G:=h.elim λx0 h=>h.elim λx1 h=>h.elim λx2 h=>h.elim λx3 h=>k x0 x1 x2 x3 h.1 h.2.1 h.2.2
theorem e4a4.{u0,u1,u2,u3}{bG:Sort u0}{ce:Sort u1}{dz:Sort u2}{iY:Sort u3}{P0 P1 P2 P3:bG->ce->dz->iY->Prop}{G:Prop}(h:∃x0 x1 x2 x3,P0 x0 x1 x2 x3/\P1 x0 x1 x2 x3/\P2 x0 x1 x2 x3/\P3 x0 x1 x2 x3)(k:∀x0 x1 x2 x3,P0 x0 x1 x2 x3->P1 x0 x1 x2 x3->P2 x0 x1 x2 x3->P3 x0 x1 x2 x3->G):G:=h.elim λx0 h=>h.elim λx1 h=>h.elim λx2 h=>h.elim λx3 h=>k x0 x1 x2 x3 h.1 h.2.1 h.2.2.1 h.2.2.2
theorem e4a5.{u0,u1,u2,u3}{bG:Sort u0}{ce:Sort u1}{dz:Sort u2}{iY:Sort u3}{P0 P1 P2 P3 P4:bG->ce->dz->iY->Prop}{G:Prop}(h:∃x0 x1 x2 x3,P0 x0 x1 x2 x3/\P1 x0 x1 x2 x3/\P2 x0 x1 x2 x3/\P3 x0 x1 x2 x3/\P4 x0 x1 x2 x3)(k:∀x0 x1 x2 x3,P0 x0 x1 x2 x3->P1 x0 x1 x2 x3->P2 x0 x1 x2 x3->P3 x0 x1 x2 x3->P4 x0 x1 x2 x3->G):G:=h.elim λx0 h=>h.elim λx1 h=>h.elim λx2 h=>h.elim λx3 h=>k x0 x1 x2 x3 h.1 h.2.1 h.2.2.1 h.2.2.2.1 h.2.2.2.2
theorem e5a5.{u0,u1,u2,u3,u4}{bG:Sort u0}{ce:Sort u1}{dz:Sort u2}{iY:Sort u3}{rz:Sort u4}{P0 P1 P2 P3 P4:bG->ce->dz->iY->rz->Prop}{G:Prop}(h:∃x0 x1 x2 x3 x4,P0 x0 x1 x2 x3 x4/\P1 x0 x1 x2 x3 x4/\P2 x0 x1 x2 x3 x4/\P3 x0 x1 x2 x3 x4/\P4 x0 x1 x2 x3 x4)(k:∀x0 x1 x2 x3 x4,P0 x0 x1 x2 x3 x4->P1 x0 x1 x2 x3 x4->P2 x0 x1 x2 x3 x4->P3 x0 x1 x2 x3 x4->P4 x0 x1 x2 x3 x4->G):G:=h.elim λx0 h=>h.elim λx1 h=>h.elim λx2 h=>h.elim λx3 h=>h.elim λx4 h=>k x0 x1 x2 x3 x4 h.1 h.2.1 h.2.2.1 h.2.2.2.1 h.2.2.2.2
theorem e5a9.{u0,u1,u2,u3,u4}{bG:Sort u0}{ce:Sort u1}{dz:Sort u2}{iY:Sort u3}{rz:Sort u4}{P0 P1 P2 P3 P4 P5 P6 P7 P8:bG->ce->dz->iY->rz->Prop}{G:Prop}(h:∃x0 x1 x2 x3 x4,P0 x0 x1 x2 x3 x4/\P1 x0 x1 x2 x3 x4/\P2 x0 x1 x2 x3 x4/\P3 x0 x1 x2 x3 x4/\P4 x0 x1 x2 x3 x4/\P5 x0 x1 x2 x3 x4/\P6 x0 x1 x2 x3 x4/\P7 x0 x1 x2 x3 x4/\P8 x0 x1 x2 x3 x4)(k:∀x0 x1 x2 x3 x4,P0 x0 x1 x2 x3 x4->P1 x0 x1 x2 x3 x4->P2 x0 x1 x2 x3 x4->P3 x0 x1 x2 x3 x4->P4 x0 x1 x2 x3 x4->P5 x0 x1 x2 x3 x4->P6 x0 x1 x2 x3 x4->P7 x0 x1 x2 x3 x4->P8 x0 x1 x2 x3 x4->G):G:=h.elim λx0 h=>h.elim λx1 h=>h.elim λx2 h=>h.elim λx3 h=>h.elim λx4 h=>k x0 x1 x2 x3 x4 h.1 h.2.1 h.2.2.1 h.2.2.2.1 h.2.2.2.2.1 h.2.2.2.2.2.1 h.2.2.2.2.2.2.1 h.2.2.2.2.2.2.2.1 h.2.2.2.2.2.2.2.2
theorem e6a1.{u0,u1,u2,u3,u4,u5}{bG:Sort u0}{ce:Sort u1}{dz:Sort u2}{iY:Sort u3}{rz:Sort u4}{EQ:Sort u5}{P0:bG->ce->dz->iY->rz->EQ->Prop}{G:Prop}(h:∃x0 x1 x2 x3 x4 x5,P0 x0 x1 x2 x3 x4 x5)(k:∀x0 x1 x2 x3 x4 x5,P0 x0 x1 x2 x3 x4 x5->G):G:=h.elim λx0 h=>h.elim λx1 h=>h.elim λx2 h=>h.elim λx3 h=>h.elim λx4 h=>h.elim λx5 h=>k x0 x1 x2 x3 x4 x5 h
theorem e8a1.{u0,u1,u2,u3,u4,u5,u6,u7}{bG:Sort u0}{ce:Sort u1}{dz:Sort u2}{iY:Sort u3}{rz:Sort u4}{EQ:Sort u5}{α6:Sort u6}{α7:Sort u7}{P0:bG->ce->dz->iY->rz->EQ->α6->α7->Prop}{G:Prop}(h:∃x0 x1 x2 x3 x4 x5 x6 x7,P0 x0 x1 x2 x3 x4 x5 x6 x7)(k:∀x0 x1 x2 x3 x4 x5 x6 x7,P0 x0 x1 x2 x3 x4 x5 x6 x7->G):G:=h.elim λx0 h=>h.elim λx1 h=>h.elim λx2 h=>h.elim λx3 h=>h.elim λx4 h=>h.elim λx5 h=>h.elim λx6 h=>h.elim λx7 h=>k x0 x1 x2 x3 x4 x5 x6 x7 h
theorem MO{a a' d d' R u v k w:Nat}(r:a+k*d+w<R)(hd:d'<d)(h:a'<=a+u)(q:u+v<=k):a'+v+k*d'+w<R:=
 aR (fC (aI (fC (fC h v) (k*d')) (by rw[hZ a,hZ a];exact ds (aI (fC q _) (aI (jD (dB _ _)) (h_ k hd))) a)) w) r
theorem rl{n a b:Nat}(h:a≠b):n+a≠n+b:=λe=>h (OU e)
theorem qD{n b:Nat}:n≠n+(b+1):=fE (qf (gw b))
theorem HV{l n a:Nat}(h:l<n):l≠n+a:=fE (c9 h (b_ _ _))
theorem iN{k:Int}{n:Nat}(h:k.natAbs<n): -(n:Int)<=k/\k<n:=⟨Int.neg_le_of_neg_le (Ar (OV (by have:=@abm (-k);rwa [Int.natAbs_neg] at this) (gC.mpr h))),OV abm (gC.mpr h)⟩
theorem Mt{n i:Nat}(h:i<n):(n:Int)-1-(i:Nat)=((n-1-i:Nat):Int):=by rw[abn (Nat.le_sub_one_of_lt h),abn (Nat.zero_lt_of_lt h)];rfl
theorem KZ{t e k n m B:Nat}(h:n+1=m)(l:e<=k)(b:t+k*m<=B):t+e+k*n<=B:=aI (by rw[hZ];exact ds (by rw[<-h,OW,Nat.mul_one,dB];exact ds l _) t) b
theorem WM{n m k j u:Nat}(h:n+1=m)(q:j<=u):(u+1)*n+(k+j)<(u+1)*m+(k+1):=by rw[<-h,OW,Nat.mul_one,hZ ((u+1)*n)];exact ut (aR (aI (ds q k) (jD (dB k u))) (Nat.add_lt_add (jY u) (jY k))) _
end Mine
open Lean in
local macro_rules
 | `(tactic|rw[$rs,*])=>do
  let mut t<-`(tactic|skip)
  for r in rs.getElems do
   let e:Term:=⟨r.raw[1]⟩
   let e<-if r.raw[0].getNumArgs >0 then `(Eq.symm $e) else pure e
   t<-`(tactic|($t;first|refine Eq.substr $e ?_|with_reducible refine Eq.substr ($e ..) ?_|rewrite [$(⟨r.raw⟩)]))
  `(tactic|($t;try with_reducible rfl))
local macro_rules
 | `(tactic|show $t)=>`(tactic|refine(?_: $t))
namespace Mine
inductive V where
 |none
 |bool (b:Bool)
 |int (i:Int)
 |str (n:Nat)
 |adt
 |adA (a b:V)
 |ref (n:Nat)
 deriving DecidableEq
inductive O where
 |list (xs:List V)
 |dict (es:List (V×V))
 |inst (c:Nat) (fs:List (Nat×V))
inductive U where
 |a (f:Nat)
 |r|n|L|T|D|K
 |c (f:Nat)
 |B (f:Nat)
 |N (c:Nat)
 |R|V
inductive BO where
 |add|sub|mul|fdiv|mod
inductive CO where
 |eq|ne|lt|gt|le|ge|adz|notN|inn|notin
inductive B where
 |i|s|f|z|k
 |a (op:BO)
 |c (op:CO)
inductive E where
 |l (v:V)
 |v (x:Nat)
 |g (x:Nat)
 |u (op:U) (e:E)
 |b (op:B) (a b:E)
 |A (a b:E)
 |O (a b:E)
 |t (c a b:E)
 |C (elt:E) (tup:Bool) (xs:List Nat) (it cond:E)
 |m (o:E) (m:Nat) (es:E)
inductive SO where
 |s (tup:Bool) (xs:List Nat)
 |a (f:Nat)
 |i|d|x|r
inductive S where
 |bad
 |n
 |q (s r:S)
 |e (op:SO) (e:E)
 |i (c:E) (a b:S)
 |f (tup:Bool) (xs:List Nat) (it:E) (body:S)
 |w (c:E) (body:S)
 |c
 |R (c x:Nat)
 |y (e:E) (a:S) (c:Nat) (hd:S)
inductive Fl where
 |next|cont|exc|ret (v:V)
structure Hp where
 get:Nat->Option O
 lk:Option Nat
noncomputable def Hp.put(h:Hp)(a:Nat)(o:O):Hp:=⟨λb=>if b=a then aa o else h.get b,h.lk⟩
noncomputable def Hp.lock(h:Hp)(l:Option Nat):Hp:=⟨h.get,l⟩
noncomputable abbrev Env:=Nat->Option V
noncomputable def Env.set(ρ:Env)(x:Nat)(v:V):Env:=λy=>if y=x then aa v else ρ y
noncomputable def Env.nil:Env:=λ_=>ao
noncomputable def bf:List Nat->List V->Env->Env
 |x::xs,v::vs,ρ=>bf xs vs (ρ.set x v)
 |_,_,ρ=>ρ
noncomputable def V.tup:List V->V
 |[]=>.adt
 |x::r=>.adA x (V.tup r)
noncomputable def V.items:V->Option (List V)
 | .adt=>aa []
 | .adA a b=>(V.items b).map (a::·)
 |_=>GD
noncomputable def V.adL:V->Bool
 | .adt=>ah
 | .adA _ _=>ah
 |_=>au
noncomputable def V.data:V->Nat->Bool
 | .int _,_=>ah
 | .str _,_=>ah
 | .adt,_=>ah
 | .adA a b,d+1=>a.data d&&b.adL&&b.data (d+1)
 |_,_=>au
noncomputable def V.adz:V->Bool
 | .none=>ah
 |_=>au
noncomputable def V.int?:V->Option Int
 | .int i=>aa i
 |_=>GD
noncomputable def V.adG:V->Option Nat
 | .ref n=>aa n
 |_=>GD
noncomputable def aG:Nat:=4000000
noncomputable def fk:Nat:=6
noncomputable def kk:V->Nat
 | .int _=>1
 | .str _=>2
 | .adt=>3
 | .adA _ _=>3
 |_=>0
noncomputable def b7(k:V)(es:List (V×V)):Bool:=k.data fk&&es.all λe=>kk e.1==kk k
noncomputable def bC(es:List (V×V))(k:V):Option V:=match es with
 |[]=>ao
 |e::r=>if e.1=k then aa e.2 else bC r k
noncomputable def bB(es:List (V×V))(k v:V):List (V×V):=match es with
 |[]=>[(k,v)]
 |e::r=>if e.1=k then(e.1,v)::r else e::bB r k v
noncomputable def iy(es:List (V×V))(k:V):List (V×V):=match es with
 |[]=>[]
 |e::r=>if e.1=k then r else e::iy r k
noncomputable def dR(fs:List (Nat×V))(f:Nat):Option V:=match fs with
 |[]=>ao
 |e::r=>if e.1=f then aa e.2 else dR r f
noncomputable def jk(fs:List (Nat×V))(f:Nat)(v:V):List (Nat×V):=match fs with
 |[]=>[(f,v)]
 |e::r=>if e.1=f then(e.1,v)::r else e::jk r f v
noncomputable def iR(xs:List V)(k:Int):Option V:=
 if 0<=k then xs[k.toNat]? else if 0<=(xs.length:Int)+k then xs[((xs.length:Int)+k).toNat]? else ao
noncomputable def small(a:Int):Bool:=decide (a.natAbs<2 ^ 31)
noncomputable def nF(k:Int):List Int->List Int
 |[]=>[k]
 |x::r=>if k<x then k::x::r else x::nF k r
noncomputable def jj(l:List Int):List Int:=l.foldr nF []
noncomputable def kr:List V->Option (List Int)
 |[]=>aa []
 |v::r=>v.int?.bind λk=>(kr r).map (k::·)
noncomputable def gJ(xs:List V):Bool:=xs.all (·.data fk)
noncomputable def sD:List V->Option (List (V×V))
 |[]=>aa []
 |[_]=>ao
 |a::b::r=>(sD r).map ((a,b)::·)
noncomputable def pH(vs:List V):Option (V×V):=match vs with
 |[a,b]=>aa (a,b)
 |_=>GD
noncomputable def CL(v:V):Option (V×V):=v.items.bind pH
noncomputable def vf:List V->Option (List (V×V))
 |[]=>aa []
 |v::r=>(CL v).bind λp=>(vf r).map (p::·)
noncomputable def kq(es:List (V×V)):List (V×V)->List (V×V)
 |[]=>es
 |p::r=>kq (bB es p.1 p.2) r
noncomputable def hY(es:List (V×V)):Bool:=es.all λe=>kk e.1==1
noncomputable def yE(es:List (V×V)):Bool:=es.all λe=>kk e.1==2
noncomputable def n7(a b:Int):Int:=if b<a then b else a
noncomputable def nN(a b:Int):Int:=if a<b then b else a
noncomputable def ZN(n:Int):List V:=(jE n.toNat).map λ(i:Nat)=>V.int (i:Int)
theorem jP:bC (e::r) k=if e.1=k then aa e.2 else bC r k:=rfl
theorem tN:bB (e::r) k v=if e.1=k then(e.1,v)::r else e::bB r k v:=rfl
theorem yl:iy (e::r) k=if e.1=k then r else e::iy r k:=rfl
theorem DE:nF k (x::r)=if k<x then k::x::r else x::nF k r:=rfl
noncomputable def SV:List String:=["append","extend","pop","get","setdefault","len","sorted","sum","abs","tuple","list","dict","min","max","__init__","self","false_number","make","false","BOOL","true_number","true","numbers","term_datas","term_sorts","term_args","term_ops","","fresh_count","fun_results","fun_args","fun_names","sort_widths","sort_names","Bool","Int","Real","name","s","arg_sorts","result","f","t","op","args","sort","data","found","key","where","parts_of_all","some","root","stack","part","done","is_open","a","b","=","want","app","sorts","bank","told","calls","heads","shared","walked","term","width_of","INT","REAL","parts","enter_part","has_shared_sort","argument","arguments","head","values","shared_terms","SmtError","congruence","leaders","find","leader","class_leaders","class","is_shared","value","call","argument_key","other","late","are_equal","rows","pair","unlike_arguments","call_key","clashes_of","split_classes","check_values","clashes","equality","first","second","eq","first_pair","marks","trail","clash_level","clash","queue","news","sides","table","up","watchers","apart","uses","members","parted_by","one","close","missing","here","enter","inner","homes","look_up","home","VALUE_OPS","mark","BY_ARGUMENTS","signature","reason","add_term","spot","left","right","join","why","reasons","tell_class","large","note_clash","explain","torn","small","moved","lengths","take_off","hang","with_reason","edge","top","turn","child","chain","line","spots","back","work","edges_between","seen","after","more","place_watch","true_term","tell","watch","cause","cause_apart","n","watched","entered","undo","entry","kind","leave","unwatch","script","cells","rest","seed","cell","_law_state","state","many","figure","_law_draw","_law_any","plain","lap","fun_arg_sorts","num","c","declare_fun","free","u","v","x","y","z","g","h","p","declare_sort","U","BoolBank","_law_world","_law_is_valued","_law_shared","_law_known","known","merged","label","high","low","wish","_law_labels","is_even","by_class","_law_values","sharing","closure","propose","less","lost","_law_is_refused","row","worth","_law_rows","i","j","there","terms","_law_lacking","_law_number_in","_law_set_class","pop_levels","conflict","merge","push_level","_law_merge","_law_has_two_numbers","can","_law_begun","fresh","every","lacking","all_pairs","_law_rounds","Sharing","Congruence","law","SortFault","Bank"]
noncomputable def Sw:S:=(.q (.e (.a 33) (.b .k (.u .L (.b .k (.l (V.str 34)) (.b .k (.l (V.str 35)) (.b .k (.l (V.str 36)) (.l .adt))))) (.v 15))) (.q (.e (.a 32) (.b .k (.u .L (.b .k (.l (V.int 0)) (.b .k (.l (V.int 0)) (.b .k (.l (V.int 0)) (.l .adt))))) (.v 15))) (.q (.e (.a 31) (.b .k (.u .L (.l .adt)) (.v 15))) (.q (.e (.a 30) (.b .k (.u .L (.l .adt)) (.v 15))) (.q (.e (.a 29) (.b .k (.u .L (.l .adt)) (.v 15))) (.q (.e (.a 28) (.b .k (.l (V.int 0)) (.v 15))) (.q (.e (.a 26) (.b .k (.u .L (.b .k (.l (V.str 27)) (.l .adt))) (.v 15))) (.q (.e (.a 25) (.b .k (.u .L (.b .k (.u .T (.l .adt)) (.l .adt))) (.v 15))) (.q (.e (.a 24) (.b .k (.u .L (.b .k (.g 19) (.l .adt))) (.v 15))) (.q (.e (.a 23) (.b .k (.u .L (.b .k (.l (V.int 0)) (.l .adt))) (.v 15))) (.q (.e (.a 22) (.b .k (.u .D (.l .adt)) (.v 15))) (.q (.e (.a 20) (.b .k (.m (.v 15) 17 (.b .k (.l (V.str 21)) (.b .k (.u .T (.l .adt)) (.b .k (.g 19) (.b .k (.l (V.int 0)) (.l .adt)))))) (.v 15))) (.q (.e (.a 16) (.b .k (.m (.v 15) 17 (.b .k (.l (V.str 18)) (.b .k (.u .T (.l .adt)) (.b .k (.g 19) (.b .k (.l (V.int 0)) (.l .adt)))))) (.v 15))) .n)))))))))))))
noncomputable def Xl:S:=(.q (.e .x (.m (.u (.a 33) (.v 15)) 0 (.b .k (.v 37) (.l .adt)))) (.q (.e .x (.m (.u (.a 32) (.v 15)) 0 (.b .k (.l (V.int 0)) (.l .adt)))) (.q (.e .r (.b (.a .sub) (.u (.B 5) (.b .k (.u (.a 33) (.v 15)) (.l .adt))) (.l (V.int 1)))) .n)))
noncomputable def aaJ:S:=(.q (.e .r (.b .i (.u (.a 32) (.v 15)) (.v 38))) .n)
noncomputable def Yh:S:=(.q (.e .x (.m (.u (.a 31) (.v 15)) 0 (.b .k (.v 37) (.l .adt)))) (.q (.e .x (.m (.u (.a 30) (.v 15)) 0 (.b .k (.u (.B 9) (.b .k (.v 39) (.l .adt))) (.l .adt)))) (.q (.e .x (.m (.u (.a 29) (.v 15)) 0 (.b .k (.v 40) (.l .adt)))) (.q (.e .r (.b (.a .sub) (.u (.B 5) (.b .k (.u (.a 31) (.v 15)) (.l .adt))) (.l (V.int 1)))) .n))))
noncomputable def WB:S:=(.q (.e .r (.b .i (.u (.a 30) (.v 15)) (.v 41))) .n)
noncomputable def Ys:S:=(.q (.e .r (.b .i (.u (.a 26) (.v 15)) (.v 42))) .n)
noncomputable def Vr:S:=(.q (.e .r (.b .i (.u (.a 25) (.v 15)) (.v 42))) .n)
noncomputable def Wj:S:=(.q (.e .r (.b .i (.u (.a 24) (.v 15)) (.v 42))) .n)
noncomputable def Uy:S:=(.q (.e .r (.b .i (.u (.a 23) (.v 15)) (.v 42))) .n)
noncomputable def VZ:S:=(.q (.e (.s au [48]) (.u .T (.b .k (.v 43) (.b .k (.v 44) (.b .k (.v 45) (.b .k (.v 46) (.l .adt))))))) (.q (.e (.s au [47]) (.m (.u (.a 22) (.v 15)) 3 (.b .k (.v 48) (.b .k (.l (V.int 0)) (.l .adt))))) (.q (.i (.b (.c .eq) (.v 47) (.l (V.int 0))) (.q (.e (.s au [47]) (.u (.B 5) (.b .k (.u (.a 26) (.v 15)) (.l .adt)))) (.q (.e .x (.m (.u (.a 26) (.v 15)) 0 (.b .k (.v 43) (.l .adt)))) (.q (.e .x (.m (.u (.a 25) (.v 15)) 0 (.b .k (.v 44) (.l .adt)))) (.q (.e .x (.m (.u (.a 24) (.v 15)) 0 (.b .k (.v 45) (.l .adt)))) (.q (.e .x (.m (.u (.a 23) (.v 15)) 0 (.b .k (.v 46) (.l .adt)))) (.q (.e .i (.b .k (.v 47) (.b .k (.u (.a 22) (.v 15)) (.v 48)))) .n)))))) .n) (.q (.e .r (.v 47)) .n))))
noncomputable def aaQ:S:=(.q (.i (.b (.c .ne) (.b .i (.u (.a 24) (.v 15)) (.v 42)) (.v 38)) .bad .n) .n)
noncomputable def Zd:S:=(.q (.e .r (.m (.v 15) 50 (.b .k (.u .T (.b .k (.v 42) (.l .adt))) (.l .adt)))) .n)
noncomputable def Sb:S:=(.q (.e (.s ah [47,55]) (.u .T (.b .k (.u .L (.l .adt)) (.b .k (.u .D (.l .adt)) (.l .adt))))) (.q (.f au [52] (.v 51) (.q (.e (.s au [53]) (.u .L (.b .k (.u .T (.b .k (.v 52) (.b .k (.l (V.bool au)) (.l .adt)))) (.l .adt)))) (.q (.w (.b (.c .gt) (.u (.B 5) (.b .k (.v 53) (.l .adt))) (.l (V.int 0))) (.q (.e (.s ah [42,56]) (.m (.v 53) 2 (.l .adt))) (.q (.i (.b (.c .inn) (.v 42) (.v 55)) (.q .c .n) .n) (.q (.i (.v 56) (.q (.e .i (.b .k (.l (V.bool ah)) (.b .k (.v 55) (.v 42)))) (.q (.e .x (.m (.v 47) 0 (.b .k (.v 42) (.l .adt)))) (.q .c .n))) .n) (.q (.e .x (.m (.v 53) 0 (.b .k (.u .T (.b .k (.v 42) (.b .k (.l (V.bool ah)) (.l .adt)))) (.l .adt)))) (.q (.f au [54] (.u .V (.b .i (.u (.a 25) (.v 15)) (.v 42))) (.q (.i (.b (.c .notin) (.v 54) (.v 55)) (.q (.e .x (.m (.v 53) 0 (.b .k (.u .T (.b .k (.v 54) (.b .k (.l (V.bool au)) (.l .adt)))) (.l .adt)))) .n) .n) .n)) .n)))))) .n))) (.q (.e .r (.v 47)) .n)))
noncomputable def Ze:S:=(.q (.e .x (.m (.v 15) 60 (.b .k (.v 58) (.b .k (.b .i (.u (.a 24) (.v 15)) (.v 57)) (.b .k (.l (V.str 59)) (.l .adt)))))) (.q (.i (.b (.c .eq) (.v 57) (.v 58)) (.q (.e .r (.u (.a 20) (.v 15))) .n) .n) (.q (.e .r (.m (.v 15) 17 (.b .k (.l (V.str 59)) (.b .k (.u .T (.b .k (.u (.B 12) (.b .k (.v 57) (.b .k (.v 58) (.l .adt)))) (.b .k (.u (.B 13) (.b .k (.v 57) (.b .k (.v 58) (.l .adt)))) (.l .adt)))) (.b .k (.g 19) (.b .k (.l (V.int 0)) (.l .adt))))))) .n)))
noncomputable def Yp:S:=(.q (.e (.s au [62]) (.b .i (.u (.a 30) (.v 15)) (.v 41))) (.q (.i (.b (.c .ne) (.u (.B 5) (.b .k (.v 51) (.l .adt))) (.u (.B 5) (.b .k (.v 62) (.l .adt)))) .bad .n) (.q (.f ah [42,38] (.b .z (.v 51) (.v 62)) (.q (.e .x (.m (.v 15) 60 (.b .k (.v 42) (.b .k (.v 38) (.b .k (.b .i (.u (.a 31) (.v 15)) (.v 41)) (.l .adt)))))) .n)) (.q (.e .r (.m (.v 15) 17 (.b .k (.l (V.str 61)) (.b .k (.u (.B 9) (.b .k (.v 51) (.l .adt))) (.b .k (.b .i (.u (.a 29) (.v 15)) (.v 41)) (.b .k (.v 41) (.l .adt))))))) .n))))
noncomputable def Tx:S:=(.q (.e (.a 63) (.b .k (.v 63) (.v 15))) (.q (.e (.a 68) (.b .k (.u .D (.l .adt)) (.v 15))) (.q (.e (.a 67) (.b .k (.u .D (.l .adt)) (.v 15))) (.q (.e (.a 66) (.b .k (.u .L (.l .adt)) (.v 15))) (.q (.e (.a 65) (.b .k (.u .D (.l .adt)) (.v 15))) (.q (.e (.a 64) (.b .k (.u .D (.l .adt)) (.v 15))) .n))))))
noncomputable def aat:S:=(.q (.e (.s au [45]) (.m (.u (.a 63) (.v 15)) 45 (.b .k (.v 69) (.l .adt)))) (.q (.i (.O (.b (.c .eq) (.v 45) (.g 71)) (.b (.c .eq) (.v 45) (.g 72))) (.q (.e .r (.l (V.bool ah))) .n) .n) (.q (.e .r (.b (.c .gt) (.m (.u (.a 63) (.v 15)) 70 (.b .k (.v 45) (.l .adt))) (.l (V.int 0)))) .n)))
noncomputable def RP:S:=(.q (.i (.b (.c .inn) (.v 69) (.u (.a 68) (.v 15))) (.q (.e .r (.l V.none)) .n) .n) (.q (.f au [54] (.m (.u (.a 63) (.v 15)) 73 (.b .k (.v 69) (.l .adt))) (.q (.i (.b (.c .notin) (.v 54) (.u (.a 68) (.v 15))) (.q (.e .i (.b .k (.l (V.bool ah)) (.b .k (.u (.a 68) (.v 15)) (.v 54)))) (.q (.e .x (.m (.v 15) 74 (.b .k (.v 54) (.l .adt)))) .n)) .n) .n)) .n))
noncomputable def TL:S:=(.q (.i (.b (.c .ne) (.m (.u (.a 63) (.v 15)) 43 (.b .k (.v 54) (.l .adt))) (.l (V.str 61))) (.q (.e .r (.l V.none)) .n) .n) (.q (.e (.s au [77]) (.m (.u (.a 63) (.v 15)) 44 (.b .k (.v 54) (.l .adt)))) (.q (.i (.b (.c .eq) (.u (.B 5) (.b .k (.v 77) (.l .adt))) (.l (V.int 0))) (.q (.e .r (.l V.none)) .n) .n) (.q (.e (.s au [78]) (.m (.u (.a 63) (.v 15)) 46 (.b .k (.v 54) (.l .adt)))) (.q (.i (.b (.c .notin) (.v 78) (.u (.a 65) (.v 15))) (.q (.e .x (.m (.u (.a 66) (.v 15)) 0 (.b .k (.v 78) (.l .adt)))) (.q (.e .i (.b .k (.u .L (.l .adt)) (.b .k (.u (.a 65) (.v 15)) (.v 78)))) .n)) .n) (.q (.e .x (.m (.b .i (.u (.a 65) (.v 15)) (.v 78)) 0 (.b .k (.v 54) (.l .adt)))) (.q (.f au [76] (.v 77) (.q (.i (.m (.v 15) 75 (.b .k (.v 76) (.l .adt))) (.q (.e .i (.b .k (.l (V.bool ah)) (.b .k (.u (.a 67) (.v 15)) (.v 76)))) .n) .n) .n)) (.q (.i (.m (.v 15) 75 (.b .k (.v 54) (.l .adt))) (.q (.e .i (.b .k (.l (V.bool ah)) (.b .k (.u (.a 67) (.v 15)) (.v 54)))) .n) .n) .n))))))))
noncomputable def Xb:S:=(.q (.e .r (.b (.c .inn) (.v 69) (.u (.a 67) (.v 15)))) .n)
noncomputable def VE:S:=(.q (.e .r (.u (.B 6) (.b .k (.u (.a 67) (.v 15)) (.l .adt)))) .n)
noncomputable def WH:S:=(.q (.f au [69] (.m (.v 15) 80 (.l .adt)) (.q (.i (.b (.c .notin) (.v 69) (.v 79)) (.q (.R 81 69) .n) .n) .n)) .n)
noncomputable def Yq:S:=(.q (.e (.s au [83]) (.u .D (.l .adt))) (.q (.f au [69] (.m (.v 15) 80 (.l .adt)) (.q (.e (.s au [52]) (.m (.v 82) 84 (.b .k (.v 69) (.l .adt)))) (.q (.i (.b (.c .notin) (.v 52) (.v 83)) (.q (.e .i (.b .k (.v 69) (.b .k (.v 83) (.v 52)))) .n) .n) .n))) (.q (.e .r (.v 83)) .n)))
noncomputable def Uv:S:=(.q (.e (.s ah [83,47]) (.u .T (.b .k (.m (.v 15) 86 (.b .k (.v 82) (.l .adt))) (.b .k (.u .L (.l .adt)) (.l .adt))))) (.q (.f au [69] (.m (.v 15) 80 (.l .adt)) (.q (.e (.s au [85]) (.b .i (.v 83) (.m (.v 82) 84 (.b .k (.v 69) (.l .adt))))) (.q (.i (.b (.c .ne) (.b .i (.v 79) (.v 85)) (.b .i (.v 79) (.v 69))) (.q (.e .x (.m (.v 47) 0 (.b .k (.u .T (.b .k (.v 85) (.b .k (.v 69) (.l .adt)))) (.l .adt)))) .n) .n) .n))) (.q (.e .r (.v 47)) .n)))
noncomputable def Ye:S:=(.q (.e (.s au [52]) (.m (.v 82) 84 (.b .k (.v 76) (.l .adt)))) (.q (.i (.m (.v 15) 88 (.b .k (.v 76) (.l .adt))) (.q (.e .r (.u .T (.b .k (.l (V.str 89)) (.b .k (.m (.u (.a 63) (.v 15)) 45 (.b .k (.v 76) (.l .adt))) (.b .k (.b .i (.v 79) (.b .i (.v 83) (.v 52))) (.l .adt)))))) .n) .n) (.q (.e .r (.u .T (.b .k (.l (V.str 87)) (.b .k (.v 52) (.b .k (.l (V.int 0)) (.l .adt)))))) .n)))
noncomputable def X4:S:=(.q (.e (.s au [48]) (.u .L (.l .adt))) (.q (.f au [76] (.m (.u (.a 63) (.v 15)) 44 (.b .k (.v 90) (.l .adt))) (.q (.e .x (.m (.v 48) 0 (.b .k (.m (.v 15) 91 (.b .k (.v 76) (.b .k (.v 79) (.b .k (.v 83) (.b .k (.v 82) (.l .adt)))))) (.l .adt)))) .n)) (.q (.e .r (.u (.B 9) (.b .k (.v 48) (.l .adt)))) .n)))
noncomputable def Rf:S:=(.q (.f ah [76,93] (.b .z (.m (.u (.a 63) (.v 15)) 44 (.b .k (.v 90) (.l .adt))) (.m (.u (.a 63) (.v 15)) 44 (.b .k (.v 92) (.l .adt)))) (.q (.i (.u .n (.m (.v 82) 94 (.b .k (.v 76) (.b .k (.v 93) (.l .adt))))) (.q (.e .r (.u .T (.b .k (.b .i (.v 83) (.m (.v 82) 84 (.b .k (.v 76) (.l .adt)))) (.b .k (.b .i (.v 83) (.m (.v 82) 84 (.b .k (.v 93) (.l .adt)))) (.l .adt))))) .n) .n) .n)) (.q (.e .r (.l V.none)) .n))
noncomputable def QN:S:=(.q (.e (.s ah [95,47]) (.u .T (.b .k (.u .D (.l .adt)) (.b .k (.u .L (.l .adt)) (.l .adt))))) (.q (.f au [90] (.b .i (.u (.a 65) (.v 15)) (.v 78)) (.q (.e (.s au [48]) (.m (.v 15) 98 (.b .k (.v 90) (.b .k (.v 79) (.b .k (.v 83) (.b .k (.v 82) (.l .adt))))))) (.q (.i (.b (.c .notin) (.v 48) (.v 95)) (.q (.e .i (.b .k (.v 90) (.b .k (.v 95) (.v 48)))) .n) (.q (.i (.u .n (.m (.v 82) 94 (.b .k (.b .i (.v 95) (.v 48)) (.b .k (.v 90) (.l .adt))))) (.q (.e (.s au [96]) (.m (.v 15) 97 (.b .k (.b .i (.v 95) (.v 48)) (.b .k (.v 90) (.b .k (.v 83) (.b .k (.v 82) (.l .adt))))))) (.q (.i (.b (.c .adz) (.v 96) (.l V.none)) .bad .n) (.q (.e .x (.m (.v 47) 0 (.b .k (.v 96) (.l .adt)))) .n))) .n) .n)) .n))) (.q (.e .r (.v 47)) .n)))
noncomputable def TQ:S:=(.q (.e .x (.m (.v 15) 101 (.b .k (.v 79) (.l .adt)))) (.q (.e (.s au [47]) (.m (.v 15) 100 (.b .k (.v 79) (.b .k (.v 82) (.l .adt))))) (.q (.i (.b (.c .gt) (.u (.B 5) (.b .k (.v 47) (.l .adt))) (.l (V.int 0))) (.q (.e .r (.v 47)) .n) .n) (.q (.e (.s au [83]) (.m (.v 15) 86 (.b .k (.v 82) (.l .adt)))) (.q (.f au [78] (.u (.a 66) (.v 15)) (.q (.f au [96] (.m (.v 15) 99 (.b .k (.v 78) (.b .k (.v 79) (.b .k (.v 83) (.b .k (.v 82) (.l .adt)))))) (.q (.e .x (.m (.v 47) 0 (.b .k (.v 96) (.l .adt)))) .n)) .n)) (.q (.e .r (.v 47)) .n))))))
noncomputable def Sv:S:=(.q (.e .x (.m (.v 15) 101 (.b .k (.v 79) (.l .adt)))) (.q (.e (.s au [47]) (.m (.v 15) 100 (.b .k (.v 79) (.b .k (.v 82) (.l .adt))))) (.q (.i (.b (.c .gt) (.u (.B 5) (.b .k (.v 47) (.l .adt))) (.l (V.int 0))) (.q (.e .r (.b .i (.v 47) (.l (V.int 0)))) .n) .n) (.q (.e (.s au [83]) (.m (.v 15) 86 (.b .k (.v 82) (.l .adt)))) (.q (.f au [78] (.u (.a 66) (.v 15)) (.q (.e (.s au [102]) (.m (.v 15) 99 (.b .k (.v 78) (.b .k (.v 79) (.b .k (.v 83) (.b .k (.v 82) (.l .adt))))))) (.q (.i (.b (.c .gt) (.u (.B 5) (.b .k (.v 102) (.l .adt))) (.l (V.int 0))) (.q (.e .r (.b .i (.v 102) (.l (V.int 0)))) .n) .n) .n))) (.q (.e .r (.l V.none)) .n))))))
noncomputable def Yu:S:=(.q (.e (.s au [96]) (.m (.v 15) 107 (.b .k (.v 79) (.b .k (.v 82) (.l .adt))))) (.q (.i (.b (.c .adz) (.v 96) (.l V.none)) (.q (.e .r (.l V.none)) .n) .n) (.q (.e (.s ah [104,105]) (.u .T (.b .k (.u (.B 12) (.b .k (.b .i (.v 96) (.l (V.int 0))) (.b .k (.b .i (.v 96) (.l (V.int 1))) (.l .adt)))) (.b .k (.u (.B 13) (.b .k (.b .i (.v 96) (.l (V.int 0))) (.b .k (.b .i (.v 96) (.l (V.int 1))) (.l .adt)))) (.l .adt))))) (.q (.i (.b (.c .inn) (.u .T (.b .k (.v 104) (.b .k (.v 105) (.l .adt)))) (.u (.a 64) (.v 15))) .bad .n) (.q (.e (.s au [103]) (.m (.u (.a 63) (.v 15)) 106 (.b .k (.v 104) (.b .k (.v 105) (.l .adt))))) (.q (.e .i (.b .k (.v 103) (.b .k (.u (.a 64) (.v 15)) (.u .T (.b .k (.v 104) (.b .k (.v 105) (.l .adt))))))) (.q (.e .r (.v 103)) .n)))))))
noncomputable def XJ:S:=(.q (.e (.a 63) (.b .k (.v 63) (.v 15))) (.q (.e (.a 52) (.b .k (.u .D (.l .adt)) (.v 15))) (.q (.e (.a 120) (.b .k (.u .D (.l .adt)) (.v 15))) (.q (.e (.a 119) (.b .k (.u .D (.l .adt)) (.v 15))) (.q (.e (.a 89) (.b .k (.u .D (.l .adt)) (.v 15))) (.q (.e (.a 118) (.b .k (.u .D (.l .adt)) (.v 15))) (.q (.e (.a 117) (.b .k (.u .D (.l .adt)) (.v 15))) (.q (.e (.a 116) (.b .k (.u .D (.l .adt)) (.v 15))) (.q (.e (.a 115) (.b .k (.u .D (.l .adt)) (.v 15))) (.q (.e (.a 114) (.b .k (.u .D (.l .adt)) (.v 15))) (.q (.e (.a 64) (.b .k (.u .D (.l .adt)) (.v 15))) (.q (.e (.a 113) (.b .k (.u .L (.l .adt)) (.v 15))) (.q (.e (.a 112) (.b .k (.u .L (.l .adt)) (.v 15))) (.q (.e (.a 111) (.b .k (.l V.none) (.v 15))) (.q (.e (.a 110) (.b .k (.l (V.int 0)) (.v 15))) (.q (.e (.a 109) (.b .k (.u .L (.l .adt)) (.v 15))) (.q (.e (.a 108) (.b .k (.u .L (.l .adt)) (.v 15))) .n)))))))))))))))))
noncomputable def VP:S:=(.q (.e .r (.b .i (.u (.a 52) (.v 15)) (.v 42))) .n)
noncomputable def U_:S:=(.q (.e .r (.b (.c .eq) (.b .i (.u (.a 52) (.v 15)) (.v 57)) (.b .i (.u (.a 52) (.v 15)) (.v 58)))) .n)
noncomputable def YB:S:=(.q (.e .r (.t (.b (.c .adz) (.u (.a 111) (.v 15)) (.l V.none)) (.l V.none) (.u (.B 10) (.b .k (.u (.a 111) (.v 15)) (.l .adt))))) .n)
noncomputable def UV:S:=(.q (.i (.b (.c .eq) (.m (.u (.a 63) (.v 15)) 43 (.b .k (.v 42) (.l .adt))) (.l (V.str 61))) (.q (.e .r (.m (.u (.a 63) (.v 15)) 44 (.b .k (.v 42) (.l .adt)))) .n) .n) (.q (.e .r (.u .T (.l .adt))) .n))
noncomputable def Uo:S:=(.q (.e (.s au [53]) (.u .L (.b .k (.v 42) (.l .adt)))) (.q (.w (.b (.c .gt) (.u (.B 5) (.b .k (.v 53) (.l .adt))) (.l (V.int 0))) (.q (.e (.s au [125]) (.b .i (.v 53) (.l (V.int (-1))))) (.q (.e (.s au [124]) (.u .L (.l .adt))) (.q (.i (.b (.c .notin) (.v 125) (.u (.a 52) (.v 15))) (.q (.e (.s au [124]) (.C (.v 54) au [54] (.m (.v 15) 127 (.b .k (.v 125) (.l .adt))) (.b (.c .notin) (.v 54) (.u (.a 52) (.v 15))))) .n) .n) (.q (.i (.b (.c .gt) (.u (.B 5) (.b .k (.v 124) (.l .adt))) (.l (V.int 0))) (.q (.e .x (.m (.v 53) 1 (.b .k (.v 124) (.l .adt)))) .n) (.q (.e .x (.m (.v 53) 2 (.l .adt))) (.q (.i (.b (.c .notin) (.v 125) (.u (.a 52) (.v 15))) (.q (.e .x (.m (.v 15) 126 (.b .k (.v 125) (.l .adt)))) .n) .n) .n))) .n))))) (.q (.e .x (.m (.v 15) 123 (.l .adt))) .n)))
noncomputable def Sg:S:=(.q (.e .i (.b .k (.v 42) (.b .k (.u (.a 52) (.v 15)) (.v 42)))) (.q (.e .i (.b .k (.u .L (.b .k (.v 42) (.l .adt))) (.b .k (.u (.a 120) (.v 15)) (.v 42)))) (.q (.e .i (.b .k (.u .L (.l .adt)) (.b .k (.u (.a 119) (.v 15)) (.v 42)))) (.q (.e .i (.b .k (.u .L (.l .adt)) (.b .k (.u (.a 118) (.v 15)) (.v 42)))) (.q (.e .i (.b .k (.u .L (.l .adt)) (.b .k (.u (.a 117) (.v 15)) (.v 42)))) (.q (.e .i (.b .k (.t (.b (.c .inn) (.m (.u (.a 63) (.v 15)) 43 (.b .k (.v 42) (.l .adt))) (.g 131)) (.v 42) (.l (V.int 0))) (.b .k (.u (.a 89) (.v 15)) (.v 42)))) (.q (.e (.s au [128]) (.C (.b .i (.u (.a 52) (.v 15)) (.v 54)) au [54] (.m (.v 15) 127 (.b .k (.v 42) (.l .adt))) (.l (V.bool ah)))) (.q (.f au [130] (.v 128) (.q (.e .x (.m (.b .i (.u (.a 119) (.v 15)) (.v 130)) 0 (.b .k (.v 42) (.l .adt)))) .n)) (.q (.e .x (.m (.u (.a 109) (.v 15)) 0 (.b .k (.u .T (.b .k (.l (V.str 126)) (.b .k (.v 42) (.b .k (.v 128) (.l .adt))))) (.l .adt)))) (.q (.i (.b (.c .gt) (.u (.B 5) (.b .k (.v 128) (.l .adt))) (.l (V.int 0))) (.q (.e .x (.m (.v 15) 129 (.b .k (.v 42) (.l .adt)))) .n) .n) .n))))))))))
noncomputable def S9:S:=(.q (.e .r (.b (.a .add) (.u .T (.b .k (.m (.u (.a 63) (.v 15)) 46 (.b .k (.v 42) (.l .adt))) (.l .adt))) (.u (.B 9) (.b .k (.C (.b .i (.u (.a 52) (.v 15)) (.v 54)) au [54] (.m (.u (.a 63) (.v 15)) 44 (.b .k (.v 42) (.l .adt))) (.l (V.bool ah))) (.l .adt))))) .n)
noncomputable def YV:S:=(.q (.e (.s au [132]) (.m (.v 15) 134 (.b .k (.v 42) (.l .adt)))) (.q (.e (.s au [92]) (.m (.u (.a 115) (.v 15)) 3 (.b .k (.v 132) (.l .adt)))) (.q (.i (.b (.c .adz) (.v 92) (.l V.none)) (.q (.e .x (.m (.u (.a 109) (.v 15)) 0 (.b .k (.u .T (.b .k (.l (V.str 115)) (.b .k (.v 132) (.b .k (.l V.none) (.l .adt))))) (.l .adt)))) (.q (.e .i (.b .k (.v 42) (.b .k (.u (.a 115) (.v 15)) (.v 132)))) .n)) (.q (.i (.b (.c .ne) (.b .i (.u (.a 52) (.v 15)) (.v 92)) (.b .i (.u (.a 52) (.v 15)) (.v 42))) (.q (.e .x (.m (.u (.a 112) (.v 15)) 0 (.b .k (.u .T (.b .k (.v 42) (.b .k (.v 92) (.b .k (.g 133) (.l .adt))))) (.l .adt)))) .n) .n) .n)) .n)))
noncomputable def Zh:S:=(.q (.e .x (.m (.v 15) 136 (.b .k (.v 57) (.l .adt)))) (.q (.e .x (.m (.v 15) 136 (.b .k (.v 58) (.l .adt)))) (.q (.e .x (.m (.u (.a 112) (.v 15)) 0 (.b .k (.u .T (.b .k (.v 57) (.b .k (.v 58) (.b .k (.v 135) (.l .adt))))) (.l .adt)))) (.q (.e .x (.m (.v 15) 123 (.l .adt))) .n))))
noncomputable def YC:S:=(.q (.e (.s au [137]) (.l (V.int 0))) (.q (.w (.A (.b (.c .lt) (.v 137) (.u (.B 5) (.b .k (.u (.a 112) (.v 15)) (.l .adt)))) (.b (.c .adz) (.u (.a 111) (.v 15)) (.l V.none))) (.q (.e (.s ah [138,139,141]) (.b .i (.u (.a 112) (.v 15)) (.v 137))) (.q (.e (.s au [137]) (.b (.a .add) (.v 137) (.l (V.int 1)))) (.q (.i (.b (.c .ne) (.b .i (.u (.a 52) (.v 15)) (.v 138)) (.b .i (.u (.a 52) (.v 15)) (.v 139))) (.q (.e .x (.m (.v 15) 140 (.b .k (.v 138) (.b .k (.v 139) (.b .k (.v 141) (.l .adt)))))) .n) .n) .n)))) (.q (.e (.a 112) (.b .k (.u .L (.l .adt)) (.v 15))) .n)))
noncomputable def aap:S:=(.q (.i (.b (.c .gt) (.u (.B 5) (.b .k (.b .i (.u (.a 120) (.v 15)) (.b .i (.u (.a 52) (.v 15)) (.v 138))) (.l .adt))) (.u (.B 5) (.b .k (.b .i (.u (.a 120) (.v 15)) (.b .i (.u (.a 52) (.v 15)) (.v 139))) (.l .adt)))) (.q (.e (.s ah [138,139]) (.u .T (.b .k (.v 139) (.b .k (.v 138) (.l .adt))))) .n) .n) (.q (.e (.s ah [148,144]) (.u .T (.b .k (.b .i (.u (.a 52) (.v 15)) (.v 138)) (.b .k (.b .i (.u (.a 52) (.v 15)) (.v 139)) (.l .adt))))) (.q (.e .x (.m (.v 15) 152 (.b .k (.v 138) (.b .k (.v 139) (.b .k (.v 141) (.l .adt)))))) (.q (.e (.s au [149]) (.u (.B 10) (.b .k (.b .i (.u (.a 119) (.v 15)) (.v 148)) (.l .adt)))) (.q (.f au [42] (.v 149) (.q (.e .x (.m (.v 15) 151 (.b .k (.v 42) (.l .adt)))) .n)) (.q (.e .x (.m (.u (.a 109) (.v 15)) 0 (.b .k (.u .T (.b .k (.l (V.str 140)) (.b .k (.v 148) (.b .k (.v 144) (.b .k (.m (.v 15) 150 (.b .k (.v 144) (.l .adt))) (.b .k (.b .i (.u (.a 89) (.v 15)) (.v 144)) (.l .adt))))))) (.l .adt)))) (.q (.f au [42] (.b .i (.u (.a 120) (.v 15)) (.v 148)) (.q (.e .i (.b .k (.v 144) (.b .k (.u (.a 52) (.v 15)) (.v 42)))) .n)) (.q (.e .x (.m (.b .i (.u (.a 120) (.v 15)) (.v 144)) 1 (.b .k (.b .i (.u (.a 120) (.v 15)) (.v 148)) (.l .adt)))) (.q (.e .x (.m (.b .i (.u (.a 119) (.v 15)) (.v 144)) 1 (.b .k (.b .i (.u (.a 119) (.v 15)) (.v 148)) (.l .adt)))) (.q (.e .x (.m (.b .i (.u (.a 118) (.v 15)) (.v 144)) 1 (.b .k (.b .i (.u (.a 118) (.v 15)) (.v 148)) (.l .adt)))) (.q (.e .x (.m (.b .i (.u (.a 117) (.v 15)) (.v 144)) 1 (.b .k (.b .i (.u (.a 117) (.v 15)) (.v 148)) (.l .adt)))) (.q (.e (.s ah [104,105]) (.u .T (.b .k (.b .i (.u (.a 89) (.v 15)) (.v 148)) (.b .k (.b .i (.u (.a 89) (.v 15)) (.v 144)) (.l .adt))))) (.q (.i (.b (.c .eq) (.v 105) (.l (V.int 0))) (.q (.e .i (.b .k (.v 104) (.b .k (.u (.a 89) (.v 15)) (.v 144)))) .n) .n) (.q (.f au [42] (.v 149) (.q (.e .x (.m (.v 15) 129 (.b .k (.v 42) (.l .adt)))) .n)) (.q (.e (.s au [142]) (.t (.A (.b (.c .ne) (.v 104) (.l (V.int 0))) (.b (.c .ne) (.v 105) (.l (V.int 0)))) (.m (.v 15) 146 (.b .k (.v 104) (.b .k (.v 105) (.l .adt)))) (.m (.v 15) 147 (.b .k (.v 148) (.l .adt))))) (.q (.i (.b (.c .adz) (.v 142) (.l V.none)) (.q (.e .x (.m (.v 15) 143 (.b .k (.v 144) (.l .adt)))) .n) (.q (.e .x (.m (.v 15) 145 (.b .k (.v 142) (.l .adt)))) .n)) .n))))))))))))))))
noncomputable def S2:S:=(.q (.e (.a 111) (.b .k (.v 142) (.v 15))) (.q (.e (.a 110) (.b .k (.u (.B 5) (.b .k (.u (.a 108) (.v 15)) (.l .adt))) (.v 15))) .n))
noncomputable def SQ:S:=(.q (.e .r (.u .T (.b .k (.u (.B 5) (.b .k (.b .i (.u (.a 120) (.v 15)) (.v 130)) (.l .adt))) (.b .k (.u (.B 5) (.b .k (.b .i (.u (.a 119) (.v 15)) (.v 130)) (.l .adt))) (.b .k (.u (.B 5) (.b .k (.b .i (.u (.a 118) (.v 15)) (.v 130)) (.l .adt))) (.b .k (.u (.B 5) (.b .k (.b .i (.u (.a 117) (.v 15)) (.v 130)) (.l .adt))) (.l .adt))))))) .n)
noncomputable def Us:S:=(.q (.e (.s au [132]) (.m (.v 15) 134 (.b .k (.v 42) (.l .adt)))) (.q (.i (.b (.c .eq) (.m (.u (.a 115) (.v 15)) 3 (.b .k (.v 132) (.l .adt))) (.v 42)) (.q (.e .x (.m (.u (.a 109) (.v 15)) 0 (.b .k (.u .T (.b .k (.l (V.str 115)) (.b .k (.v 132) (.b .k (.v 42) (.l .adt))))) (.l .adt)))) (.q (.e .d (.b .k (.u (.a 115) (.v 15)) (.v 132))) .n)) .n) .n))
noncomputable def T9:S:=(.q (.f ah [138,139,135] (.b .i (.u (.a 118) (.v 15)) (.v 148)) .bad) (.q (.e .r (.l V.none)) .n))
noncomputable def T6:S:=(.q (.e (.s au [155]) (.m (.v 15) 156 (.b .k (.v 138) (.l .adt)))) (.q (.e .i (.b .k (.u .T (.b .k (.v 139) (.b .k (.v 141) (.l .adt)))) (.b .k (.u (.a 116) (.v 15)) (.v 138)))) (.q (.e .x (.m (.u (.a 109) (.v 15)) 0 (.b .k (.u .T (.b .k (.l (V.str 154)) (.b .k (.v 138) (.b .k (.v 155) (.l .adt))))) (.l .adt)))) .n)))
noncomputable def XM:S:=(.q (.e (.s ah [158,125]) (.u .T (.b .k (.u .L (.l .adt)) (.b .k (.v 42) (.l .adt))))) (.q (.w (.b (.c .inn) (.v 125) (.u (.a 116) (.v 15))) (.q (.e (.s au [154]) (.b .i (.u (.a 116) (.v 15)) (.v 125))) (.q (.e .x (.m (.v 158) 0 (.b .k (.u .T (.b .k (.v 125) (.b .k (.v 154) (.l .adt)))) (.l .adt)))) (.q (.e (.s au [125]) (.b .i (.v 154) (.l (V.int 0)))) .n)))) (.q (.f ah [157,154] (.v 158) (.q (.e .d (.b .k (.u (.a 116) (.v 15)) (.v 157))) .n)) (.q (.f ah [157,154] (.v 158) (.q (.e .i (.b .k (.u .T (.b .k (.v 157) (.b .k (.b .i (.v 154) (.l (V.int 1))) (.l .adt)))) (.b .k (.u (.a 116) (.v 15)) (.b .i (.v 154) (.l (V.int 0)))))) .n)) (.q (.e .r (.v 125)) .n)))))
noncomputable def ZW:S:=(.q (.e (.s ah [159,160,125]) (.u .T (.b .k (.u .L (.b .k (.v 57) (.l .adt))) (.b .k (.u .D (.b .k (.v 57) (.b .k (.l (V.int 0)) (.l .adt)))) (.b .k (.v 57) (.l .adt)))))) (.q (.w (.b (.c .inn) (.v 125) (.u (.a 116) (.v 15))) (.q (.e (.s au [125]) (.b .i (.b .i (.u (.a 116) (.v 15)) (.v 125)) (.l (V.int 0)))) (.q (.e .i (.b .k (.u (.B 5) (.b .k (.v 159) (.l .adt))) (.b .k (.v 160) (.v 125)))) (.q (.e .x (.m (.v 159) 0 (.b .k (.v 125) (.l .adt)))) .n)))) (.q (.e (.s ah [161,125]) (.u .T (.b .k (.u .L (.l .adt)) (.b .k (.v 58) (.l .adt))))) (.q (.w (.b (.c .notin) (.v 125) (.v 160)) (.q (.e .x (.m (.v 161) 0 (.b .k (.v 125) (.l .adt)))) (.q (.e (.s au [125]) (.b .i (.b .i (.u (.a 116) (.v 15)) (.v 125)) (.l (V.int 0)))) .n))) (.q (.e .r (.b (.a .add) (.b .s (.v 159) (.b .i (.v 160) (.v 125))) (.v 161))) .n)))))
noncomputable def WA:S:=(.q (.i (.b (.c .ne) (.b .i (.u (.a 52) (.v 15)) (.v 57)) (.b .i (.u (.a 52) (.v 15)) (.v 58))) .bad .n) (.q (.e (.s ah [162,164,47]) (.u .T (.b .k (.u .L (.b .k (.u .T (.b .k (.v 57) (.b .k (.v 58) (.l .adt)))) (.l .adt))) (.b .k (.u .D (.l .adt)) (.b .k (.u .D (.l .adt)) (.l .adt)))))) (.q (.w (.b (.c .gt) (.u (.B 5) (.b .k (.v 162) (.l .adt))) (.l (V.int 0))) (.q (.e (.s ah [122,92]) (.m (.v 162) 2 (.l .adt))) (.q (.f au [157] (.m (.v 15) 163 (.b .k (.v 122) (.b .k (.v 92) (.l .adt)))) (.q (.i (.b (.c .notin) (.v 157) (.v 164)) (.q (.e .i (.b .k (.l (V.bool ah)) (.b .k (.v 164) (.v 157)))) (.q (.e (.s ah [165,141]) (.b .i (.u (.a 116) (.v 15)) (.v 157))) (.q (.i (.b (.c .eq) (.v 141) (.g 133)) (.q (.e .x (.m (.v 162) 1 (.b .k (.b .z (.m (.u (.a 63) (.v 15)) 44 (.b .k (.v 157) (.l .adt))) (.m (.u (.a 63) (.v 15)) 44 (.b .k (.v 165) (.l .adt)))) (.l .adt)))) .n) (.q (.i (.b (.c .ne) (.v 141) (.l (V.int 0))) (.q (.e .i (.b .k (.l (V.bool ah)) (.b .k (.v 47) (.v 141)))) .n) .n) .n)) .n))) .n) .n)) .n))) (.q (.e .r (.u (.B 6) (.b .k (.u (.B 10) (.b .k (.v 47) (.l .adt))) (.l .adt)))) .n))))
noncomputable def UG:S:=(.q (.f au [42] (.b .i (.u (.a 117) (.v 15)) (.v 130)) .bad) .n)
noncomputable def Zy:S:=(.q (.e .x (.m (.u (.a 108) (.v 15)) 0 (.b .k (.u (.B 5) (.b .k (.u (.a 109) (.v 15)) (.l .adt))) (.l .adt)))) .n)
noncomputable def UA:S:=(.q (.i (.b (.c .le) (.v 173) (.l (V.int 0))) (.q (.e .r (.l V.none)) .n) .n) (.q (.e (.s au [137]) (.b .i (.u (.a 108) (.v 15)) (.b (.a .sub) (.u (.B 5) (.b .k (.u (.a 108) (.v 15)) (.l .adt))) (.v 173)))) (.q (.e (.a 108) (.b .k (.b .s (.u (.a 108) (.v 15)) (.b (.a .sub) (.u (.B 5) (.b .k (.u (.a 108) (.v 15)) (.l .adt))) (.v 173))) (.v 15))) (.q (.e (.s ah [175,174]) (.u .T (.b .k (.u .L (.l .adt)) (.b .k (.u .L (.l .adt)) (.l .adt))))) (.q (.w (.b (.c .gt) (.u (.B 5) (.b .k (.u (.a 109) (.v 15)) (.l .adt))) (.v 137)) (.q (.e .x (.m (.v 15) 176 (.b .k (.m (.u (.a 109) (.v 15)) 2 (.l .adt)) (.b .k (.v 175) (.b .k (.v 174) (.l .adt)))))) .n)) (.q (.e (.a 112) (.b .k (.u .L (.l .adt)) (.v 15))) (.q (.i (.A (.b (.c .notN) (.u (.a 111) (.v 15)) (.l V.none)) (.b (.c .lt) (.u (.B 5) (.b .k (.u (.a 108) (.v 15)) (.l .adt))) (.u (.a 110) (.v 15)))) (.q (.e (.a 111) (.b .k (.l V.none) (.v 15))) .n) .n) (.q (.e (.a 113) (.b .k (.C (.v 42) au [42] (.u (.a 113) (.v 15)) (.b (.c .inn) (.v 42) (.u (.a 64) (.v 15)))) (.v 15))) (.q (.f au [42] (.u .r (.v 175)) .bad) (.q (.e .x (.m (.v 15) 123 (.l .adt))) (.q (.f ah [42,138,139] (.u .r (.v 174)) .bad) .n)))))))))))
noncomputable def Wp:S:=(.q (.e (.s au [178]) (.b .i (.v 177) (.l (V.int 0)))) (.q (.i (.b (.c .eq) (.v 178) (.l (V.str 126))) .bad (.q (.i (.b (.c .eq) (.v 178) (.l (V.str 115))) (.q (.i (.b (.c .adz) (.b .i (.v 177) (.l (V.int 2))) (.l V.none)) (.q (.e .d (.b .k (.u (.a 115) (.v 15)) (.b .i (.v 177) (.l (V.int 1))))) .n) (.q (.e .i (.b .k (.b .i (.v 177) (.l (V.int 2))) (.b .k (.u (.a 115) (.v 15)) (.b .i (.v 177) (.l (V.int 1)))))) .n)) .n) (.q (.i (.b (.c .eq) (.v 178) (.l (V.str 140))) (.q (.e .x (.m (.v 15) 54 (.b .k (.b .i (.v 177) (.l (V.int 1))) (.b .k (.b .i (.v 177) (.l (V.int 2))) (.b .k (.b .i (.v 177) (.l (V.int 3))) (.b .k (.b .i (.v 177) (.l (V.int 4))) (.l .adt))))))) .n) (.q (.i (.b (.c .eq) (.v 178) (.l (V.str 154))) (.q (.e .d (.b .k (.u (.a 116) (.v 15)) (.b .i (.v 177) (.l (V.int 1))))) (.q (.e .x (.m (.v 15) 156 (.b .k (.b .i (.v 177) (.l (V.int 2))) (.l .adt)))) .n)) (.q (.i (.b (.c .eq) (.v 178) (.l (V.str 118))) .bad (.q (.i (.b (.c .eq) (.v 178) (.l (V.str 170))) .bad .bad) .n)) .n)) .n)) .n)) .n)) .n))
noncomputable def aaD:S:=(.q (.e .i (.b .k (.b .s (.b .i (.u (.a 120) (.v 15)) (.v 144)) (.b .i (.v 150) (.l (V.int 0)))) (.b .k (.u (.a 120) (.v 15)) (.v 144)))) (.q (.e .i (.b .k (.b .s (.b .i (.u (.a 119) (.v 15)) (.v 144)) (.b .i (.v 150) (.l (V.int 1)))) (.b .k (.u (.a 119) (.v 15)) (.v 144)))) (.q (.e .i (.b .k (.b .s (.b .i (.u (.a 118) (.v 15)) (.v 144)) (.b .i (.v 150) (.l (V.int 2)))) (.b .k (.u (.a 118) (.v 15)) (.v 144)))) (.q (.e .i (.b .k (.b .s (.b .i (.u (.a 117) (.v 15)) (.v 144)) (.b .i (.v 150) (.l (V.int 3)))) (.b .k (.u (.a 117) (.v 15)) (.v 144)))) (.q (.e .i (.b .k (.v 89) (.b .k (.u (.a 89) (.v 15)) (.v 144)))) (.q (.f au [42] (.b .i (.u (.a 120) (.v 15)) (.v 148)) (.q (.e .i (.b .k (.v 148) (.b .k (.u (.a 52) (.v 15)) (.v 42)))) .n)) .n))))))
noncomputable def Xx:S:=(.q (.e (.s au [182]) (.C (.u (.B 8) (.b .k (.v 185) (.l .adt))) au [185] (.b .s (.v 181) (.l (V.int 24))) (.l (V.bool ah)))) (.q (.e .r (.u .K (.b .k (.l (V.str 182)) (.b .k (.v 182) (.b .k (.l (V.str 183)) (.b .k (.l (V.int 0)) (.b .k (.l (V.str 156)) (.b .k (.l (V.int 0)) (.b .k (.l (V.str 184)) (.b .k (.u (.B 7) (.b .k (.C (.b (.a .mod) (.v 185) (.l (V.int 9973))) au [185] (.v 182) (.l (V.bool ah))) (.l .adt))) (.l .adt))))))))))) .n))
noncomputable def Q1:S:=(.q (.e .i (.b .k (.b (.a .add) (.b .i (.v 187) (.l (V.str 156))) (.l (V.int 1))) (.b .k (.v 187) (.l (V.str 156))))) (.q (.i (.A (.b (.c .eq) (.b .i (.v 187) (.l (V.str 183))) (.l (V.int 0))) (.b (.c .ne) (.b .i (.v 187) (.l (V.str 182))) (.u .L (.l .adt)))) (.q (.e .i (.b .k (.b .i (.b .i (.v 187) (.l (V.str 182))) (.l (V.int 0))) (.b .k (.v 187) (.l (V.str 183))))) (.q (.e .i (.b .k (.b .f (.b .i (.v 187) (.l (V.str 182))) (.l (V.int 1))) (.b .k (.v 187) (.l (V.str 182))))) .n)) .n) (.q (.i (.b (.c .gt) (.b .i (.v 187) (.l (V.str 183))) (.l (V.int 0))) (.q (.e (.s au [189]) (.b (.a .mod) (.b .i (.v 187) (.l (V.str 183))) (.v 188))) (.q (.e .i (.b .k (.b (.a .fdiv) (.b .i (.v 187) (.l (V.str 183))) (.v 188)) (.b .k (.v 187) (.l (V.str 183))))) (.q (.e .r (.v 189)) .n))) .n) (.q (.e (.s au [93]) (.b (.a .mod) (.b (.a .add) (.b .i (.v 187) (.l (V.str 184))) (.b (.a .mul) (.l (V.int 1031)) (.b .i (.v 187) (.l (V.str 156))))) (.l (V.int 10007)))) (.q (.e .r (.b (.a .mod) (.b (.a .fdiv) (.b (.a .mod) (.b (.a .add) (.b (.a .mul) (.v 93) (.v 93)) (.b (.a .mul) (.l (V.int 77)) (.v 93))) (.l (V.int 10009))) (.l (V.int 8))) (.v 188))) .n)))))
noncomputable def W8:S:=(.q (.e .r (.b .i (.v 51) (.u (.c 190) (.b .k (.v 187) (.b .k (.u (.B 5) (.b .k (.v 51) (.l .adt))) (.l .adt)))))) .n)
noncomputable def IW:S:=(.q (.e (.s au [63]) (.u (.N 209) (.l .adt))) (.q (.e (.s au [198]) (.m (.v 63) 207 (.b .k (.l (V.str 208)) (.l .adt)))) (.q (.e (.s au [66]) (.u .L (.b .k (.m (.v 63) 197 (.b .k (.l (V.str 41)) (.b .k (.u .T (.b .k (.g 71) (.l .adt))) (.b .k (.g 71) (.l .adt))))) (.b .k (.m (.v 63) 197 (.b .k (.l (V.str 206)) (.b .k (.u .T (.b .k (.g 71) (.l .adt))) (.b .k (.g 19) (.l .adt))))) (.l .adt))))) (.q (.e (.s au [66]) (.b (.a .add) (.v 66) (.u .L (.b .k (.m (.v 63) 197 (.b .k (.l (V.str 204)) (.b .k (.u .T (.b .k (.v 198) (.b .k (.g 71) (.l .adt)))) (.b .k (.v 198) (.l .adt))))) (.b .k (.m (.v 63) 197 (.b .k (.l (V.str 205)) (.b .k (.u .T (.b .k (.g 72) (.l .adt))) (.b .k (.g 72) (.l .adt))))) (.l .adt)))))) (.q (.e (.s au [192]) (.u .D (.b .k (.g 71) (.b .k (.C (.m (.v 63) 61 (.b .k (.m (.v 63) 197 (.b .k (.v 37) (.b .k (.u .T (.l .adt)) (.b .k (.g 71) (.l .adt))))) (.b .k (.u .T (.l .adt)) (.l .adt)))) au [37] (.u .T (.b .k (.l (V.str 201)) (.b .k (.l (V.str 202)) (.b .k (.l (V.str 203)) (.l .adt))))) (.l (V.bool ah))) (.l .adt))))) (.q (.e .i (.b .k (.C (.m (.v 63) 61 (.b .k (.m (.v 63) 197 (.b .k (.v 37) (.b .k (.u .T (.l .adt)) (.b .k (.v 198) (.l .adt))))) (.b .k (.u .T (.l .adt)) (.l .adt)))) au [37] (.u .T (.b .k (.l (V.str 199)) (.b .k (.l (V.str 200)) (.l .adt)))) (.l (V.bool ah))) (.b .k (.v 192) (.v 198)))) (.q (.e .i (.b .k (.C (.m (.v 63) 61 (.b .k (.m (.v 63) 197 (.b .k (.v 37) (.b .k (.u .T (.l .adt)) (.b .k (.g 72) (.l .adt))))) (.b .k (.u .T (.l .adt)) (.l .adt)))) au [37] (.u .T (.b .k (.l (V.str 58)) (.b .k (.l (V.str 196)) (.l .adt)))) (.l (V.bool ah))) (.b .k (.v 192) (.g 72)))) (.q (.e .i (.b .k (.b (.a .add) (.b .i (.v 192) (.g 71)) (.u .L (.b .k (.m (.v 63) 17 (.b .k (.l (V.str 195)) (.b .k (.u .T (.l .adt)) (.b .k (.g 71) (.b .k (.u .T (.b .k (.l (V.int 0)) (.b .k (.l (V.int 1)) (.l .adt)))) (.l .adt)))))) (.b .k (.m (.v 63) 17 (.b .k (.l (V.str 195)) (.b .k (.u .T (.l .adt)) (.b .k (.g 71) (.b .k (.u .T (.b .k (.l (V.int 1)) (.b .k (.l (V.int 1)) (.l .adt)))) (.l .adt)))))) (.l .adt))))) (.b .k (.v 192) (.g 71)))) (.q (.e .i (.b .k (.b (.a .add) (.b .i (.v 192) (.g 72)) (.u .L (.b .k (.m (.v 63) 17 (.b .k (.l (V.str 195)) (.b .k (.u .T (.l .adt)) (.b .k (.g 72) (.b .k (.u .T (.b .k (.l (V.int 1)) (.b .k (.l (V.int 1)) (.l .adt)))) (.l .adt)))))) (.l .adt)))) (.b .k (.v 192) (.g 72)))) (.q (.e (.s au [65]) (.u .L (.l .adt))) (.q (.f au [193] (.u .R (.b (.a .add) (.l (V.int 3)) (.b (.a .fdiv) (.u (.c 190) (.b .k (.v 187) (.b .k (.l (V.int 5)) (.l .adt)))) (.l (V.int 2))))) (.q (.e (.s au [78]) (.u (.c 191) (.b .k (.v 187) (.b .k (.u .L (.b .k (.b .i (.v 66) (.l (V.int 0))) (.b .k (.b .i (.v 66) (.l (V.int 0))) (.b .k (.b .i (.v 66) (.l (V.int 0))) (.b .k (.b .i (.v 66) (.l (V.int 1))) (.b .k (.b .i (.v 66) (.l (V.int 2))) (.b .k (.b .i (.v 66) (.l (V.int 2))) (.b .k (.b .i (.v 66) (.l (V.int 3))) (.l .adt))))))))) (.l .adt))))) (.q (.e (.s au [90]) (.m (.v 63) 61 (.b .k (.v 78) (.b .k (.u (.B 9) (.b .k (.C (.u (.c 191) (.b .k (.v 187) (.b .k (.b .i (.v 192) (.v 45)) (.l .adt)))) au [45] (.m (.v 63) 194 (.b .k (.v 78) (.l .adt))) (.l (V.bool ah))) (.l .adt))) (.l .adt))))) (.q (.i (.b (.c .notin) (.v 90) (.v 65)) (.q (.e .x (.m (.v 65) 0 (.b .k (.v 90) (.l .adt)))) (.q (.i (.b (.c .ne) (.m (.v 63) 45 (.b .k (.v 90) (.l .adt))) (.g 19)) (.q (.e .i (.b .k (.b (.a .add) (.b .i (.v 192) (.m (.v 63) 45 (.b .k (.v 90) (.l .adt)))) (.u .L (.b .k (.v 90) (.l .adt)))) (.b .k (.v 192) (.m (.v 63) 45 (.b .k (.v 90) (.l .adt)))))) .n) .n) .n)) .n) .n)))) (.q (.e .r (.u .T (.b .k (.v 63) (.b .k (.v 65) (.b .k (.v 192) (.l .adt)))))) .n))))))))))))
noncomputable def Tp:S:=(.q (.e .r (.O (.b (.c .eq) (.m (.v 63) 45 (.b .k (.v 69) (.l .adt))) (.g 71)) (.b (.c .eq) (.m (.v 63) 45 (.b .k (.v 69) (.l .adt))) (.g 72)))) .n)
noncomputable def XY:S:=(.q (.e (.s au [47]) (.u .L (.l .adt))) (.q (.f au [90] (.v 65) (.q (.f au [69] (.b (.a .add) (.m (.v 63) 44 (.b .k (.v 90) (.l .adt))) (.u .T (.b .k (.v 90) (.l .adt)))) (.q (.i (.A (.u (.c 211) (.b .k (.v 63) (.b .k (.v 69) (.l .adt)))) (.b (.c .notin) (.v 69) (.v 47))) (.q (.e .x (.m (.v 47) 0 (.b .k (.v 69) (.l .adt)))) .n) .n) .n)) .n)) (.q (.e .r (.u (.B 6) (.b .k (.v 47) (.l .adt)))) .n)))
noncomputable def QU:S:=(.q (.e (.s au [47]) (.u .L (.l .adt))) (.q (.f au [90] (.v 65) (.q (.f au [69] (.b (.a .add) (.m (.v 63) 44 (.b .k (.v 90) (.l .adt))) (.u .T (.b .k (.v 90) (.l .adt)))) (.q (.i (.b (.c .notin) (.v 69) (.v 47)) (.q (.e .x (.m (.v 47) 0 (.b .k (.v 69) (.l .adt)))) .n) .n) .n)) .n)) (.q (.e .r (.v 47)) .n)))
noncomputable def V3:S:=(.q (.e (.s au [216]) (.u (.B 11) (.b .k (.C (.u .T (.b .k (.v 69) (.b .k (.v 69) (.l .adt)))) au [69] (.v 214) (.l (V.bool ah))) (.l .adt)))) (.q (.f au [193] (.u .R (.b (.a .add) (.b (.a .mul) (.l (V.int 2)) (.u (.B 5) (.b .k (.v 214) (.l .adt)))) (.l (V.int 2)))) (.q (.e (.s au [219]) (.u (.B 10) (.b .k (.v 215) (.l .adt)))) (.q (.f au [90] (.v 65) (.q (.f au [93] (.v 65) (.q (.i (.A (.b (.c .lt) (.v 90) (.v 93)) (.b (.c .eq) (.m (.v 63) 46 (.b .k (.v 90) (.l .adt))) (.m (.v 63) 46 (.b .k (.v 93) (.l .adt))))) (.q (.e (.s au [108]) (.C (.C (.b .i (.v 216) (.v 69)) au [69] (.m (.v 63) 44 (.b .k (.v 122) (.l .adt))) (.l (V.bool ah))) au [122] (.u .T (.b .k (.v 90) (.b .k (.v 93) (.l .adt)))) (.l (V.bool ah)))) (.q (.i (.b (.c .eq) (.b .i (.v 108) (.l (V.int 0))) (.b .i (.v 108) (.l (V.int 1)))) (.q (.e .x (.m (.v 219) 0 (.b .k (.u .T (.b .k (.v 90) (.b .k (.v 93) (.l .adt)))) (.l .adt)))) .n) .n) .n)) .n) .n)) .n)) (.q (.e (.s au [219]) (.C (.v 96) au [96] (.v 219) (.b (.c .ne) (.b .i (.v 216) (.b .i (.v 96) (.l (V.int 0)))) (.b .i (.v 216) (.b .i (.v 96) (.l (V.int 1))))))) (.q (.i (.b (.c .eq) (.v 219) (.u .L (.l .adt))) (.q (.e .r (.v 216)) .n) .n) (.q (.e (.s ah [218,217]) (.u (.B 6) (.b .k (.u .L (.b .k (.b .i (.v 216) (.b .i (.b .i (.v 219) (.l (V.int 0))) (.l (V.int 0)))) (.b .k (.b .i (.v 216) (.b .i (.b .i (.v 219) (.l (V.int 0))) (.l (V.int 1)))) (.l .adt)))) (.l .adt)))) (.q (.f au [69] (.v 214) (.q (.i (.b (.c .eq) (.b .i (.v 216) (.v 69)) (.v 217)) (.q (.e .i (.b .k (.v 218) (.b .k (.v 216) (.v 69)))) .n) .n) .n)) .n))))))) (.q (.e .r (.v 216)) .n)))
noncomputable def Y7:S:=(.q (.e (.s ah [47,222,221]) (.u .T (.b .k (.u .D (.l .adt)) (.b .k (.u .D (.l .adt)) (.b .k (.b (.c .eq) (.u (.c 190) (.b .k (.v 187) (.b .k (.l (V.int 2)) (.l .adt)))) (.l (V.int 0))) (.l .adt)))))) (.q (.f au [69] (.v 67) (.q (.e (.s au [89]) (.u .T (.b .k (.u (.c 190) (.b .k (.v 187) (.b .k (.l (V.int 3)) (.l .adt)))) (.b .k (.l (V.int 1)) (.l .adt))))) (.q (.i (.v 221) (.q (.e (.s au [89]) (.m (.v 222) 4 (.b .k (.u .T (.b .k (.m (.v 63) 45 (.b .k (.v 69) (.l .adt))) (.b .k (.b .i (.v 216) (.v 69)) (.l .adt)))) (.b .k (.v 89) (.l .adt))))) .n) .n) (.q (.i (.b (.c .eq) (.m (.v 63) 43 (.b .k (.v 69) (.l .adt))) (.l (V.str 195))) (.q (.e .i (.b .k (.m (.v 63) 46 (.b .k (.v 69) (.l .adt))) (.b .k (.v 47) (.v 69)))) .n) (.q (.e .i (.b .k (.v 89) (.b .k (.v 47) (.v 69)))) .n)) .n)))) (.q (.e .r (.v 47)) .n)))
noncomputable def S_:S:=(.q (.e (.s au [228]) (.u (.c 191) (.b .k (.v 187) (.b .k (.v 67) (.l .adt))))) (.q (.e (.s au [227]) (.u (.B 11) (.b .k (.C (.u .T (.b .k (.v 69) (.b .k (.b .i (.v 79) (.v 69)) (.l .adt)))) au [69] (.v 67) (.b (.c .ne) (.v 69) (.v 228))) (.l .adt)))) (.q (.y (.m (.v 224) 226 (.b .k (.v 227) (.b .k (.v 225) (.l .adt)))) (.q (.e .r (.l (V.bool au))) .n) 81 (.q (.e .r (.l (V.bool ah))) .n)) .n)))
noncomputable def Wx:S:=(.q (.e (.s au [231]) (.u .D (.l .adt))) (.q (.f au [69] (.v 79) (.q (.e .i (.b .k (.b .i (.v 79) (.v 69)) (.b .k (.v 231) (.b .i (.v 216) (.v 69))))) .n)) (.q (.e (.s au [47]) (.u .L (.l .adt))) (.q (.f au [90] (.v 65) (.q (.e (.s au [230]) (.u .L (.b .k (.m (.v 63) 46 (.b .k (.v 90) (.l .adt))) (.l .adt)))) (.q (.f au [69] (.m (.v 63) 44 (.b .k (.v 90) (.l .adt))) (.q (.i (.u (.c 211) (.b .k (.v 63) (.b .k (.v 69) (.l .adt)))) (.q (.e .x (.m (.v 230) 0 (.b .k (.u .T (.b .k (.l (V.str 89)) (.b .k (.m (.v 63) 45 (.b .k (.v 69) (.l .adt))) (.b .k (.b .i (.v 231) (.b .i (.v 216) (.v 69))) (.l .adt))))) (.l .adt)))) .n) (.q (.e .x (.m (.v 230) 0 (.b .k (.u .T (.b .k (.l (V.str 87)) (.b .k (.b .i (.v 216) (.v 69)) (.l .adt)))) (.l .adt)))) .n)) .n)) (.q (.e .x (.m (.v 47) 0 (.b .k (.v 230) (.l .adt)))) .n)))) (.q (.e .r (.v 47)) .n)))))
noncomputable def R4:S:=(.q (.e (.s au [236]) (.u (.B 6) (.b .k (.v 79) (.l .adt)))) (.q (.e (.s au [47]) (.u .L (.l .adt))) (.q (.f au [57] (.v 236) (.q (.e .x (.m (.v 47) 1 (.b .k (.C (.u .T (.b .k (.v 57) (.b .k (.v 58) (.l .adt)))) au [58] (.v 236) (.A (.b (.c .lt) (.v 57) (.v 58)) (.A (.b (.c .eq) (.b .i (.v 216) (.v 57)) (.b .i (.v 216) (.v 58))) (.b (.c .ne) (.b .i (.v 79) (.v 57)) (.b .i (.v 79) (.v 58)))))) (.l .adt)))) .n)) (.q (.i (.b (.c .ne) (.v 47) (.u .L (.l .adt))) (.q (.e .r (.v 47)) .n) .n) (.q (.e (.s au [95]) (.u (.c 232) (.b .k (.v 63) (.b .k (.v 65) (.b .k (.v 216) (.b .k (.v 79) (.l .adt))))))) (.q (.f au [233] (.u .R (.u (.B 5) (.b .k (.v 65) (.l .adt)))) (.q (.f au [234] (.u .R (.v 233)) (.q (.i (.A (.b (.c .eq) (.b .i (.v 95) (.v 233)) (.b .i (.v 95) (.v 234))) (.b (.c .ne) (.b .i (.v 216) (.b .i (.v 65) (.v 233))) (.b .i (.v 216) (.b .i (.v 65) (.v 234))))) (.q (.f ah [122,92] (.b .z (.m (.v 63) 44 (.b .k (.b .i (.v 65) (.v 233)) (.l .adt))) (.m (.v 63) 44 (.b .k (.b .i (.v 65) (.v 234)) (.l .adt)))) (.q (.i (.b (.c .ne) (.b .i (.v 216) (.v 122)) (.b .i (.v 216) (.v 92))) (.q (.e (.s au [125]) (.C (.v 57) au [57] (.v 236) (.b (.c .eq) (.b .i (.v 216) (.v 57)) (.b .i (.v 216) (.v 122))))) (.q (.e (.s au [235]) (.C (.v 58) au [58] (.v 236) (.b (.c .eq) (.b .i (.v 216) (.v 58)) (.b .i (.v 216) (.v 92))))) (.q (.f au [57] (.v 125) (.q (.e .x (.m (.v 47) 1 (.b .k (.C (.u .T (.b .k (.u (.B 12) (.b .k (.v 57) (.b .k (.v 58) (.l .adt)))) (.b .k (.u (.B 13) (.b .k (.v 57) (.b .k (.v 58) (.l .adt)))) (.l .adt)))) au [58] (.v 235) (.l (V.bool ah))) (.l .adt)))) .n)) .n))) .n) .n)) .n) .n) .n)) .n)) (.q (.e .r (.v 47)) .n)))))))
noncomputable def TB:S:=(.q (.e .r (.C (.v 69) au [69] (.v 236) (.b (.c .eq) (.m (.v 63) 43 (.b .k (.v 69) (.l .adt))) (.l (V.str 195))))) .n)
noncomputable def W9:S:=(.q (.e (.s au [51]) (.C (.v 93) au [93] (.v 79) (.b (.c .eq) (.b .i (.v 216) (.v 93)) (.b .i (.v 216) (.v 69))))) (.q (.e (.s au [22]) (.u (.c 238) (.b .k (.v 63) (.b .k (.v 51) (.l .adt))))) (.q (.f au [93] (.v 51) (.q (.e .i (.b .k (.t (.b (.c .ne) (.v 22) (.u .L (.l .adt))) (.m (.v 63) 46 (.b .k (.b .i (.v 22) (.l (V.int 0))) (.l .adt))) (.v 89)) (.b .k (.v 79) (.v 93)))) .n)) .n)))
noncomputable def aaF:S:=(.q (.e .x (.m (.v 225) 243 (.l .adt))) (.q (.e .x (.m (.v 225) 242 (.b .k (.v 57) (.b .k (.v 58) (.b .k (.v 135) (.l .adt)))))) (.q (.i (.b (.c .adz) (.m (.v 225) 241 (.l .adt)) (.l V.none)) (.q (.e .r (.l (V.bool ah))) .n) .n) (.q (.e .x (.m (.v 225) 240 (.b .k (.l (V.int 1)) (.l .adt)))) (.q (.e .r (.l (V.bool au))) .n)))))
noncomputable def VG:S:=(.q (.f au [69] (.u (.c 238) (.b .k (.v 63) (.b .k (.v 214) (.l .adt)))) (.q (.i (.b (.c .ne) (.C (.v 93) au [93] (.u (.c 238) (.b .k (.v 63) (.b .k (.v 214) (.l .adt)))) (.A (.b (.c .ne) (.v 93) (.v 69)) (.b (.c .eq) (.b .i (.v 216) (.v 93)) (.b .i (.v 216) (.v 69))))) (.u .L (.l .adt))) (.q (.e .r (.l (V.bool ah))) .n) .n) .n)) (.q (.e .r (.l (V.bool au))) .n))
noncomputable def Tz:S:=(.q (.e (.s au [215]) (.u .L (.l .adt))) (.q (.f au [193] (.u .R (.u (.c 190) (.b .k (.v 187) (.b .k (.l (V.int 3)) (.l .adt))))) (.q (.e (.s au [57]) (.u (.c 191) (.b .k (.v 187) (.b .k (.C (.v 69) au [69] (.v 214) (.b (.c .ne) (.m (.v 63) 45 (.b .k (.v 69) (.l .adt))) (.g 19))) (.l .adt))))) (.q (.e (.s au [58]) (.u (.c 191) (.b .k (.v 187) (.b .k (.C (.v 69) au [69] (.v 214) (.b (.c .eq) (.m (.v 63) 45 (.b .k (.v 69) (.l .adt))) (.m (.v 63) 45 (.b .k (.v 57) (.l .adt))))) (.l .adt))))) (.q (.i (.b (.c .ne) (.v 57) (.v 58)) (.q (.e (.s au [216]) (.u (.c 220) (.b .k (.v 63) (.b .k (.v 65) (.b .k (.v 214) (.b .k (.b (.a .add) (.v 215) (.u .L (.b .k (.u .T (.b .k (.v 57) (.b .k (.v 58) (.l .adt)))) (.l .adt)))) (.l .adt))))))) (.q (.e (.s au [246]) (.u .n (.u (.c 245) (.b .k (.v 63) (.b .k (.v 216) (.b .k (.v 214) (.l .adt))))))) (.q (.i (.b (.c .ne) (.u (.c 244) (.b .k (.v 225) (.b .k (.v 57) (.b .k (.v 58) (.b .k (.b (.a .add) (.l (V.int 1)) (.u (.B 5) (.b .k (.v 215) (.l .adt)))) (.l .adt)))))) (.v 246)) (.q (.e .r (.l V.none)) .n) .n) (.q (.i (.v 246) (.q (.e .x (.m (.v 215) 0 (.b .k (.u .T (.b .k (.v 57) (.b .k (.v 58) (.l .adt)))) (.l .adt)))) .n) .n) .n)))) .n) .n)))) (.q (.e .r (.v 215)) .n)))
noncomputable def Jy:S:=(.q (.e (.s ah [164,118]) (.u .T (.b .k (.u .L (.l .adt)) (.b .k (.u .L (.l .adt)) (.l .adt))))) (.q (.f au [193] (.u .R (.l (V.int 200))) (.q (.e (.s au [216]) (.u (.c 220) (.b .k (.v 63) (.b .k (.v 65) (.b .k (.v 214) (.b .k (.v 215) (.l .adt))))))) (.q (.i (.b (.c .ne) (.C (.v 96) au [96] (.v 118) (.O (.b (.c .eq) (.b .i (.v 216) (.b .i (.v 96) (.l (V.int 0)))) (.b .i (.v 216) (.b .i (.v 96) (.l (V.int 1))))) (.b (.c .eq) (.b .i (.v 79) (.b .i (.v 96) (.l (V.int 0)))) (.b .i (.v 79) (.b .i (.v 96) (.l (V.int 1))))))) (.u .L (.l .adt))) (.q (.e .r (.l (V.bool ah))) .n) .n) (.q (.e (.s au [250]) (.u (.c 237) (.b .k (.v 63) (.b .k (.v 65) (.b .k (.v 216) (.b .k (.v 79) (.l .adt))))))) (.q (.e (.s au [249]) (.m (.v 224) 251 (.b .k (.v 79) (.b .k (.v 225) (.l .adt))))) (.q (.e (.s au [64]) (.m (.v 224) 226 (.b .k (.v 79) (.b .k (.v 225) (.l .adt))))) (.q (.i (.b (.c .eq) (.v 250) (.u .L (.l .adt))) (.q (.e .r (.A (.b (.c .adz) (.v 64) (.l V.none)) (.b (.c .eq) (.v 249) (.u .L (.l .adt))))) .n) .n) (.q (.i (.O (.b (.c .adz) (.v 64) (.l V.none)) (.O (.b (.c .inn) (.v 64) (.v 164)) (.b (.c .notin) (.v 64) (.C (.m (.v 63) 106 (.b .k (.v 57) (.b .k (.v 58) (.l .adt)))) ah [57,58] (.v 250) (.l (V.bool ah)))))) (.q (.e .r (.l (V.bool au))) .n) .n) (.q (.i (.b (.c .ne) (.C (.v 96) au [96] (.v 249) (.b (.c .notin) (.u .T (.b .k (.u (.B 12) (.b .k (.v 96) (.l .adt))) (.b .k (.u (.B 13) (.b .k (.v 96) (.l .adt))) (.l .adt)))) (.v 250))) (.u .L (.l .adt))) (.q (.e .r (.l (V.bool au))) .n) .n) (.q (.e .x (.m (.v 164) 0 (.b .k (.v 64) (.l .adt)))) (.q (.e (.s ah [57,58]) (.m (.v 63) 44 (.b .k (.v 64) (.l .adt)))) (.q (.e (.s au [248]) (.u .T (.b .k (.b (.a .add) (.l (V.int 100)) (.v 193)) (.b .k (.l (V.int 1)) (.l .adt))))) (.q (.i (.b (.c .eq) (.b .i (.v 216) (.v 57)) (.b .i (.v 216) (.v 58))) (.q (.e .x (.u (.c 239) (.b .k (.v 63) (.b .k (.v 79) (.b .k (.v 216) (.b .k (.v 57) (.b .k (.v 248) (.l .adt)))))))) .n) (.q (.i (.b (.c .eq) (.u (.c 190) (.b .k (.v 187) (.b .k (.l (V.int 2)) (.l .adt)))) (.l (V.int 0))) (.q (.i (.u .n (.u (.c 244) (.b .k (.v 225) (.b .k (.v 57) (.b .k (.v 58) (.b .k (.b (.a .add) (.l (V.int 50)) (.v 193)) (.l .adt))))))) (.q (.e .r (.u (.c 245) (.b .k (.v 63) (.b .k (.u (.c 220) (.b .k (.v 63) (.b .k (.v 65) (.b .k (.v 214) (.b .k (.b (.a .add) (.v 215) (.u .L (.b .k (.u .T (.b .k (.v 57) (.b .k (.v 58) (.l .adt)))) (.l .adt)))) (.l .adt)))))) (.b .k (.v 214) (.l .adt)))))) .n) .n) (.q (.e (.s au [215]) (.b (.a .add) (.v 215) (.u .L (.b .k (.u .T (.b .k (.v 57) (.b .k (.v 58) (.l .adt)))) (.l .adt))))) .n)) (.q (.e (.s au [51]) (.C (.v 93) au [93] (.v 214) (.b (.c .eq) (.b .i (.v 216) (.v 93)) (.b .i (.v 216) (.v 57))))) (.q (.e .x (.u (.c 239) (.b .k (.v 63) (.b .k (.v 79) (.b .k (.v 216) (.b .k (.t (.b (.c .ne) (.u (.c 238) (.b .k (.v 63) (.b .k (.v 51) (.l .adt)))) (.u .L (.l .adt))) (.v 58) (.v 57)) (.b .k (.v 248) (.l .adt)))))))) (.q (.e .x (.m (.v 118) 0 (.b .k (.u .T (.b .k (.v 57) (.b .k (.v 58) (.l .adt)))) (.l .adt)))) .n)))) .n)) .n))))))))))))) (.q (.e .r (.l (V.bool au))) .n)))
noncomputable def sP:S:=(.q (.e (.s au [187]) (.u (.c 186) (.b .k (.v 181) (.l .adt)))) (.q (.e (.s ah [63,65,192]) (.u (.c 210) (.b .k (.v 187) (.l .adt)))) (.q (.e (.s ah [224,225]) (.u .T (.b .k (.u (.N 253) (.b .k (.v 63) (.l .adt))) (.b .k (.u (.N 254) (.b .k (.v 63) (.l .adt))) (.l .adt))))) (.q (.f au [90] (.v 65) (.q (.e .x (.m (.v 224) 136 (.b .k (.v 90) (.l .adt)))) (.q (.e .x (.m (.v 225) 136 (.b .k (.v 90) (.l .adt)))) .n))) (.q (.e (.s ah [214,67]) (.u .T (.b .k (.u (.c 213) (.b .k (.v 63) (.b .k (.v 65) (.l .adt)))) (.b .k (.u (.c 212) (.b .k (.v 63) (.b .k (.v 65) (.l .adt)))) (.l .adt))))) (.q (.i (.O (.b (.c .ne) (.m (.v 224) 80 (.l .adt)) (.v 67)) (.b (.c .ne) (.C (.v 69) au [69] (.v 214) (.b (.c .ne) (.m (.v 224) 88 (.b .k (.v 69) (.l .adt))) (.b (.c .inn) (.v 69) (.v 67)))) (.u .L (.l .adt)))) (.q (.e .r (.l (V.bool au))) .n) .n) (.q (.e (.s au [215]) (.u (.c 247) (.b .k (.v 187) (.b .k (.v 63) (.b .k (.v 225) (.b .k (.v 65) (.b .k (.v 214) (.l .adt)))))))) (.q (.i (.b (.c .adz) (.v 215) (.l V.none)) (.q (.e .r (.l (V.bool au))) .n) .n) (.q (.e (.s au [79]) (.u (.c 223) (.b .k (.v 187) (.b .k (.v 63) (.b .k (.v 67) (.b .k (.u (.c 220) (.b .k (.v 63) (.b .k (.v 65) (.b .k (.v 214) (.b .k (.v 215) (.l .adt)))))) (.l .adt))))))) (.q (.i (.A (.b (.c .ne) (.v 67) (.u .L (.l .adt))) (.u .n (.u (.c 229) (.b .k (.v 187) (.b .k (.v 224) (.b .k (.v 225) (.b .k (.v 67) (.b .k (.v 79) (.l .adt))))))))) (.q (.e .r (.l (V.bool au))) .n) .n) (.q (.e .r (.u (.c 252) (.b .k (.v 187) (.b .k (.v 63) (.b .k (.v 224) (.b .k (.v 225) (.b .k (.v 65) (.b .k (.v 214) (.b .k (.v 215) (.b .k (.v 79) (.l .adt))))))))))) .n)))))))))))
noncomputable def Dj:List (Nat×List Nat×S):=[(1001,[15],Sw),
 (1002,[15,37],Xl),
 (1003,[15,38],aaJ),
 (1004,[15,37,39,40],Yh),
 (1005,[15,41],WB),
 (1006,[15,42],Ys),
 (1007,[15,42],Vr),
 (1008,[15,42],Wj),
 (1009,[15,42],Uy),
 (1011,[15,43,44,45,46],VZ),
 (1012,[15,42,38,49],aaQ),
 (1014,[15,42],Zd),
 (1015,[15,51],Sb),
 (1016,[15,57,58],Ze),
 (1017,[15,41,51],Yp),
 (1018,[15,63],Tx),
 (1019,[15,69],aat),
 (1020,[15,69],RP),
 (1021,[15,54],TL),
 (1022,[15,69],Xb),
 (1023,[15],VE),
 (1024,[15,79],WH),
 (1025,[15,82],Yq),
 (1026,[15,79,82],Uv),
 (1027,[15,76,79,83,82],Ye),
 (1028,[15,90,79,83,82],X4),
 (1029,[15,90,92,83,82],Rf),
 (1030,[15,78,79,83,82],QN),
 (1031,[15,79,82],TQ),
 (1032,[15,79,82],Sv),
 (1033,[15,79,82],Yu),
 (1034,[15,63],XJ),
 (1035,[15,42],VP),
 (1036,[15,57,58],U_),
 (1039,[15],YB),
 (1040,[15,42],UV),
 (1041,[15,42],Uo),
 (1042,[15,42],Sg),
 (1043,[15,42],S9),
 (1044,[15,42],YV),
 (1045,[15,57,58,135],Zh),
 (1046,[15],YC),
 (1047,[15,138,139,141],aap),
 (1048,[15,142],S2),
 (1049,[15,130],SQ),
 (1050,[15,42],Us),
 (1051,[15,148],T9),
 (1053,[15,138,139,141],T6),
 (1054,[15,42],XM),
 (1055,[15,57,58],ZW),
 (1056,[15,57,58],WA),
 (1061,[15,130],UG),
 (1063,[15],Zy),
 (1064,[15,173],UA),
 (1065,[15,177,175,174],Wp),
 (1067,[15,148,144,150,89],aaD),
 (186,[181],Xx),
 (190,[187,188],Q1),
 (191,[187,51],W8),
 (210,[187],IW),
 (211,[63,69],Tp),
 (212,[63,65],XY),
 (213,[63,65],QU),
 (220,[63,65,214,215],V3),
 (223,[187,63,67,216],Y7),
 (229,[187,224,225,67,79],S_),
 (232,[63,65,216,79],Wx),
 (237,[63,65,216,79],R4),
 (238,[63,236],TB),
 (239,[63,79,216,69,89],W9),
 (244,[225,57,58,135],aaF),
 (245,[63,216,214],VG),
 (247,[187,63,225,65,214],Tz),
 (252,[187,63,224,225,65,214,215,79],Jy),
 (255,[181],sP)]
noncomputable def xD:List (Nat×Nat×Nat):=[(257,14,1001),(257,207,1002),(257,70,1003),(257,197,1004),(257,194,1005),(257,43,1006),(257,44,1007),(257,45,1008),(257,46,1009),(257,17,1011),(257,60,1012),(257,73,1014),(257,50,1015),(209,106,1016),(209,61,1017),(209,14,1001),(209,207,1002),(209,70,1003),(209,197,1004),(209,194,1005),(209,43,1006),(209,44,1007),(209,45,1008),(209,46,1009),(209,17,1011),(209,60,1012),(209,73,1014),(209,50,1015),(253,14,1018),(253,75,1019),(253,136,1020),(253,74,1021),(253,88,1022),(253,80,1023),(253,101,1024),(253,86,1025),(253,100,1026),(253,91,1027),(253,98,1028),(253,97,1029),(253,99,1030),(253,251,1031),(253,107,1032),(253,226,1033),(254,14,1034),(254,84,1035),(254,94,1036),(254,241,1039),(254,127,1040),(254,136,1041),(254,126,1042),(254,134,1043),(254,129,1044),(254,242,1045),(254,123,1046),(254,140,1047),(254,145,1048),(254,150,1049),(254,151,1050),(254,147,1051),(254,152,1053),(254,156,1054),(254,163,1055),(254,146,1056),(254,143,1061),(254,243,1063),(254,240,1064),(254,176,1065),(254,54,1067)]
noncomputable def D9:List (Nat×Nat):=[(257,33),(257,32),(257,31),(257,30),(257,29),(257,28),(257,26),(257,25),(257,24),(257,23),(257,22),(257,20),(257,16),(209,33),(209,32),(209,31),(209,30),(209,29),(209,28),(209,26),(209,25),(209,24),(209,23),(209,22),(209,20),(209,16),(253,63),(253,68),(253,67),(253,66),(253,65),(253,64),(254,63),(254,52),(254,120),(254,119),(254,89),(254,118),(254,117),(254,116),(254,115),(254,114),(254,64),(254,113),(254,112),(254,111),(254,110),(254,109),(254,108)]
noncomputable def Cv:List (Nat×V):=[(19,(V.int 0)),(71,(V.int 1)),(72,(V.int 2)),(131,(V.tup [(V.str 195),(V.str 258),(V.str 21),(V.str 18)])),(133,(V.str 77))]
noncomputable def eE{α:Type}:List (Nat×α)->Nat->Option α
 |[],_=>ao
 |e::r,k=>if e.1=k then aa e.2 else eE r k
noncomputable def yC:List (Nat×Nat×Nat)->Nat->Nat->Option Nat
 |[],_,_=>ao
 |e::r,c,m=>if e.1=c/\e.2.1=m then aa e.2.2 else yC r c m
noncomputable def BB:=eE Dj
noncomputable def iM:=yC xD
noncomputable def mU(c f:Nat):Bool:=D9.contains (c,f)
noncomputable def DC:=eE Cv
noncomputable abbrev PV:=V->Hp->Prop
noncomputable abbrev PX:=Fl->Env->Hp->Prop
def br(t:Bool)(A B:Prop):Prop:=match t with
 |true=>A
 |false=>B
def oG{α:Type}(o:Option α)(Q:α->Prop):Prop:=match o with
 |some a=>Q a
 |none=>False
def oE{α:Type}(o:Option α)(Q:α->Prop)(B:Prop):Prop:=match o with
 |some a=>Q a
 |none=>B
def cj(o:O)(Q:PV)(h:Hp):Prop:=∀n,h.get n=ao->Q (.ref n) (h.put n o)
def nU(n:Nat)(o:O)(Q:Hp->Prop)(h:Hp):Prop:=h.lk≠aa n/\Q (h.put n o)
def oL(n:Nat)(Q:List V->Prop)(h:Hp):Prop:=∃xs,h.get n=aa (.list xs)/\Q xs
def oD(n:Nat)(Q:List (V×V)->Prop)(h:Hp):Prop:=∃es,h.get n=aa (.dict es)/\Q es
def g8(v:V)(Q:Nat->Prop):Prop:=oG v.adG Q
def mT(v:V)(Q:Int->Prop):Prop:=oG v.int? Q
def nZ(a b:V)(Q:Int->Int->Prop):Prop:=mT a λx=>mT b λy=>Q x y
def db(v:V)(f:Nat)(Q:PV)(h:Hp):Prop:=g8 v λn=>∃c fs w,h.get n=aa (.inst c fs)/\mU c f=ah/\dR fs f=aa w/\Q w h
def eY(v i:V)(Q:PV)(h:Hp):Prop:=oE v.adG
 (λn=>(oL n (λxs=>mT i λk=>∃w,iR xs k=aa w/\Q w h) h)\/oD n (λes=>∃w,b7 i es=ah/\bC es i=aa w/\Q w h) h)
 (oG v.items λxs=>mT i λk=>oG (iR xs k) λw=>Q w h)
def qK(v:V)(k:Int)(f:List V->List V)(Q:PV)(h:Hp):Prop:=g8 v λn=>oL n (λxs=>0<=k/\xs.length<aG/\cj (.list (f xs)) Q h) h
def K7(m:Nat)(b:V)(Q:PV)(h:Hp):Prop:=g8 b λn=>oL m (λxs=>oL n (λys=>xs.length<aG/\ys.length<aG/\cj (.list (xs++ys)) Q h) h) h
def pW(op:BO)(a b:V)(Q:PV)(h:Hp):Prop:=match op with
 | .add=>oE a.int? (λx=>mT b λy=>Q (.int (x+y)) h) (oE a.adG (λm=>K7 m b Q h) (oG a.items λxs=>oG b.items λys=>xs.length<aG/\ys.length<aG/\Q (V.tup (xs++ys)) h))
 | .sub=>nZ a b λx y=>Q (.int (x-y)) h
 | .mul=>nZ a b λx y=>small x=ah/\small y=ah/\Q (.int (x*y)) h
 | .fdiv=>nZ a b λx y=>0<y/\y<1073741824/\Q (.int (x.fdiv y)) h
 | .mod=>nZ a b λx y=>0<y/\Q (.int (x.fmod y)) h
def BN(a b:V)(Q:Bool->Prop)(h:Hp):Prop:=
 (a.data fk=ah/\b.data fk=ah/\Q (decide (a=b)))\/
 (∃m n,a= .ref m/\b= .ref n/\oL m (λxs=>oL n (λys=>gJ xs=ah/\gJ ys=ah/\Q (decide (xs=ys))) h) h)\/
 (∃x y,a= .bool x/\b= .bool y/\Q (x==y))\/(a= .none/\(∃k,b= .int k)/\Q au)
def JN(a:V)(xs:List V)(Q:Bool->Prop):Prop:=a.data fk=ah/\gJ xs=ah/\Q (decide (a∈xs))
def BF(a b:V)(Q:Bool->Prop)(h:Hp):Prop:=oE b.adG (λn=>oL n (λxs=>JN a xs Q) h\/oD n (λes=>b7 a es=ah/\Q (bC es a).isSome) h) (oG b.items λxs=>JN a xs Q)
def bZ(op:CO)(a b:V)(Q:Bool->Hp->Prop)(h:Hp):Prop:=match op with
 | .eq=>BN a b (λt=>Q t h) h
 | .ne=>BN a b (λt=>Q (!t) h) h
 | .lt=>nZ a b λx y=>Q (decide (x<y)) h
 | .gt=>nZ a b λx y=>Q (decide (y<x)) h
 | .le=>nZ a b λx y=>Q (decide (x<=y)) h
 | .ge=>nZ a b λx y=>Q (decide (y<=x)) h
 | .adz=>br b.adz (Q a.adz h) False
 | .notN=>br b.adz (Q (!a.adz) h) False
 | .inn=>BF a b (λt=>Q t h) h
 | .notin=>BF a b (λt=>Q (!t) h) h
def qS(v:V)(Q:Bool->Hp->Prop)(h:Hp):Prop:=match v with
 | .bool b=>Q b h
 | .none=>Q au h
 | .int i=>Q (decide (i≠0)) h
 |_=>False
def CJ(v:V)(Q:List V->Prop)(h:Hp):Prop:=g8 v λn=>oL n Q h\/oD n (λes=>hY es=ah/\Q (es.map (·.1))) h
noncomputable def El(p:V×V):Option (Int×Int):=p.1.int?.bind λa=>p.2.int?.map λb=>(a,b)
noncomputable def one(vs:List V):Option V:=match vs with
 |[v]=>aa v
 |_=>ao
noncomputable def qI(vs:List V):Option (Int×Int):=match pH vs with
 |some p=>El p
 |none=>(one vs).bind λv=>(CL v).bind El
def pM(v:V)(Q:PV)(h:Hp):Prop:=oE v.adG (λn=>oL n (λxs=>Q (.int xs.length) h) h) (oG v.items λxs=>Q (.int xs.length) h)
def tZ(v:V)(Q:PV)(h:Hp):Prop:=CJ v (λxs=>∃ks,kr xs=aa ks/\ks.length<64/\cj (.list ((jj ks).map V.int)) Q h) h
def CH(v:V)(Q:PV)(h:Hp):Prop:=g8 v λn=>oL n (λxs=>∃ks,kr xs=aa ks/\Q (.int ks.sum) h) h
def JQ(v:V)(Q:PV)(h:Hp):Prop:=mT v λk=>Q (.int (if k<0 then -k else k)) h
def yp(v:V)(Q:PV)(h:Hp):Prop:=oE v.adG (λn=>oL n (λxs=>xs.length<aG/\Q (V.tup xs) h) h) (v.items.isSome=ah/\Q v h)
def xF(v:V)(Q:PV)(h:Hp):Prop:=CJ v (λxs=>xs.length<aG/\cj (.list xs) Q h) h
def Bx(v:V)(Q:PV)(h:Hp):Prop:=g8 v λn=>oL n (λxs=>∃ps,vf xs=aa ps/\ps.length<aG/\hY ps=ah/\cj (.dict (kq [] ps)) Q h) h
def DM(f:Nat)(vs:List V)(Q:PV)(h:Hp):Prop:=match f with
 |5=>oG (one vs) λv=>pM v Q h
 |6=>oG (one vs) λv=>tZ v Q h
 |7=>oG (one vs) λv=>CH v Q h
 |8=>oG (one vs) λv=>JQ v Q h
 |9=>oG (one vs) λv=>yp v Q h
 |10=>oG (one vs) λv=>xF v Q h
 |11=>oG (one vs) λv=>Bx v Q h
 |12=>oG (qI vs) λp=>Q (.int (n7 p.1 p.2)) h
 |13=>oG (qI vs) λp=>Q (.int (nN p.1 p.2)) h
 |_=>False
inductive MK where
 |app|ext|pop|get|setd
 |fn (f:Nat)
noncomputable def tW:Nat->Option MK:=eE [(0,.app),(1,.ext),(2,.pop)]
noncomputable def xB:Nat->Option MK:=eE [(3,.get),(4,.setd)]
def gh(v:V)(m:Nat)(Q:MK->Hp->Prop)(h:Hp):Prop:=g8 v λn=>
 (∃c fs f,h.get n=aa (.inst c fs)/\(dR fs m).isNone=ah/\iM c m=aa f/\Q (.fn f) h)\/oL n (λ_=>∃k,tW m=aa k/\Q k h) h\/oD n (λ_=>∃k,xB m=aa k/\Q k h) h
def iK(n:Nat)(v:V)(Q:PV)(h:Hp):Prop:=oL n (λxs=>xs.length<aG/\nU n (.list (xs++[v])) (Q .none) h) h
def qT(n:Nat)(v:V)(Q:PV)(h:Hp):Prop:=g8 v λk=>oL n (λxs=>oL k (λys=>xs.length<aG/\ys.length<aG/\nU n (.list (xs++ys)) (Q .none) h) h) h
def tB(n:Nat)(Q:PV)(h:Hp):Prop:=oL n (λxs=>∃ys v,xs=ys++[v]/\nU n (.list ys) (Q v) h) h
def ru(n:Nat)(vs:List V)(Q:PV)(h:Hp):Prop:=oD n (λes=>oE (one vs) (λk=>b7 k es=ah/\Q ((bC es k).getD .none) h) (oG (pH vs) λp=>b7 p.1 es=ah/\Q ((bC es p.1).getD p.2) h)) h
def Dr(n:Nat)(vs:List V)(Q:PV)(h:Hp):Prop:=oG (pH vs) λp=>oD n (λes=>p.1.adL=ah/\b7 p.1 es=ah/\es.length<aG/\oE (bC es p.1) (λw=>Q w h) (nU n (.dict (es++[(p.1,p.2)])) (Q p.2) h)) h
def lY(o:V)(f:Nat)(v:V)(Q:Hp->Prop)(h:Hp):Prop:=g8 o λn=>∃c fs,h.get n=aa (.inst c fs)/\mU c f=ah/\fs.length<aG/\nU n (.inst c (jk fs f v)) Q h
def dY(o i v:V)(Q:Hp->Prop)(h:Hp):Prop:=g8 o λn=>oD n (λes=>b7 i es=ah/\es.length<aG/\nU n (.dict (bB es i v)) Q h) h
def pR(o i:V)(Q:Hp->Prop)(h:Hp):Prop:=g8 o λn=>oD n (λes=>b7 i es=ah/\(bC es i).isSome=ah/\nU n (.dict (iy es i)) Q h) h
def sZ(v:V)(Q:List V->Prop)(h:Hp):Prop:=oE v.adG (λn=>oL n Q h) (oG v.items Q)
def js(tup:Bool)(xs:List Nat)(v:V)(ρ:Env)(Q:Env->Prop)(h:Hp):Prop:=
 br tup (sZ v (λvs=>br (dU vs.length xs.length) (Q (bf xs vs ρ)) False) h) (Q (bf xs [v] ρ))
def ke(v:V)(Q:Option (Nat×O)->List V->Prop)(h:Hp):Prop:=oE v.adG
 (λn=>oL n (λxs=>Q (aa (n,.list xs)) xs) h\/oD n (λes=>hY es=ah/\Q (aa (n,.dict es)) (es.map (·.1))) h) (oG v.items λxs=>Q ao xs)
def je(s:Option (Nat×O))(h:Hp):Prop:=∀p,s=aa p->h.get p.1=aa p.2
noncomputable def iW(s:Option (Nat×O)):Option Nat:=match s with
 |some (n,.dict _)=>aa n
 |_=>ao
def vh(s:Option (Nat×O))(Q:Hp->Prop)(h:Hp):Prop:=oE (iW s) (λn=>h.lk=ao/\Q (h.lock (aa n))) (Q h)
noncomputable def g9(s:Option (Nat×O))(h:Hp):Hp:=match iW s with
 |some _=>h.lock ao
 |none=>h
noncomputable abbrev TE:=Env->PV->Hp->Prop
noncomputable abbrev TS:=Env->PX->Hp->Prop
noncomputable abbrev TI:=Nat->List V->PV->(Hp->Prop)->Hp->Prop
def nX(_:Hp):Prop:=False
section
variable (I:TI)(X:Hp->Prop)
def Cb(Q:PV)(r:Bool)(h:Hp):Prop:=Q (.bool r) h
def Do(Q:PV)(t:Bool)(h:Hp):Prop:=Q (.bool !t) h
def lL(Q:Bool->Hp->Prop)(v:V)(h:Hp):Prop:=qS v Q h
def mq(v:V)(Q:List V->Prop):Prop:=oG v.items Q
def zf(vs:List V)(Q:Prop):Prop:=br (As vs.length aG) Q False
def xL(K:List (V×V)->Bool)(vs:List V)(Q:PV)(h:Hp):Prop:=oG (sD vs) λps=>br (uu ps.length 15&&K ps) (cj (.dict (kq [] ps)) Q h) False
def Yg(n:Nat)(Q:PV)(r:V)(h:Hp):Prop:=match r with
 | .none=>Q (.ref n) h
 |_=>False
def IF(c:Nat)(vs:List V)(Q:PV)(h:Hp):Prop:=oG (iM c 14) λf=>∀n,h.get n=ao->I f (.ref n::vs) (Yg n Q) nX (h.put n (.inst c []))
noncomputable def tT(x y:V):Option (List (V×V)):=x.items.bind λxs=>y.items.map λys=>xs.zip ys
noncomputable def zj(ps:List (V×V)):List V:=ps.map λp=>V.tup [p.1,p.2]
def kU(op:U)(Q:PV)(v:V)(h:Hp):Prop:=match op with
 | .a f=>db v f Q h
 | .r=>qK v 0 abo Q h
 | .n=>qS v (Do Q) h
 | .L=>mq v λvs=>zf vs (cj (.list vs) Q h)
 | .T=>mq v λvs=>zf vs (Q v h)
 | .D=>mq v λvs=>xL hY vs Q h
 | .K=>mq v λvs=>xL yE vs Q h
 | .c f=>mq v λvs=>I f vs Q X h
 | .B f=>mq v λvs=>DM f vs Q h
 | .N c=>mq v λvs=>IF I c vs Q h
 | .R=>False
 | .V=>False
def Ld(op:B)(x:V)(Q:PV)(y:V)(h:Hp):Prop:=match op with
 | .i=>eY x y Q h
 | .s=>mT y λk=>qK x k (List.take k.toNat) Q h
 | .f=>mT y λk=>qK x k (List.drop k.toNat) Q h
 | .z=>oG (tT x y) λps=>ps.length<aG/\cj (.list (zj ps)) Q h
 | .k=>Q (.adA x y) h
 | .a op=>pW op x y Q h
 | .c op=>bZ op x y (Cb Q) h
def kB(op:B)(t:TE)(ρ:Env)(Q:PV)(x:V)(h:Hp):Prop:=t ρ (Ld op x Q) h
def B2(t:TE)(ρ:Env)(Q:PV)(x:V)(b:Bool)(h:Hp):Prop:=br b (t ρ Q h) (Q x h)
def kA(t:TE)(ρ:Env)(Q:PV)(x:V)(h:Hp):Prop:=qS x (B2 t ρ Q x) h
def B8(t:TE)(ρ:Env)(Q:PV)(x:V)(b:Bool)(h:Hp):Prop:=br b (Q x h) (t ρ Q h)
def kO(t:TE)(ρ:Env)(Q:PV)(x:V)(h:Hp):Prop:=qS x (B8 t ρ Q x) h
def kT(t t':TE)(ρ:Env)(Q:PV)(b:Bool)(h:Hp):Prop:=br b (t ρ Q h) (t' ρ Q h)
def zc(k:MK)(v:V)(Q:PV)(w:V)(h:Hp):Prop:=mq w λvs=>match k with
 | .fn f=>I f (v::vs) Q X h
 | .app=>g8 v λn=>oG (one vs) λw=>iK n w Q h
 | .ext=>g8 v λn=>oG (one vs) λw=>qT n w Q h
 | .pop=>g8 v λn=>br vs.isEmpty (tB n Q h) False
 | .get=>g8 v λn=>ru n vs Q h
 | .setd=>g8 v λn=>Dr n vs Q h
def L5(t:TE)(ρ:Env)(v:V)(Q:PV)(k:MK)(h:Hp):Prop:=t ρ (zc I X k v Q) h
def kM(m:Nat)(t:TE)(ρ:Env)(Q:PV)(v:V)(h:Hp):Prop:=gh v m (L5 I X t ρ v Q) h
noncomputable def mx(tup:Bool)(xs:List Nat)(tc te:TE)(ρ:Env)(s:Option (Nat×O))(K:List V->Hp->Prop):List V->List V->Hp->Prop
 |[],acc,h=>je s h/\K acc h
 |x::r,acc,h=>je s h/\js tup xs x ρ (λf_=>tc f_ (lL λb h=>br b (te f_ (λv h=>mx tup xs tc te ρ s K r (acc++[v]) h) h) (mx tup xs tc te ρ s K r acc h)) h) h
def kC(tup:Bool)(xs:List Nat)(tc te:TE)(ρ:Env)(Q:PV)(v:V)(h:Hp):Prop:=
 ke v (λs l=>vh s (mx tup xs tc te ρ s (λacc h=>cj (.list acc) Q (g9 s h)) l []) h) h
noncomputable def vE:E->(Hp->Prop)->TE
 | .l v,_,_,Q,h=>Q v h
 | .v x,_,ρ,Q,h=>oG (ρ x) λv=>Q v h
 | .g x,_,_,Q,h=>oG (DC x) λv=>Q v h
 | .u op e,X,ρ,Q,h=>vE e X ρ (kU I X op Q) h
 | .b op a b,X,ρ,Q,h=>vE a X ρ (kB op (vE b X) ρ Q) h
 | .A a b,X,ρ,Q,h=>vE a X ρ (kA (vE b X) ρ Q) h
 | .O a b,X,ρ,Q,h=>vE a X ρ (kO (vE b X) ρ Q) h
 | .t c a b,X,ρ,Q,h=>vE c X ρ (lL (kT (vE a X) (vE b X) ρ Q)) h
 | .C elt tup xs it cond,X,ρ,Q,h=>vE it X ρ (kC tup xs (vE cond nX) (vE elt nX) ρ Q) h
 | .m o m es,X,ρ,Q,h=>vE o X ρ (kM I X m (vE es X) ρ Q) h
end
def kx(Q:PX)(h:Hp):Prop:=Q .exc Env.nil h
def kN(ρ:Env)(Q:PX)(h:Hp):Prop:=Q .next ρ h
def nx(t:TS)(Q:PX)(f:Fl)(ρ:Env)(h:Hp):Prop:=match f with
 | .next=>t ρ Q h
 |f=>Q f ρ h
def lq(J:Env->Hp->Prop)(Q:PX)(f:Fl)(ρ:Env)(h:Hp):Prop:=match f with
 | .ret v=>Q (.ret v) ρ h
 | .exc=>Q .exc ρ h
 |_=>J ρ h
def ne(Q:PX)(f:Fl)(ρ:Env)(h:Hp):Prop:=match f with
 | .exc=>False
 |f=>Q f ρ h
def fq(Q:PV)(X:Hp->Prop)(f:Fl)(_:Env)(h:Hp):Prop:=match f with
 | .ret v=>Q v h
 | .next=>Q .none h
 | .exc=>X h
 | .cont=>False
def kE(op:SO)(ρ:Env)(Q:PX)(v:V)(h:Hp):Prop:=match op with
 | .s tup xs=>js tup xs v ρ (λρ=>Q .next ρ h) h
 | .a f=>match v with
  | .adA v o=>lY o f v (kN ρ Q) h
  |_=>False
 | .i=>match v with
  | .adA v (.adA o i)=>dY o i v (kN ρ Q) h
  |_=>False
 | .d=>match v with
  | .adA o i=>pR o i (kN ρ Q) h
  |_=>False
 | .x=>Q .next ρ h
 | .r=>Q (.ret v) Env.nil h
def ya(t t':TS)(ρ:Env)(Q:PX)(b:Bool)(h:Hp):Prop:=br b (t ρ Q h) (t' ρ Q h)
noncomputable def fG:S->List Nat
 | .q s r=>fG s++fG r
 | .e (.s _ xs) _=>xs
 | .i _ a b=>fG a++fG b
 | .f _ ts _ b=>ts++fG b
 | .w _ b=>fG b
 | .y _ a _ b=>fG a++fG b
 |_=>[]
def de(ts:List Nat)(ρ aO:Env):Prop:=∀x,x∉ts->aO x=ρ x
noncomputable def mr(tup:Bool)(xs bs:List Nat)(tb:TS)(s:Option (Nat×O))(Q:PX):List V->Env->Hp->Prop
 |[],ρ,h=>je s h/\Q .next ρ h
 |x::r,ρ,h=>je s h/\js tup xs x ρ (λf_=>tb f_ (lq (λaO h=>de bs ρ aO->mr tup xs bs tb s Q r aO h) Q) h) h
def adC(s:Option (Nat×O))(Q:PX)(f:Fl)(ρ:Env)(h:Hp):Prop:=Q f ρ (g9 s h)
def kF(tup:Bool)(xs bs:List Nat)(tb:TS)(ρ:Env)(Q:PX)(h:Hp)(s:Option (Nat×O))(l:List V):Prop:=vh s (mr tup xs bs tb s (adC s Q) l ρ) h
def kW(bs:List Nat)(tb:TS)(J:Env->Hp->Prop)(Q:PX)(ρ:Env)(t:Bool)(h:Hp):Prop:=br t (tb ρ (lq (λaO h=>de bs ρ aO->J aO h) (ne Q)) h) (Q .next ρ h)
def Jh(bs:List Nat)(tc:TE)(tb:TS)(Q:PX)(dH:Env)(h0:Hp):Prop:=∀J:Env->Hp->Prop,(∀ρ h,tc ρ (lL (kW bs tb J Q ρ)) h->J ρ h)->J dH h0
def JC(K:Hp->Option (Nat×O)->List V->Prop)(v:V)(h:Hp):Prop:=mT v λk=>k.natAbs<2 ^ 20/\K h ao (ZN k)
def DK(x:V)(K:Hp->Option (Nat×O)->List V->Prop)(y:V)(h:Hp):Prop:=oG (tT x y) λps=>K h ao (ps.map λp=>V.tup [p.1,p.2])
def kZp(t:TE)(ρ:Env)(K:Hp->Option (Nat×O)->List V->Prop)(x:V)(h:Hp):Prop:=t ρ (DK x K) h
def Df(K:Hp->Option (Nat×O)->List V->Prop)(v:V)(h:Hp):Prop:=oG v.items λxs=>K h ao xs.reverse
def Ji(K:Hp->Option (Nat×O)->List V->Prop)(v:V)(h:Hp):Prop:=ke v (K h) h
section
variable (I:TI)
def Dy(it:E)(X:Hp->Prop)(ρ:Env)(K:Hp->Option (Nat×O)->List V->Prop)(h:Hp):Prop:=match it with
 | .u .R a=>vE I a X ρ (JC K) h
 | .b .z a b=>vE I a X ρ (kZp (vE I b X) ρ K) h
 | .u .V a=>vE I a X ρ (Df K) h
 |it=>vE I it X ρ (Ji K) h
noncomputable def vS:S->TS
 | .bad,_,_,_=>False
 | .n,ρ,Q,h=>Q .next ρ h
 | .q s r,ρ,Q,h=>vS s ρ (nx (vS r) Q) h
 | .e op e,ρ,Q,h=>vE I e (kx Q) ρ (kE op ρ Q) h
 | .i c a b,ρ,Q,h=>vE I c (kx Q) ρ (lL (ya (vS a) (vS b) ρ Q)) h
 | .f tup xs it b,ρ,Q,h=>Dy I it (kx Q) ρ (kF tup xs (xs++fG b) (vS b) ρ Q) h
 | .w c b,ρ,Q,h=>Jh (fG b) (vE I c nX) (vS b) Q ρ h
 | .c,ρ,Q,h=>Q .cont ρ h
 | .R c x,ρ,Q,h=>(∃i,ρ x=aa (.int i)/\small i=ah)/\c=81/\Q .exc Env.nil h
 | .y e a c hd,ρ,Q,h=>c=81/\vE I e (λh=>vS hd ρ (ne Q) h) ρ (λ_ h=>vS a ρ (ne Q) h) h
def vF(f:Nat)(vs:List V)(Q:PV)(X:Hp->Prop)(h:Hp):Prop:=oG (BB f) λp=>br (dU p.1.length vs.length) (vS I p.2 (bf p.1 vs Env.nil) (fq Q X) h) False
end
end Mine
section
open PySem PySem.W PySem.Calls PyProof.Rows PySem.SeqAt
namespace Mine
structure aY where
 prog:i6
 w:dO
 K:di
 h₀:aL
 pr:aB->Prop
noncomputable abbrev aY.y(C:aY)(h:aL)(X:aB->Prop):aY:={C with h₀:=h,pr:=X}
noncomputable abbrev aY.x(C:aY)(X:aB->Prop):aY:=C.y C.h₀ X
noncomputable abbrev aY.M(C:aY):uv:=model C.prog C.w
noncomputable def eN:Nat:=259
noncomputable def aE(i:Nat):Str:=dD ((SV++["bvnum"]).getD i "")
noncomputable def J3(s:Str):Nat:=s.cps.toList.foldl (λn c=>n*1114112+c+1) 0
noncomputable def DF:List Nat->Bool
 |[]=>ah
 |x::r=>r.all (λy=>!dU x y)&&DF r
theorem UY{f:Nat->Nat}:∀{l:List Nat},DF (l.map f)=ah->∀{i j},i∈l->j∈l->f i=f j->i=j:=by
 intro l;induction l with
 |nil=>exact nofun
 |cons x r ih=>
  intro h i j hi hj e;have h:=dE _ _▸h;have q:∀{m},m∈r->f x≠f m:=λhm z=>by have:=cQ.mp h.1 _ (bz.mpr ⟨_,hm,rfl⟩);rw[z,abp] at this;exact zC this
  rcases a_.mp hi with hi|hi <;> rcases a_.mp hj with hj|hj
  ·exact hi.trans hj.symm
  ·rw[hi] at e;exact absurd e (q hj)
  ·rw[hj] at e;exact absurd e.symm (q hi)
  ·exact ih h.2 hi hj e
theorem aaV:DF ((jE eN).map λi=>J3 (aE i))=ah:=by decide+kernel
theorem nM{i j:Nat}(hi:i<eN)(hj:j<eN)(e:aE i=aE j):i=j:=UY aaV (oA.mpr hi) (oA.mpr hj) (congrArg J3 e)
noncomputable def lA:List (Nat×Nat):=[(81,47),(209,387),(253,511),(254,817),(257,282)]
noncomputable def tV:List (Nat×Nat):=[(186,826),(190,833),(191,840),(210,845),(211,852),(212,859),(213,866),(220,871),(223,878),(229,883),(232,890),(237,895),(238,900),(239,905),(244,912),(245,917),(247,922),(252,927),(255,932),(1001,83),(1002,97),(1003,104),(1004,125),(1005,153),(1006,174),(1007,181),(1008,188),(1009,195),(1011,216),(1012,237),(1014,272),(1015,279),(1016,342),(1017,363),(1018,403),(1019,410),(1020,417),(1021,424),(1022,431),(1023,438),(1024,445),(1025,452),(1026,459),(1027,466),(1028,473),(1029,480),(1030,487),(1031,494),(1032,501),(1033,508),(1034,530),(1035,537),(1036,551),(1039,586),(1040,593),(1041,598),(1042,603),(1043,608),(1044,615),(1045,622),(1046,629),(1047,636),(1048,643),(1049,650),(1050,657),(1051,664),(1053,678),(1054,685),(1055,692),(1056,699),(1061,753),(1063,781),(1064,786),(1065,793),(1067,807)]
noncomputable def cT(c:Nat):aB:=(eE lA c).getD 0
noncomputable def dG(c:Nat):aB:=(eE tV c).getD 0
def bR(C:aY)(H:aL)(t:aB)(l:List av):Prop:=¬C.pr t/\dJ H t (bH l)
inductive VR(C:aY)(H:aL):V->av->Prop
 |none:VR C H .none .none
 |bool (b:Bool):VR C H (.bool b) (.bool b)
 |int (i:Int) (t:Tok):VR C H (.int i) (.int i t)
 |str {n:Nat} (t:Tok):n<eN->VR C H (.str n) (.str (aE n) t)
 |ref (n:Nat):VR C H (.ref n) (.ref n)
 |tup {v:V} {vs:List V} {t:aB} {l:List av}:v.items=aa vs->bR C H t l->l.length<=2*aG->vs.length=l.length->(∀(i:Nat) a x,vs[i]? =aa a->l[i]? =aa x->VR C H a x)->VR C H v (.ref t)
inductive VL(C:aY)(H:aL):List V->List av->Prop
 |nil:VL C H [] []
 |cons {a:V} {x:av} {as:List V} {xs:List av}:VR C H a x->VL C H as xs->VL C H (a::as) (x::xs)
section
variable {C C':aY}{H H':aL}{a v:V}{x pv:av}{as bs vs:List V}{xs ys l:List av}
theorem VL.len(z:VL C H as xs):as.length=xs.length:=by
 induction z with
 |nil=>rfl
 |cons _ _ ih=>exact congrArg qg ih
theorem VL.append(z:VL C H as xs)(y:VL C H bs ys):VL C H (as++bs) (xs++ys):=by
 induction z with
 |nil=>exact y
 |cons p _ ih=>exact .cons p ih
theorem VL.get(z:VL C H as xs){i:Nat}(e:as[i]? =aa a):∃y,xs[i]? =aa y/\VR C H a y:=by
 induction z generalizing i with
 |nil=>exact zA e
 |cons p _ ih=>
  cases i with
  |zero=>cases zF e;exact⟨_,rfl,p⟩
  |succ j=>exact ih e
theorem VL.of:∀{as:List V} {xs:List av},as.length=xs.length->(∀(i:Nat) a x,as[i]? =aa a->xs[i]? =aa x->VR C H a x)->VL C H as xs:=by
 intro as;induction as with
 |nil=>
  intro vM;cases vM with
  |nil=>intro _ _;exact .nil
  |cons _ _=>intro e _;exact nomatch e
 |cons a as ih=>
  intro vN;cases vN with
  |nil=>intro e _;exact nomatch e
  |cons x xs=>intro e h;exact .cons (h 0 a x rfl rfl) (ih (jZ e) λi a x e e'=>h (i+1) a x e e')
theorem VL.take(z:VL C H as xs)(k:Nat):VL C H (as.take k) (xs.take k):=by
 induction z generalizing k with
 |nil=>cases k <;> exact .nil
 |cons p _ ih=>
  cases k with
  |zero=>exact .nil
  |succ k=>exact .cons p (ih k)
theorem VL.drop(z:VL C H as xs)(k:Nat):VL C H (as.drop k) (xs.drop k):=by
 induction z generalizing k with
 |nil=>cases k <;> exact .nil
 |cons p q ih=>
  cases k with
  |zero=>exact .cons p q
  |succ k=>exact ih k
theorem VL.snoc(z:VL C H as xs)(p:VR C H a x):VL C H (as++[a]) (xs++[x]):=z.append (.cons p .nil)
theorem VL.reverse(z:VL C H as xs):VL C H as.reverse xs.reverse:=by
 induction z with
 |nil=>exact .nil
 |cons p q ih=>rw[Au,Au];exact ih.snoc p
theorem VL.one(z:VL C H [v] l):∃pv,l=[pv]/\VR C H v pv:=by
 cases z with
 |cons p q=>cases q;exact⟨_,rfl,p⟩
theorem VL.two{w:V}(z:VL C H [v,w] l):∃pv pw,l=[pv,pw]/\VR C H v pv/\VR C H w pw:=by
 cases z with
 |cons p q=>refine e1a2 q.one λpw e q2=>?_;exact⟨_,_,by rw[e],p,q2⟩
theorem VR.ad8(z:VL C H vs l){t:aB}(e:v.items=aa vs)(ht:bR C H t l)(hn:l.length<=2*aG):VR C H v (.ref t):=
 .tup e ht hn z.len λi a x e1 e2=>by refine e1a2 (z.get e1) λy h1 h2=>?_;rw[cP (e2.symm.trans h1)];exact h2
def VRi(C:aY)(H:aL)(v:V)(pv:av):Prop:=match v with
 | .none=>pv= .none
 | .bool b=>pv= .bool b
 | .int i=>∃t,pv= .int i t
 | .str n=>n<eN/\∃t,pv= .str (aE n) t
 | .ref n=>pv= .ref n
 |v=>∃vs t l,v.items=aa vs/\pv= .ref t/\bR C H t l/\VL C H vs l/\l.length<=2*aG
theorem VR.inv(z:VR C H v pv):VRi C H v pv:=by
 cases z with
 |none=>rfl
 |bool=>rfl
 |int=>exact⟨_,rfl⟩
 |str t h=>exact⟨h,_,rfl⟩
 |ref=>rfl
 |tup e1 e2 e3 e4 e5=>have k:=(⟨_,_,_,e1,rfl,e2,.of e4 e5,e3⟩:∃vs t' l,v.items=aa vs/\du _= .ref t'/\bR C H t' l/\VL C H vs l/\l.length<=2*aG);cases v <;> first|exact k|exact zA e1
theorem VR.items(z:VR C H v pv)(e:v.items=aa vs):∃t l,pv= .ref t/\bR C H t l/\VL C H vs l/\l.length<=2*aG:=by
 have k:(∃vs t l,v.items=aa vs/\pv= .ref t/\bR C H t l/\VL C H vs l/\l.length<=2*aG)->∃t l,pv= .ref t/\bR C H t l/\VL C H vs l/\l.length<=2*aG:=λyy=>e3a2 yy λaeb t l e' r=>by rw[cP (e.symm.trans e')];exact⟨t,l,r⟩
 cases v <;> first|exact k z.inv|exact zA e
theorem VR.ofInt{i:Int}(z:VR C H (.int i) pv):∃t,pv= .int i t:=z.inv
theorem VR.ofStr{i:Nat}(z:VR C H (.str i) pv):i<eN/\∃t,pv= .str (aE i) t:=z.inv
theorem VR.adY{i:Nat}(z:VR C H (.ref i) pv):pv= .ref i:=z.inv
theorem VR.ofBool{i:Bool}(z:VR C H (.bool i) pv):pv= .bool i:=z.inv
theorem VR.adZ(z:VR C H .none pv):pv= .none:=z.inv
def TK(C:aY)(H H':aL):Prop:=∀a l,bR C H a l->bR C H' a l
theorem VR.mono(k:∀a l,bR C H a l->bR C' H' a l)(z:VR C H v pv):VR C' H' v pv:=by
 induction z with
 |none=>exact .none
 |bool=>exact .bool _
 |int=>exact .int _ _
 |str t h=>exact .str t h
 |ref=>exact .ref _
 |tup e1 e2 e3 e4 _ ih=>exact .tup e1 (k _ _ e2) e3 e4 ih
theorem VL.mono(k:∀a l,bR C H a l->bR C' H' a l)(z:VL C H as xs):VL C' H' as xs:=by
 induction z with
 |nil=>exact .nil
 |cons p _ ih=>exact .cons (p.mono k) ih
theorem TK.of(k:∀b o,H.get? b=aa o->H'.get? b=aa o):TK C H H':=λ_ _ yy=>aC yy λn aD=>e1a2 aD λo ho r=>⟨n,o,k _ _ ho,r⟩
end
inductive KD(C:aY)(H:aL):V->av->Prop
 |int (i:Int) (t:Tok):KD C H (.int i) (.int i t)
 |str {n:Nat} (t:Tok):n<eN->KD C H (.str n) (.str (aE n) t)
 |tup {v:V} {vs:List V} {t:aB} {l:List av}:v.items=aa vs->dJ H t (bH l)->VL C H vs l->KD C H v (.ref t)
section
variable {C:aY}{H:aL}{v w a b:V}{x y:av}{vs ws:List V}{l l':List av}{d:Nat}{A:bg}{s:aA}
theorem VR.kd(z:VR C H v x)(h:v.data d=ah):KD C H v x:=by
 have z:=z.inv;cases v with
 |int i=>refine e1a1 z λt e=>?_;rw[e];exact .int i t
 |str n=>(refine aC z λh aD=>?_;refine e1a1 aD λt e=>?_);rw[e];exact .str t h
 |adt=>refine e3a5 z λvs t l e e' r q _=>?_;rw[e'];exact .tup e r.2 q
 |adA a b=>refine e3a5 z λvs t l e e' r q _=>?_;rw[e'];exact .tup e r.2 q
 |_=>cases d <;> exact zC h
theorem nV:∀{v:V} {vs:List V},v.items=aa vs->v=V.tup vs:=by
 intro v;induction v with
 |adt=>intro vs h;cases zF h;rfl
 |adA a b _ ih=>intro vs h;refine e1a2 (iD.mp h) λr hr e=>?_;rw[<-e,ih hr];rfl
 |_=>intro vs h;exact zA h
theorem mF:∀{v:V} {d:Nat} {vs:List V},v.data d=ah->v.items=aa vs->∀x∈vs,∃d',d=d'+1/\x.data d'=ah:=by
 intro v;induction v with
 |adt=>intro d vs _ e x hx;cases zF e;exact zE hx
 |adA a b _ ih=>
  intro d vs h e x hx;cases d with
  |zero=>exact zC h
  |succ d=>
   have h:=dE _ _▸h;refine e1a2 (iD.mp e) λr hr er=>?_;rw[<-er] at hx;rcases a_.mp hx with z|z
   ·rw[z];exact⟨d,rfl,(dE _ _▸h.1).1⟩
   ·exact ih h.2 hr x z
 |_=>intro d vs _ e;exact zA e
theorem Mc(e:v.items=aa vs)(e':w.items=aa ws):decide (v=w)=decide (vs=ws):=
 decide_eq_decide.mpr ⟨λz=>by rw[z,e'] at e;exact(cP e).symm,λz=>by rw[nV e,nV e',z]⟩
theorem pC(e:v.items=aa vs)(h:w.items=ao):decide (v=w)=au/\decide (w=v)=au:=⟨decide_eq_false λq=>(by rw[<-q,e] at h;exact zB h),decide_eq_false λq=>(by rw[q,e] at h;exact zB h)⟩
theorem Z9{t:aB}(x:dJ H t (bH l))(y:dJ H t (bH l')):l=l':=by
 (refine e1a3 x λo ho _ aD=>?_;refine e1a1 aD λn hd=>?_)
 (refine e1a3 y λo' bN _ aD=>?_;refine e1a1 aD λn' d8=>?_)
 rw[ho] at bN;cases zF bN;rw[hd] at d8;injection d8 with e _
 injection e
theorem VL.inj(hp:∀{a b:V} {x:av},a∈vs->b∈ws->VR C H a x->VR C H b x->a=b)(z:VL C H vs l)(z':VL C H ws l):vs=ws:=by
 induction z generalizing ws with
 |nil=>cases z';rfl
 |cons q _ ih=>
  cases z' with
  |cons q' r'=>rw[hp (.head _) (.head _) q q',ih (λh h'=>hp (.tail _ h) (.tail _ h')) r']
theorem VR.aeh(ha:a.data d=ah)(hb:b.data d=ah)(p:VR C H a x)(q:VR C H b x)(st:∀{vs ws a' b' x'},a.items=aa vs->b.items=aa ws->a'∈vs->b'∈ws->VR C H a' x'->VR C H b' x'->a'=b'):a=b:=by
 cases p.kd ha with
 |int i t=>cases q.kd hb with
  |int=>rfl
 |str t h=>
  generalize e:aE _=z at q;cases q.kd hb with
  |str _ h'=>rw[nM h h' e]
 |tup e ht z=>cases q.kd hb with
  |tup e' gb z'=>rw[<-Z9 ht gb] at z';rw[nV e,nV e',VL.inj (st e e') z z']
theorem VR.inj:∀{d:Nat} {a b:V} {x:av},a.data d=ah->b.data d=ah->VR C H a x->VR C H b x->a=b:=by
 intro d;induction d with
 |zero=>intro _ _ _ ha hb p q;exact p.aeh ha hb q λe _ h=>nomatch (mF ha e _ h).choose_spec.1
 |succ d ih=>
  intro _ _ _ ha hb p q;exact p.aeh ha hb q λe e' h h' p q=>by refine e1a2 (mF ha e _ h) λd1 e1 k1=>?_;refine e1a2 (mF hb e' _ h') λd2 e2 k2=>?_;cases e1;cases e2;exact ih k1 k2 p q
theorem Bu{as bs:List V}:((jE (min as.length bs.length)).all (λj=>decide (as[j]? =bs[j]?))&&as.length==bs.length)=decide (as=bs):=by
 by_cases h:as=bs
 ·rw[decide_eq_true h,h,beq_self_eq_true,Av];exact cQ.mpr λ_ _=>decide_eq_true rfl
 ·rw[decide_eq_false h,Bool.and_eq_false_iff];by_cases hl:as.length=bs.length
  ·refine .inl (Aw.mpr λzq=>h (List.ext_getElem? λi=>?_));by_cases hi:i<as.length
   ·exact of_decide_eq_true (cQ.mp zq i (oA.mpr (Nat.lt_min.mpr ⟨hi,hl▸hi⟩)))
   ·rw[oB (uw hi),oB (hl▸uw hi)]
  ·exact .inr (beq_eq_false_iff_ne.mpr hl)
theorem Ky(z:VL C s.heap vs l)(z':VL C s.heap ws l')(h:∀a∈vs,∀b∈ws,∀x y,VR C s.heap a x->VR C s.heap b y->i7 A s x y (decide (a=b)))(j:Nat)(p1:j<(bH l).size)(p2:j<(bH l').size):i7 A s (bH l)[j] (bH l')[j] (decide (vs[j]? =ws[j]?)):=by have q1:j<vs.length:=z.len▸p1;have q2:j<ws.length:=z'.len▸p2;refine e1a2 (z.get (oF q1)) λy1 e1 r1=>?_;refine e1a2 (z'.get (oF q2)) λy2 e2 r2=>?_;have g1:(bH l)[j]=y1:=(i8.mp e1).2;have g2:(bH l')[j]=y2:=(i8.mp e2).2;rw[g1,g2,oF q1,oF q2,show decide (aa vs[j]=aa ws[j])=decide (vs[j]=ws[j]) from decide_eq_decide.mpr ⟨cP,congrArg aa⟩];exact h _ (GF q1) _ (GF q2) _ _ r1 r2
theorem Iu{n m:Nat}(h1:n<eN)(h2:m<eN):(aE n==aE m)=decide (V.str n=V.str m):=by
 by_cases h:n=m
 ·rw[h,beq_self_eq_true];exact(decide_eq_true rfl).symm
 ·rw[decide_eq_false λe=>(by injection e with e;exact h e),beq_eq_false_iff_ne];exact λe=>h (nM h1 h2 e)
theorem K3{i j:Int}:(i==j)=decide (V.int i=V.int j):=by
 by_cases h:i=j
 ·rw[h,beq_self_eq_true];exact(decide_eq_true rfl).symm
 ·rw[decide_eq_false λe=>(by injection e with e;exact h e),beq_eq_false_iff_ne];exact h
theorem MQ(ha:a.data d=ah)(hb:b.data d=ah)(p:VR C s.heap a x)(q:VR C s.heap b y)(hu:A.units<oH)(st:∀{vs ws},a.items=aa vs->b.items=aa ws->∀a'∈vs,∀b'∈ws,∀x y,VR C s.heap a' x->VR C s.heap b' y->i7 A.in1 s x y (decide (a'=b'))):i7 A s x y (decide (a=b)):=by
 cases p.kd ha with
 |int i t=>cases q.kd hb with
  |int j u=>rw[<-K3];exact i7.int_int i t j u
  |str u h=>exact i7.int_str i t _ u
  |tup e ht z=>rw[(pC e rfl).2];exact i7.int_tuple i t ht hu
 |str t h=>cases q.kd hb with
  |int j u=>exact i7.str_int _ t j u
  |str u h'=>rw[<-Iu h h'];exact i7.str_str _ t _ u
  |tup e ht z=>rw[(pC e rfl).2];exact i7.str_tuple _ t ht hu
 |tup e ht z=>cases q.kd hb with
  |int j u=>rw[(pC e rfl).1];exact i7.tuple_int j u ht hu
  |str u h=>rw[(pC e rfl).1];exact i7.tuple_str _ u ht hu
  | @tup _ ws t' l' e' gb z'=>
   rename_i vs t l;by_cases hr:t=t'
   ·rw[<-hr] at gb q ⊢;rw[decide_eq_true (VR.inj ha hb p q)];exact i7.same _
   ·refine .of_refs hr ?_;have:=abq (A:=A) (s:=s) ht gb hu (Ky z z' (st e e'));rw[show(bH l).size=vs.length from z.len.symm,show(bH l').size=ws.length from z'.len.symm,Bu,<-Mc e e'] at this;exact this
theorem D1:∀{d:Nat} {C:aY} {A:bg} {s:aA} {a b:V} {x y:av},a.data d=ah->b.data d=ah->VR C s.heap a x->VR C s.heap b y->A.units+d<oH->i7 A s x y (decide (a=b)):=by
 intro d;induction d with
 |zero=>intro _ _ _ _ _ _ _ ha hb p q hu;exact MQ ha hb p q hu λe _ a' h=>nomatch (mF ha e _ h).choose_spec.1
 |succ d ih=>
  intro _ _ _ _ _ _ _ ha hb p q hu;exact MQ ha hb p q (aR (b_ _ _) hu) λe e' a' h b' h' x y p q=>by refine e1a2 (mF ha e _ h) λd1 e1 k1=>?_;refine e1a2 (mF hb e' _ h') λd2 e2 k2=>?_;cases e1;cases e2;exact ih k1 k2 p q (by show _+1+d<_;rw[hZ,dB 1];exact hu)
end
noncomputable def hh(w:dO):V->Int×List Int
 | .int i=>(hashInt i,[])
 | .str n=>(hashStr w (aE n),[])
 | .adt=>(Ax (ux []),[])
 | .adA a b=>(Ax (ux ((hh w a).1::(hh w b).2)),(hh w a).1::(hh w b).2)
 |_=>(0,[])
noncomputable def dd:V->Nat×Nat
 | .int _=>(1,0)
 | .str _=>(1,0)
 | .adt=>(1,0)
 | .adA a b=>((dd a).1+(dd b).2+1,(dd a).1+(dd b).2)
 |_=>(0,0)
noncomputable abbrev jf(w:dO)(v:V):Int:=(hh w v).1
noncomputable abbrev f7(v:V):Nat:=(dd v).1
theorem U1(w:dO):∀vs:List V,hh w (V.tup vs)=(Ax (ux (vs.map (jf w))),vs.map (jf w)):=by
 intro vs;induction vs with
 |nil=>exact rfl
 |cons a r ih=>show(Ax (ux (jf w a::(hh w (V.tup r)).2)),jf w a::(hh w (V.tup r)).2)=_;rw[ih];rfl
theorem V6:∀vs:List V,dd (V.tup vs)=((vs.map f7).sum+1,(vs.map f7).sum):=by
 intro vs;induction vs with
 |nil=>exact rfl
 |cons a r ih=>show(f7 a+(dd (V.tup r)).2+1,f7 a+(dd (V.tup r)).2)=_;rw[ih];rfl
section
variable {C:aY}{A:bg}{E:av->aA->Prop}{v:V}{x:av}{vs:List V}{l:List av}{t:aB}{H:aL}{g dr tk os}{s:aA}
theorem LU(ht:dJ H t (bH l))(z:VL C H vs l)
  (step:∀v∈vs,∀x,VR C H v x->∀(B:bg) (F:av->aA->Prop) (tk:Nat) (Q:Int->aA->Prop),B.units<=A.units+2->Q (jf C.w v) ⟨H,g,dr,tk+f7 v,os⟩->ay C.M B (pyHash x) Q F ⟨H,g,dr,tk,os⟩)
  (hu:A.units<oH) {Q:Int->aA->Prop} (hQ:Q (jf C.w (V.tup vs)) ⟨H,g,dr,tk+f7 (V.tup vs),os⟩):ay C.M A (pyHash (.ref t)) Q E ⟨H,g,dr,tk,os⟩:=by
 have hT:(⟨H,g,dr,tk,os⟩:aA).TypeIs (.ref t) "tuple":=by refine e1a3 ht λo ho hc _=>?_;exact⟨o,ho,hc⟩
 (refine e1a3 ht λo ho ES aD=>?_;refine e1a1 aD λn hd=>?_)
 refine ax (wpAny_cRoomFor_or (.inr hu) (ax (oJ hT GG.lookup ?_)));show ay _ _ (if(aa (GH "tuple.__hash__")==aa jF)=ah then _ else _) Q E _;rw[if_neg (by rw[beq_builtin_none];exact k7)];refine ax (oJ hT GG.lookup ?_);show ay _ _ (callSpecialIfBoundUnlessNone? (.ref t) "__hash__" _ >>=_) Q E _;refine ax (wpAny_callSpecialIfBoundUnlessNone?_slot hT GG (i9 GG hT PySem.F.entry_tuple_hash ?_ (PySem.F.args_tuple_hash_1 _)));show ay _ _ (e8.Tuple.tupleItemsOf (.ref t) >>=_) _ _ _;refine ax (wpAny_tupleItemsOf ho hd (ax ?_));rw[<-abr];refine abt _ (λbO (b:Array Int) s'=>∃done left,vs=done++left/\VL C H left bO/\b.toList=done.map (jf C.w)/\s'=⟨H,g,dr,tk+(done.map f7).sum,os⟩) _ ?_ ?_ _ _ ⟨[],vs,rfl,z,rfl,rfl⟩
 ·rintro x bO b s' ⟨done,left,e,hl,hb,rfl⟩;cases hl with
  | @cons k _ ad3 _ h1 eZ=>
   have fin:∃done' M4,vs=done'++M4/\VL C H M4 bO/\(b.push (jf C.w k)).toList=done'.map (jf C.w)/\(⟨H,g,dr,tk+(done.map f7).sum+f7 k,os⟩:aA)=⟨H,g,dr,tk+(done'.map f7).sum,os⟩:=
    ⟨done++[k],ad3,by rw[e,bt];rfl,eZ,by rw[abu,hb,bA];rfl,by rw[bA,List.sum_append,hZ];rfl⟩
   refine ax (step k (by rw[e];exact GI _ (.head _)) _ h1 A.in1 _ _ _ (gZ _) ?_);first
    |exact aQ fin
    |exact ax (aQ (aQ fin))
 ·rintro b s' ⟨done,left,e,hl,hb,rfl⟩;cases hl;rw[cq] at e;rw[<-e] at hb ⊢;rw[jf,f7,U1,V6] at hQ;show ay _ _ (retInt (ux b.toList)) _ _ _;rw[hb];refine wpAny_ret_mkInt ?_;show ay _ _ (if(decide (-(2:Int) ^ 63<=ux (vs.map (jf C.w)))&&decide (ux (vs.map (jf C.w))<2 ^ 63))=ah then _ else _) Q E _;unfold Ax at hQ;split at hQ <;> rename_i hr
  ·rw[if_pos hr];exact aQ hQ
  ·rw[if_neg hr];exact ax (oK (aQ hQ))
theorem SG:∀{d:Nat} {A:bg} {E:av->aA->Prop} {tk} {v:V} {x:av} {Q:Int->aA->Prop},v.data d=ah->VR C H v x->A.units+2*d<oH->
  Q (jf C.w v) ⟨H,g,dr,tk+f7 v,os⟩->ay C.M A (pyHash x) Q E ⟨H,g,dr,tk,os⟩:=by
 intro d;induction d with
 |zero=>
  intro A E tk v x Q hv p hu hQ;cases p.kd hv with
  |int i t=>exact abv hQ
  |str t h=>exact abw hQ
  |tup e ht z=>rw[nV e] at hQ;exact LU ht z (λv h=>nomatch (mF hv e v h).choose_spec.1) hu hQ
 |succ d ih=>
  intro A E tk v x Q hv p hu hQ;cases p.kd hv with
  |int i t=>exact abv hQ
  |str t h=>exact abw hQ
  |tup e ht z=>rw[nV e] at hQ;refine LU ht z (λv h x p' B F tk Q h2 EU=>?_) (aR (b_ _ _) hu) hQ;refine e1a2 (mF hv e v h) λd1 e1 k1=>?_;cases e1;exact ih k1 p' (aR (fC h2 _) (by rw[hZ,dB 2,<-GJ];exact hu)) EU
theorem Vt{n:Nat}{Q:Bool->aA->Prop}(ht:dJ s.heap t (bH l))(z:VL C s.heap vs l)(st:∀v∈vs,∀x,VR C s.heap v x->∀Q:Bool->aA->Prop,Q ah s->ay C.M A (GK n x) Q E s)(hQ:Q ah s):ay C.M A (GK (n+1) (.ref t)) Q E s:=by
 have hT:s.TypeIs (.ref t) "tuple":=by refine e1a3 ht λo ho hc _=>?_;exact⟨o,ho,hc⟩
 (refine e1a3 ht λo ho _ aD=>?_;refine e1a1 aD λm hd=>?_)
 unfold GK;refine ax (oJ hT PySem.F.slot_tuple_eq.lookup ?_);show ay _ _ (OX (.ref t) (.type "tuple") >>=_) _ _ s;refine ax (Ay hT isSubtype_tuple_tuple ?_);refine ax (l_ ho hd (ax ?_));show ay _ _ (forIn _ _ _) _ _ s;rw[<-abr];refine abt _ (λbO r s'=>r.1=ao/\s'=s/\∃ws,VL C s.heap ws bO/\∀w∈ws,w∈vs) _ ?_ ?_ _ _ ⟨rfl,rfl,vs,z,λ_ h=>h⟩
 ·rintro y bO r s' ⟨hr,rfl,ws,hz,zq⟩;cases hz with
  |cons p1 p2=>refine ax (st _ (zq _ (.head _)) _ p1 _ ?_);exact aQ ⟨rfl,rfl,_,p2,λw hw=>zq w (.tail _ hw)⟩
 ·rintro ⟨r1,r2⟩ s' ⟨hr,rfl,_⟩;cases hr;exact aQ hQ
theorem Ry{n:Nat}:∀{d:Nat} {v:V} {x:av} {Q:Bool->aA->Prop},v.data d=ah->VR C s.heap v x->d<n->Q ah s->ay C.M A (GK n x) Q E s:=by
 induction n with
 |zero=>exact λ_ _ hn _=>absurd hn (OY _)
 |succ n ih=>
  intro d v x Q hv p hn hQ;cases p.kd hv with
  |int i t=>rw[abx _ rfl];exact aQ hQ
  |str t h=>rw[abx _ rfl];exact aQ hQ
  |tup e ht z=>exact Vt ht z (λv h x p' Q EU=>by refine e1a2 (mF hv e v h) λd1 e1 k1=>?_;exact ih k1 p' (by rw[e1] at hn;exact Nat.lt_of_succ_lt_succ hn) EU) hQ
end
def sQ(C:aY)(H:aL)(v:V)(a:aB):Prop:=v.adL=ah/\v.data fk=ah/\VR C H v (.ref a)
theorem TK.sameBut{C:aY}{H H':aL}{d:aB}{o:Obj}(ho:H.get? d=aa o)(hn:∀xs n,o.data≠.seq xs n)(hs:fV d H H'):TK C H H':=by
 rintro a items ⟨np,o',bN,hc,n,r⟩;by_cases e:a=d
 ·rw[e,ho] at bN;cases zF bN;exact absurd r (hn _ _)
 ·exact⟨np,o',(hs.2 a e).trans bN,hc,n,r⟩
noncomputable def ft(C:aY):HeapKind C.prog C.w V where
 is:=sQ C
 hash:=jf C.w
 draws:=f7
 room:=λA=>A.units+2*fk<oH
 inj:=λx y=>VR.inj x.2.1 y.2.1 x.2.2 y.2.2
 keeps:=λx ho hd hs=>⟨x.1,x.2.1,x.2.2.mono (TK.sameBut ho (λxs n e=>by rw[hd] at e;cases e) hs)⟩
 pyHash:=λ{A E s k a Q} hu hk h=>by obtain ⟨hh,g,d,tk,os⟩:=s;exact SG hk.2.1 hk.2.2 hu h
 eqBool:=λ{A E s x y a b Q} hu hx hy h=>D1 hx.2.1 hy.2.1 hx.2.2 hy.2.2 (aR (ds (by decide) _) hu) C.prog C.w E Q h
 quiet:=λhk h=>Ry hk.2.1 hk.2.2 (by decide) h
inductive DL(C:aY)(H:aL){K:Type}(bV:K->V->Prop):List (K×av)->List (V×V)->Prop
 |nil:DL C H bV [] []
 |cons {k:K} {pv:av} {v x:V} {kvs:List (K×av)} {es:List (V×V)}:bV k v->VR C H x pv->DL C H bV kvs es->DL C H bV ((k,pv)::kvs) ((v,x)::es)
def pV(C:aY)(H:aL)(a:Option V)(b:Option av):Prop:=match a,b with
 |some v,aa x=>VR C H v x
 |none,ao=>True
 |_,_=>False
structure lZ{K:Type}(bV:K->V->Prop):Prop where
 l:∀{k k' v},bV k v->bV k' v->k=k'
 r:∀{k v v'},bV k v->bV k v'->v=v'
section
variable {C C':aY}{H H':aL}{K:Type}[DecidableEq K]{bV:K->V->Prop}{kvs vO:List (K×av)}{es d9:List (V×V)}{k:K}{v w:V}{pv:av}{a:Option V}{b:Option av}
theorem pV.getD(r:pV C H a b)(p:VR C H v pv):VR C H (a.getD v) (b.getD pv):=by cases a <;> cases b <;> first|exact r|exact p|exact r.elim
theorem pV.isSome(r:pV C H a b):b.isSome=a.isSome:=by cases a <;> cases b <;> first|rfl|exact r.elim
theorem pV.some(r:pV C H (aa w) b):∃pv,b=Option.some pv/\VR C H w pv:=by
 cases b with
 |none=>exact r.elim
 |some x=>exact⟨x,rfl,r⟩
theorem DL.length(x:DL C H bV kvs es):kvs.length=es.length:=by
 induction x with
 |nil=>rfl
 |cons _ _ _ ih=>exact congrArg qg ih
theorem DL.mono(k:∀a l,bR C H a l->bR C' H' a l)(x:DL C H bV kvs es):DL C' H' bV kvs es:=by
 induction x with
 |nil=>exact .nil
 |cons a b _ ih=>exact .cons a (b.mono k) ih
theorem DL.get(E:lZ bV)(x:DL C H bV kvs es)(hk:bV k v):pV C H (bC es v) (uy kvs k):=by
 induction x with
 |nil=>exact trivial
 | @cons k' pv v' w kvs es fh hw _ ih=>
  rw[jP];by_cases e:v'=v
  ·rw[if_pos e];have:=E.l hk (e▸fh);rw[show uy ((k',pv)::kvs) k=aa pv by rw[uy,uz,this,decide_eq_true rfl];rfl];exact hw
  ·rw[if_neg e,show uy ((k',pv)::kvs) k=uy kvs k by rw[uy,uz,show decide ((k',pv).1=k)=au from decide_eq_false λq:k'=k=>e (E.r (q▸fh) hk)];rfl];exact ih
theorem DL.keys(E:lZ bV)(x:DL C H bV kvs es)(hk:bV k v):k∈kvs.map (·.1)↔v∈es.map (·.1):=by
 induction x with
 |nil=>exact⟨λh=>(nomatch h),λh=>(nomatch h)⟩
 | @cons k' pv v' w kvs es fh hw _ ih=>rw[bW,bW,a_,a_,ih];exact or_congr_left ⟨λe=>E.r hk (e▸fh),λe=>E.l hk (e▸fh)⟩
theorem DL.append(x:DL C H bV kvs es)(y:DL C H bV vO d9):DL C H bV (kvs++vO) (es++d9):=by
 induction x with
 |nil=>exact y
 |cons a b _ ih=>exact .cons a b ih
theorem Um:∀{es:List (V×V)} {v:V},bC es v=ao↔v∉es.map (·.1):=by
 intro es;induction es with
 |nil=>intro _;exact⟨λ_ h=>(nomatch h),λ_=>rfl⟩
 |cons e r ih=>
  intro v;rw[jP];rw[bW,a_,not_or];by_cases h:e.1=v
  ·rw[if_pos h];exact⟨λz=>(nomatch z),λz=>absurd h.symm z.1⟩
  ·rw[if_neg h,ih];exact⟨λz=>⟨eJ h,z⟩,(·.2)⟩
theorem LD:∀{es:List (V×V)} {v x:V},v∉es.map (·.1)->bB es v x=es++[(v,x)]:=by
 intro es;induction es with
 |nil=>intro _ _ _;exact rfl
 |cons e r ih=>intro v x h;rw[bW,a_,not_or] at h;rw[tN];rw[if_neg λq=>h.1 q.symm,ih h.2];rfl
theorem DL.put(E:lZ bV)(x:DL C H bV kvs es)(hn:(kvs.map (·.1)).Nodup)(hk:bV k v)(hw:VR C H w pv):DL C H bV (stored kvs k pv) (bB es v w):=by
 have vP:=x.keys E hk;unfold stored;by_cases hm:k∈kvs.map (·.1)
 ·rw[if_pos (by refine e1a2 (bz.mp hm) λp hp e=>?_;exact Az.mpr ⟨p,hp,decide_eq_true e⟩)];clear vP;induction x with
  |nil=>exact zE hm
  | @cons k' M5 v' w' kvs es fh EV xs ih=>
   rw[bW,dK] at hn;rw[tN];rw[bW];by_cases e:v'=v
   ·have:=E.l hk (e▸fh);rw[if_pos e,if_pos this.symm,map_store_of_not_mem kvs _ _ (this▸hn.1)];exact .cons (this▸fh) hw xs
   ·have bF:¬k'=k:=λq=>e (E.r (q▸fh) hk);rw[if_neg e,if_neg bF];exact .cons fh EV (ih hn.2 ((a_.mp hm).resolve_left λq=>bF q.symm))
 ·rw[if_neg λq=>by refine e1a2 (Az.mp q) λp hp hq=>?_;exact hm (bz.mpr ⟨p,hp,of_decide_eq_true hq⟩),LD λq=>hm (vP.mpr q)];exact x.append (.cons hk hw .nil)
theorem DL.del(E:lZ bV)(x:DL C H bV kvs es)(hn:(kvs.map (·.1)).Nodup)(hk:bV k v):DL C H bV (without kvs k) (iy es v):=by
 induction x with
 |nil=>exact .nil
 | @cons k' M5 v' w' kvs es fh EV xs ih=>
  rw[bW,dK] at hn;rw[yl];unfold without;by_cases e:v'=v
  ·have:=E.l hk (e▸fh);rw[if_pos e,GL (by rw[this];simp)];have:=aby kvs k (this▸hn.1);unfold without at this;rw[this];exact xs
  ·have bF:¬k'=k:=λq=>e (E.r (q▸fh) hk);rw[if_neg e,AA (by simp [bF])];exact .cons fh EV (ih hn.2)
end
def nY(k:Int)(v:V):Prop:=v= .int k
def Dc(k:Str)(v:V):Prop:=∃n,n<eN/\k=aE n/\v= .str n
def rb(k v:V):Prop:=v=k/\v.adL=ah/\v.data fk=ah
theorem Ex:lZ nY:=⟨λx y=>by rw[nY] at x y;rw[x] at y;injection y,λx y=>x.trans y.symm⟩
theorem Mv:lZ Dc:=⟨λx y=>by
  refine e1a3 x λn _ e1 e2=>?_;refine e1a3 y λm _ f1 f2=>?_;rw[e2] at f2;injection f2 with f2;rw[e1,f1,f2],λx y=>by
  refine e1a3 x λn h1 e1 e2=>?_;refine e1a3 y λm h2 f1 f2=>?_;rw[e2,f2,nM h1 h2 (e1.symm.trans f1)]⟩
theorem Du:lZ rb:=⟨λx y=>x.1.symm.trans y.1,λx y=>x.1.trans y.1.symm⟩
noncomputable abbrev eQ(xs:List (V×aB×av)):List (V×av):=xs.map λx=>(x.1,x.2.2)
section
variable (C:aY)(H:aL)(a:aB)
def qF(es:List (V×V)):Prop:=∃kvs:List (Int×av),H.DictOf (rQ C.prog C.w) a kvs/\DL C H nY kvs es
def KL(es:List (V×V)):Prop:=∃kvs:List (Str×av),H.DictOf (OZ C.prog C.w) a kvs/\DL C H Dc kvs es
def JA(es:List (V×V)):Prop:=∃xs:List (V×aB×av),H.DictOfH (ft C) a xs/\DL C H rb (eQ xs) es
def DR(es:List (V×V)):Prop:=qF C H a es\/KL C H a es\/JA C H a es
end
section
variable {C:aY}{H H':aL}{a:aB}{es:List (V×V)}
theorem Ir{K K':Type}[DecidableEq K][DecidableEq K']{knd:KeyKind C.prog C.w K}{knd':KeyKind C.prog C.w K'}(x:H.DictOf knd a []):H.DictOf knd' a []:=by refine e3a6 x λo es ep ho he hd _ hp _=>?_;have:es= #[]:=abz hp.length;rw[this] at hd;exact⟨o,#[],ep,ho,he,hd,(λe he=>by cases he with|mk h=>exact zE h),.nil,jG⟩
theorem Mp{K:Type}[DecidableEq K]{knd:KeyKind C.prog C.w K}(x:H.DictOf knd a []):H.DictOfH (ft C) a []:=by refine e3a6 x λo es ep ho he hd _ hp _=>?_;have:es= #[]:=abz hp.length;rw[this] at hd;exact⟨o,#[],ep,ho,he,hd,rfl,(λx hx=>nomatch hx),jG⟩
theorem IN{K:Type}[DecidableEq K]{knd:KeyKind C.prog C.w K}(x:H.DictOfH (ft C) a []):H.DictOf knd a []:=by
 refine e3a6 x λo es ep ho he hd hp _ _=>?_;have:es= #[]:=by cases es with|mk l=>cases l with|nil=>rfl|cons _ _=>cases hp
 rw[this] at hd;exact⟨o,#[],ep,ho,he,hd,(λe he=>by cases he with|mk h=>exact zE h),.nil,jG⟩
theorem C9{v:V}(h:v.adL=ah):kk v=3:=by cases v <;> first|rfl|exact zC h
theorem DR.toI(x:DR C H a es)(hk:es.all (λe=>kk e.1==1)=ah):qF C H a es:=by
 rcases x with x|⟨kvs,hd,hl⟩|⟨xs,hd,hl⟩
 ·exact x
 ·cases hl with
  |nil=>exact⟨[],Ir hd,.nil⟩
  |cons e _ _=>refine e1a3 e λn _ _ e=>?_;rw[e] at hk;exact zC hk
 ·cases xs with
  |nil=>cases hl;exact⟨[],IN hd,.nil⟩
  |cons y r=>cases hl with
   |cons e _ _=>rw[GM,C9 e.2.1] at hk;exact zC hk
theorem DR.toS(x:DR C H a es)(hk:es.all (λe=>kk e.1==2)=ah):KL C H a es:=by
 rcases x with ⟨kvs,hd,hl⟩|x|⟨xs,hd,hl⟩
 ·cases hl with
  |nil=>exact⟨[],Ir hd,.nil⟩
  |cons e _ _=>rw[nY] at e;rw[e] at hk;exact zC hk
 ·exact x
 ·cases xs with
  |nil=>cases hl;exact⟨[],IN hd,.nil⟩
  |cons y r=>cases hl with
   |cons e _ _=>rw[GM,C9 e.2.1] at hk;exact zC hk
theorem DR.toT(x:DR C H a es)(hk:es.all (λe=>kk e.1==3)=ah):JA C H a es:=by
 rcases x with ⟨kvs,hd,hl⟩|⟨kvs,hd,hl⟩|x
 ·cases hl with
  |nil=>exact⟨[],Mp hd,.nil⟩
  |cons e _ _=>rw[nY] at e;rw[e] at hk;exact zC hk
 ·cases hl with
  |nil=>exact⟨[],Mp hd,.nil⟩
  |cons e _ _=>refine e1a3 e λn _ _ e=>?_;rw[e] at hk;exact zC hk
 ·exact x
inductive KA(C:aY)(H:aL)(d:aB)(es:List (V×V))(k:V)(pk:av):Prop
 |key {K:Type} [DecidableEq K] (knd:KeyKind C.prog C.w K) {bV:K->V->Prop} {k':K} {kvs:List (K×av)}:lZ bV->knd.is k' pk=ah->bV k' k->H.DictOf knd d kvs->DL C H bV kvs es->(∀{H' vO d9},H'.DictOf knd d vO->DL C H' bV vO d9->DR C H' d d9)->k.adL=au->KA C H d es k pk
 |heap {b:aB} {xs:List (V×aB×av)}:pk= .ref b->sQ C H k b->H.DictOfH (ft C) d xs->DL C H rb (eQ xs) es->KA C H d es k pk
theorem DR.ka{k:V}{pk:av}(x:DR C H a es)(hk:b7 k es=ah)(p:VR C H k pk):KA C H a es k pk:=by
 have hk:=dE _ _▸hk;cases p.kd hk.1 with
 |int i t=>refine e1a2 (x.toI hk.2) λkvs h1 h2=>?_;exact .key (rQ C.prog C.w) (k':=i) Ex (beq_self_eq_true _) rfl h1 h2 (λa b=>.inl ⟨_,a,b⟩) rfl
 |str t h=>refine e1a2 (x.toS hk.2) λkvs h1 h2=>?_;exact .key (OZ C.prog C.w) Mv (beq_self_eq_true _) ⟨_,h,rfl,rfl⟩ h1 h2 (λa b=>.inr (.inl ⟨_,a,b⟩)) rfl
 |tup e ht z=>
  have hT:k.adL=ah:=by cases k <;> first|rfl|exact zA e
  refine e1a2 (x.toT (C9 hT▸hk.2)) λxs h1 h2=>?_;exact .heap rfl ⟨hT,hk.1,p⟩ h1 h2
theorem DR.mono{h0:aL}{X:aB->Prop}(x:DR C H a es)(e:H'.get? a=H.get? a)(k:∀a l,bR C H a l->bR (C.y h0 X) H' a l):DR (C.y h0 X) H' a es:=by
 rcases x with ⟨kvs,⟨o,es,ep,ho,r⟩,hl⟩|⟨kvs,⟨o,es,ep,ho,r⟩,hl⟩|⟨xs,⟨o,es,ep,ho,r1,r2,r3,r4,r5⟩,hl⟩
 ·exact .inl ⟨kvs,⟨o,es,ep,e.trans ho,r⟩,hl.mono k⟩
 ·exact .inr (.inl ⟨kvs,⟨o,es,ep,e.trans ho,r⟩,hl.mono k⟩)
 ·exact .inr (.inr ⟨xs,⟨o,es,ep,e.trans ho,r1,r2,r3,λy hy=>⟨(r4 y hy).1,(r4 y hy).2.1,(r4 y hy).2.2.mono k⟩,r5⟩,hl.mono k⟩)
theorem DR.there(x:DR C H a es):∃o jx ep,H.get? a=aa o/\o.ExactDict/\o.data= .dict jx ep/\jx.size=es.length:=by
 rcases x with ⟨kvs,⟨o,jx,ep,ho,he,hd,_,hp,_⟩,hl⟩|⟨kvs,⟨o,jx,ep,ho,he,hd,_,hp,_⟩,hl⟩|⟨xs,⟨o,jx,ep,ho,he,hd,hp,_,_⟩,hl⟩
 ·exact⟨o,jx,ep,ho,he,hd,by rw[<-hl.length,<-hp.length];rfl⟩
 ·exact⟨o,jx,ep,ho,he,hd,by rw[<-hl.length,<-hp.length];rfl⟩
 ·exact⟨o,jx,ep,ho,he,hd,by rw[<-hl.length,O0 hp,aP]⟩
theorem DR.tk(x:DR C H a es)(hs:fV a H H'):TK C H H':=by refine e3a4 x.there λo jx ep ho _ hd _=>?_;exact TK.sameBut ho (λxs n e=>by rw[hd] at e;cases e) hs
theorem XW{k:V}:∀{xs:List (V×aB×av)},(AB xs k).map (·.2)=uy (eQ xs) k:=by
 intro xs;induction xs with
 |nil=>exact rfl
 |cons y r n8=>
  have ih:=n8;show oM _ (oM _ (List.find? _ (y::r)))=oM _ (List.find? _ ((y.1,y.2.2)::eQ r));rw[uz,uz];show oM _ (oM _ (match decide (y.1=k) with|true=>_|false=>_))=oM _ (match decide (y.1=k) with|true=>_|false=>_);cases decide (y.1=k)
  ·exact ih
  ·rfl
theorem T5{xs:List (V×aB×av)}{k:V}{b:aB}{v:av}:eQ (GN xs k b v)=stored (eQ xs) k v:=by
 have e1:(AB xs k).isSome=(eQ xs).any (λkv=>decide (kv.1=k)):=by
  induction xs with
  |nil=>rfl
  |cons y r ih=>show _=(decide (y.1=k)||(eQ r).any _);rw[<-ih];unfold AB;rw[uz];cases decide (y.1=k) <;> rfl
 delta GN stored eQ;rw[e1];split
 ·rw[iE,iE];refine ma λx _=>?_;show(λx:V×aB×av=>(x.1,x.2.2)) (putAt k v x)=_;unfold putAt;show _=if x.1=k then _ else _
  split <;> rfl
 ·rw[bA];rfl
end
def Un(A:bg):Prop:=A.units+40<oH
theorem Un.h{A:bg}(u:Un A):A.in1.units+2*fk<oH:=aR (ds (by decide:13<=40) A.units) u
theorem Un.z{A:bg}(u:Un A):A.units<oH:=aR (b_ _ _) u
theorem fI{n:Nat}(h:n<=2*aG):n<=jH:=aI h (by rw[wW];decide)
theorem Ds{n:Nat}(h:n<aG):n+1<=2*aG:=aI h (by decide)
theorem sL{n:Nat}(h:n<aG):n<=2*aG:=aI (bP h) (by decide)
section
variable {C:aY}{A:bg}{E:av->aA->Prop}{s:aA}{d:aB}{es:List (V×V)}{k df w:V}{pk mV pw:av}{xs:List (V×aB×av)}{b:aB}
theorem DL.ad0(hl:DL C s.heap rb (eQ xs) es)(hb:sQ C s.heap k b):pV C s.heap (bC es k) ((AB xs k).map (·.2)):=by rw[XW];exact hl.get Du ⟨rfl,hb.1,hb.2.1⟩
theorem Ue(x:DR C s.heap d es)(hk:b7 k es=ah)(p:VR C s.heap k pk)(hw:bC es k=aa w)(u:Un A)
  {Q:av->aA->Prop} (hQ:∀pv tk,VR C s.heap w pv->Q pv {s with toks:=tk}):ay C.M A (GO (.ref d) pk) Q E s:=by
 cases x.ka hk p with
 |key knd E hi he hd hl _ _=>have z:=hl.get E he;rw[hw] at z;refine e1a2 z.some λpv e r=>?_;exact wpAny_getItem_of hi hd.mapOf e (hQ pv _ r)
 |heap e1 hb hd hl=>have z:=hl.ad0 hb;rw[hw] at z;refine e1a2 z.some λpv e r=>?_;refine e1a2 (iD.mp e) λq e e2=>?_;rw[e1];exact wpAny_getItem_heap (knd:=ft C) u.h hb hd e (hQ _ _ (e2▸r))
theorem U8(x:DR C s.heap d es)(hk:b7 k es=ah)(p:VR C s.heap k pk)(u:Un A)(adu:(d==jI)=au)
  {Q:av->aA->Prop} (hQ:∀tk,Q (.bool (bC es k).isSome) {s with toks:=tk}):ay C.M A (uA .In pk (.ref d)) Q E s:=by
 cases x.ka hk p with
 |key knd E hi he hd hl _ _=>exact wpAny_in_of hi adu hd.mapOf (by rw[(hl.get E he).isSome];exact hQ _)
 |heap e1 hb hd hl=>have z:=(hl.ad0 hb).isSome;rw[AC] at z;rw[e1];exact wpAny_in_heap (knd:=ft C) u.h hb adu hd (by rw[z];exact hQ _)
theorem RX(x:DR C s.heap d es)(hk:b7 k es=ah)(p:VR C s.heap k pk)(u:Un A)(adu:(d==jI)=au)
  {Q:av->aA->Prop} (hQ:∀pv tk,VR C s.heap ((bC es k).getD .none) pv->Q pv {s with toks:=tk}):ay C.M A (call (.builtin "dict.get") [.ref d,pk]) Q E s:=by
 cases x.ka hk p with
 |key knd E hi he hd hl _ _=>exact AD AE hd.typeIs GP (abA _ _) (meets_dict_get knd d hi adu) ⟨_,hd.mapOf,hQ _ _ ((hl.get E he).getD .none)⟩
 |heap e1 hb hd hl=>rw[e1];exact AD AE hd.typeIs GP (abA _ _) (meetsH_dict_get (ft C) d _ adu) ⟨u.h,k,_,hb,hd,hQ _ _ ((hl.ad0 hb).getD .none)⟩
theorem TY(x:DR C s.heap d es)(hk:b7 k es=ah)(p:VR C s.heap k pk)(u:Un A)(adu:(d==jI)=au)(zt:VR C s.heap df mV)
  {Q:av->aA->Prop} (hQ:∀pv tk,VR C s.heap ((bC es k).getD df) pv->Q pv {s with toks:=tk}):ay C.M A (call (.builtin "dict.get") [.ref d,pk,mV]) Q E s:=by
 cases x.ka hk p with
 |key knd E hi he hd hl _ _=>exact AD AE hd.typeIs GP (abB _ _ _) (meets_dict_get_default knd d hi adu mV) ⟨_,hd.mapOf,hQ _ _ ((hl.get E he).getD zt)⟩
 |heap e1 hb hd hl=>rw[e1];exact AD AE hd.typeIs GP (abB _ _ _) (meetsH_dict_get_default (ft C) d _ adu mV) ⟨u.h,k,_,hb,hd,hQ _ _ ((hl.ad0 hb).getD zt)⟩
theorem Jr:(eQ xs).map (·.1)=xs.map (·.1):=by rw[iE];rfl
theorem Da{H:aL}{K:Type}[DecidableEq K]{knd:KeyKind C.prog C.w K}{kvs:List (K×av)}(x:H.DictOf knd d kvs):(kvs.map (·.1)).Nodup:=by refine e3a6 x λ_ _ _ _ _ _ _ _ h=>?_;exact h
theorem My{H:aL}(x:H.DictOfH (ft C) d xs):((eQ xs).map (·.1)).Nodup:=by rw[Jr];refine e3a6 x λ_ _ _ _ _ _ _ _ h=>?_;exact h
theorem DL.put2(hl:DL C s.heap rb (eQ xs) es)(hd:s.heap.DictOfH (ft C) d xs)(hb:sQ C s.heap k b)(hw:VR C s.heap w pw):DL C s.heap rb (eQ (GN xs k b pw)) (bB es k w):=by rw[T5];exact hl.put Du (My hd) ⟨rfl,hb.1,hb.2.1⟩ hw
theorem DL.aee(hl:DL C s.heap rb (eQ xs) es):xs.length=es.length:=by rw[<-hl.length,aP]
theorem YJ(x:DR C s.heap d es)(hk:b7 k es=ah)(p:VR C s.heap k pk)(u:Un A)(hw:VR C s.heap w pw)(cU:es.length<aG)
  {Q:Unit->aA->Prop} (hQ:∀h' tk,DR C h' d (bB es k w)->fV d s.heap h'->Q () {s with heap:=h',toks:=tk}):ay C.M A (setItem (.ref d) pk pw) Q E s:=by
 cases x.ka hk p with
 |key knd E hi he hd hl hr _=>exact wpAny_setItem_pairs hi hd (λh' d8 hs=>hQ h' _ (hr d8 ((hl.put E (Da hd) he hw).mono (x.tk hs))) hs) (by rw[hl.length];exact fI (sL cU))
 |heap e1 hb hd hl=>rw[e1];exact wpAny_setItem_heap (knd:=ft C) u.h hb hd (λh' d8 hs=>hQ h' _ (.inr (.inr ⟨_,d8,(hl.put2 hd hb hw).mono (x.tk hs)⟩)) hs) (by rw[hl.aee];exact fI (sL cU))
theorem Wn:∀{xs:List (V×aB×av)} {j:Nat} {p:aB×av},(xs.map (·.1)).Nodup->xs[j]? =aa (k,p)->eQ (xs.eraseIdx j)=without (eQ xs) k:=by
 intro xs;induction xs with
 |nil=>intro _ _ _ hj;exact nomatch hj
 |cons y r ih=>
  intro j p hn hj;rw[bW,dK] at hn;cases j with
  |zero=>cases zF hj;have z:without (eQ r) k=eQ r:=aby _ _ (by rw[Jr];exact hn.1);show eQ r=abC _ ((k,p.2)::eQ r);rw[GL (p:=λkv:V×av=>decide (kv.1≠k)) (λh=>(of_decide_eq_true h:k≠k) rfl)];exact z.symm
  |succ j=>have hj:r[j]? =aa (k,p):=hj;have bF:¬y.1=k:=λe=>hn.1 (e▸bz.mpr ⟨(k,p),AF hj,rfl⟩);show(y.1,y.2.2)::eQ (r.eraseIdx j)=abC _ ((y.1,y.2.2)::eQ r);rw[AA (p:=λkv:V×av=>decide (kv.1≠k)) (decide_eq_true bF),ih hn.2 hj];rfl
theorem Rj{α β:Type}(f:α->β):∀(l:List α) (j:Nat),(l.map f).eraseIdx j=(l.eraseIdx j).map f:=by
 intro l;induction l with
 |nil=>intro _;exact rfl
 |cons a r ih=>
  intro vQ;cases vQ with
  |zero=>exact rfl
  |succ j=>exact congrArg (f a::·) (ih j)
theorem Yv{Q:Option DictEntry->aA->Prop}(hu:(ft C).room A)(hb:sQ C s.heap k b)(hm:s.heap.DictOfH (ft C) d xs)(hp:(AB xs k).isSome=ah)
  (hQ:∀e h' zu,h'.DictOfH (ft C) d zu->eQ zu=without (eQ xs) k->fV d s.heap h'->Q (aa e) {s with heap:=h',toks:=s.toks+f7 k}) (cU:xs.length<=jH):ay C.M A (O1 d (.ref b)) Q E s:=by
 refine e3a6 hm λo es ep ho hc hd he vR hn=>?_;unfold O1;try with_reducible refine dv ?_
 refine ax ((ft C).pyHash hu hb (ax (abD (knd:=ft C) (s:={s with toks:=s.toks+f7 k}) hu hb ho hd he vR hn (λkL=>?_) λj q hj=>?_)))
 ·rw[abE kL] at hp;exact zC hp
 ·refine ax (abF (s:={s with toks:=s.toks+f7 k}) ho hd ?_);rw[show es[j]? =aa (entryOfKey (ft C) (k,q)) by rw[entry_at he j,hj];rfl];refine ax (abG (hz:=by rw[O0 he];exact cU) (s:={s with toks:=s.toks+f7 k}) ho hd (aQ (hQ _ _ (xs.eraseIdx j) ⟨_,_,ep+1,i_ _ ho (abH (GQ hd _)),
   hc.mapDictKeys _,GQ hd _,?_,λx hx=>(ft C).keeps (vR x (List.mem_of_mem_eraseIdx hx)) ho hd (j6 ..),(List.eraseIdx_sublist xs j).map _ |>.nodup hn⟩ (Wn hn hj) (j6 ..))))
  obtain ⟨l⟩:=es;rw[abI];show l.eraseIdx j=_;rw[show l=_ from he];exact Rj _ xs j
theorem DR.ty{H:aL}(x:DR C H d es){s:aA}(e:s.heap=H):s.TypeIs (.ref d) "dict":=by cases e;refine e3a3 x.there λo jx ep ho he _=>?_;exact⟨o,ho,he.1⟩
theorem Sr(x:DR C s.heap d es)(hk:b7 k es=ah)(p:VR C s.heap k pk)(u:Un A)(jy:(bC es k).isSome=ah)(cU:es.length<=2*aG)
  {Q:Unit->aA->Prop} (hQ:∀h' tk,DR C h' d (iy es k)->fV d s.heap h'->Q () {s with heap:=h',toks:=tk}):ay C.M A (delItem (.ref d) pk) Q E s:=by
 have hT:=x.ty rfl;unfold delItem;try with_reducible refine dv ?_
 refine ax (wpAny_sequenceKey hT (by decide) ?_);cases x.ka hk p with
 |key knd E hi he hd hl hr _=>
  exact ax (oN (name:=dD "__delitem__") hT GR
   (AD GR hT abJ (abK _ _) (meets_dict_delitem_pairs knd d hi)
    ⟨_,hd,by rw[hl.length];exact fI cU,(hl.get E he).isSome.trans jy,λh' d8 hs=>aQ (hQ h' _ (hr d8 ((hl.del E (Da hd) he).mono (x.tk hs))) hs)⟩))
 |heap e1 hb hd hl=>
  rw[e1];refine ax (oN (name:=dD "__delitem__") hT GR
   (i9 GR hT abJ ?_ (abK _ _)))
  refine ax ?_;refine ax (O4 hT ?_);show ay _ _ (pure (du d,du _)) _ _ s;refine aQ ?_;show ay _ _ (O1 d (.ref _) >>=_) _ _ s;refine ax (Yv u.h hb hd (by rw[<-AC,(hl.ad0 hb).isSome];exact jy) (λen h' zu d8 hxs hs=>?_) (by rw[hl.aee];exact fI cU));refine ax (AG (aQ ⟨.none,rfl,aQ (hQ h' _ (.inr (.inr ⟨zu,d8,?_⟩)) hs)⟩));rw[hxs];exact(hl.del Du (My hd) ⟨rfl,hb.1,hb.2.1⟩).mono (x.tk hs)
theorem aaz(x:DR C s.heap d es)(hk:b7 k es=ah)(hkT:k.adL=ah)(p:VR C s.heap k pk)(u:Un A)(adu:(d==jI)=au)(zt:VR C s.heap df mV)(cU:es.length<aG)
  {Q:av->aA->Prop} (hold:∀w pv tk,bC es k=aa w->VR C s.heap w pv->Q pv {s with toks:=tk})
  (hnew:bC es k=ao->∀h' tk,DR C h' d (es++[(k,df)])->fV d s.heap h'->Q mV {s with heap:=h',toks:=tk}):
  ay C.M A (call (.builtin "dict.setdefault") [.ref d,pk,mV]) Q E s:=by
 have hT:=x.ty rfl;refine i9 abL hT PySem.F.entry_dict_setdefault ?_ (PySem.F.args_dict_setdefault_3 _ _ _);refine ax ?_;refine ax (O4 hT ?_);show ay _ _ (pure (d,pk,aa mV)) _ _ s;refine aQ ?_;show ay _ _ (if(d==jI)=ah then _ else(dictSetDefault d pk mV >>=_)) _ _ s;rw[if_neg (by rw[adu];exact k7)];refine ax ?_;unfold dictSetDefault;try with_reducible refine dv ?_
 cases x.ka hk p with
 |key _ _ _ _ _ _ _ h=>exact zD (hkT.symm.trans h)
 | @heap b xs e1 hb hd hl=>
  rw[e1];have hp:=hl.put2 hd hb zt;have hv:=hl.ad0 hb;have EW:=hl.aee;refine e3a6 hd λo jx ep ho hc mW he vR hn=>?_;refine ax ((ft C).pyHash u.h hb (ax (abD (knd:=ft C) (s:={s with toks:=s.toks+f7 k}) u.h hb ho mW he vR hn (λkL=>?_) λj q hj=>?_)))
  ·have ha:=abE kL;rw[ha] at hv;have hg:bC es k=ao:=by cases e:bC es k with|none=>rfl|some w=>rw[e] at hv;exact hv.elim
   refine ax (oK (ax (abG (hz:=by rw[O0 he,EW];exact fI (sL cU)) (s:={s with toks:=s.toks+f7 k}) ho mW ?_)));have M6:=λ{f:Obj->Obj} {v:V} {a:aB} (h:sQ C s.heap v a)=>(ft C).keeps h ho mW (j6 s.heap d f);refine aQ (aQ ⟨_,rfl,hnew hg _ _ (.inr (.inr ⟨GN xs k b mV,⟨_,_,ep+1,i_ _ ho (abH (GQ mW _)),hc.mapDictKeys _,GQ mW _,?_,?_,?_⟩,?_⟩)) (j6 ..)⟩)
   ·rw[O5 ha,bA,<-he];exact abu
   ·rw[O5 ha];intro y hy;rcases bx.mp hy with hy|hy
    ·exact M6 (vR y hy)
    ·rw[aZ.mp hy];exact M6 hb
   ·rw[O5 ha,bA,fW];exact⟨hn,.cons (λ_ h=>nomatch h) .nil,λa ha c hc e=>not_mem_keys_of_get kL (by have hc:c=k:=aZ.mp hc;rw[<-hc,<-e];exact ha)⟩
   ·rw[<-LD (Um.mp hg)];exact hp.mono (x.tk (j6 ..))
  ·refine ax (abF (s:={s with toks:=s.toks+f7 k}) ho mW ?_);rw[show jx[j]? =aa (entryOfKey (ft C) (k,q)) by rw[entry_at he j,hj];rfl];rw[atKey_of_get hn hj] at hv;cases hg:bC es k with
   |some w=>rw[hg] at hv;exact ax (oK (aQ (aQ ⟨_,rfl,hold w _ _ hg hv⟩)))
   |none=>rw[hg] at hv;exact hv.elim
end
structure FL(C:aY)(H:aL)(fs:List (Nat×V))(m:Str->Option av):Prop where
 fw:∀f v,dR fs f=aa v->f<eN/\∃pv,m (aE f)=aa pv/\VR C H v pv
 bw:∀name,(m name).isSome->∃f,name=aE f/\f<eN/\(dR fs f).isSome
noncomputable def jr:O->Bool
 | .inst _ _=>ah
 |_=>au
def At(n:Nat)(o:O)(a:aB):Prop:=a=n\/(jr o=ah/\a+1=n)
def b9(h:Hp)(a:aB):Prop:=∃n o,h.get n=aa o/\At n o a
def xG(H:aL)(d:aB)(k:Nat):Prop:=∃o es ep,H.get? d=aa o/\o.cls= .type "dict"/\o.data= .dict es ep/\es.size<=k
noncomputable def OR(C:aY)(H:aL)(n:aB):O->Prop
 | .list xs=>xs.length<=2*aG/\∃items k,H.get? n=aa {cls:=.type "list",data:=.seq (bH items) k}/\VL C H xs items
 | .dict es=>es.length<=2*aG/\DR C H n es
 | .inst c fs=>∃d m,n=d+1/\H.get? n=aa (oO (cT c) d)/\xG H d fs.length/\H.Ns d m/\FL C H fs m
structure HR(C:aY)(h:Hp)(H:aL):Prop where
 keep:∀b o,C.h₀.get? b=aa o->H.get? b=aa o
 obj:∀n o,h.get n=aa o->OR C H n o
 adO:∀a,b9 h a->C.h₀.get? a=ao
 ap:∀n m o o' a,h.get n=aa o->h.get m=aa o'->At n o a->At m o' a->n=m
 adQ:∀n,h.lk=aa n->∃o,h.get n=aa o
 adI:∀a,C.pr a->(∃o xs n,H.get? a=aa o/\o.data= .seq xs n)/\¬b9 h a/\C.h₀.get? a=ao
def NF(o:Obj):Prop:=∀vs,o.data≠.fields vs
def NS(o:Obj):Prop:=∀xs n,o.data≠.seq xs n
structure Tr(m:Bool)(W:aB->Prop)(h:Hp)(H:aL)(h':Hp)(H':aL):Prop where
 keep:∀a o,H.get? a=aa o->¬b9 h a->¬W a->(m=ah->NF o)->∃sl,H'.get? a=aa {o with slots:=sl}/\(m=au->sl=o.slots)
 new:∀a o,H.get? a=aa o->¬W a->(m=ah->NF o)->b9 h' a->b9 h a
 lk:h'.lk=h.lk
 pin:m=au->∀n o,h.lk=aa n->H.get? n=aa o->H'.get? n=aa o
def No(_:aB):Prop:=False
abbrev Kp(H H':aL):Prop:=∀b o,H.get? b=aa o->H'.get? b=aa o
section
variable {C:aY}{h h' bp:Hp}{H H' mX:aL}{n:Nat}{o o':O}{a d:aB}{W W':aB->Prop}{m:Bool}{X:aB->Prop}
theorem At.own(e:h.get n=aa o)(x:At n o a):b9 h a:=⟨n,o,e,x⟩
theorem FL.mono{fs:List (Nat×V)}{M:Str->Option av}{C':aY}(x:FL C H fs M)(k:∀a l,bR C H a l->bR C' H' a l):FL C' H' fs M:=
 ⟨λf v e=>⟨(x.fw f v e).1,(x.fw f v e).2.choose,(x.fw f v e).2.choose_spec.1,(x.fw f v e).2.choose_spec.2.mono k⟩,x.bw⟩
theorem Ns.at'{M:Str->Option av}(x:H.Ns a M)(e:H'.get? a=H.get? a):H'.Ns a M:=by refine e3a2 x λo es ep ho r=>?_;exact⟨o,es,ep,e.trans ho,r⟩
theorem xG.at'{k:Nat}(x:xG H a k)(e:H'.get? a=H.get? a):xG H' a k:=by refine e3a2 x λo es ep ho r=>?_;exact⟨o,es,ep,e.trans ho,r⟩
theorem OR.mono{h0:aL}(x:OR C H n o)(k:∀a l,bR C H a l->bR (C.y h0 X) H' a l)(e:∀a,At n o a->H'.get? a=H.get? a):OR (C.y h0 X) H' n o:=by
 cases o with
 |list xs=>(refine aC x λb aD=>?_;refine e2a2 aD λitems j c z=>?_);exact⟨b,items,j,(e n (.inl rfl)).trans c,z.mono k⟩
 |dict es=>exact⟨x.1,x.2.mono (e n (.inl rfl)) k⟩
 |inst c fs=>refine e2a5 x λd M q b b1 c f=>?_;exact⟨d,M,q,(e n (.inl rfl)).trans b,b1.at' (e d (.inr ⟨rfl,q.symm⟩)),Ns.at' c (e d (.inr ⟨rfl,q.symm⟩)),f.mono k⟩
theorem Ns.data{M:Str->Option av}(x:H.Ns a M):∃o,H.get? a=aa o/\NF o/\NS o:=by refine e3a3 x λo es ep ho hd _=>?_;exact⟨o,ho,λvs e=>(by rw[hd] at e;cases e),λxs n e=>by rw[hd] at e;cases e⟩
theorem HR.there(x:HR C h H)(e:b9 h a):∃o,H.get? a=aa o/\o.cls≠.type "tuple"/\NF o:=by
 refine e2a2 e λn o e z=>?_;have r:=x.obj n o e;cases o with
 |list xs=>
  (refine aC r λ_ aD=>?_;refine e2a2 aD λitems k c _=>?_)
  rcases z with z|⟨z,_⟩
  ·exact⟨_,z▸c,λq=>(by injection q with q;exact absurd q (by decide)),λvs q=>(by cases q)⟩
  ·exact zC z
 |dict es=>
  rcases z with z|⟨z,_⟩
  ·refine e3a4 r.2.there λod jx ep c1 c2 c3 _=>?_;exact⟨od,z▸c1,(by rw[c2.1];decide),λvs q=>by rw[c3] at q;cases q⟩
  ·exact zC z
 |inst c fs=>
  (refine e2a4 r λd M q b EX _=>?_;refine e3a4 EX λod es ep b1 b2 b3 _=>?_)
  rcases z with z|⟨_,z⟩
  ·exact⟨_,z▸b,λq=>(by cases q),λvs q=>(by cases q)⟩
  ·have:a=d:=jZ (z.trans q);exact⟨od,this▸b1,(by rw[b2];decide),λvs q=>by rw[b3] at q;cases q⟩
theorem HR.nil(x:HR C h H)(e:H.get? a=ao):¬b9 h a:=λq=>by refine e1a2 (x.there q) λo ho _=>?_;exact zA (e.symm.trans ho)
theorem HR.h0(x:HR C h H)(e:H.get? a=ao):C.h₀.get? a=ao:=by
 cases q:C.h₀.get? a with
 |none=>rfl
 |some o=>exact zB ((x.keep a o q).symm.trans e)
theorem HR.adH(x:HR C h H)(e:H.get? a=ao):¬C.pr a:=λq=>by(refine aC (x.adI a q) λdN _=>?_;refine e3a2 dN λo _ _ ho _=>?_);exact zA (e.symm.trans ho)
theorem Kp.nil(k:Kp H H')(e:H'.get? a=ao):H.get? a=ao:=by
 cases q:H.get? a with
 |none=>rfl
 |some o=>exact zB ((k a o q).symm.trans e)
theorem b9.put(x:b9 (h.put n o) a):At n o a\/b9 h a:=by
 refine e2a2 x λm om e z=>?_;by_cases q:m=n
 ·cases zF ((show(h.put n o).get m=aa o from if_pos q).symm.trans e);exact .inl (q▸z)
 ·rw[show(h.put n o).get m=h.get m from if_neg q] at e;exact .inr ⟨m,om,e,z⟩
theorem HR.frame(x:HR C h H)(k0:Kp C.h₀ H')(k:∀a,b9 h a->H'.get? a=H.get? a)(t:∀a l,bR C H a l->bR (C.x X) H' a l)(p:∀a,X a->(∃o xs n,H'.get? a=aa o/\o.data= .seq xs n)/\¬b9 h a/\C.h₀.get? a=ao):HR (C.x X) h H':=
 ⟨k0,λn o e=>(x.obj n o e).mono t λa z=>k a (z.own e),x.adO,x.ap,x.adQ,p⟩
theorem HR.kpO(x:HR C h H)(k:Kp H H'):∀a,b9 h a->H'.get? a=H.get? a:=λa e=>by refine e1a2 (x.there e) λo ho _=>?_;rw[ho,k a o ho]
theorem HR.kpP(x:HR C h H)(k:Kp H H')(a:aB)(q:C.pr a):(∃o xs n,H'.get? a=aa o/\o.data= .seq xs n)/\¬b9 h a/\C.h₀.get? a=ao:=by
 (refine aC (x.adI a q) λdN r=>?_;refine e3a2 dN λo xs n ho hd=>?_)
 exact⟨⟨o,xs,n,k a o ho,hd⟩,r⟩
theorem HR.kp(x:HR C h H)(k:Kp H H'):HR C h H':=x.frame (λb o e=>k b o (x.keep b o e)) (x.kpO k) (TK.of k) (x.kpP k)
theorem Tr.kp(k:Kp H H'):Tr m W h H h H':=⟨λa o e _ _ _=>⟨o.slots,k a o e,λ_=>rfl⟩,λ_ _ _ _ _ e=>e,rfl,λ_ _ _ _ e=>k _ _ e⟩
theorem Tr.refl:Tr m W h H h H:=.kp λ_ _ e=>e
theorem Tr.trans(x:Tr m W h H h' H')(y:Tr m W h' H' bp mX):Tr m W h H bp mX where
 keep a o e n w f:=by refine e1a2 (x.keep a o e n w f) λsl e1 s1=>?_;refine e1a2 (y.keep a _ e1 (λq=>n (x.new a o e w f q)) w f) λvT e2 s2=>?_;exact⟨vT,e2,λq=>(s2 q).trans (s1 q)⟩
 new a o e w f q:=qh λn=>by refine e1a2 (x.keep a o e n w f) λsl e1 _=>?_;exact n (x.new a o e w f (y.new a _ e1 w f q))
 lk:=y.lk.trans x.lk
 pin q n o e e1:=y.pin q n o (x.lk.trans e) (x.pin q n o e e1)
theorem Tr.mono(x:Tr m W h H h' H')(w:∀a,W a->W' a):Tr m W' h H h' H':=⟨λa o e n q=>x.keep a o e n λz=>q (w a z),λa o e q=>x.new a o e λz=>q (w a z),x.lk,x.pin⟩
theorem Tr.up(x:Tr au W h H h' H'):Tr m W h H h' H':=by
 cases m with
 |false=>exact x
 |true=>exact⟨λa o e n w _=>⟨o.slots,by refine e1a2 (x.keep a o e n w (λq=>nomatch q)) λsl e1 s1=>?_;rw[e1,s1 rfl],λq=>(nomatch q)⟩,λa o e w _=>x.new a o e w λq=>(nomatch q),x.lk,λq=>(nomatch q)⟩
theorem Tr.wk(x:Tr m W h H h' H'):Tr ah W h H h' H':=by
 cases m with
 |false=>exact x.up
 |true=>exact x
theorem Tr.ad5{o:Obj}(x:Tr au W h H h' H')(e:H.get? a=aa o)(n:¬b9 h a)(w:¬W a):H'.get? a=aa o:=by refine e1a2 (x.keep a o e n w (λq=>nomatch q)) λsl e1 s1=>?_;rw[e1,s1 rfl]
theorem Tr.drop(x:Tr m W h H h' H')(w:∀a o,W a->H.get? a=aa o->W' a):Tr m W' h H h' H':=
 ⟨λa o e n q=>x.keep a o e n λz=>q (w a o z e),λa o e q=>x.new a o e λz=>q (w a o z e),x.lk,x.pin⟩
theorem TK.tr(x:HR C h H)(t:Tr m W h H h' H')(w:∀a o,W a->H.get? a=aa o->NS o):TK C H H':=λa l yy=>aC yy λp aD=>e1a3 aD λo ho hc jU=>e1a1 jU λn hd=>by refine e1a2 (t.keep a o ho (λq=>by obtain ⟨o',bN,hn,_⟩:=x.there q;cases zF (ho.symm.trans bN);exact hn hc) (λq=>w a o q ho _ _ hd) λ_ vs q=>by rw[hd] at q;cases q) λsl e _=>?_;exact⟨p,_,e,hc,n,hd⟩
theorem HR.alloc(x:HR C h H)(k:Kp H H')(hn:∀a,At n o a->H.get? a=ao)(r:OR C H' n o):HR C (h.put n o) H'/\Tr m W h H (h.put n o) H':=by
 have x':=x.kp k;have hh:∀{a},At n o a->¬b9 h a:=λz=>x.nil (hn _ z);refine⟨⟨x'.keep,λj oj e=>?_,λa q=>?_,λi j o1 o2 a e1 e2 z1 z2=>?_,λj q=>?_,λa q=>?_⟩,⟨λa o e _ _ _=>⟨o.slots,k a o e,λ_=>rfl⟩,λa o' e _ _ q=>?_,rfl,λ_ _ _ _ e=>k _ _ e⟩⟩
 ·by_cases q:j=n
  ·cases zF ((show(h.put n o).get j=aa o from if_pos q).symm.trans e);exact q▸r
  ·rw[show(h.put n o).get j=h.get j from if_neg q] at e;exact x'.obj j oj e
 ·rcases q.put with z|z
  ·exact x.h0 (hn a z)
  ·exact x.adO a z
 ·by_cases q1:i=n <;> by_cases q2:j=n
  ·exact q1.trans q2.symm
  ·rw[show(h.put n o).get i=aa o from if_pos q1] at e1;rw[show(h.put n o).get j=h.get j from if_neg q2] at e2;cases zF e1;exact absurd (z2.own e2) (hh (q1▸z1))
  ·rw[show(h.put n o).get j=aa o from if_pos q2] at e2;rw[show(h.put n o).get i=h.get i from if_neg q1] at e1;cases zF e2;exact absurd (z1.own e1) (hh (q2▸z2))
  ·rw[show(h.put n o).get i=h.get i from if_neg q1] at e1;rw[show(h.put n o).get j=h.get j from if_neg q2] at e2;exact x.ap i j o1 o2 a e1 e2 z1 z2
 ·refine e1a1 (x.adQ j q) λes e=>?_;exact⟨es,(if_neg λz:j=n=>hh (.inl rfl) (z▸⟨j,_,e,.inl rfl⟩)).trans e⟩
 ·refine be (x'.adI a q) λp1 p2 p3=>?_;refine⟨p1,λw=>?_,p3⟩;rcases w.put with z|z
  ·exact x.adH (hn a z) q
  ·exact p2 z
 ·rcases q.put with z|z
  ·exact zA ((hn a z).symm.trans e)
  ·exact z
theorem HR.set(x:HR C h H)(e:h.get n=aa o)(i:jr o'=jr o)(hd:At n o d)(hs:fV d H H')(hr:TK C H H'->OR C H' n o')(hl:h.lk≠aa n):HR C (h.put n o') H'/\Tr m W h H (h.put n o') H':=by
 have zv:=hd.own e;have t:TK C H H':=λa l yy=>aC yy λp aD=>e1a3 aD λob ho hc r=>by refine e1a3 (x.there zv) λod EY EZ _=>?_;exact⟨p,ob,(hs.2 a λz=>by rw[z,EY] at ho;cases zF ho;exact EZ hc).trans ho,hc,r⟩
 have ow:∀a,b9 (h.put n o') a->b9 h a:=λa q=>by
  rcases q.put with z|z
  ·exact⟨n,o,e,by rcases z with z|⟨z,z'⟩;exact .inl z;exact .inr ⟨i▸z,z'⟩⟩
  ·exact z
 have g:∀{j oj},(h.put n o').get j=aa oj->∃M7,h.get j=aa M7/\jr M7=jr oj:=λ{j oj} q=>by
  by_cases z:j=n
  ·cases zF ((show(h.put n o').get j=aa o' from if_pos z).symm.trans q);exact⟨o,z▸e,i.symm⟩
  ·rw[show(h.put n o').get j=h.get j from if_neg z] at q;exact⟨oj,q,rfl⟩
 have at':∀{j} {o1 o2:O} {a},jr o1=jr o2->At j o2 a->At j o1 a:=λe z=>by rcases z with z|⟨z,z'⟩;exact .inl z;exact .inr ⟨e.trans z,z'⟩
 refine⟨⟨λb ob q=>(hs.2 b λz=>by rw[z,x.adO d zv] at q;exact zA q).trans (x.keep b ob q),λj oj q=>?_,λa q=>x.adO a (ow a q),λi j o1 o2 a e1 e2 z1 z2=>?_,λj q=>?_,λa q=>?_⟩,⟨λa ob q nq _ _=>⟨ob.slots,(hs.2 a λz=>nq (z▸zv)).trans q,λ_=>rfl⟩,λa _ _ _ _ q=>ow a q,rfl,λ_ j oj q q1=>(hs.2 j λz=>?_).trans q1⟩⟩
 ·by_cases z:j=n
  ·cases zF ((show(h.put n o').get j=aa o' from if_pos z).symm.trans q);exact z▸hr t
  ·rw[show(h.put n o').get j=h.get j from if_neg z] at q;exact(x.obj j oj q).mono (X:=C.pr) t λa za=>hs.2 a λw=>z (x.ap j n oj o a q e za (w▸hd))
 ·refine e1a2 (g e1) λo1' f1 i1=>?_;refine e1a2 (g e2) λo2' f2 i2=>?_;exact x.ap i j o1' o2' a f1 f2 (at' i1 z1) (at' i2 z2)
 ·refine e1a1 (x.adQ j q) λes e=>?_;exact⟨es,(if_neg λz:j=n=>hl (z▸q)).trans e⟩
 ·(refine be (x.adI a q) λdN p2 p3=>?_;refine e3a2 dN λob xs k ho rA=>?_)
  exact⟨⟨ob,xs,k,(hs.2 a λz=>p2 (z▸zv)).trans ho,rA⟩,λw=>p2 (ow a w),p3⟩
 ·refine e1a1 (x.adQ j q) λes e2=>?_;exact hl (x.ap j n _ o j e2 e (.inl rfl) (z▸hd)▸q)
end
def fZ(s s':aA):Prop:=s'.gens=s.gens/\s'.drawn=s.drawn/\s'.os=s.os
theorem fZ.trans{aW eU fQ:aA}(x:fZ aW eU)(y:fZ eU fQ):fZ aW fQ:=⟨y.1.trans x.1,y.2.1.trans x.2.1,y.2.2.trans x.2.2⟩
def mG(d:Nat)(A:bg):Prop:=A.handled=ao/\A.depth+4*d+20<GU/\A.units+16*d+120<oH
theorem mG.un{d:Nat}{A:bg}(r:mG d A):Un A:=aR (aI (ds (by decide) _) (fC (b_ _ _) 120)) r.2.2
def gP(C:aY)(A:bg)(h:Hp)(H:aL):Prop:=∃l,A.frames=aa l/\H.FunFrames C.h₀ l/\∀e∈l,∀L,e.frame=aa L->¬b9 h L/\∀o,H.get? L=aa o->NS o
def dc(env:bJ)(a:aB):Prop:=a=env.locals\/∃n,env.cells.lookup n=aa a
structure EK(env:bJ):Prop where
 kind:env.scope.kind= .function
 gl:env.globals=e9
 bi:env.builtins=rR
 inj:∀n n' c,env.cells.lookup n=aa c->env.cells.lookup n'=aa c->n=n'
structure ER(C:aY)(env:bJ)(ρ:Mine.Env)(h:Hp)(H:aL):Prop where
 loc:∃m,H.Ns env.locals m/\∀x v,ρ x=aa v->x<eN->env.kindOf (aE x)=aa .local->∃pv,m (aE x)=aa pv/\VR C H v pv
 adJ:∀n,env.kindOf n=aa .cell\/env.kindOf n=aa .free->∃c,env.cells.lookup n=aa c
 cells:∀n c,env.cells.lookup n=aa c->∃v,H.IsCell c v/\((env.kindOf n=aa .cell\/env.kindOf n=aa .free)->∀x w,n=aE x->x<eN->ρ x=aa w->∃pv,v=aa pv/\VR C H w pv)
 apart:∀a,dc env a->¬b9 h a/\C.h₀.get? a=ao
def sE(B:aL)(l:List bJ)(e:aB)(cls a0:av)(h:aL):Prop:=
 (B.StaysIn h/\B.get? e=ao/\h.FunFrames B l/\∃oe vs,h.get? e=aa oe/\oe.cls=cls/\oe.data= .fields vs/\vs[0]? =aa a0/\vs[1]? =aa .none)\/
 aL.FlyingW B l e cls a0 h\/∃env gX L,l=env::gX/\env.frame=aa L/\GV B l e cls a0 L h
def XR(C:aY)(A:bg)(W:aB->Prop)(h:Hp)(s:aA)(h':Hp)(e:av)(s':aA):Prop:=
 Tr ah W h s.heap h' s'.heap/\fZ s s'/\∃ea a0 B l,e= .ref ea/\HR C h' B/\A.frames=aa l/\sE B l ea (.ref (cT 81)) a0 s'.heap
structure Pt(C:aY)(m:Bool)(W:aB->Prop)(h:Hp)(s:aA)(h':Hp)(s':aA):Prop where
 hr:HR C h' s'.heap
 tr:Tr m W h s.heap h' s'.heap
 sm:fZ s s'
structure Kt(C:aY)(m:Bool)(A:bg){α β:Type}(R:aL->α->β->Prop)(h:Hp)(s:aA)(Q:α->Hp->Prop)(X:Hp->Prop)(q:β->aA->Prop)(E:av->aA->Prop):Prop where
 r:∀a h' b s',Q a h'->R s'.heap a b->Pt C m No h s h' s'->q b s'
 x:∀h' e s',X h'->XR C A No h s h' e s'->E e s'
def RB(_:aL)(a b:Bool):Prop:=a=b
section
variable {C:aY}{d:Nat}{m:Bool}{A:bg}{h h' aU bp:Hp}{H H':aL}{s s' aW eU:aA}{env:bJ}{ρ:Mine.Env}{W:aB->Prop}{X:aB->Prop}{e:av}
theorem ER.there(x:ER C env ρ h H){a:aB}(w:dc env a):∃o,H.get? a=aa o/\NF o/\NS o:=by
 rcases w with w|⟨n,w⟩
 ·refine e1a2 x.loc λm hn _=>?_;exact w▸Ns.data hn
 ·(refine e1a2 (x.cells n a w) λv bq _=>?_;refine e1a2 bq λo ho hd=>?_)
  exact⟨o,ho,λvs q=>(by rw[hd] at q;cases q),λxs n q=>by rw[hd] at q;cases q⟩
theorem ER.tr{C':aY}(x:ER C env ρ h H)(e0:C'.h₀=C.h₀)(t:∀a l,bR C H a l->bR C' H' a l)(k:∀a o,dc env a->H.get? a=aa o->∃sl,H'.get? a=aa {o with slots:=sl})(ow:∀a,dc env a->¬b9 h' a):ER C' env ρ h' H' where
 loc:=by
  (refine e1a2 x.loc λM bq kk=>?_;refine e3a2 bq λo es ep ho r=>?_)
  refine e1a1 (k _ o (.inl rfl) ho) λsl e=>?_;exact⟨M,⟨_,es,ep,e,r⟩,λy v e1 e2 e3=>by refine e1a2 (kk y v e1 e2 e3) λpv a b=>?_;exact⟨pv,a,b.mono t⟩⟩
 adJ:=x.adJ
 cells n c hl:=by
  (refine e1a2 (x.cells n c hl) λv bq kk=>?_;refine e1a2 bq λo ho hd=>?_)
  refine e1a1 (k _ o (.inr ⟨n,hl⟩) ho) λsl e=>?_;exact⟨v,⟨_,e,hd⟩,λq y w e1 e2 e3=>by refine e1a2 (kk q y w e1 e2 e3) λpv a b=>?_;exact⟨pv,a,b.mono t⟩⟩
 apart a w:=⟨ow a w,e0▸(x.apart a w).2⟩
theorem gP.tr{C':aY}(x:gP C A h H)(e0:C'.h₀=C.h₀)(k:∀l e L o,A.frames=aa l->e∈l->e.frame=aa L->H.get? L=aa o->NF o->NS o->¬b9 h L->∃o',H'.get? L=aa o'/\NF o'/\NS o')(ow:∀l e L o,A.frames=aa l->e∈l->e.frame=aa L->H.get? L=aa o->NF o->¬b9 h L->¬b9 h' L):gP C' A h' H':=by
 refine e1a3 x λl hl hf hn=>?_;have g:∀e∈l,∀L,e.frame=aa L->∃o,H.get? L=aa o/\NF o/\NS o/\¬b9 h L:=λe he L hL=>by
  (refine aC (hf.mem (GX.mpr ⟨e,he,hL⟩)) λ_ aD=>?_;refine e1a2 aD λo ho rD=>?_)
  exact⟨o,ho,rD,(hn e he L hL).2 o ho,(hn e he L hL).1⟩
 refine⟨l,hl,?_,λe he L hL=>?_⟩
 ·rw[e0];have k':∀e∈l,∀L o,e.frame=aa L->H.get? L=aa o->∃o',H'.get? L=aa o'/\NF o'/\NS o':=λe he L o hL ho=>by refine e1a4 (g e he L hL) λo' bN a b c=>?_;cases zF (ho.symm.trans bN);exact k l e L o hl he hL ho a b c
  clear hl hn g;induction l with
  |nil=>trivial
  |cons e r ih=>
   (refine be hf λa bq b=>?_;refine e2a4 bq λL o e1 e2 e3 e4=>?_)
   refine e1a3 (k' e (.head _) L o e1 e3) λo' f f1 _=>?_;exact⟨a,⟨L,o',e1,e2,f,f1⟩,ih b λe he=>k' e (.tail _ he)⟩
 ·refine e1a4 (g e he L hL) λo ho a b c=>?_;refine e1a3 (k l e L o hl he hL ho a b c) λo2 f _ f2=>?_;exact⟨ow l e L o hl he hL ho a c,λo' bN=>by cases zF (f.symm.trans bN);exact f2⟩
theorem Pt.trans(x:Pt C m W h s aU aW)(y:Pt C m W aU aW bp eU):Pt C m W h s bp eU:=⟨y.hr,x.tr.trans y.tr,x.sm.trans y.sm⟩
theorem Pt.ad6(x:Pt C m W h s aU aW)(y:XR C A W aU aW bp e eU):XR C A W h s bp e eU:=⟨x.tr.wk.trans y.1,x.sm.trans y.2.1,y.2.2⟩
theorem Pt.mono(x:Pt C m No h s aU aW):Pt C m W h s aU aW:=⟨x.hr,x.tr.mono λ_ q=>q.elim,x.sm⟩
theorem XR.mono(x:XR C A No h s aU e aW):XR C A W h s aU e aW:=⟨x.1.mono λ_ q=>q.elim,x.2⟩
theorem Pt.up(x:Pt C au W h s aU aW):Pt C m W h s aU aW:=⟨x.hr,x.tr.up,x.sm⟩
theorem Pt.ad9(x:HR C h s.heap)(k:Kp s.heap s'.heap)(sm:fZ s s'):Pt C m W h s h s':=⟨x.kp k,.kp k,sm⟩
theorem Pt.tk(x:HR C h s.heap)(p:Pt C m No h s h' s'):TK C s.heap s'.heap:=.tr x p.tr λ_ _ q=>q.elim
theorem ER.step(x:ER C env ρ h s.heap)(p:Tr m No h s.heap h' s'.heap)(r:HR C h s.heap):ER C env ρ h' s'.heap:=
 x.tr rfl (TK.tr r p λ_ _ q=>q.elim) (λa o w ho=>by
  refine e1a3 (x.there w) λo' bN f _=>?_;cases zF (ho.symm.trans bN);refine e1a2 (p.keep a o ho (x.apart a w).1 id λ_=>f) λsl q _=>?_;exact⟨sl,q⟩) λa w q=>by
  refine e1a3 (x.there w) λo ho f _=>?_;exact(x.apart a w).1 (p.new a o ho id (λ_=>f) q)
theorem gP.step(x:gP C A h s.heap)(p:Tr m No h s.heap h' s'.heap):gP C A h' s'.heap:=
 x.tr rfl (λ_ _ L o _ _ _ ho f g n=>by refine e1a2 (p.keep L o ho n id λ_=>f) λsl q _=>?_;exact⟨_,q,f,g⟩) λ_ _ L o _ _ _ ho f n q=>n (p.new L o ho id (λ_=>f) q)
section
variable {α β γ δ:Type}{R:aL->α->β->Prop}{R':aL->γ->δ->Prop}{Q:α->Hp->Prop}{Q':γ->Hp->Prop}{Y:Hp->Prop}{q:β->aA->Prop}{q':δ->aA->Prop}{E:av->aA->Prop}
theorem Kt.step(k:Kt C m A R h s Q Y q E)(p:Pt C m No h s aU aW):Kt C m A R aU aW Q Y q E:=⟨λa h' b s' x r p'=>k.r a h' b s' x r (p.trans p'),λh' e s' x y=>k.x h' e s' x (p.ad6 y)⟩
theorem Kt.to(k:Kt C m A R h s Q Y q E)(f:∀a aU b aW,Q' a aU->R' aW.heap a b->Pt C m No h s aU aW->Kt C m A R aU aW Q Y q E->q' b aW):Kt C m A R' h s Q' Y q' E:=⟨λa h' b s' x r p=>f a h' b s' x r p (k.step p),k.x⟩
theorem Kt.ret(k:Kt C m A R h s Q Y q E)(hr:HR C h s.heap){a:α}(x:Q a h){b:β}(kk:Kp s.heap s'.heap)(sm:fZ s s')(r:R s'.heap a b):q b s':=k.r a h b s' x r (.ad9 hr kk sm)
theorem Kt.same(k:Kt C m A R h s Q Y q E)(hr:HR C h s.heap){a:α}(x:Q a h){b:β}(r:R s.heap a b):q b s:=k.ret hr x (λ_ _ e=>e) ⟨rfl,rfl,rfl⟩ r
theorem Kt.tok(k:Kt C m A R h s Q Y q E)(hr:HR C h s.heap){a:α}(x:Q a h){b:β}(r:R s.heap a b){tk:Nat}:q b {s with toks:=tk}:=k.ret (s':={s with toks:=tk}) hr x (λ_ _ e=>e) ⟨rfl,rfl,rfl⟩ r
end
structure Wz(C:aY)(d:Nat)(A:bg)(env:bJ)(ρ:Mine.Env)(h:Hp)(s:aA):Prop where
 rm:mG d A
 ek:EK env
 hr:HR C h s.heap
 er:ER C env ρ h s.heap
 fr:gP C A h s.heap
theorem Wz.step(w:Wz C d A env ρ h s)(p:Pt C m No h s h' s'):Wz C d A env ρ h' s':=⟨w.rm,w.ek,p.hr,w.er.step p.tr w.hr,w.fr.step p.tr⟩
theorem Wz.kp(w:Wz C d A env ρ h s)(k:Kp s.heap s'.heap):Wz C d A env ρ h s':=⟨w.rm,w.ek,w.hr.kp k,w.er.step (m:=au) (.kp k) w.hr,w.fr.step (m:=au) (.kp k)⟩
end
def LX(f:Nat):Prop:=f<eN/\(eE tV f).isSome=ah
structure J2(K:di)(h₀:aL):Prop where
 ady:K.In h₀
 glob:∃mg,h₀.Ns e9 mg
 blt:∃mb,h₀.Ns rR mb/\∀x:Str,x≠"__name__"->mb x=uB x
 nolimit:h₀.NoLimit
 modules:h₀.get? jI≠ao
 aev:∀x v,DC x=aa v->x<eN/\∃pv,iG K e9 (aE x)=aa (aa pv)/\∀C:aY,(∀a,C.pr a->h₀.get? a=ao)->VR C h₀ v pv
 field:∀c f,mU c f=ah->f<eN/\GY K (cT c) (aE f)=ah/\hasDictIn K (cT c)=ah/\j7 K (.ref (cT c)) (aE f)=aa ao/\plainOver K (cT c)=ah/\takerIn K (cT c) (aE f)=aa ao/\j7 K (.ref (cT c)) "__setattr__" =aa (aa (.builtin "object.__setattr__"))
 aeg:∀c m f,iM c m=aa f->m<eN/\GY K (cT c) (aE m)=ah/\j7 K (.ref (cT c)) (aE m)=aa (aa (.ref (dG f)))/\GZ K (.ref (dG f))=aa (.type "function")/\AH K (.ref (dG f))=ah
 gfn:∀f,LX f->iG K e9 (aE f)=aa (aa (.ref (dG f)))/\AH K (.ref (dG f))=ah
abbrev aY.Ok(C:aY):Prop:=J2 C.K C.h₀
def MR(_:aL)(a:Bool)(b:av):Prop:=b= .bool a
section
variable {C:aY}{m:Bool}{A:bg}{h:Hp}{H:aL}{s:aA}{a b v:V}{x y pv:av}{n:Nat}
theorem fy{items:List av}{k:Nat}{c:aB}(z:H.get? c=aa {cls:=.type "list",data:=.seq items.toArray k}):H.IsList c items.toArray:=⟨_,z,rfl,k,rfl⟩
theorem ir{Q:Nat->Prop}(z:g8 v Q)(p:VR C H v pv):∃n,pv= .ref n/\Q n:=by
 cases v with
 |ref n=>exact⟨n,p.adY,z⟩
 |_=>exact z.elim
theorem sX{Q:Nat->Prop}{B:Prop}(z:oE v.adG Q B)(p:VR C H v pv):(∃n,pv= .ref n/\Q n)\/B:=by
 cases v with
 |ref n=>exact .inl ⟨n,p.adY,z⟩
 |_=>exact .inr z
theorem nG{Q:Int->Prop}(z:mT v Q)(p:VR C H v pv):∃i t,pv= .int i t/\Q i:=by
 cases v with
 |int n=>refine e1a1 p.ofInt λt e=>?_;exact⟨n,t,e,z⟩
 |_=>exact z.elim
theorem pD{Q:Int->Int->Prop}(z:nZ a b Q)(p:VR C H a x)(q:VR C H b y):∃i t j u,x= .int i t/\y= .int j u/\Q i j:=by refine e2a2 (nG z p) λi t e z=>?_;refine e2a2 (nG z q) λj u e' z=>?_;exact⟨i,t,j,u,e,e',z⟩
theorem pU{Q:List V->Prop}(z:oG v.items Q)(p:VR C H v pv):∃xs t l,v.items=aa xs/\pv= .ref t/\bR C H t l/\VL C H xs l/\l.length<=2*aG/\Q xs:=by
 cases e:v.items with
 |none=>rw[e] at z;exact z.elim
 |some xs=>rw[e] at z;refine e2a4 (p.items e) λt l e1 r1 r2 r3=>?_;exact⟨xs,t,l,rfl,e1,r1,r2,r3,z⟩
theorem gj{Q:List V->Prop}(hr:HR C h H)(z:oL n Q h):∃xs l k,H.get? n=aa {cls:=.type "list",data:=.seq (bH l) k}/\VL C H xs l/\xs.length<=2*aG/\h.get n=aa (.list xs)/\Q xs:=by
 refine e1a2 z λxs e z=>?_
 (refine aC (hr.obj n _ e) λhl aD=>?_;refine e2a2 aD λl k ho r=>?_)
 exact⟨xs,l,k,ho,r,hl,e,z⟩
theorem n5{Q:List (V×V)->Prop}(hr:HR C h H)(z:oD n Q h):∃es,DR C H n es/\es.length<=2*aG/\h.get n=aa (.dict es)/\Q es:=by refine e1a2 z λes e z=>?_;exact⟨es,(hr.obj n _ e).2,(hr.obj n _ e).1,e,z⟩
theorem sR(K:C.Ok)(hr:HR C h H){o:O}(e:h.get n=aa o):(n==jI)=au:=by rw[beq_eq_false_iff_ne];exact λq=>K.modules (q▸hr.adO n ⟨n,o,e,.inl rfl⟩)
theorem Yr:∀{v:V} {d d':Nat},d<=d'->v.data d=ah->v.data d'=ah:=by
 intro v;induction v with
 |int|str|adt=>intros;rfl
 |adA a b ia ib=>
  intro d d' hd h;cases d with
  |zero=>exact zC h
  |succ d=>
   cases d' with
   |zero=>exact nomatch hd
   |succ d'=>have h:=dE _ _▸h;have h1:=dE _ _▸h.1;exact dE _ _▸⟨dE _ _▸⟨ia (Nat.le_of_succ_le_succ hd) h1.1,h1.2⟩,ib hd h.2⟩
 |_=>intro d d' _ h;exact zC h
theorem MM{d:Nat}{vs:List V}(h:v.data d=ah)(e:v.items=aa vs):∀x∈vs,x.data d=ah:=λx hx=>by refine e1a2 (mF h e x hx) λd' e' k=>?_;exact Yr (e'▸gZ d') k
theorem Bz{xs ys:List V}{l l':List av}(z:VL C s.heap xs l)(z':VL C s.heap ys l')(h1:∀x∈xs,x.data fk=ah)(h2:∀x∈ys,x.data fk=ah)(u:Un A):
  ∀j (p1:j<(bH l).size) (p2:j<(bH l').size),i7 A.in1 s (bH l)[j] (bH l')[j] (decide (xs[j]? =ys[j]?)):=
 Ky z z' λa ha b hb _ _ p q=>D1 (h1 a ha) (h2 b hb) p q (aR (ds (by decide:7<=40) A.units) u)
theorem XI(ha:a.data fk=ah)(hb:b.data fk=ah)(p:VR C s.heap a x)(q:VR C s.heap b y)(u:Un A):jJ A s x y (decide (a=b))/\ja A s x y (!decide (a=b)):=by
 cases p.kd ha with
 |int i t=>cases q.kd hb with
  |int j u=>rw[<-K3];exact⟨jJ.int_int i t j u,ja.int_int i t j u⟩
  |str u h=>exact⟨jJ.int_str i t _ u,ja.int_str i t _ u⟩
  |tup e ht z=>rw[(pC e rfl).2];exact⟨jJ.int_tuple i t ht u.z,ja.int_tuple i t ht u.z⟩
 |str t h=>cases q.kd hb with
  |int j u=>exact⟨jJ.str_int _ t j u,ja.str_int _ t j u⟩
  |str u h'=>rw[<-Iu h h'];exact⟨jJ.str_str _ t _ u,ja.str_str _ t _ u⟩
  |tup e ht z=>rw[(pC e rfl).2];exact⟨jJ.str_tuple _ t ht u.z,ja.str_tuple _ t ht u.z⟩
 |tup e ht z=>cases q.kd hb with
  |int j v=>rw[(pC e rfl).1];exact⟨jJ.tuple_int j v ht u.z,ja.tuple_int j v ht u.z⟩
  |str v h=>rw[(pC e rfl).1];exact⟨jJ.tuple_str _ v ht u.z,ja.tuple_str _ v ht u.z⟩
  |tup e' gb z'=>have el:=Bz z z' (MM ha e) (MM hb e') u;have k1:=abq (A:=A) (s:=s) ht gb u.z el;have k2:=ja.tuples (A:=A) (s:=s) ht gb u.z el;rw[show ∀l:List av,(bH l).size=l.length from λ_=>rfl,show ∀l:List av,(bH l).size=l.length from λ_=>rfl,<-z.len,<-z'.len,Bu,<-Mc e e'] at k1 k2;exact⟨k1,k2⟩
theorem pS{xs:List V}(h:gJ xs=ah):∀x∈xs,x.data fk=ah:=cQ.mp h
theorem TZ{xs ys:List V}{c d:aB}{l l':List av}(hl:s.heap.IsList c (bH l))(eZ:s.heap.IsList d (bH l'))(z:VL C s.heap xs l)(z':VL C s.heap ys l')(h1:gJ xs=ah)(h2:gJ ys=ah)(u:Un A):
  jJ A s (.ref c) (.ref d) (decide (xs=ys))/\ja A s (.ref c) (.ref d) (!decide (xs=ys)):=by
 by_cases hn:xs.length=ys.length
 ·have cU:(bH l).size=(bH l').size:=z.len.symm.trans (hn.trans z'.len);have k1:=jJ.lists (A:=A) (s:=s) hl eZ cU u.z (Bz z z' (pS h1) (pS h2) u);have k2:=ja.lists (A:=A) (s:=s) hl eZ cU u.z (Bz z z' (pS h1) (pS h2) u);have e:=Bu (as:=xs) (bs:=ys);rw[<-hn,Nat.min_self,beq_self_eq_true,Av] at e;rw[show(bH l).size=l.length from rfl,<-z.len,e] at k1 k2;exact⟨k1,k2⟩
 ·have cU:((bH l).size !=(bH l').size)=ah:=bne_iff_ne.mpr λq=>hn (z.len.trans (Eq.trans q z'.len.symm));rw[decide_eq_false λe=>hn (congrArg _ e)];exact⟨jJ.lists_lengths hl eZ cU u.z,ja.lists_lengths hl eZ cU u.z⟩
end
open Classical in
noncomputable def tg(C:aY)(H:aL)(a:V)(y:av):Bool:=decide (VR C H a y)
section
variable {C:aY}{m:Bool}{A:bg}{h:Hp}{H:aL}{s:aA}{a b v:V}{x y pv:av}{n:Nat}{Y:Hp->Prop}{q:av->aA->Prop}{E:av->aA->Prop}
theorem KU{d:Nat}(hv:v.data d=ah)(ha:a.data d=ah)(p:VR C H v y):tg C H a y=decide (a=v):=by delta tg;exact decide_eq_decide.mpr ⟨λz=>VR.inj ha hv z p,λz=>z▸p⟩
theorem Li{d:Nat}{xs:List V}{l:List av}(ha:a.data d=ah)(z:VL C H xs l)(hd:∀x∈xs,x.data d=ah):(bH l).any (tg C H a)=decide (a∈xs):=by
 rw[List.any_toArray];induction z with
 |nil=>exact(decide_eq_false fF).symm
 |cons p q ih=>rw[abM,ih λx hx=>hd x (.tail _ hx),KU (hd _ (.head _)) ha p,<-Bool.decide_or];exact decide_eq_decide.mpr a_.symm
theorem L9{xs:List V}{l:List av}(ha:a.data fk=ah)(p:VR C s.heap a x)(z:VL C s.heap xs l)(hd:∀x∈xs,x.data fk=ah)(u:Un A):∀y,y∈bH l->i7 A.in1 s y x (tg C s.heap a y):=by
 have key:∀{xs l},VL C s.heap xs l->∀y∈l,∃v∈xs,VR C s.heap v y:=λz=>by
  induction z with
  |nil=>exact λy hy=>nomatch hy
  |cons p q ih=>
   intro y hy;rcases a_.mp hy with e|hy
   ·exact⟨_,.head _,e▸p⟩
   ·refine e1a2 (ih y hy) λv h1 h2=>?_;exact⟨v,.tail _ h1,h2⟩
 intro y hy;refine e1a2 (key z y (List.mem_toArray.mp hy)) λv hv r=>?_;rw[KU (hd v hv) ha r,show decide (a=v)=decide (v=a) from decide_eq_decide.mpr ⟨wV,wV⟩];exact D1 (hd v hv) ha r p (aR (ds (by decide:7<=40) A.units) u)
theorem Ym:uA .NotIn x y=(uA .In x y >>=λv=>match v with| .bool b=>pure (.bool (!b))|v=>pure v):=by show(do return av.bool (!(<-contains y x)):Sem av)=((do return .bool (<-contains y x):Sem av) >>=_);simp only [bind_assoc,pure_bind]
theorem Yb{c:Bool}(f:∀q,(∀tk,q (.bool c) {s with toks:=tk})->ay C.M A (uA .In x y) q E s)(g:∀tk,q (.bool !c) {s with toks:=tk}):ay C.M A (uA .NotIn x y) q E s:=by rw[Ym];exact ax (f _ λtk=>aQ (g tk))
theorem JU{Q:Bool->Prop}(hr:HR C h s.heap)(p:VR C s.heap a x)(r:VR C s.heap b y)(u:Un A)(z:BN a b Q h):∃c,Q c/\jJ A s x y c/\ja A s x y (!c):=by
 rcases z with ⟨h1,h2,z⟩|⟨i,j,e1,e2,z⟩|⟨i,j,e1,e2,z⟩|⟨e1,⟨k,e2⟩,z⟩
 ·exact⟨_,z,XI h1 h2 p r u⟩
 ·refine e3a5 (gj hr z) λxs l k ho zz _ _ z=>?_
  (refine e3a5 (gj hr z) λys l' k' bN l6 _ _ aD=>?_;refine be aD λh1 h2 z=>?_)
  rw[e1] at p;rw[e2] at r;rw[p.adY,r.adY];exact⟨_,z,TZ (fy ho) (fy bN) zz l6 h1 h2 u⟩
 ·rw[e1] at p;rw[e2] at r;rw[p.ofBool,r.ofBool];exact⟨_,z,jJ.bool_bool i j,ja.bool_bool i j⟩
 ·rw[e1] at p;rw[e2] at r;refine e1a1 r.ofInt λt e=>?_;rw[p.adZ,e];exact⟨_,z,jJ.none_int k t,ja.none_int k t⟩
theorem IX{Q:Bool->Prop}(K:C.Ok)(hr:HR C h s.heap)(p:VR C s.heap a x)(r:VR C s.heap b y)(u:Un A)(z:BF a b Q h):∃c,Q c/\∀(q:av->aA->Prop) E,(∀tk,q (.bool c) {s with toks:=tk})->ay C.M A (uA .In x y) q E s:=by
 rcases sX z r with ⟨n,e,z|z⟩|z
 ·(refine e3a5 (gj hr z) λxs l k ho zz _ _ aD=>?_;refine be aD λh1 h2 z=>?_)
  rw[e];exact⟨_,z,λq E g=>in_listAt (tg C s.heap a) (fy ho) (L9 h1 p zz (pS h2) u) (by rw[Li h1 zz (pS h2)];exact g s.toks)⟩
 ·refine e1a5 (n5 hr z) λes hd _ e2 hk z=>?_;rw[e];exact⟨_,z,λq E g=>U8 hd hk p u (sR K hr e2) g⟩
 ·(refine e3a6 (pU z r) λxs t l _ e ht zz _ aD=>?_;refine be aD λh1 h2 z=>?_)
  rw[e];exact⟨_,z,λq E g=>in_tupleAt (tg C s.heap a) ht.2 (L9 h1 p zz (pS h2) u) (by rw[Li h1 zz (pS h2)];exact g s.toks)⟩
noncomputable def qR:CO->CmpOp
 | .eq=>.Eq | .ne=>.NotEq | .lt=>.Lt | .gt=>.Gt | .le=>.LtE | .ge=>.GtE | .adz=>.Is | .notN=>.IsNot | .inn=>.In | .notin=>.NotIn
theorem vB(p:VR C H v pv):plainIs pv .none=ah/\(pv== .none)=v.adz/\handedIn pv=ah:=by
 cases p with
 |tup e _ _ _ _=>exact⟨rfl,(by cases v <;> first|rfl|exact zA e),rfl⟩
 |_=>exact⟨rfl,rfl,rfl⟩
theorem Lq{Q:Bool->Hp->Prop}(K:C.Ok)(hr:HR C h s.heap)(u:Un A)(p:VR C s.heap a x)(r:VR C s.heap b y){op:CO}(z:bZ op a b Q h)(k:Kt C m A MR h s Q Y q E):ay C.M A (uA (qR op) x y) q E s:=by
 have kk:∀{c},Q c h->∀tk,q (.bool c) {s with toks:=tk}:=λz tk=>k.tok hr z rfl;have M8:∀{P:Prop},br b.adz P False->b= .none/\P:=λ{P} z=>by cases b <;> first|exact⟨rfl,z⟩|exact z.elim
 cases op with
 |eq=>refine e1a3 (JU (Q:=λt=>Q t h) hr p r u z) λc z e _=>?_;exact e C.prog C.w E q (kk z s.toks)
 |ne=>refine e1a3 (JU (Q:=λt=>Q (!t) h) hr p r u z) λc z _ e=>?_;exact e C.prog C.w E q (kk z s.toks)
 |inn=>refine e1a2 (IX (Q:=λt=>Q t h) K hr p r u z) λc z e=>?_;exact e q E (kk z)
 |notin=>refine e1a2 (IX (Q:=λt=>Q (!t) h) K hr p r u z) λc z e=>?_;exact Yb (λq=>e q E) (kk z)
 |lt=>refine e4a3 (pD z p r) λi t j t' e1 e2 z=>?_;rw[e1,e2];exact PyProof.Rows.lt_int (kk z _)
 |gt=>refine e4a3 (pD z p r) λi t j t' e1 e2 z=>?_;rw[e1,e2];exact PyProof.Rows.gt_int (kk z _)
 |le=>refine e4a3 (pD z p r) λi t j t' e1 e2 z=>?_;rw[e1,e2];exact PyProof.Rows.le_int (kk z _)
 |ge=>refine e4a3 (pD z p r) λi t j t' e1 e2 z=>?_;rw[e1,e2];exact PyProof.Rows.ge_int (kk z _)
 |adz=>refine aC (M8 z) λe z=>?_;rw[e] at r;rw[r.adZ];exact wpAny_is_plain (vB p).1 (by rw[(vB p).2.1];exact kk z _)
 |notN=>refine aC (M8 z) λe z=>?_;rw[e] at r;rw[r.adZ];exact wpAny_isNot_plain (vB p).1 (by rw[(vB p).2.1];exact kk z _)
theorem D8{Q:Bool->Hp->Prop}{q:Bool->aA->Prop}(hr:HR C h s.heap)(p:VR C s.heap a x)(z:qS a Q h)(k:Kt C m A RB h s Q Y q E):ay C.M A (AJ x) q E s:=by
 cases a with
 |bool b=>rw[p.ofBool];exact O6 (k.same hr z rfl)
 |none=>rw[p.adZ];exact truthy_none (k.same hr z rfl)
 |int i=>refine e1a1 p.ofInt λt e=>?_;rw[e];refine abN ?_;rw[show(i !=0)=decide (i≠0) by by_cases h:i=0 <;> simp [h]];exact k.same hr z rfl
 |_=>exact z.elim
end
theorem dM(H:aL):H.get? H.objs.size=ao:=oP (bQ _)
theorem Kp.push(H:aL)(o:Obj):Kp H (H.push o):=λ_ _ e=>cu _ e
theorem Kp.trans{H H' mX:aL}(x:Kp H H')(y:Kp H' mX):Kp H mX:=λb o e=>y b o (x b o e)
theorem Eg:∀vs:List V,(V.tup vs).items=aa vs:=by
 intro vs;induction vs with
 |nil=>exact rfl
 |cons a r ih=>exact by show(V.items (V.tup r)).map _=_;rw[ih];rfl
noncomputable def CT:BO->Operator
 | .add=>.Add | .sub=>.Sub | .mul=>.Mult | .fdiv=>.FloorDiv | .mod=>.Mod
theorem Ul{a:Int}(h:small a=ah):e8.Int.intBits a<=64:=intBits_le_64 (O7 (by decide) (iN (of_decide_eq_true h)).1) (G3 (iN (of_decide_eq_true h)).2 (by decide))
section
variable {C:aY}{m:Bool}{A:bg}{h:Hp}{H H':aL}{s:aA}{a b v:V}{x y pv:av}{n:Nat}{Q:PV}{Y:Hp->Prop}{q:av->aA->Prop}{E:av->aA->Prop}{vs:List V}{pvs:List av}{tk:Nat}
theorem Kt.tup(k:Kt C m A (VR C) h s Q Y q E)(hr:HR C h s.heap)(x:Q (V.tup vs) h)(z:VL C s.heap vs pvs)(hn:pvs.length<=2*aG){t:aB}(kk:Kp s.heap H')(hf:s.heap.get? t=ao)(ht:dJ H' t (bH pvs)):q (.ref t) {s with heap:=H',toks:=tk}:=
 k.ret (s':={s with heap:=H',toks:=tk}) hr x kk ⟨rfl,rfl,rfl⟩ (.ad8 (z.mono (TK.of kk)) (Eg vs) ⟨hr.adH hf,ht⟩ hn)
theorem Kt.new(k:Kt C m A (VR C) h s Q Y q E)(hr:HR C h s.heap){o:O}(x:cj o Q h)(kk:Kp s.heap H')(hn:∀a,At n o a->s.heap.get? a=ao)(r:OR C H' n o):q (.ref n) {s with heap:=H',toks:=tk}:=by
 refine aC (hr.alloc (m:=m) (W:=No) kk hn r) λg1 g2=>?_;refine k.r _ _ _ {s with heap:=H',toks:=tk} (x n ?_) (.ref n) ⟨g1,g2,rfl,rfl,rfl⟩;cases e:h.get n with
 |none=>rfl
 |some o'=>exact absurd ⟨n,o',e,.inl rfl⟩ (hr.nil (hn n (.inl rfl)))
theorem mt{o:O}{a:aB}(hi:jr o=au)(z:At n o a):a=n:=z.elim id λw=>by rw[hi] at w;cases w.1
theorem Kt.list(k:Kt C m A (VR C) h s Q Y q E)(hr:HR C h s.heap)(x:cj (.list vs) Q h)(z:VL C s.heap vs pvs)(hl:vs.length<=2*aG)(kk:Kp s.heap H')(hf:s.heap.get? n=ao){j:Nat}(ho:H'.get? n=aa {cls:=.type "list",data:=.seq (bH pvs) j}):q (.ref n) {s with heap:=H',toks:=tk}:=
 k.new hr x kk (λa w=>mt rfl w▸hf) ⟨hl,pvs,j,ho,z.mono (TK.of kk)⟩
theorem Kt.int(k:Kt C m A (VR C) h s Q Y q E)(hr:HR C h s.heap){i:Int}(x:Q (.int i) h){u:Tok}:q (.int i u) {s with toks:=tk}:=k.tok hr x (.int i u)
theorem UN(k:Kt C m A (VR C) h s Q Y q E)(hr:HR C h s.heap)(x:cj (.list vs) Q h)(z:VL C s.heap vs pvs)(hl:vs.length<=2*aG):ay C.M A (newList pvs) q E s:=
 oQ (k.list (tk:=s.toks) hr x z hl (Kp.push _ _) (dM _) (cV _ rfl)) (by show pvs.toArray.size<=jH;rw[oR,<-z.len];exact fI hl)
theorem Yw(k:Kt C m A (VR C) h s Q Y q E)(hr:HR C h s.heap)(x:Q (V.tup vs) h)(z:VL C s.heap vs pvs)(hl:vs.length<=2*aG):ay C.M A (newTuple pvs) q E s:=by have hp:pvs.length<=2*aG:=z.len▸hl;exact oQ (k.tup (tk:=s.toks) hr x z hp (Kp.push _ _) (dM _) ⟨_,cV _ rfl,rfl,_,rfl⟩) (fI hp)
theorem CA(l l':List av):bH l++bH l'=bH (l++l'):=by simp
theorem MC{t:aB}{r:Array av}(h:dJ H t r):∃n dd sl,H.get? t=aa ⟨.type "tuple",dd,.seq r n,sl⟩:=by obtain ⟨⟨c,dd,da,sl⟩,ho,hc,n,hd⟩:=h;cases hc;cases hd;exact⟨n,dd,sl,ho⟩
theorem Tj(k:Kt C m A (VR C) h s Q Y q E)(hr:HR C h s.heap)(p:VR C s.heap a x)(r:VR C s.heap b y)(z:oG a.items λxs=>oG b.items λys=>xs.length<aG/\ys.length<aG/\Q (V.tup (xs++ys)) h):ay C.M A (O8 .Add x y) q E s:=by
 refine e3a6 (pU z p) λxs t l e1 e2 ht zz hl z=>?_
 (refine e3a6 (pU z r) λys t' l' mY zw gb l6 eZ aD=>?_;refine be aD λh1 h2 z=>?_)
 rw[e2] at p ⊢;rw[zw] at r ⊢;refine e3a1 (MC ht.2) λn dd sl ho=>?_;refine e3a1 (MC gb.2) λn2 E0 vT kQ=>?_;cases l with
 |nil=>cases zz;rw[nV mY] at r;exact G4 ⟨_,ho,rfl⟩ ⟨_,kQ,rfl⟩ O9 O_ Pa Pb (Pc _ _) (tuple_addW0 t t' _ _ n n2 dd E0 sl vT (by exact rfl)) ⟨ho,kQ,k.same hr z r⟩
 |cons u us=>
  cases l' with
  |nil=>cases l6;rw[nV e1] at p;rw[cq] at z;exact G4 ⟨_,ho,rfl⟩ ⟨_,kQ,rfl⟩ O9 O_ Pa Pb (Pc _ _) (tuple_addW1 t t' _ _ n n2 dd E0 sl vT (by simp) (by exact rfl)) ⟨ho,kQ,k.same hr z p⟩
  |cons u' us'=>
   have gr:((u::us)++(u'::us')).length<=2*aG:=by rw[aT,<-zz.len,<-l6.len,Pd];exact dF (bP h1) (bP h2)
   refine G4 ⟨_,ho,rfl⟩ ⟨_,kQ,rfl⟩ O9 O_ Pa Pb (Pc _ _) (tuple_addW2 t t' _ _ n n2 dd E0 sl vT (by simp) (by simp) (by rw[oR,oR,<-aT];exact fI gr)) ⟨ho,kQ,?_⟩;rw[CA];exact k.tup (tk:=s.toks) hr z (zz.append l6) gr (Kp.push _ _) (dM _) ⟨_,cV _ rfl,rfl,_,rfl⟩
theorem Vj(k:Kt C m A (VR C) h s Q Y q E)(hr:HR C h s.heap)(r:VR C s.heap b y)(z:K7 n b Q h):ay C.M A (O8 .Add (.ref n) y) q E s:=by
 refine e1a2 (ir z r) λj e z=>?_;refine e3a5 (gj hr z) λxs l c ho zz _ _ z=>?_
 (refine e3a5 (gj hr z) λys l' c' bN l6 _ _ aD=>?_;refine be aD λh1 h2 z=>?_)
 have gr:(xs++ys).length<=2*aG:=by rw[aT,Pd];exact dF (bP h1) (bP h2)
 rw[e];refine G4 ⟨_,ho,rfl⟩ ⟨_,bN,rfl⟩ noFill_list_add seq_list_add PySem.F.slot_list_add PySem.F.entry_list_add (PySem.F.args_list_add_2 _ _) (list_addW _ _ l.toArray l'.toArray _ _ _ _ _ _ (by rw[oR,oR,<-zz.len,<-l6.len,<-aT];exact fI gr)) ⟨ho,bN,?_⟩;rw[CA];exact k.list (tk:=s.toks) hr z (zz.append l6) gr (Kp.push _ _) (dM _) (cV _ rfl)
theorem XH(hr:HR C h s.heap)(p:VR C s.heap a x)(r:VR C s.heap b y){op:BO}(z:pW op a b Q h)(k:Kt C m A (VR C) h s Q Y q E):ay C.M A (O8 (CT op) x y) q E s:=by
 cases op with
 |add=>
  cases a with
  |int i=>refine e1a1 p.ofInt λt e=>?_;refine e2a2 (nG z r) λj u e' z=>?_;rw[e,e'];exact PyProof.Rows.add_int (k.int hr z)
  |ref n=>rw[p.adY];exact Vj k hr r z
  |_=>exact Tj k hr p r z
 |sub=>refine e4a3 (pD z p r) λi t j t' e1 e2 z=>?_;rw[e1,e2];exact PyProof.Rows.sub_int (k.int hr z)
 |mul=>(refine e4a3 (pD z p r) λi t j t' e1 e2 aD=>?_;refine be aD λz1 z2 z=>?_);rw[e1,e2];exact PyProof.Rows.mul_int (k.int hr z) (IntMulOk.of_left (Ul z1))
 |fdiv=>(refine e4a3 (pD z p r) λi t j t' e1 e2 aD=>?_;refine be aD λz1 z2 z=>?_);rw[e1,e2];exact PyProof.Rows.floordiv_int (abO z1) (k.int hr z) (.inl (PyProof.noPylong_small (gC.mp (by rw[Int.natAbs_of_nonneg (Ar z1)];exact z2))))
 |mod=>(refine e4a3 (pD z p r) λi t j t' e1 e2 aD=>?_;refine aC aD λz1 z=>?_);rw[e1,e2];exact PyProof.Rows.mod_int' (abO z1) (k.int hr z)
theorem MX{xs:List V}{k:Int}{v:V}(h:iR xs k=aa v):(0<=k/\k<xs.length/\xs[k.toNat]? =aa v)\/(k<0/\-(xs.length:Int)<=k/\xs[(k+xs.length).toNat]? =aa v):=by
 delta iR at h;by_cases h0:0<=k
 ·rw[if_pos h0] at h;have:=(i8.mp h).1;exact .inl ⟨h0,(Int.toNat_lt h0).mp this,h⟩
 ·rw[if_neg h0] at h;by_cases h1:0<=(xs.length:Int)+k
  ·rw[if_pos h1] at h;exact .inr ⟨Int.not_le.mp h0,Int.le_of_sub_nonneg (by rw[Int.sub_neg,Pe];exact h1),by rw[Pe];exact h⟩
  ·exact zA ((if_neg h1).symm.trans h)
theorem DW{n:Nat}(h:n<=2*aG):(n:Int)<=8000000:=abP.mpr h
theorem UL(K:C.Ok)(hr:HR C h s.heap)(u:Un A)(p:VR C s.heap a x)(r:VR C s.heap b y)(z:eY a b Q h)(k:Kt C m A (VR C) h s Q Y q E){value slice:aN}
  (hs:∀o i,Pf slice au o i=operate [o,i] (GO o i)):ay C.M A (subscriptTail value slice x y) q E s:=by
 rcases sX z p with ⟨n,e,z|z⟩|z
 ·refine e3a5 (gj hr z) λxs l j ho zz hl _ z=>?_
  (refine e2a2 (nG z r) λi t e' aD=>?_;refine e1a2 aD λw hk z=>?_)
  have hb:=DW hl;rw[e,e'];rcases MX hk with ⟨h0,h2,hv⟩|⟨h0,h2,hv⟩ <;> refine e1a2 (zz.get hv) λpv e1 r=>?_
  ·exact wX (fy ho).typeIs Pg.lookup (wpAny_getItem_list (fy ho) h0 (O7 h2 (oS hb (by decide))) (by rw[gF];exact e1) (k.same hr z r)) (hs _ _)
  ·rw[zz.len] at h2 e1 hb;exact wX (fy ho).typeIs Pg.lookup (wpAny_getItem_list_neg (fy ho) h0 h2 (oS (abQ (oS hb (by decide))) h2) (by rw[gF];exact e1) (k.same hr z r)) (hs _ _)
 ·(refine e1a4 (n5 hr z) λes hd _ e2 aD=>?_;refine e1a3 aD λw hk hg z=>?_)
  rw[e];exact wX (hd.ty rfl) slot_dict_getitem.lookup (Ue hd hk r hg u λpv tk r=>k.tok hr z r) (hs _ _)
 ·refine e3a6 (pU z p) λxs t l _ e ht zz hn z=>?_;refine e2a2 (nG z r) λi u e' z=>?_;cases hk:iR xs i with
  |none=>rw[hk] at z;exact z.elim
  |some w=>
   rw[hk] at z;have hb:=DW hn;rw[e,e'];have hT:s.TypeIs (.ref t) "tuple":=by refine e1a3 ht.2 λo ho hc _=>?_;exact⟨o,ho,hc⟩
   rcases MX hk with ⟨h0,h1,hv⟩|⟨h0,h1,hv⟩ <;> refine e1a2 (zz.get hv) λpv e1 r=>?_ <;> rw[zz.len] at h1
   ·exact wX hT abR.lookup (Ph ht.2 (oS (by decide) h0) (O7 h1 (oS hb (by decide))) (seqIndex_of h0 h1) (by rw[gF];exact e1) (k.same hr z r)) (hs _ _)
   ·rw[zz.len] at e1;exact wX hT abR.lookup (Ph ht.2 (oS (abQ (oS hb (by decide))) h1) (G3 h0 (by decide)) (PySem.seqIndex_neg h0 h1) (by rw[gF];exact e1) (k.same hr z r)) (hs _ _)
theorem EP{i:Int}{f:List V->List V}(hr:HR C h s.heap)(p:VR C s.heap a x)(z:qK a i f Q h)(k:Kt C m A (VR C) h s Q Y q E){vl vu vk:av}{lo hi st:Option Int}
  (pl:IsPart vl lo) (pu:IsPart vu hi) (pk:IsPart vk st) (h0:st≠aa 0) {value slice:aN} {ops:av->av->List av} (hs:∀o i,Pf slice au o i=operate (ops o i) (GO o i)) (hf:∀xs:List V,(f xs).length<=xs.length)
  (hy:0<=i->∀xs (l:List av),VL C s.heap xs l->∃l',G5 (bH l) lo hi st=bH l'/\VL C s.heap (f xs) l'):ay C.M A (newFields "slice" [vl,vu,vk]) (λi aW=>ay C.M A (subscriptTail value slice x i) q E aW) E s:=by
 refine e1a2 (ir z p) λn e z=>?_
 (refine e3a5 (gj hr z) λxs l j ho zz hl _ aD=>?_;refine be aD λhi0 cD z=>?_)
 refine e1a2 (hy hi0 xs l zz) λl' e1 z'=>?_;rw[e];refine oQ ?_;have h2:=cu {cls:=.type "slice",data:=.fields [vl,vu,vk].toArray} ho;refine wX (s:={s with heap:=s.heap.push {cls:=.type "slice",data:=.fields [vl,vu,vk].toArray}}) (fy h2).typeIs Pg.lookup
  (wpAny_getItem_list_slice (s:={s with heap:=s.heap.push {cls:=.type "slice",data:=.fields [vl,vu,vk].toArray}}) (fy h2) (aL.IsSliceOf.new ..) pl pu pk h0 ?_ (by rw[oR,<-zz.len];exact fI hl)) (hs _ _)
 rw[e1];exact k.list (tk:=s.toks) hr z z' (aI (hf xs) hl) ((Kp.push _ _).trans (Kp.push _ _)) (oP (by rw[qi];exact gZ _)) (cV _ rfl)
theorem Ib{k:Int}(h:0<=k):∃m:Nat,k=m:=⟨k.toNat,(abS h).symm⟩
theorem T4{xs:List V}{k:Int}(h:0<=k)(l:List av)(z:VL C H xs l):∃l',G5 (bH l) ao (aa k) ao=bH l'/\VL C H (xs.take k.toNat) l':=
 ⟨l.take k.toNat,by refine e1a1 (Ib h) λm e=>?_;rw[e,slicePick_upto'];rfl,z.take _⟩
theorem Rl{xs:List V}{k:Int}(h:0<=k)(l:List av)(z:VL C H xs l):∃l',G5 (bH l) (aa k) ao ao=bH l'/\VL C H (xs.drop k.toNat) l':=
 ⟨l.drop k.toNat,by refine e1a1 (Ib h) λm e=>?_;rw[e,slicePick_from'];rfl,z.drop _⟩
theorem Wo{xs:List V}(l:List av)(z:VL C H xs l):∃l',G5 (bH l) ao ao (aa (-1))=bH l'/\VL C H xs.reverse l':=⟨l.reverse,by rw[krv_pick],z.reverse⟩
theorem MN{d:aB}{M:Str->Option av}{o:Obj}(x:H.Ns d M)(ho:H.get? d=aa o)(name:Str):lookIn name o=aa (M name):=by
 refine e3a4 x λo' es ep bN hd hk hm=>?_;cases zF (ho.symm.trans bN);unfold lookIn;rw[hd,<-hm name];dsimp only;delta nsFind findBy;rw[<-Array.find?_toList];cases hf:es.toList.find? (·.key.isStr name) with
 |some e=>simp [hf]
 |none=>
  have:es.toList.any (·.refKey)=au:=by rw[List.any_eq_false];intro e he;refine e2a1 (hk e (Array.mem_toList_iff.mp he)) λn t q=>?_;simp [abT,q]
  simp [hf,this]
theorem CY{c:Nat}{fs:List (Nat×V)}(hr:HR C h H)(e:h.get n=aa (.inst c fs)):∃d M od,n=d+1/\H.get? n=aa (oO (cT c) d)/\H.get? d=aa od/\od.cls= .type "dict"/\(∃es ep,od.data= .dict es ep/\es.size<=fs.length)/\H.Ns d M/\FL C H fs M/\InstAt H n (oO (cT c) d) (cT c) (aa od):=by
 (refine e2a5 (hr.obj n _ e) λd M q b EX hn hf=>?_;refine e3a4 EX λod es ep c1 c2 c3 c4=>?_)
 exact⟨d,M,od,q,b,c1,c2,⟨es,ep,c3,c4⟩,hn,hf,⟨b,rfl,rfl,c1⟩⟩
theorem Zs(K:C.Ok)(hr:HR C h s.heap)(p:VR C s.heap a x){f:Nat}(z:db a f Q h)(k:Kt C m A (VR C) h s Q Y q E){expr:Bool}:ay C.M A (getAttr x (aE f) expr) q E s:=by
 (refine e1a2 (ir z p) λn e aD=>?_;refine e3a4 aD λc fs w eg hf hg z=>?_)
 refine iX (K.field c f hf) λh1 h2 h3 h4 _=>?_;refine e3a8 (CY hr eg) λd M od _ _ ho _ _ hn n9 I=>?_
 (refine aC (n9.fw f w hg) λ_ aD=>?_;refine e1a2 aD λpv hm t7=>?_)
 rw[e];exact get_value (K.ady.keeps hr.keep) I (Pi h2).1 (findObj_own h3 h4 (by rfl) (by rw[MN hn ho,hm])) (vB t7).2.2 (k.tok hr z t7)
end
def RU(_:aL)(_ _:Unit):Prop:=True
section
variable {M:uv}{A:bg}{E:av->aA->Prop}{s:aA}
theorem I7{a:aB}{m:Str->Option av}{o:Obj}{es:Array DictEntry}{ep:Nat}{name:Str}{v:av}{Q:Unit->aA->Prop}(hn:s.heap.Ns a m)(ho:s.heap.get? a=aa o)(hd:o.data= .dict es ep)
  (h:∀h' o' d9 zG,h'.get? a=aa o'->o'.cls=o.cls->o'.data= .dict d9 zG->d9.size<=es.size+1->((m name).isSome=ah->d9.size=es.size)->h'.Ns a (λx=>if x=name then aa v else m x)->
   fV a s.heap h'->Q () {s with heap:=h',toks:=s.toks+1}):ay M A (nsSet a name v) Q E s:=by
 refine e3a4 hn λo₂ es₂ ep₂ aaW zH hk hm=>?_;cases zF (ho.symm.trans aaW);rw[hd] at zH;cases zH;have hany:es.any (·.refKey)=au:=by rw[Array.any_eq_false'];intro e he;refine e2a1 (hk e he) λn t h=>?_;simp [abT,h]
 refine ax (ax (wpAny_askSetting (aQ (ax (wpAny_mkText (ax (Pj ho ?_)))))));rw[hd];dsimp only;rw[aRefKeyMayBeTheName_at,hany,abU];refine wpAny_updatePart ho ?_;obtain ⟨c,d,dt,sl⟩:=o;cases hd;cases hi:es.findIdx? (·.key.isStr name) with
 |some i=>
  refine h _ _ _ ep (i_ _ ho (by simp only [oV,oW,hi];rfl)) (by simp only [oV,oW,hi]) (by simp only [oV,oW,hi];rfl) (by simp) (λ_=>by simp)
   ⟨_,_,ep,i_ _ ho (by simp only [oV,oW,hi];rfl),by simp only [oV,oW,hi];rfl,hk.modify _ _,λx=>?_⟩ (j6 ..)
  show _=if x=name then aa v else m x
  rw[<-hm];exact findBy_modify (λn v=>v.isStr n) av.isStr_inj es name x v i hi
 |none=>
  refine h _ _ _ (ep+1) (i_ _ ho (by simp only [oV,oW,hi];rfl)) (by simp only [oV,oW,hi]) (by simp only [oV,oW,hi];rfl) (by simp) (λhs=>?_)
   ⟨_,_,ep+1,i_ _ ho (by simp only [oV,oW,hi];rfl),by simp only [oV,oW,hi];rfl,hk.push _ _ _ _,λx=>?_⟩ (j6 ..)
  ·rw[<-hm name] at hs;simp only [nsFind,findBy,AC] at hs;rw[Array.findIdx?_eq_none_iff] at hi;rw[Array.find?_isSome] at hs;refine e1a2 hs λx hx hp=>?_;have:=hi x hx;exact zD (hp.symm.trans this)
  ·show _=if x=name then aa v else m x
   rw[<-hm];exact findBy_push (λn v=>v.isStr n) es name x _ _ v (λy=>by
    show(name==y)=decide (y=name);by_cases h:y=name
    ·rw[h];exact rfl
    ·rw[decide_eq_false h];exact beq_eq_false_iff_ne.mpr (eJ h)) hi
end
theorem CV(f g:Nat)(v:V):∀fs:List (Nat×V),dR (jk fs f v) g=if g=f then aa v else dR fs g:=by
 intro fs;induction fs with
 |nil=>
  show(if f=g then _ else _)=_;by_cases h:g=f
  ·rw[if_pos h.symm,if_pos h]
  ·exact(if_neg (eJ h)).trans (if_neg h).symm
 |cons e r ih=>
  show dR (if e.1=f then(e.1,v)::r else e::jk r f v) g=if g=f then aa v else if e.1=g then aa e.2 else dR r g
  by_cases h1:e.1=f
  ·rw[if_pos h1];show(if e.1=g then _ else _)=_;by_cases h:e.1=g
   ·rw[if_pos h,if_pos (h.symm.trans h1)]
   ·rw[if_neg h,if_neg (λq=>h (h1.trans q.symm)),if_neg h]
  ·rw[if_neg h1];show(if e.1=g then _ else dR (jk r f v) g)=_;by_cases h:e.1=g
   ·rw[if_pos h,if_neg (λq=>h1 (h.trans q)),if_pos h]
   ·rw[if_neg h,if_neg h,ih]
theorem JZ(f:Nat)(v:V):∀fs:List (Nat×V),(jk fs f v).length=if(dR fs f).isSome then fs.length else fs.length+1:=by
 intro fs;induction fs with
 |nil=>exact rfl
 |cons e r ih=>
  show(if e.1=f then(e.1,v)::r else e::jk r f v).length=if abV (if e.1=f then aa e.2 else dR r f) then r.length+1 else r.length+1+1
  by_cases h1:e.1=f
  ·rw[if_pos h1,if_pos h1];rfl
  ·rw[if_neg h1,if_neg h1,e_,ih];split <;> rfl
theorem ED:∀(es:List (V×V)) (k v:V),(bB es k v).length<=es.length+1:=by
 intro es;induction es with
 |nil=>intro _ _;exact bQ _
 |cons e r ih=>
  intro k v;rw[tN];split
  ·exact gZ _
  ·exact dw (ih k v)
theorem aan:∀(es:List (V×V)) (k:V),(iy es k).length<=es.length:=by
 intro es;induction es with
 |nil=>intro _;exact bQ _
 |cons e r ih=>
  intro k;rw[yl];split
  ·exact gZ _
  ·exact dw (ih k)
section
variable {C:aY}{m:Bool}{A:bg}{h:Hp}{H H':aL}{s:aA}{a b v:V}{x y pv:av}{n:Nat}{Y:Hp->Prop}{E:av->aA->Prop}{tk:Nat}
theorem HR.aem{d:aB}(x:HR C h H)(w:b9 h d)(hs:fV d H H'):TK C H H':=λa l yy=>aC yy λp aD=>e1a3 aD λob ho hc r=>by refine e1a3 (x.there w) λod EY EZ _=>?_;exact⟨p,ob,(hs.2 a λz=>by rw[z,EY] at ho;cases zF ho;exact EZ hc).trans ho,hc,r⟩
theorem Kt.set{α β:Type}{R:aL->α->β->Prop}{Q:α->Hp->Prop}{q:β->aA->Prop}(k:Kt C m A R h s Q Y q E)(hr:HR C h s.heap){o o':O}{d:aB}(e:h.get n=aa o)(i:jr o'=jr o)(hd:At n o d)(hs:fV d s.heap H'){a:α}{b:β}(z:nU n o' (Q a) h)
  (hO:TK C s.heap H'->OR C H' n o') (r:TK C s.heap H'->R H' a b):q b {s with heap:=H',toks:=tk}:=by
 refine aC (hr.set (m:=m) (W:=No) e i hd hs hO z.1) λg1 g2=>?_;exact k.r a _ b {s with heap:=H',toks:=tk} z.2 (r (hr.aem (hd.own e) hs)) ⟨g1,g2,rfl,rfl,rfl⟩
theorem aaf(K:C.Ok)(hr:HR C h s.heap)(p:VR C s.heap a x)(r:VR C s.heap v pv){f:Nat}{Q:Hp->Prop}{q:Unit->aA->Prop}(z:lY a f v Q h)(k:Kt C m A RU h s (λ_=>Q) Y q E):ay C.M A (setAttr x (aE f) pv) q E s:=by
 (refine e1a2 (ir z p) λn e aD=>?_;refine e2a4 aD λc fs eg hf hl z=>?_)
 refine H3 (K.field c f hf) λh1 _ h3 _ k1 k2 k3=>?_
 (refine e3a8 (CY hr eg) λd M od en M9 c1 c2 y07 hn n9 I=>?_;refine e2a2 y07 λes ep c3 c4=>?_)
 have X:=K.ady.keeps hr.keep;rw[e];refine set_plain X I k3 (osa_open (s:={s with toks:=s.toks+1}) X I k1 k2 λb=>?_);refine e1a2 (any_some h3) λcd hc mW=>?_;refine ax (aQ (ax (ax (Pj M9 ?_))));refine ax (j8.here (s:={s with toks:=s.toks+1}) (looks_clsIn X hc) ?_);rw[mW];refine aQ (a:=aa d) (ax (aQ (ax ?_)));refine I7 (s:={s with toks:=s.toks+1}) hn c1 c3 λh' o' d9 zG x1 x2 x3 x4 x5 x6 x7=>?_;have hfs:(dR fs f).isSome=ah->(M (aE f)).isSome=ah:=λw=>by
  refine e1a1 (AL.mp w) λw hg=>?_
  (refine aC (n9.fw f w hg) λ_ aD=>?_;refine e1a2 aD λpw q _=>?_);rw[q];rfl
 have cU:d9.size<=(jk fs f v).length:=by
  rw[JZ];cases hg:(dR fs f).isSome with
  |true=>rw[if_pos rfl,x5 (hfs hg)];exact c4
  |false=>exact aI x4 (dw c4)
 have EW:(jk fs f v).length<=fs.length+1:=by rw[JZ];split;exact gZ _;exact bQ _
 refine ax (abW x1 (by rw[x3];exact abX (aI cU (aI EW (aI hl (iH (fI (abY _ (by decide)))))))) ?_);refine aQ (k.set (a:=()) (b:=()) hr (o':=.inst c (jk fs f v)) (d:=d) eg rfl (.inr ⟨rfl,en.symm⟩) x7 z (λt=>?_) λ_=>trivial);refine⟨d,_,en,(x7.2 n λw=>Nat.succ_ne_self d (en.symm.trans w)).trans M9,⟨o',d9,zG,x1,x2.trans c2,x3,cU⟩,x6,λg w hg=>?_,λname hs=>?_⟩
 ·rw[CV] at hg;by_cases w:g=f
  ·cases zF ((if_pos w).symm.trans hg);exact⟨w▸h1,pv,if_pos (congrArg aE w),r.mono t⟩
  ·rw[if_neg w] at hg
   (refine aC (n9.fw g _ hg) λr1 aD=>?_;refine e1a2 aD λpw r2 r3=>?_)
   exact⟨r1,pw,(if_neg λz=>w (nM r1 h1 z)).trans r2,r3.mono t⟩
 ·by_cases w:name=aE f
  ·exact⟨f,w,h1,by rw[CV,if_pos rfl];rfl⟩
  ·have hs:abV (if name=aE f then aa pv else M name)=ah:=hs;rw[if_neg w] at hs;refine e1a3 (n9.bw name hs) λg q1 q2 q3=>?_;exact⟨g,q1,q2,by rw[CV];split;rfl;exact q3⟩
theorem VN(hr:HR C h s.heap)(u:Un A)(p:VR C s.heap a x)(pi:VR C s.heap b y)(r:VR C s.heap v pv){Q:Hp->Prop}{q:Unit->aA->Prop}(z:dY a b v Q h)(k:Kt C m A RU h s (λ_=>Q) Y q E):ay C.M A (setItem x y pv) q E s:=by refine e1a2 (ir z p) λn e z=>?_;refine e1a6 (n5 hr z) λes hd _ eg hk hl z=>?_;rw[e];exact YJ hd hk pi u r hl λh' tk d8 hs=>k.set (a:=()) (b:=()) (o':=.dict (bB es b v)) hr eg rfl (.inl rfl) hs z (λ_=>⟨aI (ED ..) (Ds hl),d8⟩) λ_=>trivial
theorem XC(hr:HR C h s.heap)(u:Un A)(p:VR C s.heap a x)(pi:VR C s.heap b y){Q:Hp->Prop}{q:Unit->aA->Prop}(z:pR a b Q h)(k:Kt C m A RU h s (λ_=>Q) Y q E):ay C.M A (delItem x y) q E s:=by refine e1a2 (ir z p) λn e z=>?_;refine e1a6 (n5 hr z) λes hd hl eg hk hi z=>?_;rw[e];exact Sr hd hk pi u hi hl λh' tk d8 hs=>k.set (a:=()) (b:=()) (o':=.dict (iy es b)) hr eg rfl (.inl rfl) hs z (λ_=>⟨aI (aan ..) hl,d8⟩) λ_=>trivial
end
theorem pF{α:Type}{n k:Nat}{v x:α}{r:List (Nat×α)}(h:eE ((n,v)::r) k=aa x):(k=n/\x=v)\/eE r k=aa x:=by
 have h:(if n=k then aa v else eE r k)=aa x:=h;by_cases e:n=k
 ·rw[if_pos e] at h;exact .inl ⟨e.symm,(cP h).symm⟩
 ·rw[if_neg e] at h;exact .inr h
section
variable {C:aY}{m:Bool}{A:bg}{h:Hp}{H H':aL}{s:aA}{v:V}{x:av}{n:Nat}{Q:PV}{Y:Hp->Prop}{q:av->aA->Prop}{E:av->aA->Prop}{vs xs:List V}{pvs l:List av}{ks:List Int}
theorem LW(z:VL C H xs l)(e:kr xs=aa ks):wY l ks:=by
 induction z generalizing ks with
 |nil=>cases zF e;exact .nil
 | @cons a _ _ _ p q ih=>
  refine e1a2 (rS.mp e) λk e1 e2=>?_;refine e1a2 (iD.mp e2) λad3 e3 e4=>?_;cases a with
  |int i=>refine e1a1 p.ofInt λt e5=>?_;cases zF e1;rw[<-e4,e5];exact .cons _ t (ih e3)
  |_=>exact zA e1
theorem VM(x:wY l ks):VL C H (ks.map V.int) l:=by
 induction x with
 |nil=>exact .nil
 |cons n t _ ih=>exact .cons (.int n t) ih
theorem Lw:∀{xs:List V} {ks:List Int},kr xs=aa ks->xs.length=ks.length:=by
 intro xs;induction xs with
 |nil=>intro ks e;exact by cases zF e;rfl
 |cons x r ih=>intro ks e;refine e1a2 (rS.mp e) λk e1 e2=>?_;refine e1a2 (iD.mp e2) λad3 e3 e4=>?_;rw[<-e4];exact congrArg qg (ih e3)
theorem HY(k:Int):∀l:List Int,(nF k l).Perm (k::l):=by
 intro l;induction l with
 |nil=>exact .refl _
 |cons x r ih=>
  rw[DE];split
  ·exact .refl _
  ·exact((ih).cons x).trans (.swap _ _ _)
theorem W4(k:Int):∀{l:List Int},l.Pairwise (·<=·)->(nF k l).Pairwise (·<=·):=by
 intro l;induction l with
 |nil=>intro _;exact .cons (λ_ h=>nomatch h) .nil
 |cons x r ih=>
  intro h;rw[DE];have h':=rU.mp h;split
  ·rename_i q;refine .cons (λy hy=>?_) h;rcases a_.mp hy with e|hy
   ·exact e▸Ar q
   ·exact oS (Ar q) (h'.1 y hy)
  ·rename_i q;refine .cons (λy hy=>?_) (ih h'.2);rcases a_.mp ((HY k r).mem_iff.mp hy) with e|hy
   ·exact e▸G6.mp q
   ·exact h'.1 y hy
theorem IV:∀l:List Int,(jj l).Perm l:=by
 intro l;induction l with
 |nil=>exact .refl _
 |cons x r ih=>exact(HY x (jj r)).trans ((ih).cons x)
theorem Rx:∀l:List Int,(jj l).Pairwise (·<=·):=by
 intro l;induction l with
 |nil=>exact .nil
 |cons x r ih=>exact W4 x (ih)
theorem TD{l l':List Int}(p:l'.Perm l)(h:l'.Pairwise (·<=·)):l'=jj l:=
 (p.trans (IV l).symm).eq_of_pairwise (λ_ _ _ _ x y=>Int.le_antisymm x y) h (Rx l)
theorem yb{n:Nat}(h:n<=2*aG):(n:Int)<2 ^ 63:=OV (DW h) (by decide)
theorem DQ{v:V}(e:one vs=aa v):vs=[v]:=by
 cases vs with
 |nil=>exact zA e
 |cons a r=>
  cases r with
  |nil=>cases zF e;rfl
  |cons _ _=>exact zA e
theorem B3{p:V×V}(e:pH vs=aa p):vs=[p.1,p.2]:=by
 cases vs with
 |nil=>exact zA e
 |cons a r=>
  cases r with
  |nil=>exact zA e
  |cons b r=>
   cases r with
   |nil=>cases zF e;rfl
   |cons _ _=>exact zA e
theorem Ck{Q:V->Prop}(z:oG (one vs) Q)(y:VL C H vs pvs):∃v pv,pvs=[pv]/\VR C H v pv/\Q v:=by
 cases e:one vs with
 |none=>rw[e] at z;exact z.elim
 |some v=>rw[e] at z;rw[DQ e] at y;refine e1a2 y.one λpv e2 r=>?_;exact⟨v,pv,e2,r,z⟩
theorem Ma{Q:V×V->Prop}(z:oG (pH vs) Q)(y:VL C H vs pvs):∃v w pv pw,pvs=[pv,pw]/\VR C H v pv/\VR C H w pw/\Q (v,w):=by
 cases e:pH vs with
 |none=>rw[e] at z;exact z.elim
 |some v=>rw[e] at z;rw[B3 e] at y;refine e2a3 y.two λpv pw e2 r r'=>?_;exact⟨v.1,v.2,pv,pw,e2,r,r',z⟩
theorem Rg(hr:HR C h s.heap)(p:VR C s.heap v x)(z:pM v Q h)(k:Kt C m A (VR C) h s Q Y q E):ay C.M A (call (.builtin "len") [x]) q E s:=by
 rcases sX z p with ⟨n,e,z⟩|z
 ·refine e3a5 (gj hr z) λxs l j ho zz hl _ z=>?_;rw[zz.len] at z hl;rw[e];exact call_len_list (fy ho) (yb hl) (k.int hr z)
 ·refine e3a6 (pU z p) λxs t l _ e ht zz hl z=>?_;rw[zz.len] at z;rw[e];exact abZ ht.2 (yb hl) (k.int hr z)
theorem ZV(hr:HR C h s.heap)(p:VR C s.heap v x)(z:JQ v Q h)(k:Kt C m A (VR C) h s Q Y q E):ay C.M A (call (.builtin "abs") [x]) q E s:=by refine e2a2 (nG z p) λi t e z=>?_;rw[e];exact call_abs_int λu tk=>k.int hr z
theorem Tg(hh:A.handled=ao)(hr:HR C h s.heap)(p:VR C s.heap v x)(z:CH v Q h)(k:Kt C m A (VR C) h s Q Y q E):ay C.M A (call (.builtin "sum") [x]) q E s:=by
 refine e1a2 (ir z p) λn e z=>?_
 (refine e3a5 (gj hr z) λxs l j ho zz hl _ aD=>?_;refine e1a2 aD λks e2 z=>?_)
 have hi:=LW zz e2;refine e1a1 hi.allInts.items λys hx=>?_;have hn:numsOf l.toArray.toList=ks:=hi.numsOf;have hL:=fy ho;rw[hx] at hL hn;rw[nums_intItems] at hn;rw[e];refine sum_intListG hh hL λh' tk t' hk=>?_;rw[preSum_eq,List.take_of_length_le (by simp),hn];exact k.ret (s':={s with heap:=h',toks:=tk}) hr z hk ⟨rfl,rfl,rfl⟩ (.int _ t')
theorem Kp.fresh(k:Kp H H'):H.get? H'.objs.size=ao:=k.nil (dM _)
theorem aaU(hr:HR C h s.heap)(p:VR C s.heap v x)(z:yp v Q h)(k:Kt C m A (VR C) h s Q Y q E):ay C.M A (call (.type "tuple") [x]) q E s:=by
 rcases sX z p with ⟨n,e,z⟩|⟨hi,z⟩
 ·(refine e3a5 (gj hr z) λxs l j ho zz hl _ aD=>?_;refine aC aD λcD z=>?_)
  rw[zz.len] at hl;rw[e];exact call_tuple_list (fy ho) (λh' hk=>k.tup (tk:=s.toks) hr z zz hl (Kp.trans hk (Kp.push _ _)) (Kp.fresh hk) ⟨_,cV _ rfl,rfl,_,rfl⟩) (fI hl)
 ·refine e1a1 (AL.mp hi) λxs e=>?_;refine e2a4 (p.items e) λt l e2 ht zz hl=>?_;rw[e2] at p ⊢;exact call_tuple_tup ht.2 (k.same hr z p)
theorem Ie{P:List av->Prop}(hc:∀(R:List av->aA->Prop) (F:av->aA->Prop),(∀h' tk vs,Kp s.heap h'->P vs->R vs {s with heap:=h',toks:=tk})->ay C.M A.in1 (collect x) R F s)
  (hP:∀vs,P vs->∃ks,wY vs ks/\vs.length<64/\∀a h' tk out n,Kp s.heap h'->s.heap.get? a=ao->h'.get? a=aa {cls:=.type "list",data:=.seq (bH out) n}->wY out (jj ks)->
   q (.ref a) {s with heap:=h',toks:=tk}):ay C.M A (call (.builtin "sorted") [x]) q E s:=by
 refine Calls.call_function_entry kind_sorted plain_sorted entry_sorted (args_sorted1 _) ?_;refine ax (m:=checkCount "sorted" 1 1 _) (aQ ?_);refine ax (hc _ _ λh' tk vs hk hp=>?_);refine e1a3 (hP vs hp) λks hI l7 hQ=>?_;refine ax (oQ ?_ (show vs.length<=jH from fI (aI (bP l7) (by decide))));have pY:(h'.push (seqObj "list" vs.toArray 0)).get? h'.objs.size=aa (seqObj "list" vs.toArray 0):=cV _ rfl;refine ax (dv (i9 slot_list_sort ⟨_,pY,rfl⟩ entry_list_sort (list_sort_tree pY hI l7 λout ns' a1 a2 a3=>⟨_,rfl,?_⟩) (args_list_sort _)));refine e1a1 (sortedHeap_at (out:=out) pY) λe he=>?_;refine aQ ⟨_,rfl,hQ h'.objs.size _ tk out.toList e (λb o eb=>?_) (Kp.fresh hk) he (by rw[<-TD a2 a3];exact a1)⟩;have cD:=fX (hk b o eb);rw[sortedHeap_old (fE cD) (by rw[size_push'];exact AM cD)];exact cu _ (hk b o eb)
theorem Mh{k:V}(h:(kk k==1)=ah):∃i,k= .int i:=by cases k <;> first|exact⟨_,rfl⟩|exact zC h
theorem LI{mX:aL}{kvs:List (Int×av)}{es:List (V×V)}(x:DL C H nY kvs es):∀{vs:List av},vs.length=kvs.length->
  (∀(j:Nat) (v:av),vs[j]? =aa v->∃k y,kvs[j]? =aa (k,y)/\(rQ C.prog C.w).is k v=ah)->VL C mX (es.map (·.1)) vs:=by
 induction x with
 |nil=>intro vs hl _;cases vs with|nil=>exact .nil |cons _ _=>cases hl
 | @cons k _ v _ _ _ e _ _ ih=>
  intro vs hl hv;cases vs with
  |nil=>cases hl
  |cons w vs=>
   refine .cons ?_ (ih (jZ hl) λj w e=>hv (j+1) w e);refine e2a2 (hv 0 w rfl) λk' y e1 e2=>?_;cases e1;rw[show v= .int k from e];cases w with
   |int i t=>rw[show i=k from eq_of_beq e2];exact .int _ _
   |_=>exact zC e2
theorem Js{P:List V->Prop}(K:C.Ok)(hr:HR C h s.heap)(p:VR C s.heap v x)(z:CJ v P h):∃n,x= .ref n/\((∃xs l k,s.heap.get? n=aa {cls:=.type "list",data:=.seq (bH l) k}/\VL C s.heap xs l/\xs.length<=2*aG/\P xs)\/
  ∃es kvs ep,(n==jI)=au/\s.heap.DictAt (rQ C.prog C.w) n kvs ep/\DL C s.heap nY kvs es/\es.length<=2*aG/\hY es=ah/\h.get n=aa (.dict es)/\P (es.map (·.1))):=by
 obtain ⟨n,e,z|z⟩:=ir z p
 ·refine e3a5 (gj hr z) λxs l j ho zz hl _ z=>?_;exact⟨n,e,.inl ⟨xs,l,j,ho,zz,hl,z⟩⟩
 ·refine e1a5 (n5 hr z) λes hd hl eg hk z=>?_;refine e1a2 (hd.toI hk) λkvs hd adD=>?_;refine e1a1 hd.dictAt λep l8=>?_;exact⟨n,e,.inr ⟨es,kvs,ep,sR K hr eg,l8,adD,hl,hk,eg,z⟩⟩
theorem Y0(K:C.Ok)(hh:A.handled=ao)(hr:HR C h s.heap)(p:VR C s.heap v x)(z:tZ v Q h)(k:Kt C m A (VR C) h s Q Y q E):ay C.M A (call (.builtin "sorted") [x]) q E s:=by
 have fin:∀{xs ks vs},VL C s.heap xs vs->kr xs=aa ks->ks.length<64->cj (.list ((jj ks).map V.int)) Q h->∃ks,wY vs ks/\vs.length<64/\∀a h' tk out n,Kp s.heap h'->s.heap.get? a=ao->h'.get? a=aa {cls:=.type "list",data:=.seq (bH out) n}->wY out (jj ks)->q (.ref a) {s with heap:=h',toks:=tk}:=λ{xs ks vs} zz e l7 z=>
  ⟨ks,LW zz e,by rw[<-zz.len,Lw e];exact l7,λa h' tk out n hk ha ho hi=>k.list hr z (VM hi) (by rw[aP,(IV ks).length_eq];exact aI (bP l7) (by decide)) hk ha ho⟩
 obtain ⟨n,e,⟨xs,l,j,ho,zz,hl,ks,e2,l7,z⟩|⟨es,kvs,ep,lo,l8,adD,hl,_,_,ks,e2,l7,z⟩⟩:=Js K hr p z
 ·rw[e];refine Ie (P:=λvs=>vs=l) (λR F hR=>?_) λvs ev=>ev▸fin zz e2 l7 z;exact collect_list (fy ho) (hR _ s.toks l (λb o e=>(qj _ _ (eJ (fE (fX e)))).trans (cu _ e)) rfl) (fI (zz.len▸hl))
 ·rw[e];have E3:=adD.length;have h64':es.length<64:=by rw[<-Lw e2,aP] at l7;exact l7
  refine Ie (P:=λvs=>VL C s.heap (es.map (·.1)) vs) (λR F hR=>kdu_collect (kdl_dict (kvs:=kvs) (ep:=ep) lo) hh l8 (by rw[wW,E3];exact aI (bP h64') (by decide)) λh' tk acc hk vU=>hR h' tk acc.toList hk ?_) λvs zz=>fin zz e2 l7 z;exact LI adD (by rw[ab0];exact vU.1) λj v e=>vU.2 j v (by rw[<-ab1];exact e)
theorem Ua(K:C.Ok)(hh:A.handled=ao)(hr:HR C h s.heap)(p:VR C s.heap v x)(z:xF v Q h)(k:Kt C m A (VR C) h s Q Y q E):ay C.M A (call (.type "list") [x]) q E s:=by
 obtain ⟨n,e,⟨xs,l,j,ho,zz,hl,cD,z⟩|⟨es,kvs,ep,lo,l8,adD,hl,_,_,cD,z⟩⟩:=Js K hr p z
 ·rw[e];exact call_list_seq n (.inl rfl) ho rfl rfl (λh' c' hk bN=>k.list (tk:=s.toks) hr z zz hl hk (dM _) bN) (fI (show l.length<=_ from zz.len▸hl))
 ·rw[e];have E3:=adD.length;refine kdl_call (kdl_dict (kvs:=kvs) (ep:=ep) lo) hh l8 (by rw[E3];exact fI hl) λh' tk acc' c' hk hD vU=>?_;exact k.list (pvs:=acc'.toList) hr z (LI adD (by rw[ab0];exact vU.1) λj v e=>vU.2 j v (by rw[<-ab1];exact e)) (by rw[aP];exact hl) hk (dM _) hD
end
theorem JW:G7 table "dict.update.loop" =aa e8.«dict.update.loop»:=Pk (by kernel_rfl)
theorem xO:plainId "dict.update.loop" =ah:=by decide+kernel
section
variable {C:aY}{m:Bool}{A:bg}{h:Hp}{H H':aL}{s:aA}{v:V}{x:av}{n:Nat}{Q:PV}{Y:Hp->Prop}{q:av->aA->Prop}{E:av->aA->Prop}{vs xs:List V}{pvs l:List av}
theorem T0{a:aB}{xs:Array av}{k:Nat}{Q:Option av->aA->Prop}(hx:s.heap.get? a=aa {cls:=.type "list",data:=.seq xs k})(hA:A.handled=ao)(h:∀h' tk,Kp s.heap h'->Q ao {s with heap:=h',toks:=tk}):
  ay C.M A (getAttr? (.ref a) "keys") Q E s:=by
 have aaX:uC (.type "list") "keys" =pure ao:=by rw[rV,rW];kernel_rfl
 have hT:∀zI,({s with toks:=zI}:aA).TypeIs (.ref a) "list":=λ_=>⟨_,hx,rfl⟩;have f1:=sub_AttributeError;have f3:=Pl.lookup;have f4:=Pl.bind (.ref a);have f5:=am_list_getattr_none;repeat (any_goals (first|assumption|exact hT _|((with_reducible show ay _ _ (call (GH "list.__getattribute__") _ _) _ _ _);refine Pm Pl (hT _) am_entry_list_getattribute (F.args_list_getattribute_2 _ _) (meets_getattribute_miss_list a xs k _ "keys" _ aaX (by decide+kernel) (by rw[wW];decide+kernel)) ⟨hx,hA,λh' zI e iZ=>?_⟩)|wp_step))
 refine e2a1 iZ.there λt' u' he=>?_;show ay _ _ (ab2 _ _ _ _ _ _ _) _ _ _;unfold ab2;repeat (any_goals (first|assumption|wp_step))
 exact h _ _ iZ.keeps
theorem JD{p:V×V}(x':VR C H v x)(e:CL v=aa p):∃t pa pb,x= .ref t/\bR C H t [pa,pb]/\VR C H p.1 pa/\VR C H p.2 pb:=by refine e1a2 (rS.mp e) λl hi e=>?_;refine e2a4 (x'.items hi) λt l' e1 ht z _=>?_;rw[B3 e] at z;refine e2a3 z.two λpa pb e2 h1 h2=>?_;exact⟨t,pa,pb,e1,e2▸ht,h1,h2⟩
theorem IO:∀(ps es:List (V×V)),(kq es ps).length<=es.length+ps.length:=by
 intro ps;induction ps with
 |nil=>intro es;exact bQ _
 |cons p r ih=>intro es;exact aI (ih (bB es p.1 p.2)) (aI (fC (ED es p.1 p.2) _) (by rw[hZ,dB 1];exact bQ _))
theorem qF.mono{d:aB}{es:List (V×V)}(x:qF C H d es)(e:H'.get? d=H.get? d)(k:TK C H H'):qF C H' d es:=by
 (refine e1a2 x λkvs bq hl=>?_;refine e3a2 bq λo es ep ho r=>?_);exact⟨kvs,⟨o,es,ep,e.trans ho,r⟩,hl.mono k⟩
theorem Jl{I a:aB}{i:Nat}(x:H.IsListIter I a i)(k:∀b o,b≠I->H.get? b=aa o->H'.get? b=aa o):TK C H H':=λb l yy=>aC yy λp aD=>e1a3 aD λo ho hc r=>
 ⟨p,o,k b o (λq=>by refine e1a3 x λo' bN dq _=>?_;rw[<-q,ho] at bN;cases zF bN;rw[hc] at dq;injection dq with z;exact absurd z (by decide)) ho,hc,r⟩
theorem Vx{R:rX->aA->Prop}{d I a:aB}{l:List av}(E4:d≠I)(E5:d≠a)(haI:a≠I)(hh:A.handled=ao)(h₀:aL)(aaY:h₀.get? d=ao)(M_:h₀.get? I=ao):
  ∀(xs:List V) (ps es:List (V×V)) (i:Nat) (s:aA),vf xs=aa ps->hY ps=ah->s.heap.IsListIter I a i->s.heap.IsList a l.toArray->VL C s.heap xs (l.drop i)->qF C s.heap d es->es.length+ps.length<=aG->Kp h₀ s.heap->
   (∀h' tk,Kp h₀ h'->qF C h' d (kq es ps)->R (.ok (.ret .none)) {s with heap:=h',toks:=tk})->
   gG C.M A (.builtin "dict.update.loop" ⟨[.ref d,.ref I,fb i,.none],[]⟩) R s:=by
 intro xs;induction xs with
 |nil=>
  intro ps es i s hp hk fi hl z hd cU E6 hR;cases zF hp;have l9:(bH l)[i]? =ao:=by rw[gF];exact oB (uD.mp (na.mp z.len.symm))
  refine AN JW ?_;rw[AO xO _];refine ax (Po (A:=A.in1) hh fi hl l9 λh' he=>ax (aQ ?_));have mW:h'.get? d=s.heap.get? d:=by
   (refine e1a2 hd λkvs bq _=>?_;refine e3a2 bq λo _ _ ho _=>?_)
   rw[ho];exact he d o E4 ho
  exact aQ (hR h' s.toks (λb o e=>he b o (λq=>by rw[q,M_] at e;exact zA e) (E6 b o e)) (hd.mono mW (Jl fi he)))
 |cons y r ih=>
  intro ps es i s hp hk fi hl z hd cU E6 hR;refine e1a2 (rS.mp hp) λp hpx hp=>?_;refine e1a2 (iD.mp hp) λadR hpr e=>?_;rw[<-e] at hk cU hR;obtain ⟨k,v⟩:=p;have hk:=dE _ _▸(show((kk k==1)&&hY adR)=ah from hk);cases hx:l[i]? with
  |none=>rw[List.drop_eq_nil_of_le (List.getElem?_eq_none_iff.mp hx)] at z;cases z
  |some pv=>
   refine e1a1 (i8.mp hx) λhi e=>?_;rw[Pp hi,e] at z;cases z with
   |cons zx zr=>
    refine e3a4 (JD zx hpx) λt pk pw e2 ht jV hw1=>?_;refine e1a1 (Mh hk.1) λki e3=>?_;have jV:VR C s.heap k pk:=jV;rw[e3] at jV;refine e1a1 jV.ofInt λjW e4=>?_;rw[e4] at ht;rw[e2] at hx;refine AN JW ?_;rw[AO xO _];refine ax (Pq (A:=A.in1) fi hl (x:=.ref t) (by rw[gF];exact hx) λaU vV ci=>?_);have t1:TK C s.heap aU:=Jl fi λb o q e=>(ci.2 b q).trans e
    (refine aC (t1 _ _ ht) λ_ aD=>?_;refine e1a3 aD λot Na hct jU=>?_;refine e1a1 jU λnt rA=>?_)
    refine ax (dv (ax ?_));refine wpAny_tryCatch ?_;refine ax (G8 (T:="tuple") ⟨ot,Na,hct⟩ ?_);rw[if_pos (by decide)];refine ax (l_ (s:={s with heap:=aU}) Na rA (aQ ?_));dsimp only [Option.getD_some];refine e1a2 (hd.mono (ci.2 d E4) t1) λkvs e1 e2=>?_;have hsz':(bB es (.int ki) v).length+adR.length<=aG:=aI (fC (ED es (.int ki) v) _) (by rw[hZ,dB 1];exact cU);refine dv (wpAny_dictSet_pairs (s:={s with heap:=aU}) (knd:=rQ C.prog C.w) (k:=ki) (beq_self_eq_true _) e1 (λbp zH dh=>?_) (by rw[e2.length];exact fI (aI (aI (b_ _ _) cU) (by decide))));have t2:TK C aU bp:=(show DR C aU d es from .inl ⟨kvs,e1,e2⟩).tk dh;refine aQ ⟨AP xO _,?_⟩;exact ih adR (bB es (.int ki) v) (i+1) {s with heap:=bp,toks:=s.toks+1} hpr hk.2 (vV.at λo e=>(dh.2 I (eJ E4)).trans e)
     (hl.at λo e=>(dh.2 a (eJ E5)).trans ((ci.2 a haI).trans e)) ((zr.mono t1).mono t2) ⟨_,zH,(e2.put Ex (Da e1) rfl (hw1.mono t1)).mono t2⟩ hsz'
     (λb o e=>(dh.2 b (λq=>by rw[q,aaY] at e;exact zA e)).trans ((ci.2 b (λq=>by rw[q,M_] at e;exact zA e)).trans (E6 b o e))) (e3▸hR)
theorem Kt.dict{es:List (V×V)}{tk:Nat}(k:Kt C m A (VR C) h s Q Y q E)(hr:HR C h s.heap)(x:cj (.dict es) Q h)(hl:es.length<=2*aG)(kk:Kp s.heap H')(hf:s.heap.get? n=ao)(hd:DR C H' n es):q (.ref n) {s with heap:=H',toks:=tk}:=
 k.new hr x kk (λa w=>mt rfl w▸hf) ⟨hl,hd⟩
theorem U7(hh:A.handled=ao)(hr:HR C h s.heap)(p:VR C s.heap v x)(z:Bx v Q h)(k:Kt C m A (VR C) h s Q Y q E):ay C.M A (call (.type "dict") [x]) q E s:=by
 refine e1a2 (ir z p) λn e z=>?_
 (refine e3a5 (gj hr z) λxs l j ho zz hl _ aD=>?_;refine e1a4 aD λps hps cD hi z=>?_)
 have hpl:(kq [] ps).length<=2*aG:=aI (IO ps []) (by rw[wZ,nb];exact sL cD);rw[e];refine callType_codes (Q₁:=λobj aW=>obj= .ref s.heap.objs.size/\aW={s with heap:=s.heap.push {cls:=.type "dict",data:=.dict #[]}}) F.kt_called_dict (F.kt_typeCall_dict_1 _) F.entry_dict_init (kt_code_dict_new _ ⟨rfl,rfl⟩) ?_;intro obj aW eo;rw[eo.1,eo.2];have vW:({s with heap:=s.heap.push {cls:=.type "dict",data:=.dict #[]}}:aA).TypeIs (.ref s.heap.objs.size) "dict":=⟨_,cV _ rfl,rfl⟩;have bN:=cu {cls:=.type "dict",data:=.dict #[]} ho;refine⟨vW,F.args_dict_init_2 _ _,?_⟩;unfold e8.«dict.__init__»;refine ax ?_;refine ax (O4 vW ?_);show ay _ _ (pure (s.heap.objs.size,[du n])) _ _ _;refine aQ ?_;show ay _ _ (e8.Dict.updateFrom "dict.__init__" s.heap.objs.size (.ref n) [] .none) _ _ _;refine ax (G8 (T:="list") ⟨_,bN,rfl⟩ ?_);rw[if_pos (by decide)];refine ax (T0 (s:={s with heap:=s.heap.push {cls:=.type "dict",data:=.dict #[]}}) bN hh λaU Nb n_=>?_);rw[if_pos (by decide)];refine ax (oK ?_);refine ax (Pr (s:={s with heap:=aU,toks:=Nb}) (fy (n_ _ _ bN)) ?_);have cU:s.heap.objs.size<aU.objs.size:=fX (n_ _ _ (cV s.heap (o:={cls:=.type "dict",data:=.dict #[]}) rfl));have Nd:n<s.heap.objs.size:=fX ho;have up:Kp s.heap (aU.push {cls:=.type "list_iterator",data:=.fields #[.ref n,.int 0 0]}):=λb o e=>cu _ (n_ _ _ (cu _ e));refine aQ ⟨AP xO _,?_⟩;refine Vx (C:=C) (A:=A.in1) (d:=s.heap.objs.size) (I:=aU.objs.size) (a:=n) (l:=l) (fE cU) (eJ (fE Nd)) (fE (bY Nd cU)) hh s.heap (dM _)
  (oP (bP cU)) xs ps [] 0 {s with heap:=aU.push {cls:=.type "list_iterator",data:=.fields #[.ref n,.int 0 0]},toks:=Nb} hps hi ⟨_,cV _ rfl,rfl,rfl⟩ (fy (up _ _ ho)) (zz.mono (TK.of up)) ?_ (by rw[wZ,nb];exact bP cD) up λh' tk hk hd=>⟨rfl,k.dict hr z hpl hk (dM _) (.inl hd)⟩
 refine e3a2 (Ps (knd:=rQ C.prog C.w) s.heap) λo vX E7 q1 q2=>?_;exact⟨[],⟨o,vX,E7,cu _ (n_ _ _ q1),q2⟩,.nil⟩
theorem JO{p:V×V}{r:Int×Int}(e:El p=aa r):p=(.int r.1,.int r.2):=by
 obtain ⟨a,b⟩:=p;cases a with
 |int i=>cases b with
  |int j=>cases zF e;rfl
  |_=>exact zA e
 |_=>exact zA e
theorem Lv{Q:Int×Int->Prop}(z:oG (qI vs) Q)(y:VL C s.heap vs pvs):∃a b t u,Q (a,b)/\(pvs=[.int a t,.int b u]\/∃p,pvs=[.ref p]/\s.heap.IsTuple p (mc #[(a,t),(b,u)])):=by
 cases e:qI vs with
 |none=>rw[e] at z;exact z.elim
 |some r=>
  rw[e] at z;delta qI at e;cases e':pH vs with
  |some p=>rw[e'] at e;have e:=JO e;rw[B3 e',e] at y;refine e2a3 y.two λpa pb e2 h1 h2=>?_;refine e1a1 h1.ofInt λt e3=>?_;refine e1a1 h2.ofInt λu e4=>?_;exact⟨r.1,r.2,t,u,z,.inl (by rw[e2,e3,e4])⟩
  |none=>rw[e'] at e;refine e1a2 (rS.mp e) λv e1 e=>?_;refine e1a2 (rS.mp e) λp e2 e=>?_;have e:=JO e;rw[DQ e1] at y;refine e1a2 y.one λpv e5 hv=>?_;refine e3a4 (JD hv e2) λtt pa pb e6 ht h1 h2=>?_;rw[e] at h1 h2;refine e1a1 h1.ofInt λt e3=>?_;refine e1a1 h2.ofInt λu e4=>?_;rw[e3,e4] at ht;exact⟨r.1,r.2,t,u,z,.inr ⟨tt,by rw[e5,e6],by show dJ _ _ _;simpa [mc] using ht.2⟩⟩
theorem J6{o:Obj}{t:aB}(cD:t<H.objs.size):∀c∈[H.objs.size,t],c<(H.push o).objs.size:=λc hc=>by
 rw[qi];rcases a_.mp hc with e|hc
 ·exact e▸jY _
 ·rw[aZ.mp hc];exact AM cD
theorem JH{o:Obj}(hk:∀b x,b∉[H.objs.size]->(H.push o).get? b=aa x->H'.get? b=aa x):Kp H H':=λc x e=>
 hk c x (λhm=>by rw[aZ.mp hm] at e;exact absurd (fX e) (qk _)) (cu _ e)
theorem Je{c:Prop}[Decidable c]{a b:Int}{t u:Tok}:VR C H (.int (if c then b else a)) (if c then .int b u else .int a t):=by split <;> exact .int _ _
theorem W5(hh:A.handled=ao)(hr:HR C h s.heap)(y:VL C s.heap vs pvs)(z:oG (qI vs) λp=>Q (.int (n7 p.1 p.2)) h)(k:Kt C m A (VR C) h s Q Y q E):ay C.M A (call (.builtin "min") pvs) q E s:=by
 obtain ⟨a,b,t1,t2,z,e|⟨t,e,hT⟩⟩:=Lv z y <;> rw[e]
 ·exact min_two_ints hh λh' tk hk=>k.ret (s':={s with heap:=h',toks:=tk}) hr z hk ⟨rfl,rfl,rfl⟩ Je
 ·have cD:t<s.heap.objs.size:=by refine e1a2 hT λo ho _=>?_;exact fX ho
  refine call_min_walk (ab3 hT ⟨_,[_,t],[_],_,_,_,_,rfl,ab4 (A:=A.in1) hh _ t (fE cD) (mc #[(a,t1),(b,t2)]),
   ⟨⟨_,cV _ rfl,rfl,rfl⟩,hT.push _⟩,J6 cD,by simp [mc],CmpOf.ints_lt (numAt #[(a,t1),(b,t2)]) (λ_ _=>intItems_at),λv h' tk hP hk=>?_⟩)
  refine k.ret (s':={s with heap:=h',toks:=tk}) hr z (JH hk) ⟨rfl,rfl,rfl⟩ ?_;rw[show(mc #[(a,t1),(b,t2)]).size -1=1 by simp [mc]] at hP;by_cases vY:b<a <;> simp [argBest,numAt,mc,vY] at hP <;> (rw[<-hP];simp only [n7,vY];exact .int _ _)
theorem Uz(hh:A.handled=ao)(hr:HR C h s.heap)(y:VL C s.heap vs pvs)(z:oG (qI vs) λp=>Q (.int (nN p.1 p.2)) h)(k:Kt C m A (VR C) h s Q Y q E):ay C.M A (call (.builtin "max") pvs) q E s:=by
 obtain ⟨a,b,t1,t2,z,e|⟨t,e,hT⟩⟩:=Lv z y <;> rw[e]
 ·exact max_two_ints hh λh' tk hk=>k.ret (s':={s with heap:=h',toks:=tk}) hr z hk ⟨rfl,rfl,rfl⟩ Je
 ·have cD:t<s.heap.objs.size:=by refine e1a2 hT λo ho _=>?_;exact fX ho
  refine call_max_walk (ab3 hT ⟨_,[_,t],[_],_,_,_,_,rfl,ab4 (A:=A.in1) hh _ t (fE cD) (mc #[(a,t1),(b,t2)]),
   ⟨⟨_,cV _ rfl,rfl,rfl⟩,hT.push _⟩,J6 cD,by simp [mc],CmpOf.ints_gt (numAt #[(a,t1),(b,t2)]) (λ_ _=>intItems_at),λv h' tk hP hk=>?_⟩)
  refine k.ret (s':={s with heap:=h',toks:=tk}) hr z (JH hk) ⟨rfl,rfl,rfl⟩ ?_;rw[show(mc #[(a,t1),(b,t2)]).size -1=1 by simp [mc]] at hP;by_cases vY:a<b <;> simp [argBest,numAt,mc,vY] at hP <;> (rw[<-hP];simp only [nN,vY];exact .int _ _)
noncomputable def qM:List (Nat×av):=[(5,.builtin "len"),(6,.builtin "sorted"),(7,.builtin "sum"),(8,.builtin "abs"),(9,.type "tuple"),(10,.type "list"),(11,.type "dict"),(12,.builtin "min"),(13,.builtin "max")]
noncomputable def vt:Nat->Option av:=eE qM
theorem Yc(K:C.Ok)(hh:A.handled=ao)(hr:HR C h s.heap)(y:VL C s.heap vs pvs){f:Nat}{bv:av}(hb:vt f=aa bv)(z:DM f vs Q h)(k:Kt C m A (VR C) h s Q Y q E):ay C.M A (call bv pvs) q E s:=by
 have on:∀{P:V->Prop} {bv:av},oG (one vs) P->(∀v x,VR C s.heap v x->P v->ay C.M A (call bv [x]) q E s)->ay C.M A (call bv pvs) q E s:=λz f=>by refine e2a3 (Ck z y) λv x e p z=>?_;rw[e];exact f v x p z
 have st:∀{n:Nat} {v:av} {r:List (Nat×av)},eE ((n,v)::r) f=aa bv->(DM n vs Q h->ay C.M A (call v pvs) q E s)->(eE r f=aa bv->ay C.M A (call bv pvs) q E s)->ay C.M A (call bv pvs) q E s:=λhb f g=>(pF hb).elim (λe=>by rw[e.2];exact f (e.1▸z)) g;delta vt qM at hb;exact st hb (λz=>on z λv x p z=>Rg hr p z k) λhb=>st hb (λz=>on z λv x p z=>Y0 K hh hr p z k) λhb=>st hb (λz=>on z λv x p z=>Tg hh hr p z k) λhb=>st hb (λz=>on z λv x p z=>ZV hr p z k) λhb=>st hb (λz=>on z λv x p z=>aaU hr p z k) λhb=>st hb (λz=>on z λv x p z=>Ua K hh hr p z k) λhb=>st hb (λz=>on z λv x p z=>U7 hh hr p z k) λhb=>st hb (λz=>W5 hh hr y z k) λhb=>st hb (λz=>Uz hh hr y z k) λhb=>nomatch hb
end
noncomputable def vD:MK->av
 | .app=>.builtin "list.append"
 | .ext=>.builtin "list.extend"
 | .pop=>.builtin "list.pop"
 | .get=>.builtin "dict.get"
 | .setd=>.builtin "dict.setdefault"
 | .fn f=>.ref (dG f)
theorem Zi:w7 (.builtin "dict.get")=pure (.type "method_descriptor"):=by kernel_rfl
theorem ZA:w7 (.builtin "dict.setdefault")=pure (.type "method_descriptor"):=by kernel_rfl
theorem Zm:w7 (.builtin "list.pop")=pure (.type "method_descriptor"):=by kernel_rfl
theorem VD:w7 (.builtin "list.extend")=pure (.type "method_descriptor"):=by kernel_rfl
theorem aae:w7 (.builtin "list.append")=pure (.type "method_descriptor"):=by kernel_rfl
theorem sY:aE 0= "append"/\aE 1= "extend"/\aE 2= "pop"/\aE 3= "get"/\aE 4= "setdefault"/\aE 14= "__init__":=by decide+kernel
def RK(x:av)(j:Nat)(_:aL)(k:MK)(r:av×List av):Prop:=r=(vD k,[x])/\∀f,k= .fn f->∃c,iM c j=aa f
section
variable {C:aY}{m:Bool}{A:bg}{h:Hp}{H H':aL}{s:aA}{v w:V}{x:av}{n j:Nat}{Q:PV}{Y:Hp->Prop}{q:av->aA->Prop}{E:av->aA->Prop}{vs xs:List V}{pvs l:List av}
theorem Kj{k:MK}{G:Prop}(h:tW j=aa k)(a:j=0->k= .app->G)(b:j=1->k= .ext->G)(c:j=2->k= .pop->G):G:=
 (pF h).elim (λe=>a e.1 e.2) λh=>(pF h).elim (λe=>b e.1 e.2) λh=>(pF h).elim (λe=>c e.1 e.2) λh=>nomatch h
theorem MT{k:MK}{G:Prop}(h:xB j=aa k)(a:j=3->k= .get->G)(b:j=4->k= .setd->G):G:=
 (pF h).elim (λe=>a e.1 e.2) λh=>(pF h).elim (λe=>b e.1 e.2) λh=>nomatch h
theorem Uw(K:C.Ok)(hr:HR C h s.heap)(p:VR C s.heap v x){P:MK->Hp->Prop}{g:av×List av->aA->Prop}(z:gh v j P h)(k:Kt C m A (RK x j) h s P Y g E){pl:Sem Bool}:ay C.M A (Pu x (aE j) pl) g E s:=by
 obtain ⟨n,e,⟨c,fs,f,eg,hi,hf,z⟩|z|z⟩:=ir z p
 ·refine iX (K.aeg c j f hf) λk1 k2 k3 k4 _=>?_;refine e3a8 (CY hr eg) λd M od _ _ ho _ _ hn n9 I=>?_;have aaZ:M (aE j)=ao:=by
   cases w:M (aE j) with
   |none=>rfl
   |some v=>refine e1a3 (n9.bw (aE j) (by rw[w];rfl)) λg q1 q2 q3=>?_;rw[nM k1 q2 q1] at hi;rw[ab5.mp hi] at q3;exact zC q3
  have r:RK x j s.heap (.fn f) (.ref (dG f),[x]):=⟨rfl,λg e=>by cases e;exact⟨c,hf⟩⟩;rw[e] at r ⊢;exact method_fn (K.ady.keeps hr.keep) I (Pi k2).1 (Pi k2).2 k3 k4 (by show oM _ (lookIn (aE j) od)=_;rw[MN hn ho,aaZ];rfl) (k.same hr z (e▸r))
 ·(refine e3a5 (gj hr z) λxs l i ho zz hl _ aD=>?_;refine e1a2 aD λkk hk z=>?_)
  have nd:s.heap.NoDictAt (.ref n):=⟨_,ho,rfl⟩;have r:RK x j s.heap kk (vD kk,[x]):=⟨rfl,λf e=>by rw[e] at hk;exact Kj hk (λ_ q=>nomatch q) (λ_ q=>nomatch q) λ_ q=>nomatch q⟩
  have r':=k.same hr z r;clear r;rw[e] at r' ⊢;refine Kj hk (λe1 e2=>?_) (λe1 e2=>?_) λe1 e2=>?_ <;> rw[e2] at r' <;> rw[e1]
  ·rw[sY.1];exact Pw PySem.F.slot_list_append aae (fy ho) nd r'
  ·rw[sY.2.1];exact Pw ab6 VD (fy ho) nd r'
  ·rw[sY.2.2.1];exact Pw ab7 Zm (fy ho) nd r'
 ·(refine e1a4 (n5 hr z) λes hd _ _ aD=>?_;refine e1a2 aD λkk hk z=>?_)
  refine e3a4 hd.there λod jx ep h1 h2 h3 _=>?_;have nd:∀a,du n= .ref a->∃o,s.heap.get? a=aa o/\o.dict=ao:=λa e=>by cases e;exact⟨od,h1,h2.2.1⟩
  have r:RK x j s.heap kk (vD kk,[x]):=⟨rfl,λf e=>by rw[e] at hk;exact MT hk (λ_ q=>nomatch q) λ_ q=>nomatch q⟩
  have r':=k.same hr z r;clear r;rw[e] at r' ⊢;refine MT hk (λe1 e2=>?_) λe1 e2=>?_ <;> rw[e2] at r' <;> rw[e1]
  ·rw[sY.2.2.2.1];exact ab8 (hd.ty rfl) ab9 AE Zi nd r'
  ·rw[sY.2.2.2.2.1];exact ab8 (hd.ty rfl) ab9 abL ZA nd r'
theorem aay(hr:HR C h s.heap)(p:VR C s.heap v x)(z:iK n v Q h)(k:Kt C m A (VR C) h s Q Y q E):ay C.M A (call (.builtin "list.append") [.ref n,x]) q E s:=by
 (refine e3a5 (gj hr z) λxs l i ho zz hl eg aD=>?_;refine aC aD λcD z=>?_)
 refine aca ⟨i,ho⟩ (λh' eZ c7=>?_) (fI (show l.length<=_ from zz.len▸hl));refine e1a1 eZ λk' bN=>?_;exact k.set (tk:=s.toks) (o':=.list (xs++[v])) (a:=.none) hr eg rfl (.inl rfl) c7 z (λt=>⟨by rw[aT];exact Ds cD,l++[x],k',by rw[bN,Px],(zz.snoc p).mono t⟩) λ_=>.none
theorem X8(hr:HR C h s.heap)(p:VR C s.heap v x)(z:qT n v Q h)(k:Kt C m A (VR C) h s Q Y q E):ay C.M A (call (.builtin "list.extend") [.ref n,x]) q E s:=by
 refine e1a2 (ir z p) λj e z=>?_;refine e3a5 (gj hr z) λxs l i ho zz hl eg z=>?_
 (refine e3a5 (gj hr z) λys l' i' bN l6 _ _ aD=>?_;refine be aD λh1 h2 z=>?_)
 have gr:(xs++ys).length<=2*aG:=by rw[aT,Pd];exact dF (bP h1) (bP h2)
 have E8:l.toArray.size+l'.toArray.size<=jH:=by rw[oR,oR,<-zz.len,<-l6.len,<-aT];exact fI gr
 rw[e];refine Pm ab6 ⟨_,ho,rfl⟩ PySem.F.entry_list_extend (PySem.F.args_list_extend_2 _ _) (AutoSeq1.list_extend_list_list_0 _ _ i _ _ i' (extend_door E8) (aI (b_ _ _) E8) (iH E8)) ⟨ho,bN,?_⟩;have kQ:=get?_update_seq ho (λx=>x++l'.toArray);exact k.set (tk:=s.toks) (o':=.list (xs++ys)) (a:=.none) hr eg rfl (.inl rfl) (j6 ..) z (λt=>⟨gr,l++l',_,by rw[kQ,CA],(zz.append l6).mono t⟩) λ_=>.none
theorem WR(hr:HR C h s.heap)(z:tB n Q h)(k:Kt C m A (VR C) h s Q Y q E):ay C.M A (call (.builtin "list.pop") [.ref n]) q E s:=by
 (refine e3a5 (gj hr z) λxs l i ho zz hl eg aD=>?_;refine e2a2 aD λys v ex z=>?_)
 have rF:l.length=ys.length+1:=by rw[<-zz.len,ex,aT];rfl
 have hv:xs[l.length-1]? =aa v:=by rw[ex,rF];show(ys++[v])[ys.length]? =_;simp
 refine e1a2 (zz.get hv) λy hy hvy=>?_;have cU:l.length<=jH:=fI (zz.len▸hl);refine Pm ab7 ⟨_,ho,rfl⟩ PySem.F.entry_list_pop (PySem.F.args_list_pop_1 _) (MeetsSeq.list_pop_last _ _ i y (by rw[gF];exact hy) cU) ⟨ho,?_⟩;have kQ:=get?_update_seq ho (λxs=>xs.eraseIdxIfInBounds (l.toArray.size-1));have el:(l.toArray.eraseIdxIfInBounds (l.toArray.size-1))=(l.take ys.length).toArray:=by rw[abI,List.eraseIdx_eq_dropLast (by rw[oR,rF];rfl),List.dropLast_eq_take,rF];rfl
 have ey:ys=xs.take ys.length:=by rw[ex,List.take_left]
 refine k.set (tk:=s.toks) (o':=.list ys) (a:=v) hr eg rfl (.inl rfl) (j6 ..) z (λt=>⟨aI (w8 (jD rF.symm)) (zz.len▸hl),l.take ys.length,_,by rw[kQ,el],?_⟩) λt=>hvy.mono t;rw[ey,<-ey];exact(show VL C s.heap ys _ from ey▸(ey▸zz.take ys.length)).mono t
theorem aac(K:C.Ok)(hr:HR C h s.heap)(u:Un A)(y:VL C s.heap vs pvs)(z:ru n vs Q h)(k:Kt C m A (VR C) h s Q Y q E):ay C.M A (call (.builtin "dict.get") (.ref n::pvs)) q E s:=by
 refine e1a4 (n5 hr z) λes hd _ eg z=>?_;cases e:one vs with
 |some a=>rw[e] at z;rw[DQ e] at y;refine e1a2 y.one λpv e2 r=>?_;rw[e2];exact RX hd z.1 r u (sR K hr eg) λpv tk r=>k.tok hr z.2 r
 |none=>rw[e] at z;refine e4a5 (Ma (Q:=λp=>b7 p.1 es=ah/\Q ((bC es p.1).getD p.2) h) z y) λa d pa pd e2 r r' hk z=>?_;rw[e2];exact TY hd hk r u (sR K hr eg) r' λpv tk r=>k.tok hr z r
theorem ZK(K:C.Ok)(hr:HR C h s.heap)(u:Un A)(y:VL C s.heap vs pvs)(z:Dr n vs Q h)(k:Kt C m A (VR C) h s Q Y q E):ay C.M A (call (.builtin "dict.setdefault") (.ref n::pvs)) q E s:=by
 refine e4a4 (Ma z y) λa d pa pd e2 r r' z=>?_;refine e1a7 (n5 hr z) λes hd _ eg hT hk hl z=>?_;rw[e2];refine aaz hd hk hT r u (sR K hr eg) r' hl (λw pv tk e r=>?_) λe h' tk d8 hs=>?_
 ·have z:oE (bC es a) (λw=>Q w h) _:=z;rw[e] at z;exact k.tok hr z r
 ·have z:oE (bC es a) (λw=>Q w h) (nU n (.dict (es++[(a,d)])) (Q d) h):=z;rw[e] at z;exact k.set (o':=.dict (es++[(a,d)])) (a:=d) hr eg rfl (.inl rfl) hs z (λ_=>⟨by rw[aT];exact Ds hl,d8⟩) λt=>r'.mono t
theorem RW{I:TI}(K:C.Ok)(hr:HR C h s.heap)(u:Un A)(p:VR C s.heap v x)(ew:w.items=aa vs)(y:VL C s.heap vs pvs){mk:MK}(z:zc I Y mk v Q w h)(k:Kt C m A (VR C) h s Q Y q E)
  (hf:∀f,mk= .fn f->I f (v::vs) Q Y h->ay C.M A (call (.ref (dG f)) (x::pvs)) q E s):ay C.M A (call (vD mk) ([x]++pvs)) q E s:=by
 have z:oG w.items _:=z;rw[ew] at z;cases mk with
 |fn f=>exact hf f rfl z
 |app=>refine e1a2 (ir z p) λn e z=>?_;refine e2a3 (Ck z y) λa pa e2 r z=>?_;rw[e,e2];exact aay hr r z k
 |ext=>refine e1a2 (ir z p) λn e z=>?_;refine e2a3 (Ck z y) λa pa e2 r z=>?_;rw[e,e2];exact X8 hr r z k
 |pop=>
  refine e1a2 (ir z p) λn e z=>?_;cases y with
  |nil=>rw[e];exact WR hr z k
  |cons _ _=>exact z.elim
 |get=>refine e1a2 (ir z p) λn e z=>?_;rw[e];exact aac K hr u y z k
 |setd=>refine e1a2 (ir z p) λn e z=>?_;rw[e];exact ZK K hr u y z k
end
noncomputable def YW:List (Nat×Nat):=[(186,1),(190,1),(191,2),(210,3),(211,2),(212,3),(213,2),(220,2),(223,2),(229,7),(232,3),(237,4),(238,2),(239,3),(244,8),(245,3),(247,9),(252,9),(255,10),(1001,2),(1002,1),(1003,1),(1004,1),(1005,1),(1006,1),(1007,1),(1008,1),(1009,1),(1011,1),(1012,1),(1014,2),(1015,1),(1016,2),(1017,2),(1018,1),(1019,2),(1020,4),(1021,3),(1022,1),(1023,1),(1024,2),(1025,2),(1026,3),(1027,2),(1028,3),(1029,2),(1030,4),(1031,5),(1032,5),(1033,6),(1034,1),(1035,1),(1036,1),(1039,1),(1040,2),(1041,6),(1042,4),(1043,2),(1044,3),(1045,7),(1046,5),(1047,4),(1048,1),(1049,1),(1050,3),(1051,1),(1053,2),(1054,1),(1055,1),(1056,2),(1061,1),(1063,1),(1064,6),(1065,2),(1067,1)]
noncomputable def tX(f:Nat):Nat:=(eE YW f).getD 0
abbrev dp:=List (Str×rY)
noncomputable def pK(ns:dp)(n:Str)(l:List rY):Bool:=(ns.lookup n).any l.contains
noncomputable def tP(ns:dp)(n:Str):Bool:=ns.lookup n==aa .local
noncomputable def mO(ns:dp)(n:Str):Bool:=ns.lookup n==aa .globalImplicit
noncomputable def dg:aN->List aN
 | .BoolOp _ l _=>l
 | .BinOp a _ b _=>[a,b]
 | .UnaryOp _ a _=>[a]
 | .IfExp c a b _=>[c,a,b]
 | .Dict ks vs _=>ks.filterMap id++vs
 | .ListComp e gs _ _=>e::gs.flatMap λg=>g.target::g.iter::g.ifs
 | .Compare a _ bs _=>a::bs
 | .Call f as _ _=>f::as
 | .FormattedValue v _ _ _=>[v]
 | .JoinedStr l _=>l
 | .Attribute o _ _=>[o]
 | .Subscript o i _=>[o,i]
 | .List l _=>l
 | .Tuple l _ _=>l
 | .Slice a b c _=>a.toList++b.toList++c.toList
 |_=>[]
noncomputable def fz{α:Type}[Inhabited α](l:List α):α:=l.headD default
noncomputable def aJ(e:aN)(i:Nat):aN:=fz ((dg e).drop i)
noncomputable def kh:aN->Nat
 | .Constant _ k _=>k
 | .Tuple _ k _=>k
 |_=>0
noncomputable def qJ:aN->qm
 | .ListComp _ _ s _=>s
 |_=>default
noncomputable def yN:aN->Str
 | .Constant (.str s) _ _=>s
 |_=>⟨#[]⟩
noncomputable def CG:aN->List aN
 | .BoolOp _ l _=>l
 |_=>[]
noncomputable def Cz:aN->Bool
 | .Set ..=>au
 |_=>ah
noncomputable def tj:aN->Bool
 | .Name ..=>ah
 | .Attribute ..=>ah
 | .Subscript ..=>ah
 |_=>au
noncomputable def s8:aN->Bool
 | .Slice ..=>au
 |_=>ah
noncomputable def cB:aN->Bool
 | .Starred ..=>au
 |_=>ah
noncomputable def qH:aN->Bool
 | .ListComp ..=>au
 | .SetComp ..=>au
 | .DictComp ..=>au
 |_=>ah
noncomputable def fo:List Nat->List aN->List aN
 |[],_=>[]
 |x::xs,l=>.Name (aE x) (fz l).pos::fo xs l.tail
noncomputable def mu(tup:Bool)(ts:List Nat)(t:aN):aN:=match tup with
 |true=>.Tuple (fo ts (dg t)) (kh t) t.pos
 |false=>.Name (aE (ts.headD 0)) t.pos
noncomputable def gM(x:Nat):Bool:=As x eN
noncomputable def pE(ok:Str->Bool)(tup:Bool)(ts:List Nat):Bool:=match tup with
 |true=>decide ts.Nodup&&ts.all λx=>gM x&&ok (aE x)
 |false=>match ts with
  |[x]=>gM x&&ok (aE x)
  |_=>au
noncomputable def JE(ns:dp)(sc:qm)(ts:List Nat):Bool:=
 sc.kind== .function &&sc.names.all λy=>y.2 != .cell &&((y.2 != .local ||(tP sc.names y.1&&(y.1== ".0" ||ts.any λt=>gM t&&aE t==y.1)))&&(y.2 != .free ||pK ns y.1 [.cell,.free]))
noncomputable def nP(v:V)(pe:aN):aN:=match v with
 | .int i=>if 0<=i then .Constant (.int i) (kh pe) pe.pos else .UnaryOp .USub (.Constant (.int (-i)) (kh (aJ pe 0)) (aJ pe 0).pos) pe.pos
 | .bool b=>.Constant (.bool b) (kh pe) pe.pos
 | .str n=>.Constant (.str (aE n)) (kh pe) pe.pos
 |_=>.Constant .none (kh pe) pe.pos
noncomputable def MV:V->Bool
 | .int _=>ah
 | .bool _=>ah
 | .none=>ah
 | .str n=>gM n
 |_=>au
noncomputable def D6:V->Bool
 | .adt=>ah
 |_=>au
noncomputable def EE:U->Bool
 | .D=>ah
 | .K=>ah
 |_=>au
noncomputable def vC:B->Bool
 | .k=>ah
 |_=>au
noncomputable def nR(f:aN)(s:Str)(l:List aN)(pe:aN):aN:=.Call (.Name s f.pos) l [] pe.pos
structure GE where
 v:aN->aN
 es:List aN->List aN
 ks:List aN->List (Option aN)
 ad3:List aN->List (Option aN)
 vs:List aN->List aN
 aeb:List aN->List aN
noncomputable def GE.of(v:aN->aN):GE:=⟨v,λ_=>[],λ_=>[],λ_=>[],λ_=>[],λ_=>[]⟩
noncomputable def vBo:V->Option Bool
 | .bool b=>aa b
 |_=>ao
noncomputable def lB:E->Option Bool
 | .l v=>vBo v
 |_=>ao
noncomputable def tO(e:E):Bool:=(lB e).getD au
noncomputable def BQ:E->Bool
 | .A _ _=>ah
 |_=>au
noncomputable def Er:E->Bool
 | .O _ _=>ah
 |_=>au
noncomputable def gU(op:U)(a:GE)(pe:aN):aN:=match op with
 | .a f=>.Attribute (a.v (aJ pe 0)) (aE f) pe.pos
 | .r=>.Subscript (a.v (aJ pe 0)) (.Slice ao ao (aa (.UnaryOp .USub (.Constant (.int 1) (kh (aJ (aJ (aJ pe 1) 0) 0)) (aJ (aJ (aJ pe 1) 0) 0).pos) (aJ (aJ pe 1) 0).pos)) (aJ pe 1).pos) pe.pos
 | .n=>.UnaryOp .Not (a.v (aJ pe 0)) pe.pos
 | .L=>.List (a.es (dg pe)) pe.pos
 | .T=>.Tuple (a.es (dg pe)) (kh pe) pe.pos
 | .D=>.Dict (a.ks (dg pe)) (a.vs ((dg pe).drop ((dg pe).length / 2))) pe.pos
 | .K=>.Dict (a.ks (dg pe)) (a.vs ((dg pe).drop ((dg pe).length / 2))) pe.pos
 | .c f=>nR (aJ pe 0) (aE f) (a.es (dg pe).tail) pe
 | .B f=>nR (aJ pe 0) (aE f) (a.es (dg pe).tail) pe
 | .N c=>nR (aJ pe 0) (aE c) (a.es (dg pe).tail) pe
 |_=>pe
noncomputable def gB(op:B)(a b:GE)(pe:aN):aN:=match op with
 | .i=>.Subscript (a.v (aJ pe 0)) (b.v (aJ pe 1)) pe.pos
 | .s=>.Subscript (a.v (aJ pe 0)) (.Slice ao (aa (b.v (aJ (aJ pe 1) 0))) ao (aJ pe 1).pos) pe.pos
 | .f=>.Subscript (a.v (aJ pe 0)) (.Slice (aa (b.v (aJ (aJ pe 1) 0))) ao ao (aJ pe 1).pos) pe.pos
 | .z=>nR (aJ pe 0) "list" [nR (aJ (aJ pe 1) 0) "zip" [a.v (aJ (aJ pe 1) 1),b.v (aJ (aJ pe 1) 2)] (aJ pe 1)] pe
 | .k=>pe
 | .a op=>.BinOp (a.v (aJ pe 0)) (CT op) (b.v (aJ pe 1)) pe.pos
 | .c op=>.Compare (a.v (aJ pe 0)) [qR op] [b.v (aJ pe 1)] pe.pos
noncomputable def yH(op:uF)(a b:GE)(pe:aN):aN:=.BoolOp op (a.v (aJ pe 0)::match dU (dg pe).length 2 with
 |true=>[b.v (aJ pe 1)]
 |false=>CG (b.v (.BoolOp op (dg pe).tail pe.pos))) pe.pos
noncomputable def gE:E->GE
 | .l v=>.of (nP v)
 | .v x=>.of λpe=>.Name (aE x) pe.pos
 | .g x=>.of λpe=>.Name (aE x) pe.pos
 | .u op a=>.of (gU op (gE a))
 | .b op a b=>⟨gB op (gE a) (gE b),λl=>(gE a).v (fz l)::(gE b).es l.tail,λl=>aa ((gE a).v (fz l))::(gE b).ad3 l.tail,λl=>(gE b).ks l,λl=>(gE b).aeb l,λl=>(gE a).v (fz l)::(gE b).vs l.tail⟩
 | .A a b=>.of (yH .And (gE a) (gE b))
 | .O a b=>.of (yH .Or (gE a) (gE b))
 | .t c a b=>.of λpe=>.IfExp ((gE c).v (aJ pe 0)) ((gE a).v (aJ pe 1)) ((gE b).v (aJ pe 2)) pe.pos
 | .C elt tup ts it cond=>.of λpe=>.ListComp ((gE elt).v (aJ pe 0)) [⟨mu tup ts (aJ pe 1),(gE it).v (aJ pe 2),(match tO cond with|true=>[]|false=>[(gE cond).v (aJ pe 3)]),0⟩] (qJ pe) pe.pos
 | .m o m es=>.of λpe=>.Call (.Attribute ((gE o).v (aJ (aJ pe 0) 0)) (aE m) (aJ pe 0).pos) ((gE es).es (dg pe).tail) [] pe.pos
structure OE where
 v:dp->aN->Bool
 es:dp->List aN->Bool
 ps:dp->List aN->List aN->Bool
 adR:dp->List aN->List aN->Bool
noncomputable def OE.of(v:dp->aN->Bool):OE:=⟨v,λ_ _=>au,λ_ _ _=>au,λ_ _ _=>au⟩
noncomputable def nH(d:Nat)(m:Bool)(f:Nat):Bool:=As (tX f) d&&(m||(!dU f 229&& !dU f 255))
noncomputable def sG(d j:Nat):Bool:=xD.all λe=>!dU e.2.1 j||nH d au e.2.2
noncomputable def BY(ns:dp)(f:Nat)(a:GE)(o:OE)(pe:aN):Bool:=mO ns (aE f)&&((a.es (dg pe).tail).all cB&&o.es ns (dg pe).tail)
noncomputable def Ef(f:Nat):Bool:=(vt f).isSome
noncomputable def oU(d:Nat)(m:Bool)(op:U)(a:GE)(o:OE)(ns:dp)(pe:aN):Bool:=match op with
 | .a _=>tj (a.v (aJ pe 0))&&o.v ns (aJ pe 0)
 | .r=>o.v ns (aJ pe 0)
 | .n=>o.v ns (aJ pe 0)
 | .L=>o.es ns (dg pe)
 | .T=>o.es ns (dg pe)
 | .D=>uu (a.ks (dg pe)).length 15&&o.ps ns (dg pe) ((dg pe).drop ((dg pe).length / 2))
 | .K=>uu (a.ks (dg pe)).length 15&&o.ps ns (dg pe) ((dg pe).drop ((dg pe).length / 2))
 | .c f=>(gM f&&((eE tV f).isSome &&nH d m f))&&BY ns f a o pe
 | .B f=>Ef f&&BY ns f a o pe
 | .N c=>((lA.any λe=>dU e.1 c)&&(gM c&&(!dU c 81&&sG d 14)))&&BY ns c a o pe
 |_=>au
noncomputable def KJ(op:B)(a b:GE)(o p:OE)(ns:dp)(pe:aN):Bool:=match op with
 | .i=>s8 (b.v (aJ pe 1))&&(o.v ns (aJ pe 0)&&p.v ns (aJ pe 1))
 | .s=>o.v ns (aJ pe 0)&&p.v ns (aJ (aJ pe 1) 0)
 | .f=>o.v ns (aJ pe 0)&&p.v ns (aJ (aJ pe 1) 0)
 | .z=>mO ns "list" &&(mO ns "zip" &&(cB (a.v (aJ (aJ pe 1) 1))&&(cB (b.v (aJ (aJ pe 1) 2))&&(o.v ns (aJ (aJ pe 1) 1)&&p.v ns (aJ (aJ pe 1) 2)))))
 | .k=>au
 | .a _=>o.v ns (aJ pe 0)&&p.v ns (aJ pe 1)
 | .c op=>!Py (qR op) (b.v (aJ pe 1))&&(o.v ns (aJ pe 0)&&p.v ns (aJ pe 1))
noncomputable def yR(op:uF)(c:Bool)(o p:OE)(ns:dp)(pe:aN):Bool:=o.v ns (aJ pe 0)&&match dU (dg pe).length 2 with
 |true=>p.v ns (aJ pe 1)
 |false=>c&&p.v ns (.BoolOp op (dg pe).tail pe.pos)
noncomputable def bD(d:Nat):E->Bool->OE
 | .l v,_=>⟨λ_ _=>MV v,λ_ _=>D6 v,λ_ _ _=>D6 v,λ_ _ _=>au⟩
 | .v x,_=>.of λns _=>gM x&&pK ns (aE x) [.local,.cell,.free]
 | .g x,_=>.of λns _=>mO ns (aE x)
 | .u op a,m=>.of (oU d m op (gE a) (bD d a (m&& !EE op)))
 | .b op a b,m=>⟨KJ op (gE a) (gE b) (bD d a m) (bD d b m),λns l=>vC op&&(cB ((gE a).v (fz l))&&((bD d a m).v ns (fz l)&&(bD d b m).es ns l.tail)),λns l l'=>vC op&&((bD d a m).v ns (fz l)&&(bD d b m).adR ns l.tail l'),λns l l'=>vC op&&((bD d a m).v ns (fz l')&&(bD d b m).ps ns l l'.tail)⟩
 | .A a b,m=>.of (yR .And (BQ b) (bD d a m) (bD d b m))
 | .O a b,m=>.of (yR .Or (Er b) (bD d a m) (bD d b m))
 | .t c a b,m=>.of λns pe=>(bD d c m).v ns (aJ pe 0)&&((bD d a m).v ns (aJ pe 1)&&(bD d b m).v ns (aJ pe 2))
 | .C elt tup ts it cond,m=>.of λns pe=>Cz ((gE it).v (aJ pe 2))&&(JE ns (qJ pe) ts&&(pE (tP (qJ pe).names) tup ts&&((bD d it m).v ns (aJ pe 2)&&((bD d elt au).v (qJ pe).names (aJ pe 0)&&(match tO cond with|true=>ah|false=>(bD d cond au).v (qJ pe).names (aJ pe 3))))))
 | .m o j es,m=>.of λns pe=>tj ((gE o).v (aJ (aJ pe 0) 0))&&(((gE es).es (dg pe).tail).all cB&&(As ((gE es).es (dg pe).tail).length 29&&(((aJ pe 0).pos.endLine ==pe.pos.line)&&(sG d j&&((bD d o m).v ns (aJ (aJ pe 0) 0)&&(bD d es m).es ns (dg pe).tail)))))
noncomputable def Cx(it:E)(pe:aN):aN:=match it with
 | .u .R a=>nR (aJ pe 0) "range" [(gE a).v (aJ pe 1)] pe
 | .b .z a b=>nR (aJ pe 0) "zip" [(gE a).v (aJ pe 1),(gE b).v (aJ pe 2)] pe
 | .u .V a=>nR (aJ pe 0) "reversed" [(gE a).v (aJ pe 1)] pe
 |it=>(gE it).v pe
noncomputable def HX(d:Nat)(m:Bool)(it:E)(tup:Bool)(ns:dp)(pe:aN):Bool:=match it with
 | .u .R a=>mO ns "range" &&(cB ((gE a).v (aJ pe 1))&&(bD d a m).v ns (aJ pe 1))
 | .b .z a b=>tup&&(mO ns "zip" &&(cB ((gE a).v (aJ pe 1))&&(cB ((gE b).v (aJ pe 2))&&((bD d a m).v ns (aJ pe 1)&&(bD d b m).v ns (aJ pe 2)))))
 | .u .V a=>mO ns "reversed" &&(cB ((gE a).v (aJ pe 1))&&(bD d a m).v ns (aJ pe 1))
 |it=>(bD d it m).v ns pe
noncomputable def yP(pe:aN):Bool:=match pe with
 | .Tuple vs _ _=>!(vs.all (constantsAlone 8))||vs.all (foldedForSure 8)
 |_=>ah
noncomputable def sx:bL->List aN
 | .Assign l e _=>l++[e]
 | .Delete l _=>l
 | .Expr e _=>[e]
 | .If c _ _ _=>[c]
 | .For t e _ _ _=>[t,e]
 | .While c _ _ _=>[c]
 | .Return (aa e) _=>[e]
 | .Raise (aa e) _ _=>[e]
 |_=>[]
noncomputable def fM:bL->Pos
 | .Assign _ _ p=>p
 | .Delete _ p=>p
 | .Expr _ p=>p
 | .If _ _ _ p=>p
 | .For _ _ _ _ p=>p
 | .While _ _ _ p=>p
 | .Return _ p=>p
 | .Raise _ _ p=>p
 | .Continue p=>p
 | .Try _ _ _ _ p=>p
 |_=>default
noncomputable def jv:bL->List bL
 | .If _ b _ _=>b
 | .For _ _ b _ _=>b
 | .While _ b _ _=>b
 | .FunctionDef _ _ b _ _ _ _ _ _ _=>b
 | .ClassDef _ _ _ b _ _ _ _ _ _ _=>b
 | .Try b _ _ _ _=>b
 |_=>[]
noncomputable def Dx:bL->List bL
 | .If _ _ b _=>b
 | .Try _ [.ExceptHandler _ _ b _] _ _ _=>b
 |_=>[]
noncomputable def YZ:bL->aN
 | .Try _ [.ExceptHandler (aa e) _ _ _] _ _ _=>e
 |_=>default
noncomputable def R_:bL->Pos
 | .Try _ [.ExceptHandler _ _ _ p] _ _ _=>p
 |_=>default
noncomputable def sk(st:bL)(i:Nat):aN:=fz ((sx st).drop i)
noncomputable def eA:E->E
 | .b _ a _=>a
 |e=>e
noncomputable def eB:E->E
 | .b _ _ b=>b
 |e=>e
noncomputable def vx:E->Bool
 | .b op _ _=>vC op
 |_=>au
noncomputable def By:E->Bool
 | .l v=>v.adz
 |_=>au
noncomputable def isNs:S->Bool
 | .n=>ah
 |_=>au
noncomputable def Q5:SO->Bool
 | .r=>ah
 |_=>au
noncomputable def eRo:S->Option Bool
 | .e op e=>bif Q5 op then lB e else ao
 |_=>ao
noncomputable def KB:S->Option Bool
 | .q a r=>bif isNs r then eRo a else ao
 |_=>ao
noncomputable def pI(s:S):Bool:=(KB s).getD au
noncomputable def B4(s:S):Bool:=(KB s).isSome
noncomputable def yd(b:Bool)(st:bL):bL:=.Return (aa (.Constant (.bool b) (kh (sk st 0)) (sk st 0).pos)) (fM st)
structure GS where
 s:List bL->List bL
 o:bL->bL
noncomputable def gO(op:SO)(e:E)(st:bL):bL:=match op with
 | .s tup xs=>.Assign [mu tup xs (sk st 0)] ((gE e).v (sk st 1)) (fM st)
 | .a f=>.Assign [.Attribute ((gE (eB e)).v (aJ (sk st 0) 0)) (aE f) (sk st 0).pos] ((gE (eA e)).v (sk st 1)) (fM st)
 | .i=>.Assign [.Subscript ((gE (eA (eB e))).v (aJ (sk st 0) 0)) ((gE (eB (eB e))).v (aJ (sk st 0) 1)) (sk st 0).pos] ((gE (eA e)).v (sk st 1)) (fM st)
 | .d=>.Delete [.Subscript ((gE (eA e)).v (aJ (sk st 0) 0)) ((gE (eB e)).v (aJ (sk st 0) 1)) (sk st 0).pos] (fM st)
 | .x=>.Expr ((gE e).v (sk st 0)) (fM st)
 | .r=>.Return (match (sx st).isEmpty with|true=>ao|false=>aa ((gE e).v (sk st 0))) (fM st)
noncomputable def gR(c x:Nat)(st:bL):bL:=
 .Raise (aa (nR (aJ (sk st 0) 0) (aE c) [.JoinedStr [.Constant (.str (yN (aJ (aJ (sk st 0) 1) 0))) (kh (aJ (aJ (sk st 0) 1) 0)) (aJ (aJ (sk st 0) 1) 0).pos,.FormattedValue (.Name (aE x) (aJ (aJ (aJ (sk st 0) 1) 1) 0).pos) (-1) ao (aJ (aJ (sk st 0) 1) 1).pos,.Constant (.str (yN (aJ (aJ (sk st 0) 1) 2))) (kh (aJ (aJ (sk st 0) 1) 2)) (aJ (aJ (sk st 0) 1) 2).pos] (aJ (sk st 0) 1).pos] (sk st 0))) ao (fM st)
noncomputable def gS:S->GS
 | .n=>⟨λ_=>[],id⟩
 | .q b r=>⟨λl=>(gS b).o (fz l)::(gS r).s l.tail,id⟩
 | .e op e=>⟨id,gO op e⟩
 | .i c a b=>⟨id,λst=>.If ((gE c).v (sk st 0)) ((gS a).s (jv st)) ((gS b).s (Dx st)) (fM st)⟩
 | .f tup ts it b=>⟨id,λst=>.For (mu tup ts (sk st 0)) (Cx it (sk st 1)) ((gS b).s (jv st)) [] (fM st)⟩
 | .w c b=>⟨id,λst=>.While ((gE c).v (sk st 0)) ((gS b).s (jv st)) [] (fM st)⟩
 | .c=>⟨id,λst=>.Continue (fM st)⟩
 | .R c x=>⟨id,gR c x⟩
 | .y e a c hd=>⟨id,λst=>.Try [.Expr ((gE e).v (sk (fz (jv st)) 0)) (fM (fz (jv st))),yd (pI a) (fz (jv st).tail)] [.ExceptHandler (aa (.Name (aE c) (YZ st).pos)) ao [yd (pI hd) (fz (Dx st))] (R_ st)] [] [] (fM st)⟩
 | .bad=>⟨id,id⟩
structure OS where
 s:dp->List bL->Bool
 o:dp->bL->Bool
noncomputable def vI(ns:dp)(n:Str):Bool:=pK ns n [.local,.cell]
noncomputable def LJ(d:Nat)(m:Bool)(op:SO)(e:E)(ns:dp)(st:bL):Bool:=match op with
 | .s tup xs=>pE (vI ns) tup xs&&((!tup||yP ((gE e).v (sk st 1)))&&(bD d e m).v ns (sk st 1))
 | .a _=>vx e&&((bD d (eA e) m).v ns (sk st 1)&&(bD d (eB e) m).v ns (aJ (sk st 0) 0))
 | .i=>vx e&&(vx (eB e)&&(s8 ((gE (eB (eB e))).v (aJ (sk st 0) 1))&&((bD d (eA e) m).v ns (sk st 1)&&((bD d (eA (eB e)) m).v ns (aJ (sk st 0) 0)&&(bD d (eB (eB e)) m).v ns (aJ (sk st 0) 1)))))
 | .d=>vx e&&((bD d (eA e) m).v ns (aJ (sk st 0) 0)&&(bD d (eB e) m).v ns (aJ (sk st 0) 1))
 | .x=>qH ((gE e).v (sk st 0))&&(bD d e m).v ns (sk st 0)
 | .r=>match (sx st).isEmpty with
  |true=>By e
  |false=>(bD d e m).v ns (sk st 0)
noncomputable def jQ(d:Nat):S->Bool->OS
 | .bad,_=>⟨λ_ _=>ah,λ_ _=>ah⟩
 | .n,_=>⟨λ_ _=>ah,λ_ _=>au⟩
 | .q b r,m=>⟨λns l=>(jQ d b m).o ns (fz l)&&(jQ d r m).s ns l.tail,λ_ _=>au⟩
 | .e op e,m=>⟨λ_ _=>au,LJ d m op e⟩
 | .i c a b,m=>⟨λ_ _=>au,λns st=>(bD d c m).v ns (sk st 0)&&((jQ d a m).s ns (jv st)&&(jQ d b m).s ns (Dx st))⟩
 | .f tup ts it b,m=>⟨λ_ _=>au,λns st=>Cz (Cx it (sk st 1))&&(HX d m it tup ns (sk st 1)&&(pE (vI ns) tup ts&&(jQ d b au).s ns (jv st)))⟩
 | .w c b,m=>⟨λ_ _=>au,λns st=>(bD d c m).v ns (sk st 0)&&(jQ d b m).s ns (jv st)⟩
 | .c,_=>⟨λ_ _=>au,λ_ _=>ah⟩
 | .R c x,_=>⟨λ_ _=>au,λns st=>mO ns (aE c)&&(gM x&&(tP ns (aE x)&&(uu (yN (aJ (aJ (sk st 0) 1) 0)).length 1000&&uu (yN (aJ (aJ (sk st 0) 1) 2)).length 1000)))⟩
 | .y e a c hd,m=>⟨λ_ _=>au,λns st=>m&&(B4 a&&(B4 hd&&(mO ns (aE c)&&(qH ((gE e).v (sk (fz (jv st)) 0))&&(bD d e m).v ns (sk (fz (jv st)) 0)))))⟩
structure x8(fd:jb)(ps:List Str):Prop where
 pos:fd.params.posonlyargs=[]
 args:fd.params.args.map (·.arg)=ps
 kw:fd.params.kwonlyargs=[]
 va:fd.params.vararg=ao
 ka:fd.params.kwarg=ao
 dflt:fd.defaults= .none
 nodup:ps.Nodup
structure xZ(h₀:aL)(f:Nat)(ps:List Nat)(fd:jb)(pb:List bL):Prop where
 obj:∃o,h₀.get? (dG f)=aa o/\o.data= .func fd
 code:h₀.CodeRec fd.code fd.qualname
 body:fd.body= .stmts pb
 clo:fd.closure=[]
 gl:fd.globals=e9
 bi:fd.builtins=rR
 pp:x8 fd (ps.map aE)
 lt:∀p∈ps,p<eN
 kind:fd.scope.kind= .function
 co:fd.scope.isCoroutine=au
 gen:fd.scope.isGenerator=au
 loc:∀p∈ps,fd.scope.names.lookup (aE p)=aa .local\/fd.scope.names.lookup (aE p)=aa .cell
 names:(fd.scope.names.map (·.1)).Nodup
 ad7:∀n,fd.scope.names.lookup n≠aa .free
noncomputable def wk(f:Nat):Bool:=dU f 229||dU f 255
noncomputable abbrev dm:List av:=[.type "Exception",.type "BaseException",.type "object"]
noncomputable def Bw(p0 p1 p2 p3 p4 p5 p6 p7 p8 p9:Pos):List bL:=
 [.Expr (.Call (.Attribute (.Call (.Name "super" p0) [] [] p1) "__init__" p2) [.Name "what" p3] [] p4) p5,.Assign [.Attribute (.Name "self" p6) "what" p7] (.Name "what" p8) p9]
noncomputable def Dq:List (Str×rY):=[("self",.local),("what",.local),("__class__",.free),("super",.globalImplicit)]
structure tM(prog:i6)(K:di)(EC f:aB):Prop where
 cls:∃nm q N bs sn sub ab col dd k0 k1 k2 k3 k5,K.lookup EC=aa (jK nm q EC N bs dm ah sn sub ab col dd k0 k1 k2 k3 k5 "Exception.__new__")
 init:j7 K (.ref EC) "__init__" =aa (aa (.ref f))
 ity:GZ K (.ref f)=aa (.type "function")
 fn:∃o fd cc zJ oc vs file tf zK p0 p1 p2 p3 p4 p5 p6 p7 p8 p9,K.lookup f=aa o/\o.data= .func fd/\x8 fd [("self" :Str),"what"]/\fd.scope.names=Dq/\fd.scope.kind= .function/\fd.scope.isCoroutine=au/\fd.scope.isGenerator=au/\
  fd.globals=e9/\fd.builtins=rR/\fd.closure=[(("__class__" :Str),cc)]/\fd.code= .ref zJ/\fd.body= .stmts (Bw p0 p1 p2 p3 p4 p5 p6 p7 p8 p9)/\(fd.params.posonlyargs++fd.params.args).head?.map (·.arg)=aa "self"/\
  codeIn K fd.code fd.qualname=ah/\K.lookup zJ=aa oc/\oc.data= .fields vs/\vs[2]? =aa (.str file tf)/\((prog.main.file:Str)==file)=ah/\
  (p2.endLine==p4.line)=ah/\K.lookup cc=aa zK/\zK.data= .cell (aa (.ref EC))
 sup:iG K e9 "super" =aa ao
 top:(prog.main.scope.names.lookup ("super" :Str)).isSome=au
 opq:iG K cStatics "thirdparty.any" =aa ao
 seta:j7 K (.ref EC) "__setattr__" =aa (aa (.builtin "object.__setattr__"))
 what:j7 K (.ref EC) "what" =aa ao
theorem tM.cE{prog:i6}{K:di}{EC f:aB}{G:Prop}(S:tM prog K EC f)(k:∀nm q N bs sn sub ab col dd k0 k1 k2 k3 k5,K.lookup EC=aa (jK nm q EC N bs dm ah sn sub ab col dd k0 k1 k2 k3 k5 "Exception.__new__")->G):G:=by obtain ⟨_,_,_,_,_,_,_,_,_,_,_,_,_,_,h⟩:=S.cls;exact k _ _ _ _ _ _ _ _ _ _ _ _ _ _ h
structure bU(C:aY):Prop where
 k:C.Ok
 bok:∀f bv,vt f=aa bv->f<eN/\iG C.K e9 (aE f)=aa ao/\uB (aE f)=aa bv/\aE f≠"__name__"
 bnm:∀t∈["range","zip","reversed","list"],iG C.K e9 (dD t)=aa ao/\uB (dD t)=aa (.type t)/\dD t≠"__name__"/\(dD t==("__debug__" :Str))=au
 cls:∀c,(lA.any λe=>dU e.1 c)=ah->iG C.K e9 (aE c)=aa (aa (.ref (cT c)))/\AH C.K (.ref (cT c))=ah
 makes:∀c,(lA.any λe=>dU e.1 c)=ah->c≠81->makesIn C.K (cT c)=ah
 aec:tM C.prog C.K 47 37
 fns:∀f p,BB f=aa p->∃fd l,xZ C.h₀ f p.1 fd ((gS p.2).s l)/\(jQ (tX f) p.2 (wk f)).s fd.scope.names l=ah
set_option backward.match.sparseCases true in
def CF(q E:av->aA->Prop)(r:rX)(s':aA):Prop:=match r with
 | .ok (.ret v)=>q v s'
 | .ok _=>False
 | .error e=>E e s'
structure Cl(f:Nat)(vs:List V)(Q:PV)(X:Hp->Prop)(h:Hp):Prop where
 run:∀(C:aY),bU C->∀(m:Bool),(wk f=ah->m=ah)->∀(A:bg) (s:aA) (pvs:List av),(∀env,mG (tX f) (A.deeper env))->HR C h s.heap->gP C A h s.heap->VL C s.heap vs pvs->∀q E,Kt C m A (VR C) h s Q X q E->gG C.M A (.call (.ref (dG f)) ⟨pvs,[]⟩) (CF q E) s
noncomputable def MB(x:Nat):Bool:=!(aE x==("__debug__" :Str))&&(!(aE x==("__classdict__" :Str))&& !(aE x==(".0" :Str)))
theorem ZE:(jE eN).all MB=ah:=by decide+kernel
theorem aV{a b:Bool}(h:(a&&b)=ah):a=ah:=(dE _ _▸h).1
theorem aH{a b:Bool}(h:(a&&b)=ah):b=ah:=(dE _ _▸h).2
theorem pJ{a:Bool}(h:(!a)=ah):a=au:=by cases a <;> first|rfl|exact zC h
theorem gq{x:Nat}(h:gM x=ah):x<eN:=AQ▸h
theorem Ev{x:Nat}(h:x<eN):MB x=ah:=cQ.mp ZE x (oA.mpr h)
theorem qG{x:Nat}(h:x<eN):(aE x==("__debug__" :Str))=au:=pJ (aV (Ev h))
theorem nocd{x:Nat}(h:x<eN):(aE x==("__classdict__" :Str))=au:=pJ (aV (aH (Ev h)))
theorem QR{x:Nat}(h:x<eN):aE x≠".0":=beq_eq_false_iff_ne.mp (pJ (aH (aH (Ev h))))
theorem yu{ns:dp}{n:Str}(h:tP ns n=ah):ns.lookup n=aa .local:=beq_iff_eq.mp h
theorem lJ{ns:dp}{n:Str}(h:mO ns n=ah):ns.lookup n=aa .globalImplicit:=beq_iff_eq.mp h
theorem yn{ns:dp}{n:Str}{l:List rY}(h:pK ns n l=ah):∃k∈l,ns.lookup n=aa k:=by
 delta pK at h;cases e:ns.lookup n with
 |none=>rw[e] at h;exact zC h
 |some k=>rw[e] at h;exact⟨k,acb.mp h,rfl⟩
structure dk(ns:dp)(env:bJ):Prop where
 l:∀n,ns.lookup n=aa .local->env.kindOf n=aa .local
 c:∀n,ns.lookup n=aa .cell->env.kindOf n=aa .cell
 f:∀n,ns.lookup n=aa .free->env.kindOf n=aa .cell\/env.kindOf n=aa .free
 g:∀n,ns.lookup n=aa .globalImplicit->env.kindOf n=aa .globalImplicit
section
variable {ns:dp}{env:bJ}{n:Str}
theorem dk.var(x:dk ns env)(h:pK ns n [.local,.cell,.free]=ah):env.kindOf n=aa .local\/env.kindOf n=aa .cell\/env.kindOf n=aa .free:=by
 refine e1a2 (yn h) λk hk e=>?_;rcases a_.mp hk with z|hk
 ·exact .inl (x.l n (z▸e))
 ·rcases a_.mp hk with z|hk
  ·exact .inr (.inl (x.c n (z▸e)))
  ·exact .inr (x.f n (aZ.mp hk▸e))
theorem dk.lc(x:dk ns env)(h:vI ns n=ah):env.kindOf n=aa .local\/env.kindOf n=aa .cell:=by
 refine e1a2 (yn h) λk hk e=>?_;rcases a_.mp hk with z|hk
 ·exact .inl (x.l n (z▸e))
 ·exact .inr (x.c n (aZ.mp hk▸e))
theorem dk.cf(x:dk ns env)(h:pK ns n [.cell,.free]=ah):env.kindOf n=aa .cell\/env.kindOf n=aa .free:=by
 refine e1a2 (yn h) λk hk e=>?_;rcases a_.mp hk with z|hk
 ·exact .inl (x.c n (z▸e))
 ·exact x.f n (aZ.mp hk▸e)
end
def Tv(v:V)(b:Bool):Prop:=∀(K:Bool->Hp->Prop) (h:Hp),qS v K h->K b h
def kP(P:V->Bool->Hp->Prop)(v:V)(h:Hp):Prop:=qS v (P v) h
def RT(_:aL)(p:V×Bool)(b:Bool):Prop:=p.2=b
def PT(P:V->Bool->Hp->Prop)(p:V×Bool)(h:Hp):Prop:=P p.1 p.2 h/\Tv p.1 p.2
def RL(C:aY)(H:aL)(w:V)(pvs:List av):Prop:=∃vs,w.items=aa vs/\VL C H vs pvs
section
variable (C:aY)(d:Nat)(m:Bool)(A:bg)(env:bJ)
def SE(e:E)(pe:aN):Prop:=∀{ρ h s Q X q E},Wz C d A env ρ h s->vE Cl e X ρ Q h->Kt C m A (VR C) h s Q X q E->ay C.M A (c_ pe env) q E s
def ST(e:E)(pe:aN):Prop:=∀{ρ h s P X q E},Wz C d A env ρ h s->vE Cl e X ρ (kP P) h->Kt C m A RT h s (PT P) X q E->ay C.M A (rZ pe env (c_ pe env)) q E s
def lN(e:E)(l:List aN):Prop:=∀{ρ h s Q X q E} (pos:Pos),Wz C d A env ρ h s->vE Cl e X ρ Q h->Kt C m A (RL C) h s Q X q E->ay C.M A (AR (ng pos (k8 l env))) q E s
end
section
variable {C:aY}{d:Nat}{m:Bool}{A:bg}{env:bJ}{ρ:Mine.Env}{h aU:Hp}{s aW:aA}{v:V}{x:av}{X:Hp->Prop}{Q:PV}{q:av->aA->Prop}{E':av->aA->Prop}{a b c e es o:E}{pa pb pc pe po pi:aN}{pos p:Pos}
theorem VR.st(r:VR C s.heap v x)(w:HR C h s.heap)(p:Pt C m No h s aU aW):VR C aW.heap v x:=r.mono (p.tk w)
theorem Kt.bo(k:Kt C m A (VR C) h s Q X q E')(hr:HR C h s.heap):Kt C m A MR h s (Cb Q) X q E':=k.to λc h3 v s3 z e p k=>e▸k.same p.hr z (.bool c)
theorem EF{i:Bool}:Tv (.bool i) i:=λ_ _ z=>z
theorem Wm{P:V->Bool->Hp->Prop}{q:Bool->aA->Prop}(hr:HR C h s.heap)(r:VR C s.heap v x)(z:kP P v h)(k:Kt C m A RT h s (PT P) X q E'):ay C.M A (AJ x) q E' s:=by
 cases v with
 |bool b=>rw[r.ofBool];exact O6 (k.same (a:=(.bool b,b)) hr ⟨z,EF⟩ rfl)
 |none=>rw[r.adZ];exact truthy_none (k.same (a:=(.none,au)) hr ⟨z,λ_ _ z=>z⟩ rfl)
 |int i=>refine e1a1 r.ofInt λt e=>?_;rw[e];refine abN ?_;rw[show(i !=0)=decide (i≠0) by by_cases h:i=0 <;> simp [h]];exact k.same (a:=(.int i,decide (i≠0))) hr ⟨z,λ_ _ z=>z⟩ rfl
 |_=>exact z.elim
theorem KQ{name:Str}{Nf:Sem av}(h:tj po=ah):attributeBase po name env Nf=Nf:=by cases po <;> first|rfl|exact zC h
theorem X9{f:Nat}(G:bU C)(hb:tj po=ah)(ho:SE C d m A env o po):SE C d m A env (.u (.a f) o) (.Attribute po (aE f) pos):=λW v k=>
 Attribute_any_ (ho W v (k.to λa h1 x s1 z r p k=>Zs G.k p.hr r z k)) (by show(do let o<-attributeBase po (aE f) env (c_ po env);_)=_;rw[KQ hb])
theorem Yj{op:BO}(ha:SE C d m A env a pa)(hb:SE C d m A env b pb):SE C d m A env (.b (.a op) a b) (.BinOp pa (CT op) pb pos):=λW v k=>
 wpAny_BinOp (ha W v (k.to λa h1 x s1 z r p k=>hb (W.step p) z (k.to λb h2 y s2 z r' p' k=>XH p'.hr (r.st p.hr p') r' z k)))
theorem RM{op:CO}(G:bU C)(hm:Py (qR op) pb=au)(ha:SE C d m A env a pa)(hb:SE C d m A env b pb):SE C d m A env (.b (.c op) a b) (.Compare pa [qR op] [pb] pos):=λW v k=>
 wpAny_Compare1 (ha W v (k.to λa h1 x s1 z r p k=>hb (W.step p) z (k.to λb h2 y s2 z r' p' k=>Lq G.k p'.hr W.rm.un (r.st p.hr p') r' z (k.bo p'.hr)))) hm
theorem X3{op:CO}(G:bU C)(hm:Py (qR op) pb=au)(ha:SE C d m A env a pa)(hb:SE C d m A env b pb):ST C d m A env (.b (.c op) a b) (.Compare pa [qR op] [pb] pos):=λ{_ _ _ P _ _ _} W v k=>
 wpAny_isTrue_Compare1 (ha W v (k.to λa h1 x s1 z r p k=>hb (W.step p) z (k.to λb h2 y s2 z r' p' k=>Lq (Q:=Cb (kP P)) G.k p'.hr W.rm.un (r.st p.hr p') r' z (k.to λc h3 v s3 z e p k=>by have e:v= .bool c:=e;rw[e];exact O6 (k.same (a:=(.bool c,c)) p.hr ⟨z,EF⟩ rfl))))) hm
theorem Kr{bO:List aN}(ha:SE C d m A env a pa)(hb:SE C d m A env b (.BoolOp .And (pb::bO) pos)):SE C d m A env (.A a b) (.BoolOp .And (pa::pb::bO) pos):=λ{ρ _ _ Q X _ _} W v k=>
 BoolOp_and (ha W v (k.to λa h1 x s1 z r p k=>D8 (Q:=B2 (vE Cl b X) ρ Q a) p.hr r z (k.to λc h2 c' s2 z e p' k=>by
  have e:c=c':=e;rw[<-e];cases c with
  |true=>exact hb ((W.step p).step p') z k
  |false=>exact k.same p'.hr z (r.st p.hr p'))))
theorem HW{bO:List aN}(ha:SE C d m A env a pa)(hb:SE C d m A env b (.BoolOp .Or (pb::bO) pos)):SE C d m A env (.O a b) (.BoolOp .Or (pa::pb::bO) pos):=λ{ρ _ _ Q X _ _} W v k=>
 BoolOp_or (ha W v (k.to λa h1 x s1 z r p k=>D8 (Q:=B8 (vE Cl b X) ρ Q a) p.hr r z (k.to λc h2 c' s2 z e p' k=>by
  have e:c=c':=e;rw[<-e];cases c with
  |false=>exact hb ((W.step p).step p') z k
  |true=>exact k.same p'.hr z (r.st p.hr p'))))
theorem RA(ha:SE C d m A env a pa):SE C d m A env (.u .n a) (.UnaryOp .Not pa pos):=λ{_ _ _ Q _ _ _} W v k=>
 UnaryOp_ (ha W v (k.to λa h1 x s1 z r p k=>not_of (D8 (Q:=Do Q) p.hr r z (k.to λc h2 c' s2 z e p' k=>by have e:c=c':=e;rw[<-e];exact k.same p'.hr z (.bool _)))))
theorem YI(hc:ST C d m A env c pc)(ha:SE C d m A env a pa)(hb:SE C d m A env b pb):SE C d m A env (.t c a b) (.IfExp pc pa pb pos):=λ{ρ _ _ Q X _ _} W v k=>
 IfExp_ (hc (P:=λ_=>kT (vE Cl a X) (vE Cl b X) ρ Q) W v (k.to λc h1 c' s1 z e p k=>by
  obtain ⟨cv,c⟩:=c;have e:c=c':=e;rw[<-e];cases c with
  |true=>exact ha (W.step p) z.1 k
  |false=>exact hb (W.step p) z.1 k))
theorem Vk(ha:ST C d m A env a pa):ST C d m A env (.u .n a) (.UnaryOp .Not pa pos):=λ{_ _ _ P _ _ _} W v k=>
 isTrue_not (ha (P:=λ_=>Do (kP P)) W v (k.to λc h1 c' s1 z e p k=>by have e:c.2=c':=e;rw[<-e];exact k.same (a:=(.bool !c.2,!c.2)) p.hr ⟨z.1,EF⟩ rfl))
theorem Lc(he:rZ pe env (c_ pe env)=(do let v<-c_ pe env;w9 pe.pos;AS [v] (AJ v)))(ha:SE C d m A env e pe):ST C d m A env e pe:=λW v k=>
 isTrue_plain (ha W v (k.to λa h1 x s1 z r p k=>Wm p.hr r z k)) he
def eW(C:aY)(d:Nat)(m:Bool)(A:bg)(env:bJ)(op:uF)(e:E)(l:List aN):Prop:=
 ∀{ρ h s P X q E'} (pos:Pos) (w:Sem av),Wz C d A env ρ h s->vE Cl e X ρ (kP P) h->Kt C m A RT h s (PT P) X q E'->ay C.M A (rZ (.BoolOp op l pos) env w) q E' s
theorem eW.of{op:uF}{l:List aN}(h:ST C d m A env e (.BoolOp op l pos)):eW C d m A env op e l:=λpos w W v k=>h W v k
theorem eW.to{op:uF}{l:List aN}(h:eW C d m A env op e l):ST C d m A env e (.BoolOp op l pos):=λW v k=>h pos _ W v k
theorem eW.one{op:uF}(ha:ST C d m A env a pa):eW C d m A env op a [pa]:=λpos w W v k=>by
 cases op with
 |And=>exact isTrue_and (ha W v (k.to λc h1 c' s1 z e p k=>by cases c' with
  |true=>exact isTrue_and_nil (k.same p.hr z e)
  |false=>exact k.same p.hr z e))
 |Or=>exact isTrue_or (ha W v (k.to λc h1 c' s1 z e p k=>by cases c' with
  |true=>exact k.same p.hr z e
  |false=>exact isTrue_or_nil (k.same p.hr z e)))
theorem eW.and{l:List aN}(ha:ST C d m A env a pa)(hb:eW C d m A env .And b l):eW C d m A env .And (.A a b) (pa::l):=λ{ρ _ _ P X _ _} pos w W v k=>
 isTrue_and (ha (P:=B2 (vE Cl b X) ρ (kP P)) W v (k.to λc h1 c' s1 z e p k=>by
  obtain ⟨cv,c⟩:=c;have e:c=c':=e;rw[<-e];cases c with
  |true=>exact hb pos w (W.step p) z.1 k
  |false=>exact k.same (a:=(cv,au)) p.hr ⟨z.2 _ _ z.1,z.2⟩ rfl))
theorem eW.or{l:List aN}(ha:ST C d m A env a pa)(hb:eW C d m A env .Or b l):eW C d m A env .Or (.O a b) (pa::l):=λ{ρ _ _ P X _ _} pos w W v k=>
 isTrue_or (ha (P:=B8 (vE Cl b X) ρ (kP P)) W v (k.to λc h1 c' s1 z e p k=>by
  obtain ⟨cv,c⟩:=c;have e:c=c':=e;rw[<-e];cases c with
  |false=>exact hb pos w (W.step p) z.1 k
  |true=>exact k.same (a:=(cv,ah)) p.hr ⟨z.2 _ _ z.1,z.2⟩ rfl))
theorem U4(i:Int){k:Nat}:SE C d m A env (.l (.int i)) (.Constant (.int i) k pos):=λW v k=>acd (k.tok W.hr v (.int _ _))
theorem Lh(i:Int){k:Nat}:SE C d m A env (.l (.int (-i))) (.UnaryOp .USub (.Constant (.int i) k p) pos):=λW v k=>UnaryOp_ (acd (PyProof.Rows.neg_int (k.tok W.hr v (.int _ _))))
theorem S0(b:Bool){k:Nat}:SE C d m A env (.l (.bool b)) (.Constant (.bool b) k pos):=λW v k=>Pz (k.same W.hr v (.bool _))
theorem UC{k:Nat}:SE C d m A env (.l .none) (.Constant .none k pos):=λW v k=>wpAny_Constant_none (k.same W.hr v .none)
theorem WD{n:Nat}(hn:n<eN){k:Nat}:SE C d m A env (.l (.str n)) (.Constant (.str (aE n)) k pos):=λW v k=>PA (k.tok W.hr v (.str _ hn))
theorem HT(h:MV v=ah):SE C d m A env (.l v) (nP v pe):=by
 cases v with
 |int i=>
  show SE _ _ _ _ _ _ (if 0<=i then _ else _);split
  ·exact U4 i
  ·have q:SE C d m A env (.l (.int (- -i))) (.UnaryOp .USub (.Constant (.int (-i)) (kh (aJ pe 0)) (aJ pe 0).pos) pe.pos):=Lh (-i);rw[Int.neg_neg] at q;exact @q
 |bool b=>exact S0 b
 |none=>exact UC
 |str n=>exact WD (gq h)
 |_=>exact zC h
theorem RQ:rZ (nP v pe) env (c_ (nP v pe) env)=(do let u<-c_ (nP v pe) env;w9 (nP v pe).pos;AS [u] (AJ u)):=by
 cases v with
 |int i=>show rZ (if 0<=i then _ else _) _ _=_;delta nP;dsimp only;split <;> rfl
 |_=>rfl
theorem tL{α:Type}{o:Option α}{Q:α->Prop}(z:oG o Q):∃a,o=aa a/\Q a:=by
 cases o with
 |none=>exact z.elim
 |some a=>exact⟨a,rfl,z⟩
theorem Y'{x:Nat}(hx:x<eN)(hk:env.kindOf (aE x)=aa .local\/env.kindOf (aE x)=aa .cell\/env.kindOf (aE x)=aa .free):SE C d m A env (.v x) (.Name (aE x) pos):=λW v k=>by
 refine e1a2 (tL v) λv e z=>?_;rcases hk with hk|hk
 ·refine e1a2 W.er.loc λM hn kk=>?_;refine e1a2 (kk x v e hx hk) λpv a b=>?_;exact uG (w_ W.ek.kind hk hn a (k.same W.hr z b)) (qG hx)
 ·refine e1a1 (W.er.adJ _ hk) λc hl=>?_;refine e1a2 (W.er.cells _ c hl) λw hc kk=>?_;refine e1a2 (kk hk x v rfl hx e) λpv e' b=>?_;rw[e'] at hc;rcases hk with hk|hk
  ·exact uG (wpAny_loadName_cell W.ek.kind hk hl hc (k.same W.hr z b)) (qG hx)
  ·exact uG (ace W.ek.kind hk hl hc (k.same W.hr z b) (nocd hx)) (qG hx)
theorem xE(G:bU C)(W:Wz C d A env ρ h s){x:Nat}{v:av}(hx:x<eN)(hk:env.kindOf (aE x)=aa .globalImplicit)(hn:iG C.K e9 (aE x)=aa (aa v))(z:q v s):ay C.M A (c_ (.Name (aE x) pos) env) q E' s:=by refine e1a1 G.k.glob λmg hg=>?_;exact PB W.ek.kind hk (acf (by rw[W.ek.gl];exact hg.keeps W.hr.keep) (mg_of G.k.ady hg hn) z) (qG hx)
theorem K5(G:bU C)(W:Wz C d A env ρ h s){n:Str}{v:av}(hk:env.kindOf n=aa .globalImplicit)(hn:iG C.K e9 n=aa ao)(hb:uB n=aa v)(h1:n≠"__name__")(h2:(n==("__debug__" :Str))=au)(z:q v s):ay C.M A (c_ (.Name n pos) env) q E' s:=by refine e1a1 G.k.glob λmg hg=>?_;refine e1a2 G.k.blt λmb E9 E_=>?_;exact PB W.ek.kind hk (acg (by rw[W.ek.gl];exact hg.keeps W.hr.keep) (mg_none_of G.k.ady hg hn) (by rw[W.ek.bi];exact E9.keeps W.hr.keep) ((E_ _ h1).trans hb) z) h2
theorem Za(G:bU C){x:Nat}(hk:env.kindOf (aE x)=aa .globalImplicit):SE C d m A env (.g x) (.Name (aE x) pos):=λW v k=>by
 refine e1a2 (tL v) λv e z=>?_
 (refine aC (G.k.aev x v e) λhx aD=>?_;refine e1a2 aD λpv hn r=>?_)
 exact xE G W hx hk hn (k.same W.hr z ((r C λa q=>(W.hr.adI a q).2.2).mono λ_ _ yy=>aC yy λn aD=>e1a2 aD λo ho r=>⟨n,o,W.hr.keep _ _ ho,r⟩))
theorem aaS:lN C d m A env (.l .adt) []:=λpos W v k=>r6 (k.same W.hr v ⟨[],rfl,.nil⟩)
theorem kj(h:cB pe=ah)(bO:List aN):k8 (pe::bO) env=(au,c_ pe env)::k8 bO env:=by cases pe <;> first|rfl|exact zC h
theorem T8{bO:List aN}(hn:cB pa=ah)(ha:SE C d m A env a pa)(hs:lN C d m A env b bO):lN C d m A env (.b .k a b) (pa::bO):=λpos W v k=>
 oX (ha W v (k.to λa h1 x s1 z r p k=>hs pos (W.step p) z (k.to λb h2 l s2 z r' p' k=>by refine e1a2 r' λvs e r'=>?_;exact k.same p'.hr z ⟨a::vs,by show(V.items b).map _=_;rw[e];rfl,.cons (r.st p.hr p') r'⟩))) (kj hn bO)
theorem I3{vs:List V}{Q:Prop}(z:zf vs Q):vs.length<aG/\Q:=by
 delta zf br at z;cases e:As vs.length aG with
 |true=>rw[e] at z;exact⟨AQ▸e,z⟩
 |false=>rw[e] at z;exact z.elim
theorem tA{w:V}{vs:List V}{Q:List V->Prop}(z:oG w.items Q)(e:w.items=aa vs):Q vs:=by rw[e] at z;exact z
theorem W7{l:List aN}(hs:lN C d m A env es l):SE C d m A env (.u .L es) (.List l pos):=λW v k=>
 List_ (hs pos W v (k.to λw h1 l s1 z r p k=>by refine e1a2 r λvs e r=>?_;refine aC (I3 (tA z e)) λhl z=>?_;exact UN k p.hr z r (sL hl)))
theorem Zb{l:List aN}{j:Nat}(hs:lN C d m A env es l):SE C d m A env (.u .T es) (.Tuple l j pos):=λW v k=>
 Tuple_ (hs pos W v (k.to λw h1 l s1 z r p k=>by refine e1a2 r λvs e r=>?_;refine aC (I3 (tA z e)) λhl z=>?_;rw[nV e] at z;exact Yw k p.hr z r (sL hl)))
theorem UJ{slice:aN}(h:s8 slice=ah)(o i:av):Pf slice au o i=operate [o,i] (GO o i):=by cases slice <;> first|rfl|exact zC h
theorem Tw(G:bU C)(hp:s8 pb=ah)(ha:SE C d m A env a pa)(hb:SE C d m A env b pb):SE C d m A env (.b .i a b) (.Subscript pa pb pos):=λW v k=>
 G9 (ha W v (k.to λa h1 x s1 z r p k=>hb (W.step p) z (k.to λb h2 y s2 z r' p' k=>UL G.k p'.hr W.rm.un (r.st p.hr p') r' z k (UJ hp))))
theorem D4(lo up st:Option aN)(pos:Pos):c_ (.Slice lo up st pos) env=(do
  let l<-PC (evalOpt lo env)
  let u<-AS [l] (PC (evalOpt up env))
  let s<-AS [l,u] (PC (evalOpt st env))
  newFields "slice" [l,u,s]):=rfl
theorem Vu(ha:SE C d m A env a pa)(hb:SE C d m A env b pb):SE C d m A env (.b .s a b) (.Subscript pa (.Slice ao (aa pb) ao p) pos):=λW v k=>
 G9 (ha W v (k.to λa h1 x s1 z r p k=>by rw[D4];refine ax (aQ (ax (dv (hb (W.step p) z (k.to λb h2 y s2 z r' p' k=>?_)))));refine e2a2 (nG z r') λi u e z=>?_;rw[e];exact ax (dv (aQ (EP p'.hr (r.st p.hr p') z k .none (.int i u) .none (λh=>nomatch h) (λ_ _=>rfl) (λxs=>by rw[ach];exact Nat.min_le_right _ _) λh xs l z=>T4 h l z)))))
theorem Rm(ha:SE C d m A env a pa)(hb:SE C d m A env b pb):SE C d m A env (.b .f a b) (.Subscript pa (.Slice (aa pb) ao ao p) pos):=λW v k=>
 G9 (ha W v (k.to λa h1 x s1 z r p k=>by rw[D4];refine ax (hb (W.step p) z (k.to λb h2 y s2 z r' p' k=>?_));refine e2a2 (nG z r') λi u e z=>?_;rw[e];exact ax (dv (aQ (ax (dv (aQ (EP p'.hr (r.st p.hr p') z k (.int i u) .none .none (λh=>nomatch h) (λ_ _=>rfl) (λxs=>by rw[List.length_drop];exact Nat.sub_le _ _) λh xs l z=>Rl h l z))))))))
theorem Uf{j:Nat}{p1 p2:Pos}(ha:SE C d m A env a pa):SE C d m A env (.u .r a) (.Subscript pa (.Slice ao ao (aa (.UnaryOp .USub (.Constant (.int 1) j p1) p2)) p) pos):=λW v k=>
 G9 (ha W v (k.to λa h1 x s1 z r p k=>by rw[D4];refine ax (aQ (ax (dv (aQ (ax (dv (Lh (C:=C) (d:=d) (m:=m) 1 (Q:=λv h=>v= .int (-1)/\qK a 0 abo _ h) (W.step p) ⟨rfl,z⟩ (k.to λb h2 y s2 z r' p' k=>?_))))))));refine aC z λe1 z=>?_;rw[e1] at r';refine e1a1 r'.ofInt λu e=>?_;rw[e];exact EP p'.hr (r.st p.hr p') z k .none .none (.int _ u) (by decide) (λ_ _=>rfl) (λxs=>jD qn) λh xs l z=>Wo l z))
end
inductive PL(C:aY)(H:aL):List (V×V)->List (av×av)->Prop
 |nil:PL C H [] []
 |cons {k v:V} {pk pv:av} {ps:List (V×V)} {qs:List (av×av)}:VR C H k pk->VR C H v pv->PL C H ps qs->PL C H ((k,v)::ps) ((pk,pv)::qs)
def RPs(C:aY)(H:aL)(w:V)(qs:List (av×av)):Prop:=∃vs ps,w.items=aa vs/\sD vs=aa ps/\PL C H ps qs
noncomputable def vw(env:bJ)(pos:Pos):List (Option aN)->List aN->List (Sem av×Sem av)
 |some k::ks,v::vs=>(c_ k env,(do let x<-c_ v env;w9 pos;pure x))::vw env pos ks vs
 |_,_=>[]
structure pB(C:aY)(d:Nat)(A:bg)(env:bJ)(es:E)(ks:List (Option aN))(vs:List aN):Prop where
 shape:∀pos,(evalEachOpt ks env).zip ((evalEach vs env).map λv=>do let x<-v;w9 pos;pure x)=(vw env pos ks vs).map λp=>(aa p.1,p.2)
 len:∀pos,(vw env pos ks vs).length=ks.length
 nil:ks=[]->vs=[]/\es= .l .adt
 run:∀{ρ h s Q X q E} (pos:Pos),Wz C d A env ρ h s->vE Cl es X ρ Q h->Kt C au A (RPs C) h s Q X q E->ay C.M A (evalPairs (vw env pos ks vs)) q E s
section
variable {K:Type}[DecidableEq K]
theorem Rv(kvs:List (K×av))(k:K)(v:av):(stored kvs k v).map (·.1)=if k∈kvs.map (·.1) then kvs.map (·.1) else kvs.map (·.1)++[k]:=by
 unfold stored;by_cases hm:k∈kvs.map (·.1)
 ·rw[if_pos hm,if_pos (by refine e1a2 (bz.mp hm) λp hp e=>?_;exact Az.mpr ⟨p,hp,decide_eq_true e⟩),iE];refine ma λx hx=>?_;show(if x.1=k then(x.1,v) else x).1=x.1;split <;> rfl
 ·rw[if_neg hm,if_neg λq=>by refine e1a2 (Az.mp q) λp hp hq=>?_;exact hm (bz.mpr ⟨p,hp,of_decide_eq_true hq⟩),bA];rfl
theorem QS{kvs:List (K×av)}(hn:(kvs.map (·.1)).Nodup)(k:K)(v:av):((stored kvs k v).map (·.1)).Nodup:=by
 rw[Rv];split
 ·exact hn
 ·rename_i h;exact fW.mpr ⟨hn,.cons (λ_ h=>nomatch h) .nil,λa ha b hb e=>h (by rw[<-aZ.mp hb,<-e];exact ha)⟩
theorem DL.merge{C:aY}{H:aL}{bV:K->V->Prop}(E:lZ bV){kvs:List (K×av)}{ps:List (V×V)}(x:DL C H bV kvs ps):∀{acc:List (K×av)} {es:List (V×V)},DL C H bV acc es->(acc.map (·.1)).Nodup->DL C H bV (merged acc kvs) (kq es ps):=by
 induction x with
 |nil=>exact λy _=>y
 |cons a b _ ih=>exact λy hn=>ih (y.put E hn a b) (QS hn _ _)
end
section
variable {C:aY}{d:Nat}{m:Bool}{A:bg}{env:bJ}{ρ:Mine.Env}{h aU:Hp}{H H':aL}{s aW:aA}{v:V}{x:av}{X:Hp->Prop}{Q:PV}{q:av->aA->Prop}{E':av->aA->Prop}{a b c e es o:E}{pa pb pc pe po pi:aN}{pos p:Pos}{ps:List (V×V)}{qs:List (av×av)}{vs:List V}{pvs:List av}
theorem U9:pB C d A env (.l .adt) [] []:=⟨λ_=>rfl,λ_=>rfl,λ_=>⟨rfl,rfl⟩,λ_ W v k=>evalPairs_nil (k.same W.hr v ⟨[],[],rfl,rfl,.nil⟩)⟩
theorem SW{ks:List (Option aN)}{vs:List aN}(ha:SE C d au A env a pa)(hb:SE C d au A env b pb)(hs:pB C d A env es ks vs):pB C d A env (.b .k a (.b .k b es)) (aa pa::ks) (pb::vs):=
 ⟨λpos=>by
  show((aa (c_ pa env))::evalEachOpt ks env).zip ((do let x<-c_ pb env;w9 pos;pure x)::(evalEach vs env).map _)=_;rw[G',hs.shape pos];rfl,λpos=>congrArg qg (hs.len pos),(λq=>nomatch q),λpos W v k=>
  evalPairs_cons (ha W v (k.to λa h1 x s1 z r p k=>ax (hb (W.step p) z (k.to λb h2 y s2 z r' p' k=>ax (iI (aQ (hs.run pos ((W.step p).step p') z (k.to λw h3 qs s3 z Fa t8 k=>by
   refine e2a3 Fa λvs ps e1 e2 Fa=>?_;refine k.same t8.hr z ⟨a::b::vs,(a,b)::ps,?_,?_,.cons ((r.st p.hr p').st p'.hr t8) (r'.st p'.hr t8) Fa⟩
   ·show((V.items w).map _).map _=_;rw[e1];rfl
   ·show(sD vs).map _=_;rw[e2];rfl))))))))⟩
theorem YR(x:PL C H ps qs)(hk:hY ps=ah):∃kvs:List (Int×av),AT (rQ C.prog C.w) qs kvs/\DL C H nY kvs ps:=by
 induction x with
 |nil=>exact⟨[],trivial,.nil⟩
 | @cons k v pk pv ps qs h1 h2 _ ih=>have hk:=dE _ _▸(show((kk k==1)&&hY ps)=ah from hk);refine e1a2 (ih hk.2) λkvs c d=>?_;refine e1a1 (Mh hk.1) λi e=>?_;rw[e] at h1 ⊢;refine e1a1 h1.ofInt λt e=>?_;rw[e];exact⟨(i,pv)::kvs,⟨beq_self_eq_true i,rfl,c⟩,.cons rfl h2 d⟩
theorem Sm(x:PL C H ps qs)(hk:yE ps=ah):∃kvs:List (Str×av),AT (OZ C.prog C.w) qs kvs/\DL C H Dc kvs ps:=by
 induction x with
 |nil=>exact⟨[],trivial,.nil⟩
 | @cons k v pk pv ps qs h1 h2 _ ih=>
  have hk:=dE _ _▸(show((kk k==2)&&yE ps)=ah from hk);refine e1a2 (ih hk.2) λkvs c d=>?_;cases k with
  |str n=>
   (refine aC h1.ofStr λhn aD=>?_;refine e1a1 aD λt e=>?_)
   rw[e];exact⟨(aE n,pv)::kvs,⟨beq_self_eq_true (aE n),rfl,c⟩,.cons ⟨n,hn,rfl,rfl⟩ h2 d⟩
  |_=>cases hk.1
theorem HR.adopt{D:aB}{o:O}(x:HR C h H)(hi:jr o=au)(hD:¬b9 h D)(h0:C.h₀.get? D=ao)(hp:¬C.pr D)(hs:fV D H H')(t:TK C H H')(r:OR C H' D o):HR C (h.put D o) H':=by
 have ne:∀{a},b9 h a->a≠D:=λq z=>hD (z▸q);have x':HR C h H':=x.frame (λb o' e=>(hs.2 b λz=>by rw[z,h0] at e;exact zA e).trans (x.keep b o' e)) (λa e=>hs.2 a (ne e)) t λa q=>by
  (refine aC (x.adI a q) λdN r=>?_;refine e3a2 dN λo' xs n ho hd=>?_)
  exact⟨⟨o',xs,n,(hs.2 a λz=>hp (z▸q)).trans ho,hd⟩,r⟩
 refine⟨x'.keep,λj oj e=>?_,λa q=>?_,λi j o1 o2 a e1 e2 z1 z2=>?_,λj q=>?_,λa q=>?_⟩
 ·by_cases q:j=D
  ·cases zF ((show(h.put D o).get j=aa o from if_pos q).symm.trans e);exact q▸r
  ·rw[show(h.put D o).get j=h.get j from if_neg q] at e;exact x'.obj j oj e
 ·rcases q.put with z|z
  ·rw[mt hi z];exact h0
  ·exact x.adO a z
 ·by_cases q1:i=D <;> by_cases q2:j=D
  ·exact q1.trans q2.symm
  ·rw[show(h.put D o).get i=aa o from if_pos q1] at e1;rw[show(h.put D o).get j=h.get j from if_neg q2] at e2;cases zF e1;exact absurd ((mt hi z1).trans q1) (ne (z2.own e2))
  ·rw[show(h.put D o).get j=aa o from if_pos q2] at e2;rw[show(h.put D o).get i=h.get i from if_neg q1] at e1;cases zF e2;exact absurd ((mt hi z2).trans q2) (ne (z1.own e1))
  ·rw[show(h.put D o).get i=h.get i from if_neg q1] at e1;rw[show(h.put D o).get j=h.get j from if_neg q2] at e2;exact x.ap i j o1 o2 a e1 e2 z1 z2
 ·refine e1a1 (x.adQ j q) λes e=>?_;exact⟨es,(if_neg λz:j=D=>hD ⟨D,_,z▸e,.inl rfl⟩).trans e⟩
 ·refine be (x'.adI a q) λp1 p2 p3=>?_;refine⟨p1,λw=>?_,p3⟩;rcases w.put with z|z
  ·exact hp (mt hi z▸q)
  ·exact p2 z
theorem Ri{K:Type}[DecidableEq K]{knd:KeyKind C.prog C.w K}{bV:K->V->Prop}(En:lZ bV)(conv:∀{H:aL},PL C H ps qs->∃kvs:List (K×av),AT knd qs kvs/\DL C H bV kvs ps)
  (Fb:∀{H:aL} {a:aB} {es:List (V×V)} {kvs:List (K×av)},H.DictOf knd a kvs->DL C H bV kvs es->DR C H a es) (pl:PL C aW.heap ps qs) (hl:ps.length<=15) (W:Wz C d A env ρ h s) {s₀:aA} (vZ:s₀.heap=s.heap.push {cls:=.type "dict",data:=.dict #[]}) (p:Pt C au No h s₀ aU aW) (sm:fZ s aW) (z:cj (.dict (kq [] ps)) Q aU) (k:Kt C m A (VR C) h s Q X q E'):
  ∃kvs,AT knd qs kvs/\aW.heap.DictOf knd s.heap.objs.size []/\∀h',h'.DictOf knd s.heap.objs.size (merged [] kvs)->fV s.heap.objs.size aW.heap h'->q (.ref s.heap.objs.size) {aW with heap:=h',toks:=aW.toks+qs.length}:=by
 have Fc:s₀.heap.get? s.heap.objs.size=aa {cls:=.type "dict",data:=.dict #[]}:=by rw[vZ];exact cV _ rfl
 refine e1a2 (conv pl) λkvs hc adD=>?_;have v4:=W.hr.nil (dM s.heap);have Ng:=p.tr.ad5 Fc v4 id;have Nh:¬b9 aU s.heap.objs.size:=λq=>v4 (p.tr.new _ _ Fc id (λq=>nomatch q) q);refine⟨kvs,hc,?_,λh' hd hs=>?_⟩
 ·refine e3a2 (Ps (knd:=knd) s.heap) λo vX E7 q1 q2=>?_;rw[<-vZ,Fc] at q1;cases zF q1;exact⟨_,vX,E7,Ng,q2⟩
 ·have t:TK C aW.heap h':=TK.sameBut Ng (λxs n q=>nomatch q) hs;have v5:=p.hr.adopt (o:=.dict (kq [] ps)) rfl Nh (W.hr.h0 (dM _)) (W.hr.adH (dM _)) hs t ⟨aI (IO ps []) (by rw[wZ,nb];exact aI hl (by decide)),Fb hd ((adD.merge En .nil .nil).mono t)⟩;have hg:aU.get s.heap.objs.size=ao:=by
   cases q:aU.get s.heap.objs.size with
   |none=>rfl
   |some o=>exact absurd ⟨_,o,q,.inl rfl⟩ Nh
  refine k.r _ _ _ {aW with heap:=h',toks:=_} (z _ hg) (.ref _) ⟨v5,Tr.up ⟨λa o ea n _ _=>⟨o.slots,?_,λ_=>rfl⟩,λa o ea _ _ q=>?_,p.tr.lk,λ_ j o q1 q2=>?_⟩,sm⟩
  ·exact(hs.2 a (fE (fX ea))).trans (p.tr.ad5 (by rw[vZ];exact cu _ ea) n id)
  ·rcases q.put with z|z
   ·rw[mt rfl z,dM] at ea;exact zA ea
   ·exact p.tr.new a o (by rw[vZ];exact cu _ ea) id (λq=>nomatch q) z
  ·exact(hs.2 j (fE (fX q2))).trans (p.tr.pin rfl j o q1 (by rw[vZ];exact cu _ q2))
theorem Wz.push(W:Wz C d A env ρ h s)(o:Obj):Wz C d A env ρ h {s with heap:=s.heap.push o}:=W.kp (Kp.push _ _)
theorem uW{c:Bool}{P:Prop}(z:br c P False):c=ah/\P:=by
 cases c with
 |true=>exact⟨rfl,z⟩
 |false=>exact z.elim
theorem MH{K:Type}[DecidableEq K]{knd:KeyKind C.prog C.w K}{bV:K->V->Prop}(En:lZ bV)(kO:List (V×V)->Bool)(conv:∀{H:aL} {ps:List (V×V)} {qs:List (av×av)},PL C H ps qs->kO ps=ah->∃kvs:List (K×av),AT knd qs kvs/\DL C H bV kvs ps)
  (Fb:∀{H:aL} {a:aB} {es:List (V×V)} {kvs:List (K×av)},H.DictOf knd a kvs->DL C H bV kvs es->DR C H a es) {ks:List (Option aN)} {vs:List aN} (hs:pB C d A env es ks vs) (hl:ks.length<=15) (W:Wz C d A env ρ h s) (v:vE Cl es X ρ (λw h=>mq w λvs=>xL kO vs Q h) h) (k:Kt C m A (VR C) h s Q X q E'):ay C.M A (c_ (.Dict ks vs pos) env) q E' s:=by
 have ob:∀{w:V} {vs:List V} {ps:List (V×V)} {h:Hp},mq w (λvs=>xL kO vs Q h)->w.items=aa vs->sD vs=aa ps->ps.length<=15/\kO ps=ah/\cj (.dict (kq [] ps)) Q h:=λ{w vs ps h} z e e'=>by have z:oG (sD vs) _:=tA z e;rw[e'] at z;refine aC (uW z) λc z=>?_;exact⟨Nat.ble_eq▸aV c,aH c,z⟩
 by_cases h0:ks=[]
 ·refine aC (hs.nil h0) λe1 e2=>?_;rw[h0,e1];rw[e2] at v;exact wpAny_Dict_empty (k.dict (tk:=s.toks) W.hr (ob (vs:=[]) (ps:=[]) v rfl rfl).2.2 (g0 _) (Kp.push _ _) (dM _) (.inl ⟨[],Ps _,.nil⟩))
 ·refine wpAny_Dict_pairs (knd:=knd) (pairs:=vw env pos ks vs) (hs.shape pos) (λq=>h0 (na.mp ((hs.len pos).symm.trans (congrArg _ q)))) (by rw[hs.len];exact hl) ?_;refine hs.run pos (W.push _) v ⟨λw h1 qs s1 z r p=>?_,(k.step (.ad9 W.hr (s':={s with heap:=s.heap.push {cls:=.type "dict",data:=.dict #[]}}) (Kp.push _ _) ⟨rfl,rfl,rfl⟩)).x⟩;refine e2a3 r λaeb ps e1 e2 pl=>?_;refine be (ob z e1 e2) λhl hk z=>?_;exact Ri En (λx=>conv x hk) Fb pl hl W rfl p p.sm z k
theorem WY{ks:List (Option aN)}{vs:List aN}(hs:pB C d A env es ks vs)(hl:ks.length<=15):SE C d m A env (.u .D es) (.Dict ks vs pos):=λW v k=>
 MH Ex hY YR (λa b=>.inl ⟨_,a,b⟩) hs hl W v k
theorem RC{ks:List (Option aN)}{vs:List aN}(hs:pB C d A env es ks vs)(hl:ks.length<=15):SE C d m A env (.u .K es) (.Dict ks vs pos):=λW v k=>
 MH Mv yE Sm (λa b=>.inr (.inl ⟨_,a,b⟩)) hs hl W v k
end
def KC(C:aY)(f:av):Prop:=∀hp,C.K.In hp->∃k,(k=PD\/k=r7\/k=PE)/\j8 C.M hp (r8 f) k
section
variable {C:aY}{d:Nat}{m:Bool}{A:bg}{env:bJ}{ρ:Mine.Env}{h aU:Hp}{H H':aL}{s aW:aA}{v:V}{x:av}{X:Hp->Prop}{Q:PV}{q:av->aA->Prop}{E':av->aA->Prop}{a b c e es o:E}{pa pb pc pe po pi:aN}{pos p:Pos}{f j:Nat}{vs:List V}{pvs:List av}{args:List aN}
theorem Bt(pos:Pos):∀{l:List aN},l.all cB=ah->(ng pos (k8 l env)).any (·.1)=au/\(ng pos (k8 l env)).all (λx=>!x.1)=ah:=by
 intro l;induction l with
 |nil=>intro _;exact⟨rfl,rfl⟩
 |cons e r ih=>intro h;have h:=dE _ _▸(show(cB e&&r.all cB)=ah from h);rw[kj h.1];show(au||(ng pos (k8 r env)).any (·.1))=au/\(ah&&(ng pos (k8 r env)).all (λx=>!x.1))=ah;rw[(ih h.2).1,(ih h.2).2];exact⟨rfl,rfl⟩
theorem u_{f:av}{first:List av}{K:di}(hk:∀h,K.In h->∃k,(k=PD\/k=r7\/k=PE)/\j8 C.M h (r8 f) k)(cJ:args.all cB=ah)
  (h:ay C.M A (AR (ng pos (k8 args env))) (λvs aW=>K.In aW.heap/\ay C.M A (qo f (first++vs)) q E' aW) E' s):ay C.M A (callWith pos f first (ng pos (k8 args env)) []) q E' s:=by
 refine callWith_of (P:=K.In) (by rw[(Bt pos cJ).1];rfl) hk ?_;cases args with
 |nil=>show ay C.M A (AR [] >>=_) _ E' s;refine ax (fj (show ay C.M A (AR []) _ E' s from h) (λvs aW aU=>ax (aQ ?_)) λ_ _ e=>e);refine dv ?_;exact ax (aQ (ax (aQ (aQ aU))))
 |cons e r=>have cJ:=dE _ _▸(show(cB e&&r.all cB)=ah from cJ);rw[kj cJ.1] at h ⊢;exact evalArgs_plain h
theorem CM{n:Str}{fv:av}(hk:KC C fv)(cJ:args.all cB=ah)(W:Wz C d A env ρ h s)(G:bU C)(hs:lN C d m A env es args){Q':PV}(v:vE Cl es X ρ Q' h)(k:Kt C m A (VR C) h s Q X q E')
  (hl:∀{q:av->aA->Prop},q fv s->ay C.M A (c_ (.Name n p) env) q E' s) (run:∀w vs h1 pvs s1,Q' w h1->w.items=aa vs->VL C s1.heap vs pvs->Pt C m No h s h1 s1->Kt C m A (VR C) h1 s1 Q X q E'->ay C.M A (qo fv pvs) q E' s1):ay C.M A (c_ (.Call (.Name n p) args [] pos) env) q E' s:=
 Call_ (hl (u_ (K:=C.K) (first:=[]) hk cJ (hs pos W v (k.to λw h1 l s1 z r p k=>by refine e1a2 r λvs e r=>?_;exact⟨G.k.ady.keeps p.hr.keep,run w vs h1 l s1 z e r p k⟩))))
theorem C2{fv:av}(h:r8 fv=pure r7):KC C fv:=λ_ _=>⟨.machine,.inr (.inl rfl),aci h⟩
theorem WU(h:Ef f=ah):∃bv,vt f=aa bv/\r8 bv=pure r7:=by refine e1a1 (AL.mp h) λbv hb=>⟨bv,hb,?_⟩;have st:∀{n:Nat} {v:av} {r:List (Nat×av)},eE ((n,v)::r) f=aa bv->r8 v=pure r7->(eE r f=aa bv->r8 bv=pure r7)->r8 bv=pure r7:=λhb f g=>(pF hb).elim (λe=>by rw[e.2];exact f) g;have hb:eE qM f=aa bv:=hb;delta qM at hb;exact st hb rfl λhb=>st hb rfl λhb=>st hb rfl λhb=>st hb rfl λhb=>st hb rfl λhb=>st hb rfl λhb=>st hb rfl λhb=>st hb rfl λhb=>st hb rfl λhb=>nomatch hb
theorem Wq(G:bU C)(hb:Ef f=ah)(hk:env.kindOf (aE f)=aa .globalImplicit)(cJ:args.all cB=ah)(hs:lN C d m A env es args):SE C d m A env (.u (.B f) es) (.Call (.Name (aE f) p) args [] pos):=λW v k=>by refine e1a2 (WU hb) λbv e hm=>?_;refine f9 (G.bok f bv e) λh1 h2 h3 h4=>?_;exact CM (C2 hm) cJ W G hs v k (λz=>K5 G W hk h2 h3 h4 (qG h1) z) λw vs h1 pvs s1 z e' r p k=>Yc G.k W.rm.1 p.hr r e (tA z e') k
theorem mG.mono{d':Nat}{A':bg}(r:mG d A)(hd:d'<d)(e2:A'.handled=A.handled)(e3:A'.depth<=A.depth+3)(e4:A'.units<=A.units+11)(env:bJ):mG d' (A'.deeper env):=by refine be r λr1 r2 r3=>?_;exact⟨e2.trans r1,MO r2 hd e3 (by decide),MO r3 hd e4 (by decide)⟩
theorem Ec(h:nH d m f=ah):tX f<d/\(wk f=ah->m=ah):=by
 refine⟨AQ▸aV h,λw=>?_⟩;have h:=aH h;cases m with
 |true=>rfl
 |false=>have h:(!dU f 229&& !dU f 255)=ah:=h;unfold wk at w;rw[pJ (aV h),pJ (aH h)] at w;exact zC w
theorem gP.of{A':bg}(x:gP C A h H)(e:A'.frames=A.frames):gP C A' h H:=by refine e1a2 x λl a b=>?_;exact⟨l,e.trans a,b⟩
theorem Ia(G:bU C)(W:Wz C d A env ρ h s)(hc:nH d m f=ah)(z:Cl f vs Q X h)(r:VL C s.heap vs pvs)(k:Kt C m A (VR C) h s Q X q E'):ay C.M A (qo (.ref (dG f)) pvs) q E' s:=
 AU (z.run C G m (Ec hc).2 A s pvs (W.rm.mono (Ec hc).1 rfl (b_ _ _) (b_ _ _)) W.hr W.fr r q E' k)
theorem Yi(G:bU C)(hg:LX f)(hc:nH d m f=ah)(hk:env.kindOf (aE f)=aa .globalImplicit)(cJ:args.all cB=ah)(hs:lN C d m A env es args):SE C d m A env (.u (.c f) es) (.Call (.Name (aE f) p) args [] pos):=λW v k=>
 CM (keeps_K (G.k.gfn f hg).2) cJ W G hs v k (λz=>xE G W hg.1 hk (G.k.gfn f hg).1 z) λw vs h1 pvs s1 z e r p k=>Ia G (W.step p) hc (tA z e) r k
theorem VB{name:Str}{t9:Pos}(hb:tj po=ah)(cJ:args.all cB=ah)(gr:args.length<29)(v6:(t9.endLine==pos.line)=ah)
  (h:ay C.M A (c_ po env) (λov aW=>ay C.M A (Pu ov name (do return (<-importBound po env).getD ah)) (λfx eU=>ay C.M A (callWith pos fx.1 fx.2 (ng pos (k8 args env)) []) q E' eU) E' aW) E' s):
  ay C.M A (c_ (.Call (.Attribute po name t9) args [] pos) env) q E' s:=by
 rw[arm_eval_Call,KQ hb];refine ax (fj h (λov aW aU=>?_) λ_ _ e=>e);refine ax (iI ?_);have Fe:G_ (args.length+([]:List Keyword).length) (ng pos (k8 args env)) (backToKw pos (keywordEach [] env))=ah:=by unfold G_;rw[(Bt pos cJ).2];exact decide_eq_true (AM gr)
 have Ff:Ha ah po env t9 pos=pure pos:=by unfold Ha;simp [v6]
 unfold methodCall;rw[Fe];refine ax (dv (fj aU (λfx eU bp=>?_) λ_ _ e=>e));exact ax (jd Ff bp)
theorem MS:∀{l:List (Nat×Nat×Nat)} {c m v:Nat},yC l c m=aa v->(c,m,v)∈l:=by
 intro l;induction l with
 |nil=>exact nofun
 |cons e r ih=>
  intro c m v h;have h:(if e.1=c/\e.2.1=m then aa e.2.2 else yC r c m)=aa v:=h;split at h
  ·rename_i q;cases zF h;refine aC q λe1 e2=>?_;rw[<-e1,<-e2];exact .head _
  ·exact .tail _ (ih h)
theorem Lo{c:Nat}(h:sG d j=ah)(e:iM c j=aa f):nH d au f=ah:=by
 have:=cQ.mp h _ (MS e);rcases qp _ _▸this with z|z
 ·rw[show dU j j=ah from abp j] at z;exact zC z
 ·exact z
theorem Ru(h:nH d au f=ah):nH d m f=ah:=by
 delta nH at h ⊢;rw[aV h];cases m with
 |true=>rfl
 |false=>exact aH h
theorem Z3(G:bU C){mk:MK}(hf:∀f,mk= .fn f->∃c,iM c j=aa f):KC C (vD mk):=by
 cases mk with
 |fn f=>refine e1a1 (hf f rfl) λc e=>?_;refine iX (G.k.aeg c j f e) λ_ _ _ _ q=>?_;exact keeps_K q
 |_=>exact C2 rfl
theorem Ww{t9:Pos}(G:bU C)(hb:tj po=ah)(cJ:args.all cB=ah)(gr:args.length<29)(v6:(t9.endLine==pos.line)=ah)(hm:sG d j=ah)(ho:SE C d m A env o po)(hs:lN C d m A env es args):SE C d m A env (.m o j es) (.Call (.Attribute po (aE j) t9) args [] pos):=λ{ρ h s Q X q E'} W v k=>
 VB hb cJ gr v6 (ho W v (k.to λa h1 x s1 z r p k=>Uw G.k p.hr r (P:=L5 Cl X (vE Cl es X) ρ a Q) z (k.to λmk h2 fx s2 z r2 p2 k=>by
  refine aC r2 λe hf=>?_;rw[e];refine u_ (K:=C.K) (Z3 G hf) cJ (hs pos ((W.step p).step p2) z (k.to λw h3 l s3 z r3 p3 k=>?_));refine e1a2 r3 λvs e r3=>?_;have ra:=(r.st p.hr p2).st p2.hr p3;exact⟨G.k.ady.keeps p3.hr.keep,RW G.k p3.hr W.rm.un ra e r3 z k λf ef z=>by refine e1a1 (hf f ef) λc ef=>?_;exact Ia G (((W.step p).step p2).step p3) (Ru (Lo hm ef)) z (.cons ra r3) k⟩)))
theorem K4(A:bg)(a:aB)(bO:List av):(A.under (.builtin "type.__call__" ⟨.ref a::bO,[]⟩)).depth<=A.depth+3/\(A.under (.builtin "type.__call__" ⟨.ref a::bO,[]⟩)).units<=A.units+11:=by
 constructor
 ·show A.depth+acj _<=_;have:acj (.builtin "type.__call__" ⟨.ref a::bO,[]⟩)=1:=by kernel_rfl
  rw[this];exact ds (by decide) _
 ·show A.units+ack _<=_;have:ack (.builtin "type.__call__" ⟨.ref a::bO,[]⟩)=1:=by kernel_rfl
  rw[this];exact ds (by decide) _
theorem Rr{c:Nat}(G:bU C)(hc:(lA.any λe=>dU e.1 c)=ah)(dq:c≠81)(hm:sG d 14=ah)(W:Wz C d A env ρ h s)(z:IF Cl c vs Q h)(r:VL C s.heap vs pvs)(k:Kt C m A (VR C) h s Q X q E'):ay C.M A (qo (.ref (cT c)) pvs) q E' s:=by
 refine e1a2 (tL z) λf hf z=>?_;refine iX (G.k.aeg c 14 f hf) λ_ _ m3 m4 _=>?_;have hr:=W.hr;have fr:=W.fr;rw[sY.2.2.2.2.2] at m3;have XK:C.K.In s.heap:=G.k.ady.keeps hr.keep;have kk:Kp s.heap ((s.heap.push oY).push (oO (cT c) s.heap.objs.size)):=(Kp.push _ _).trans (Kp.push _ _);have cU:(s.heap.push oY).objs.size=s.heap.objs.size+1:=qi ..;have hx:((s.heap.push oY).push (oO (cT c) s.heap.objs.size)).get? (s.heap.objs.size+1)=aa (oO (cT c) s.heap.objs.size):=by rw[<-cU];exact cV _ rfl
 have Ni:((s.heap.push oY).push (oO (cT c) s.heap.objs.size)).get? s.heap.objs.size=aa oY:=cu _ (cV _ rfl);have hor:OR C ((s.heap.push oY).push (oO (cT c) s.heap.objs.size)) (s.heap.objs.size+1) (.inst c []):=
  ⟨s.heap.objs.size,λ_=>ao,rfl,hx,⟨oY,#[],0,Ni,rfl,rfl,g0 _⟩,⟨oY,#[],0,Ni,rfl,(λe he=>nomatch (Array.not_mem_empty e he)),λn=>rfl⟩,⟨λf v e=>(by exact zA e),λn e=>(by exact zC e)⟩⟩
 refine aC (hr.alloc (m:=m) (W:=No) (n:=s.heap.objs.size+1) (o:=.inst c []) kk (λa ha=>by
  rcases ha with ha|⟨_,ha⟩
  ·exact ha▸oP (gZ _)
  ·exact(jZ ha:a=s.heap.objs.size)▸dM _) hor) λh1 h2=>?_
 have hN:h.get (s.heap.objs.size+1)=ao:=by
  cases w:h.get (s.heap.objs.size+1) with
  |none=>rfl
  |some o=>exact absurd ⟨_,o,w,.inl rfl⟩ (hr.nil (oP (gZ _)))
 have P0:Pt C m No h s (h.put (s.heap.objs.size+1) (.inst c [])) {s with heap:=(s.heap.push oY).push (oO (cT c) s.heap.objs.size)}:=⟨h1,h2,rfl,rfl,rfl⟩;refine AU (make_core (makes_of XK (G.makes c hc dq)) (PF XK m3) (λself=>bind_fn XK self m4) (.inl rfl) ?_);refine aC (K4 A (cT c) pvs) λu3 u4=>?_;have ok:=Ec (Lo hm hf);refine PH ((z _ hN).run C G m (λw=>nomatch ok.2 w) _ {s with heap:=(s.heap.push oY).push (oO (cT c) s.heap.objs.size)} (.ref (s.heap.objs.size+1)::pvs) (W.rm.mono (A':=A.under (.builtin "type.__call__" ⟨.ref (cT c)::pvs,[]⟩)) ok.1 rfl u3 u4) h1 ((W.step P0).fr.of rfl) (.cons (.ref _) (r.mono (TK.of kk))) (λv s'=>v= .none/\q (.ref (s.heap.objs.size+1)) s') E' ⟨λv h' b s' z r p=>?_,λ_ _ _ z=>z.elim⟩) ?_
 ·cases v with
  |none=>exact⟨r.adZ,k.r _ h' _ s' z (.ref _) (P0.trans p)⟩
  |_=>exact z.elim
 ·rintro (e|(v|_|_|_)) s' z <;> exact z
theorem Sj{c:Nat}(G:bU C)(hc:(lA.any λe=>dU e.1 c)=ah)(dq:c≠81)(hl:c<eN)(hm:sG d 14=ah)(hk:env.kindOf (aE c)=aa .globalImplicit)(cJ:args.all cB=ah)(hs:lN C d m A env es args):SE C d m A env (.u (.N c) es) (.Call (.Name (aE c) p) args [] pos):=λW v k=>
 CM (keeps_K (G.cls c hc).2) cJ W G hs v k (λz=>xE G W hl hk (G.cls c hc).1 z) λw vs h1 pvs s1 z e r p k=>Rr G hc dq hm (W.step p) (tA z e) r k
end
structure Ks(C:aY)(d:Nat)(m:Bool)(A:bg)(env:bJ)(O:Mine.Env->Prop)(h:Hp)(s:aA)(Q:PX)(q:nh->aA->Prop)(E:av->aA->Prop):Prop where
 n:∀aO h' s',Q .next aO h'->O aO->Wz C d A env aO h' s'->Pt C m (dc env) h s h' s'->q .next s'
 c:∀aO h' s',Q .cont aO h'->O aO->Wz C d A env aO h' s'->Pt C m (dc env) h s h' s'->q .cont s'
 t:∀v aO h' pv s',Q (.ret v) aO h'->VR C s'.heap v pv->Pt C m (dc env) h s h' s'->q (.ret pv) s'
 x:∀h' e s',kx Q h'->XR C A (dc env) h s h' e s'->E e s'
section
variable (C:aY)(d:Nat)(m:Bool)(A:bg)(env:bJ)
def fJ(b:S)(st:bL):Prop:=∀{ρ h s Q q E},Wz C d A env ρ h s->vS Cl b ρ Q h->Ks C d m A env (de (fG b) ρ) h s Q q E->ay C.M A (Hb st env) q E s
def mo(b:S)(l:List bL):Prop:=∀{ρ h s Q q E},Wz C d A env ρ h s->vS Cl b ρ Q h->Ks C d m A env (de (fG b) ρ) h s Q q E->ay C.M A (execs l env) q E s
end
def Sl(env:bJ)(x:Nat)(a:aB):Prop:=(env.kindOf (aE x)=aa .local/\a=env.locals)\/(env.kindOf (aE x)=aa .cell/\env.cells.lookup (aE x)=aa a)
def LC(env:bJ)(x:Nat):Prop:=x<eN/\(env.kindOf (aE x)=aa .local\/env.kindOf (aE x)=aa .cell)
section
variable {C:aY}{d:Nat}{m:Bool}{A:bg}{env:bJ}{ρ:Mine.Env}{h aU:Hp}{H H':aL}{s aW:aA}{v:V}{pv:av}{Q:PX}{q:nh->aA->Prop}{E':av->aA->Prop}{W':aB->Prop}{x:Nat}{O O':Mine.Env->Prop}{e a b c o i:E}{pe pa pb pc po pi:aN}{pos p:Pos}
theorem Ks.step(k:Ks C d m A env O h s Q q E')(p:Pt C m (dc env) h s aU aW):Ks C d m A env O aU aW Q q E':=
 ⟨λaO h' s' z o w y=>k.n aO h' s' z o w (p.trans y),λaO h' s' z o w y=>k.c aO h' s' z o w (p.trans y),λv aO h' pv s' z r y=>k.t v aO h' pv s' z r (p.trans y),λh' e s' z y=>k.x h' e s' z (p.ad6 y)⟩
theorem Ks.on(k:Ks C d m A env O h s Q q E')(f:∀ρ,O' ρ->O ρ):Ks C d m A env O' h s Q q E':=⟨λaO h' s' z o=>k.n aO h' s' z (f _ o),λaO h' s' z o=>k.c aO h' s' z (f _ o),k.t,k.x⟩
theorem Ks.ex{α β:Type}{R:aL->α->β->Prop}{Q':α->Hp->Prop}{q':β->aA->Prop}(k:Ks C d m A env O h s Q q E')(f:∀a aU b aW,Q' a aU->R aW.heap a b->Pt C m No h s aU aW->Ks C d m A env O aU aW Q q E'->q' b aW):Kt C m A R h s Q' (kx Q) q' E':=
 ⟨λa h' b s' z r p=>f a h' b s' z r p (k.step p.mono),λh' e s' z y=>k.x h' e s' z y.mono⟩
theorem Wz.turn(w:Wz C d A env ρ h s){a:aB}(ha:dc env a)(hs:fV a s.heap H')(hn:∃o,H'.get? a=aa o/\NF o/\NS o):HR C h H'/\gP C A h H'/\TK C s.heap H'/\∀W':aB->Prop,W' a->Tr m W' h s.heap h H':=by
 refine e1a3 (w.er.there ha) λo ho n1 n2=>?_;refine aC (w.er.apart a ha) λa1 a2=>?_;have t:TK C s.heap H':=TK.sameBut ho n2 hs;refine⟨w.hr.frame (λb o' e=>(hs.2 b λz=>by rw[z,a2] at e;exact zA e).trans (w.hr.keep b o' e)) (λb e=>hs.2 b λz=>a1 (z▸e)) t λb q=>?_,w.fr.tr rfl (λl e L o' _ _ _ bN f1 f2 _=>?_) λ_ _ _ _ _ _ _ _ _ n=>n,t,λW' hW=>⟨λb o' e _ n' _=>⟨o'.slots,(hs.2 b λz=>n' (z▸hW)).trans e,λ_=>rfl⟩,λ_ _ _ _ _ e=>e,rfl,λ_ j o' q1 q2=>(hs.2 j λz=>?_).trans q2⟩⟩
 ·(refine aC (w.hr.adI b q) λdN r=>?_;refine e3a2 dN λo' xs n bN hd=>?_)
  exact⟨⟨o',xs,n,(hs.2 b λz=>by rw[z,ho] at bN;cases zF bN;exact n2 _ _ hd).trans bN,hd⟩,r⟩
 ·by_cases z:L=a
  ·exact z▸hn
  ·exact⟨o',(hs.2 L z).trans bN,f1,f2⟩
 ·refine e1a1 (w.hr.adQ j q1) λes e=>?_;exact a1 (z▸⟨j,_,e,.inl rfl⟩)
theorem tJ{y:Nat}{u:V}(e:ρ.set x v y=aa u):(y=x/\u=v)\/(y≠x/\ρ y=aa u):=by
 have e:(if y=x then aa v else ρ y)=aa u:=e;by_cases z:y=x
 ·cases zF ((if_pos z).symm.trans e);exact .inl ⟨z,rfl⟩
 ·rw[if_neg z] at e;exact .inr ⟨z,e⟩
theorem Cq{q:Unit->aA->Prop}(w:Wz C d A env ρ h s)(hx:LC env x)(r:VR C s.heap v pv)(hW:∀a,Sl env x a->W' a)(hQ:∀s',Wz C d A env (ρ.set x v) h s'->Pt C m W' h s h s'->q () s'):ay C.M A (PJ env (aE x) pv) q E' s:=by
 refine aC hx λhx hk=>?_;have fin:∀{H' tk a},dc env a->Sl env x a->fV a s.heap H'->(∃o,H'.get? a=aa o/\NF o/\NS o)->(TK C s.heap H'->ER C env (ρ.set x v) h H')->q () {s with heap:=H',toks:=tk}:=λ{H' tk a} ha hl hs hn he=>by refine f9 (w.turn (m:=m) ha hs hn) λa1 a2 a3 a4=>?_;exact hQ {s with heap:=H',toks:=tk} ⟨w.rm,w.ek,a1,he a3,a2⟩ ⟨a1,a4 W' (hW a hl),rfl,rfl,rfl⟩
 have Nj:∀{n c},env.cells.lookup n=aa c->c≠env.locals:=λ{n c} hl z=>by
  (refine e1a2 (w.er.cells n c hl) λw' bq _=>?_;refine e1a2 bq λo ho hd=>?_)
  (refine e1a2 w.er.loc λM bq _=>?_;refine e3a3 bq λo2 es ep kQ hd2 _=>?_)
  rw[z,kQ] at ho;cases zF ho;rw[hd2] at hd;cases hd
 refine wpAny_bindName ?_;refine e1a2 w.er.loc λM hn kk=>?_;rcases hk with hk|hk
 ·refine wpAny_storeName_local hk hn (λH' rG hs=>?_) (by rw[w.ek.kind];rfl);refine fin (.inl rfl) (.inl ⟨hk,rfl⟩) hs (Ns.data rG) λt=>⟨⟨_,rG,λy u e1 e2 e3=>?_⟩,w.er.adJ,λn c hl=>?_,w.er.apart⟩
  ·rcases tJ e1 with ⟨e,e'⟩|⟨z,e⟩
   ·exact⟨pv,if_pos (congrArg aE e),e'▸r.mono t⟩
   ·refine e1a2 (kk y u e e2 e3) λpw a b=>?_;exact⟨pw,(if_neg λq=>z (nM e2 hx q)).trans a,b.mono t⟩
  ·(refine e1a2 (w.er.cells n c hl) λw' bq k2=>?_;refine e1a2 bq λo ho hd=>?_)
   refine⟨w',⟨o,(hs.2 c (Nj hl)).trans ho,hd⟩,λoa y u e1 e2 e3=>?_⟩;rcases tJ e3 with ⟨e,_⟩|⟨z,e⟩
   ·rw[e1,e,hk] at oa;rcases oa with z|z <;> cases z
   ·refine e1a2 (k2 oa y u e1 e2 e) λpw a b=>?_;exact⟨pw,a,b.mono t⟩
 ·refine e1a1 (w.er.adJ _ (.inl hk)) λc hl=>?_;refine e1a2 (w.er.cells _ c hl) λw' hc _=>?_;refine wpAny_storeName_cell w.ek.kind hk hl hc λH' dq hs=>?_;refine fin (tk:=s.toks) (.inr ⟨_,hl⟩) (.inr ⟨hk,hl⟩) hs (by refine e1a2 dq λo ho hd=>?_;exact⟨o,ho,λvs q=>(by rw[hd] at q;cases q),λxs n q=>by rw[hd] at q;cases q⟩) λt=>⟨⟨M,Ns.at' hn (hs.2 _ λz=>Nj hl z.symm),λy u e1 e2 e3=>?_⟩,w.er.adJ,λn c2 fR=>?_,w.er.apart⟩
  ·rcases tJ e1 with ⟨e,_⟩|⟨z,e⟩
   ·rw[e,hk] at e3;cases e3
   ·refine e1a2 (kk y u e e2 e3) λpw a b=>?_;exact⟨pw,a,b.mono t⟩
  ·by_cases z:n=aE x
   ·rw[z,hl] at fR;cases zF fR;refine⟨aa pv,dq,λ_ y u e1 e2 e3=>?_⟩;have:y=x:=nM e2 hx (e1.symm.trans z);rcases tJ e3 with ⟨_,e⟩|⟨e,_⟩
    ·exact⟨pv,rfl,e▸r.mono t⟩
    ·exact absurd this e
   ·(refine e1a2 (w.er.cells n c2 fR) λw2 bq k2=>?_;refine e1a2 bq λo ho hd=>?_)
    refine⟨w2,⟨o,(hs.2 c2 λq=>z (w.ek.inj n _ c (q▸fR) hl)).trans ho,hd⟩,λoa y u e1 e2 e3=>?_⟩;rcases tJ e3 with ⟨e,_⟩|⟨_,e⟩
    ·exact absurd (e1.trans (congrArg aE e)) z
    ·refine e1a2 (k2 oa y u e1 e2 e) λpw a b=>?_;exact⟨pw,a,b.mono t⟩
theorem YL{it l:aB}{items:List av}(bF:l≠it):∀(n i:Nat) (s:aA) (Q:List av->aA->Prop),s.heap.IsListIter it l i->s.heap.IsList l items.toArray->i+n<=items.length->
  (∀h',h'.IsListIter it l (i+n)->fV it s.heap h'->Q ((items.drop i).take n) {s with heap:=h'})->ay C.M A (draw (.ref it) n) Q E' s:=by
 intro n;induction n with
 |zero=>intro i s Q fi _ _ hQ;exact aQ (hQ s.heap fi (acl ..))
 |succ n ih=>intro i s Q fi hl rF hQ;have cD:i<items.length:=c9 (qf (gw n)) rF;show ay _ _ (ni (.ref it) >>=_) Q E' s;refine ax (Pq fi hl (x:=items[i]) (by simp [cD]) λaU vV ci=>?_);refine ax (dv (ih (i+1) _ _ vV (hl.extBut ci.extBut bF) (by rw[PK];exact rF) λbp aa0 dh=>aQ ?_));have:=hQ bp (by rw[show i+(n+1)=i+1+n from PK i n 1];exact aa0) (ci.trans dh);rw[Pp cD,List.take_succ_cons] at this;exact this
theorem aaq{l:aB}{items:List av}{Q:List av->aA->Prop}(hh:A.handled=ao)(hl:s.heap.IsList l items.toArray)
  (hQ:∀h' tk,Kp s.heap h'->Q items {s with heap:=h',toks:=tk}):ay C.M A (unpackItems (.ref l) items.length ao) Q E' s:=by
 have cD:l<s.heap.objs.size:=by refine e1a2 hl λo ho _=>?_;exact fX ho
 refine ax (ax (oJ hl.typeIs slot_list_iter.lookup ?_));refine aQ ?_;refine ax (dv (Pr hl ?_));refine ax (dv (YL (fE cD) items.length 0 _ _ ⟨_,cV _ rfl,rfl,rfl⟩ (hl.push _) (jD (nb _)) λaU vV ci=>?_));rw[List.drop_zero,List.take_length,if_neg (by simp)];refine ax (dv (Po hh vV ((hl.push _).extBut ci.extBut (fE cD)) (by simp) λbp aa1=>?_));refine aQ (hQ bp s.toks λb o e=>?_);have hb:b≠s.heap.objs.size:=fE (fX e);exact aa1 b o hb (ci.extBut b o hb (cu _ e))
theorem ID{n:Nat}{P:List V->Prop}{q:List av->aA->Prop}(hh:A.handled=ao)(hr:HR C h s.heap)(r:VR C s.heap v pv)(z:sZ v (λvs=>br (dU vs.length n) (P vs) False) h)
  (hQ:∀vs pvs s',vs.length=n->P vs->VL C s'.heap vs pvs->Kp s.heap s'.heap->fZ s s'->q pvs s'):ay C.M A (unpackItems pv n ao) q E' s:=by
 have cut:∀{vs:List V},br (dU vs.length n) (P vs) False->vs.length=n/\P vs:=λ{vs} z=>⟨AV (uW z).1,(uW z).2⟩;rcases sX z r with ⟨j,e,z⟩|z
 ·refine e3a5 (gj hr z) λxs l i ho zz _ _ z=>?_;refine aC (cut z) λhn z=>?_;rw[e,<-hn,zz.len];exact aaq hh (fy ho) λh' tk kk=>hQ xs l {s with heap:=h',toks:=tk} hn z (zz.mono (TK.of kk)) kk ⟨rfl,rfl,rfl⟩
 ·refine e3a6 (pU z r) λxs t l _ e ht zz _ z=>?_;refine aC (cut z) λhn z=>?_;rw[e,show n=l.toArray.size by rw[oR,<-zz.len,hn]];refine unpackItems_tuple hh ht.2 λh' hx=>?_;have kk:Kp s.heap h':=λb o e=>hx b o (fE (fX e)) e;exact hQ xs l {s with heap:=h'} hn z (zz.mono (TK.of kk)) kk ⟨rfl,rfl,rfl⟩
theorem yZ(w:Wz C d A env ρ h s)(hW:∀a,W' a->dc env a)(p:Pt C m W' h s aU aW):TK C s.heap aW.heap:=.tr w.hr p.tr λa o q ho=>by refine e1a3 (w.er.there (hW a q)) λo' bN _ f=>?_;cases zF (ho.symm.trans bN);exact f
theorem yr{a:aB}(z:Sl env x a):dc env a:=z.elim (λz=>.inl z.2) λz=>.inr ⟨_,z.2⟩
inductive Bn(C:aY)(A:bg)(env:bJ):List Nat->List (av->Sem Unit)->Prop
 |nil:Bn C A env [] []
 |cons {x:Nat} {f:av->Sem Unit} {xs:List Nat} {fs:List (av->Sem Unit)}:(∀v Q E (s:aA),ay C.M A (PJ env (aE x) v) Q E s->ay C.M A (f v) Q E s)->Bn C A env xs fs->Bn C A env (x::xs) (f::fs)
theorem K6{q:Unit->aA->Prop}(hW':∀a,W' a->dc env a){xs:List Nat}{fs:List (av->Sem Unit)}(b:Bn C A env xs fs):∀{vs:List V} {pvs:List av} {ρ:Mine.Env} {s:aA},(∀x∈xs,LC env x/\∀a,Sl env x a->W' a)->Wz C d A env ρ h s->VL C s.heap vs pvs->
  (∀s',Wz C d A env (bf xs vs ρ) h s'->Pt C m W' h s h s'->q () s')->ay C.M A (assignInOrder fs pvs) q E' s:=by
 induction b with
 |nil=>exact λ{vs _ _ _} _ w _ hQ=>aQ (hQ _ (by cases vs <;> exact w) ⟨w.hr,.refl,rfl,rfl,rfl⟩)
 |cons f b ih=>
  intro vs pvs ρ s hx w p hQ;cases p with
  |nil=>exact aQ (hQ s w ⟨w.hr,.refl,rfl,rfl,rfl⟩)
  |cons p1 p2=>exact ax (dv (f _ _ _ _ (Cq w (hx _ (.head _)).1 p1 (hx _ (.head _)).2 λs' w' p=>
    ih (λy hy=>hx y (.tail _ hy)) w' (p2.mono (yZ w hW' p)) λrH v7 p'=>hQ rH v7 (p.trans p'))))
end
def nJ(C:aY)(d:Nat)(A:bg)(env:bJ)(W':aB->Prop)(tup:Bool)(ts:List Nat)(t:aN):Prop:=
 ∀{m:Bool} {ρ h s v pv P q E},Wz C d A env ρ h s->VR C s.heap v pv->js tup ts v ρ P h->(∀aO s',P aO->de ts ρ aO->Wz C d A env aO h s'->Pt C m W' h s h s'->q () s')->ay C.M A (oZ t env pv) q E s
theorem Eo{ρ:Mine.Env}{x:Nat}{v:V}:de [x] ρ (ρ.set x v):=λy hy=>if_neg λe=>hy (aZ.mpr e)
theorem de.trans{xs ys:List Nat}{ρ aO Nk:Mine.Env}(a:de xs ρ aO)(b:de ys aO Nk):de (xs++ys) ρ Nk:=λx h=>(b x λq=>h (GI _ q)).trans (a x λq=>h (Hc _ q))
theorem de.adN{xs:List Nat}{ρ:Mine.Env}:de xs ρ ρ:=λ_ _=>rfl
theorem I6:∀{xs:List Nat} {vs:List V} {ρ:Mine.Env},de xs ρ (bf xs vs ρ):=by
 intro xs;induction xs with
 |nil=>intro vs ρ;exact by cases vs <;> exact .adN
 |cons x xs ih=>
  intro vM;cases vM with
  |nil=>intro ρ;exact .adN
  |cons v vs=>intro ρ;exact(Eo (x:=x) (v:=v)).trans ih
theorem XS:∀{xs ys:List Nat} {vs ws:List V} {ρ:Mine.Env},xs.length=vs.length->bf (xs++ys) (vs++ws) ρ=bf ys ws (bf xs vs ρ):=by
 intro xs;induction xs with
 |nil=>
  intro _;intro vN;cases vN with
  |nil=>intro _ _ _;exact rfl
  |cons _ _=>exact nofun
 |cons x xs ih=>
  intro ys;intro vQ;cases vQ with
  |nil=>exact nofun
  |cons v vs=>intro ws ρ h;exact ih (ρ:=ρ.set x v) (jZ h)
theorem TT{ρ:Mine.Env}{x y:Nat}{v w:V}(h:x≠y):(ρ.set x v).set y w=(ρ.set y w).set x v:=by
 funext z
 show(if z=y then aa w else if z=x then aa v else ρ z)=if z=x then aa v else if z=y then aa w else ρ z
 by_cases h1:z=y
 ·rw[if_pos h1,if_neg λq=>h (q.symm.trans h1),if_pos h1]
 ·rw[if_neg h1,if_neg h1]
theorem Vy:∀{xs:List Nat} {vs:List V} {ρ:Mine.Env} {x:Nat} {v:V},x∉xs->bf xs vs (ρ.set x v)=(bf xs vs ρ).set x v:=by
 intro xs;induction xs with
 |nil=>intro vs _ _ _ _;exact by cases vs <;> rfl
 |cons y r ih=>
  intro Fg;cases Fg with
  |nil=>intro _ _ _ _;exact rfl
  |cons w vs=>intro ρ x v h;show bf r vs ((ρ.set x v).set y w)=(bf r vs (ρ.set y w)).set x v;rw[TT λq:x=y=>h (q▸List.Mem.head _),ih λq=>h (.tail _ q)]
theorem TR:∀{xs:List Nat} {vs:List V} {ρ:Mine.Env},xs.Nodup->xs.length=vs.length->bf xs.reverse vs.reverse ρ=bf xs vs ρ:=by
 intro xs;induction xs with
 |nil=>
  intro Fh;cases Fh with
  |nil=>intro _ _ _;exact rfl
  |cons _ _=>exact nofun
 |cons y r ih=>
  intro Fi;cases Fi with
  |nil=>exact nofun
  |cons w vs=>intro ρ hn hl;have hn:=dK.mp hn;have hl:=jZ hl;rw[Au,Au,XS (by rw[qn,qn];exact hl),ih hn.2 hl];exact(Vy hn.1).symm
section
variable {C:aY}{d:Nat}{m:Bool}{A:bg}{env:bJ}{ρ:Mine.Env}{h aU:Hp}{H H':aL}{s aW:aA}{v:V}{pv:av}{Q:PX}{q:nh->aA->Prop}{E':av->aA->Prop}{W':aB->Prop}{x:Nat}{O O':Mine.Env->Prop}{e a b c o i:E}{pe pa pb pc po pi t:aN}{pos p:Pos}{xs:List Nat}{l:List aN}
theorem YS:∀{xs:List Nat} {l:List aN},Bn C A env xs ((Hd (fo xs l) env).map (·.2))/\(Hd (fo xs l) env).length=xs.length/\(Hd (fo xs l) env).findIdx? (·.1)=ao:=by
 intro xs;induction xs with
 |nil=>intro _;exact⟨.nil,rfl,rfl⟩
 |cons x xs ih=>intro l;exact⟨.cons (λv Q E s h=>by show ay C.M A (oZ (.Name (aE x) _) env v) Q E s;rw[PM];exact ax (iI h)) ih.1,congrArg qg ih.2.1,(List.findIdx?_cons ..).trans (by rw[ih.2.2];rfl)⟩
theorem WO:∀{xs:List Nat},Bn C A env xs (xs.map λx=>PJ env (aE x)):=by
 intro xs;induction xs with
 |nil=>exact .nil
 |cons x xs ih=>exact .cons (λ_ _ _ _ h=>h) ih
theorem Ka{k:Nat}(hW:∀a,W' a->dc env a)(hx:∀x∈xs,LC env x/\∀a,Sl env x a->W' a):nJ C d A env W' ah xs (.Tuple (fo xs l) k p):=λ{m ρ h s v pv P q E} w r z f=>by refine be (YS (C:=C) (A:=A) (env:=env) (xs:=xs) (l:=l)) λb1 b2 b3=>?_;rw[arm_assign_Tuple];refine ax (iI ?_);unfold unpack;rw[b2,b3];refine ax (dv (ID w.rm.1 w.hr r z λvs pvs s' hn z' zz kk sm=>?_));have p0:Pt C m No h s h s':=.ad9 w.hr kk sm;exact K6 hW b1 hx (w.step p0) zz λrH v7 p=>f _ rH z' I6 v7 (p0.mono.trans p)
theorem Mj(hx:LC env x)(hW:∀a,Sl env x a->W' a):nJ C d A env W' au [x] (.Name (aE x) p):=λw r z f=>by rw[PM];exact ax (iI (Cq w hx r hW λs' w' p=>f _ s' z Eo w' p))
theorem yM{value:aN}{pos:Pos}(hs:uH value (aa t) pos.line env=pure au)(t_:PN [t] value env=pure ao)(ht:Hd [t] env=[(au,oZ t env)])
  (h:ay C.M A (c_ value env) (λv aW=>ay C.M A (oZ t env v) (λ_=>q .next) E' aW) E' s):ay C.M A (Hb (.Assign [t] value pos) env) q E' s:=by
 rw[arm_exec_Assign];refine ax (iI (ax ?_));rw[show swapsWithSole [t] value pos.line env=pure au from hs];refine aQ ?_;rw[if_neg k7];refine ax (fj h (λv aW aU=>?_) λ_ _ e=>e);rw[t_];refine ax (aQ ?_);rw[ht];show ay C.M A (oZ t env v >>=λ_=>pure .next) q E' aW;exact ax (fj aU (λ_ _ q=>aQ q) λ_ _ e=>e)
theorem EN(h:qH pe=ah)(t:Option aN)(line:Nat):uH pe t line env=pure au:=by cases pe <;> first|rfl|exact zC h
theorem KN(h:∀n p,t≠.Name n p)(line:Nat):uH pe (aa t) line env=pure au:=by cases pe <;> first|rfl|(cases t <;> first|rfl|exact absurd rfl (h _ _))
theorem HU(hx:LC env x)(hc:uH pe (aa (.Name (aE x) p)) pos.line env=pure au)(he:SE C d m A env e pe):fJ C d m A env (.e (.s au [x]) e) (.Assign [.Name (aE x) p] pe pos):=λ{_ _ _ Q _ _} W v k=>
 yM hc rfl rfl (he W v (k.ex λa h1 pv s1 z r p k=>Mj hx (λa=>yr) (W.step p) r (show js au [x] a _ (λρ=>Q .next ρ h1) h1 from z) λaO s' z o w' p'=>k.n _ _ _ z o w' p'))
theorem WG{f:Nat}(G:bU C)(he:SE C d m A env a pa)(ho:SE C d m A env b pb):fJ C d m A env (.e (.a f) (.b .k a b)) (.Assign [.Attribute pb (aE f) p] pa pos):=λ{_ _ _ Q _ _} W v k=>by refine yM (KN (λ_ _ z=>by cases z) _) rfl rfl (he W v (k.ex λa h1 pv s1 z r p k=>?_));rw[arm_assign_Attribute];refine ax (dv (ho (W.step p) z (k.ex λo h2 po s2 z r' p' k=>?_)));exact ax (iI (ax (dv (aaf (Q:=kN _ Q) G.k p'.hr r' (r.st p.hr p') z (k.ex λ_ h3 _ s3 z _ t8 k=>PO (k.n _ _ _ z .adN (((W.step p).step p').step t8) ⟨t8.hr,.refl,rfl,rfl,rfl⟩))))))
theorem RI(hp:s8 pc=ah)(he:SE C d m A env a pa)(ho:SE C d m A env b pb)(hi:SE C d m A env c pc):fJ C d m A env (.e .i (.b .k a (.b .k b c))) (.Assign [.Subscript pb pc p] pa pos):=λ{_ _ _ Q _ _} W v k=>by refine yM (KN (λ_ _ z=>by cases z) _) rfl rfl (he W v (k.ex λa h1 pv s1 z r p k=>?_));rw[arm_assign_Subscript];refine ax (dv (ho (W.step p) z (k.ex λo h2 po s2 z r' p' k=>?_)));refine ax (dv (hi ((W.step p).step p') z (k.ex λi h3 pi s3 z r2 p2 k=>?_)));exact ax (iI (ax (dv (VN (Q:=kN _ Q) p2.hr W.rm.un (r'.st p'.hr p2) r2 ((r.st p.hr p').st p'.hr p2) z (k.ex λ_ h4 _ s4 z _ p3 k=>PO (k.n _ _ _ z .adN ((((W.step p).step p').step p2).step p3) ⟨p3.hr,.refl,rfl,rfl,rfl⟩))))))
theorem Y1(ho:SE C d m A env a pa)(hi:SE C d m A env b pb):fJ C d m A env (.e .d (.b .k a b)) (.Delete [.Subscript pa pb p] pos):=λ{_ _ _ Q _ _} W v k=>by refine wpAny_Delete (wpAny_deleteEach_cons ?_);rw[arm_delete_Subscript];refine ax (ho W v (k.ex λo h2 po s2 z r p k=>?_));refine ax (dv (hi (W.step p) z (k.ex λi h3 pi s3 z r2 p2 k=>?_)));exact ax (iI (ax (dv (XC (Q:=kN _ Q) p2.hr W.rm.un (r.st p.hr p2) r2 z (k.ex λ_ h4 _ s4 z _ p3 k=>PO (wpAny_deleteEach_nil (k.n _ _ _ z .adN (((W.step p).step p2).step p3) ⟨p3.hr,.refl,rfl,rfl,rfl⟩)))))))
theorem WT(hi:AW env=au)(hc:qH pe=ah)(he:SE C d m A env e pe):fJ C d m A env (.e .x e) (.Expr pe pos):=λW v k=>
 wpAny_Expr_any (he W v (k.ex λa h1 pv s1 z r p k=>k.n _ _ _ z .adN (W.step p) ⟨p.hr,.refl,rfl,rfl,rfl⟩)) hi (EN hc _ _)
theorem Yx(he:SE C d m A env e pe):fJ C d m A env (.e .r e) (.Return (aa pe) pos):=λW v k=>
 PP (he W v (k.ex λa h1 pv s1 z r p k=>k.t _ _ _ _ _ z r ⟨p.hr,.refl,rfl,rfl,rfl⟩))
theorem Uu:fJ C d m A env (.e .r (.l .none)) (.Return ao pos):=λW v k=>wpAny_Return_none (k.t _ _ _ _ _ v .none ⟨W.hr,.refl,rfl,rfl,rfl⟩)
theorem Xc:fJ C d m A env .c (.Continue pos):=λW v k=>wpAny_Continue (k.c _ _ _ v .adN W ⟨W.hr,.refl,rfl,rfl,rfl⟩)
theorem Te{sa sb:S}{la lb:List bL}(hc:ST C d m A env c pc)(ha:mo C d m A env sa la)(hb:mo C d m A env sb lb):fJ C d m A env (.i c sa sb) (.If pc la lb pos):=λ{ρ _ _ Q _ _} W v k=>
 wpAny_If (hc (P:=λ_=>ya (vS Cl sa) (vS Cl sb) ρ Q) W v (k.ex λt h1 b s1 z e p k=>by
  obtain ⟨tv,t⟩:=t;have e:t=b:=e;rw[<-e];cases t with
  |true=>exact ha (W.step p) z.1 (k.on λ_ o x hx=>o x λq=>hx (Hc _ q))
  |false=>exact hb (W.step p) z.1 (k.on λ_ o x hx=>o x λq=>hx (GI _ q))))
theorem Uk:mo C d m A env .n []:=λW v k=>He (k.n _ _ _ v .adN W ⟨W.hr,.refl,rfl,rfl,rfl⟩)
theorem Sh{sa sb:S}{st:bL}{l:List bL}(ha:fJ C d m A env sa st)(hb:mo C d m A env sb l):mo C d m A env (.q sa sb) (st::l):=λ{ρ _ _ Q _ _} W v k=>
 xa (ha (Q:=nx (vS Cl sb) Q) W v ⟨λaO h' s' z o w p=>hb w z ((k.step p).on λ_ o'=>de.trans o o'),λaO h' s' z o=>k.c _ _ _ z λx hx=>o x λq=>hx (Hc _ q),λv aO h' pv s' z=>k.t _ _ _ _ _ z,k.x⟩)
end
end Mine
section
set_option backward.match.sparseCases true
namespace Mine
structure mA(A:bg)(env:bJ):Prop where
 top:∃gX,A.frames=aa (env::gX)
 at_:env.frame=aa env.locals
section
variable {M:uv}{A:bg}{E:av->aA->Prop}{s:aA}{env:bJ}{gX:List bJ}{L e:aB}{B:aL}{cls a0:av}
theorem Wa{l:List bJ}{Q:Unit->aA->Prop}(hh:GV B l e cls a0 L s.heap)(hQ:∀h',GV B l e cls a0 L h'->s.heap.UpToSlots h'->Q () {s with heap:=h'}):
  ay M A (setFlight (.ref e) (aa L)) Q E s:=by
 (refine f9 hh λhkb f2 hl aD=>?_;refine e5a9 aD λoe vs T oT ts he ES hd h1 vW Nl hT zL h3=>?_)
 have Nm:3<ts.size:=(PQ.mp h3).1;have zM:∀b,b≠T->(s.heap.update T (xb (·.setIfInBounds 3 ((aa L:Option aB).elim jF λf=>fb f)))).get? b=s.heap.get? b:=
  λb hb=>qj _ _ (eJ hb)
 have Nn:∀b o,s.heap.get? b=aa o->(∀vs,o.data≠.fields vs)->b≠T:=λb o hb rD q=>by rw[q,hT] at hb;injection hb with hb;subst hb;exact rD ts zL
 refine ax (eK he hd h1 ?_);rw[if_pos (show(du T !=jF)=ah from by simp)];refine xc hT zL Nm (hQ _ ⟨λb o Fj=>(zM b λq=>by rw[q,vW] at Fj;exact zA Fj).trans (hkb b o Fj),f2,
  hl.of_keeps λb o hb rD=>⟨o,(zM b (Nn b o hb rD)).trans hb,rfl⟩,?_⟩ λb o hb rD=>⟨o.slots,(zM b (Nn b o hb rD)).trans hb⟩)
 exact⟨oe,vs,T,_,_,(zM e (eJ Nl)).trans he,ES,hd,h1,vW,Nl,i_ _ hT (Hf (r9 zL _)),r9 zL _,by simp [Nm]⟩
theorem B'{Q:Unit->aA->Prop}(mZ:A.frames=aa (env::gX))(hf:env.frame=aa L)(st:sE B (env::gX) e cls a0 s.heap)
  (hQ:∀h',GV B (env::gX) e cls a0 L h'->s.heap.UpToSlots h'->Q () {s with heap:=h'}):ay M A (AX (.ref e) env) Q E s:=by
 rcases st with ⟨k1,k2,k3,oe,vs,he,hc,hd,h0,h1⟩|fl|⟨env',ads,L',e1,e2,hh⟩
 ·subst hc;unfold AX;rw[hf];refine ax (eK he hd h1 ?_);rw[if_neg (by decide)];refine wpAny_entryW mZ k3 hf he k1 k2 hd (PQ.mp h1).1 h0 λh' hN=>?_;refine f9 hN λn1 n2 n3 n4=>?_;exact hQ h' ⟨n1,k2,n2,n3⟩ n4
 ·exact wpAny_looks_onW mZ hf fl hQ
 ·injection e1 with e1 e3
  subst e1;rw[hf] at e2;injection e2 with e2;subst e2
  exact wpAny_noteFrame_againW hf hh.2.2.2 (hQ s.heap hh (aL.UpToSlots.refl _))
theorem Wl(mZ:A.frames=aa (env::gX))(hf:env.frame=aa L)(st:sE B (env::gX) e cls a0 s.heap)
  (hQ:∀h',sE B (env::gX) e cls a0 h'->s.heap.UpToSlots h'->E (.ref e) {s with heap:=h'}):j9 M A env (PR M A env E) (.ref e) s:=by
 refine B' mZ hf st λaU ua v8=>?_;refine e5a5 ua.2.2.2 λoe vs T oT ts he ES hd h1 hr=>?_;refine ax (eK (s:={s with heap:=aU}) he hd h1 ?_);rw[if_neg (show ¬((du T==jF)=ah) from by simp)];rw[hf];exact Wa (s:={s with heap:=aU}) ua λbp aa2 v9=>hQ bp (.inr (.inr ⟨env,gX,L,rfl,hf,aa2⟩)) (v8.trans v9)
theorem V_{Q:Unit->aA->Prop}(mZ:A.frames=aa (env::gX))(hf:env.frame=aa L)(st:sE B (env::gX) e cls a0 s.heap)
  (hQ:∀h',sE B gX e cls a0 h'->s.heap.UpToSlots h'->Q () {s with heap:=h'}):ay M A (leaving env (.ref e)) Q E s:=by
 unfold leaving;refine ax (B' mZ hf st λaU ua v8=>?_);refine wpAny_landsW (s:={s with heap:=aU}) ua λh' n9 v9=>?_
 (refine f9 n9 λk1 k2 dA k4=>?_;refine be dA λ_ _ k3=>?_)
 exact hQ h' (.inr (.inl ⟨k1,k2,k3,k4⟩)) (v8.trans v9)
end
section
variable {C:aY}{d:Nat}{m:Bool}{A:bg}{env:bJ}{ρ:Mine.Env}{h aU:Hp}{H H':aL}{s aW:aA}{v:V}{pv:av}{Q:PX}{q:nh->aA->Prop}{E':av->aA->Prop}{W':aB->Prop}{x:Nat}{O O':Mine.Env->Prop}{e a b c o i:E}{pe pa pb pc po pi t:aN}{pos p:Pos}{xs:List Nat}{l:List aN}
theorem Si{q:Str->Pos->Bool}{f:aN->Option Str}(hf:∀id p,f (.Name id p)=if q id p then aa id else ao):∀{xs:List Nat} {l:List aN},((fo xs l).filterMap f).length<=(fo xs l).length/\(((fo xs l).filterMap f).length=(fo xs l).length->(fo xs l).filterMap f=xs.map aE):=by
 intro xs;induction xs with
 |nil=>intro _;exact⟨bQ _,λ_=>rfl⟩
 |cons x xs n8=>
  intro l;have ih:=n8 (l:=l.tail);show((_::fo xs l.tail).filterMap f).length<=(_::fo xs l.tail).length/\(((_::fo xs l.tail).filterMap f).length=(_::fo xs l.tail).length->(_::fo xs l.tail).filterMap f=_);rw[o0,hf];cases e:q (aE x) (fz l).pos with
  |false=>exact⟨iH ih.1,λz=>absurd (aI (jD (wV z)) ih.1) (Nat.not_succ_le_self _)⟩
  |true=>exact⟨dw ih.1,λz=>congrArg (aE x::·) (ih.2 (jZ z))⟩
theorem xP{α:Type}{c:Prop}[Decidable c]{x a y b:α}(h1:x=a)(h:¬c->y=a\/y=b):(if c then x else y)=a\/(if c then x else y)=b:=by
 by_cases q:c
 ·rw[if_pos q];exact .inl h1
 ·rw[if_neg q];exact h q
theorem Vq{value:aN}{k:Nat}(hc:yP value=ah):PN [.Tuple (fo xs l) k p] value env=pure ao\/PN [.Tuple (fo xs l) k p] value env=pure (aa (xs.map aE)):=by
 cases value with
 |Tuple vs k2 p2=>have v_:=Si (f:=λ| .Name id pos=>if env.kindOf id==aa .local &&pos.line==((fo xs l).head?.map (·.pos.line)).getD 0 then aa id else ao|_=>ao) (λ_ _=>rfl) (xs:=xs) (l:=l);refine xP rfl λ_=>xP rfl λ_=>xP rfl λhl=>xP rfl λhf=>.inr ?_;have hl:=Bool.or_eq_false_iff.mp (Aw.mpr hl);refine(if_neg λFk=>?_).trans (congrArg (λz=>pure (aa z)) (v_.2 (bne_eq_false_iff_eq.mp hl.1)));have q:(!(vs.all (constantsAlone 8))||vs.all (foldedForSure 8))=ah:=hc;rw[Fk] at q;exact hf q
 |_=>exact .inl rfl
theorem Ro{k:Nat}(hnd:xs.Nodup)(hx:∀x∈xs,LC env x)(hc:yP pe=ah)(he:SE C d m A env e pe):fJ C d m A env (.e (.s ah xs) e) (.Assign [.Tuple (fo xs l) k p] pe pos):=λ{ρ _ _ Q q E'} W v kk=>by
 have t_:swapsWithSole [.Tuple (fo xs l) k p] pe pos.line env=pure au:=by show uH pe (aa (.Tuple (fo xs l) k p)) pos.line env=_;cases pe <;> rfl
 have iZ:∀x∈xs,LC env x/\∀a,Sl env x a->dc env a:=λx h=>⟨hx x h,λa=>yr⟩;rcases Vq (env:=env) (xs:=xs) (l:=l) (k:=k) (p:=p) hc with e1|e1
 ·exact yM t_ e1 rfl (he W v (kk.ex λa h1 pv s1 z r p k=>Ka (λ_ h=>h) iZ (W.step p) r (show js ah xs a _ (λρ=>Q .next ρ h1) h1 from z) λaO s' z o w' p'=>k.n _ _ _ z o w' p'))
 ·rw[arm_exec_Assign];refine ax (iI (ax ?_));rw[t_];refine aQ ?_;rw[if_neg k7];refine ax (he W v (kk.ex λa h1 pv s1 z r p k=>?_));rw[e1];refine ax (aQ ?_);unfold assignStores;refine ax (oK (ax ?_));rw[aP];refine ID W.rm.1 p.hr r (show sZ a (λvs=>br (dU vs.length xs.length) (Q .next (bf xs vs ρ) h1) False) h1 from z) λvs pvs s' hn z zz kp sm=>?_;have p0:Pt C m No h1 s1 h1 s':=.ad9 p.hr kp sm;rw[<-acm,iE];refine ax (K6 (q:=λ_ s=>ay C.M A (pure nh.next) q E' s) (λ_ h=>h) (WO (xs:=xs.reverse)) (λx h=>iZ x (acn.mp h)) ((W.step p).step p0) zz.reverse λrH v7 p'=>aQ (k.n (bf xs vs ρ) _ _ z I6 ?_ (p0.mono.trans p')));rw[<-TR hnd hn.symm];exact v7
theorem Tr.slots{W:aB->Prop}(x:Tr ah W h H aU H'){mX:aL}(u:H'.UpToSlots mX):Tr ah W h H aU mX:=⟨λa o e n w k=>by refine e1a2 (x.keep a o e n w k) λsl hs _=>?_;refine e1a1 (u a _ hs (k rfl)) λsl' c7=>?_;exact⟨sl',c7,λq=>nomatch q⟩,x.new,x.lk,λq=>nomatch q⟩
theorem XR.owned(F:mA A env){W:aB->Prop}{ex:av}(x:XR C A W h s aU ex aW)(hE:∀s',XR C A W h s aU ex s'->E' ex s'):j9 C.M A env (PR C.M A env E') ex aW:=by
 (refine be x λg sm aD=>?_;refine e4a4 aD λea a0 B l e hr hl st=>?_)
 refine e1a1 F.top λgX ho=>?_;cases zF (ho.symm.trans hl);rw[e];exact Wl ho F.at_ st λh' iz u=>e▸hE {aW with heap:=h'} ⟨g.slots u,sm,ea,a0,B,_,e,hr,ho,iz⟩
def De(M:uv)(A:bg)(env:bJ)(Q:nh->aA->Prop)(E:av->aA->Prop)(r:rX)(s':aA):Prop:=match r with
 | .ok f=>Q f s'
 | .error e=>PR M A env E e s'
theorem YU{R:rX->aA->Prop}{body:List bL}(turn:ay C.M A (rZ pc env (c_ pc env)) (λb eU=>
    if b then ay C.M A (execs body env) (λf fQ=>match f with
      | .next | .cont=>gG C.M A (.whileLoop pc body [] env) R fQ
      | .brk=>R (.ok .next) fQ
      | .ret v=>R (.ok (.ret v)) fQ) (j9 C.M A env λe s'=>R (.error e) s') eU
    else R (.ok .next) eU) (j9 C.M A env λe s'=>R (.error e) s') s):gG C.M A (.whileLoop pc body [] env) R s:=by
 refine AY ?_;show ay _ A ((whileTurn pc body [] env).onRaise (λx=>do AX x env;PU x)) _ _ s;refine PW ?_;refine ax (fj turn (λb eU bp=>?_) λ_ _ h'=>h');cases b with
 |false=>exact ax (He (aQ bp))
 |true=>
  refine ax (fj bp (λf fQ c8=>?_) λ_ _ h'=>h');cases f with
  |next=>exact aQ ⟨rfl,c8⟩
  |cont=>exact aQ ⟨rfl,c8⟩
  |brk=>exact aQ c8
  |ret v=>exact aQ c8
theorem XN{sb:S}{lb:List bL}(hc:ST C d m A env c pc)(hb:mo C d m A env sb lb):fJ C d m A env (.w c sb) (.While pc lb [] pos):=λ{ρ h s Q q E'} W v k=>by
 refine wpAny_While ((v λaO h'=>∀s',de (fG sb) ρ aO->Wz C d A env aO h' s'->Pt C m (dc env) h s h' s'->gG C.M A (.whileLoop pc lb [] env) (De C.M A env q E') s') ?_ s .adN W ⟨W.hr,.refl,rfl,rfl,rfl⟩);intro aO h' v s' o W p;refine YU (hc (P:=λ_=>kW (fG sb) (vS Cl sb) _ Q aO) W v ⟨λt h1 b s1 z e p1=>?_,λ_ _ _ z=>z.elim⟩);obtain ⟨tv,t⟩:=t;have e:t=b:=e;have p2:=p.trans p1.mono;rw[<-e];cases t with
 |false=>exact k.n _ _ _ z.1 o (W.step p1) p2
 |true=>refine hb (W.step p1) z.1 ⟨λNp h2 s2 z o' w p3=>z o' s2 ?_ w (p2.trans p3),λNp h2 s2 z o' w p3=>z o' s2 ?_ w (p2.trans p3),λv Np h2 pv s2 z r p3=>k.t _ _ _ _ _ z r (p2.trans p3),λ_ _ _ z=>z.elim⟩;all_goals exact λx hx=>(o' x hx).trans (o x hx)
end
end Mine
end
namespace Mine
def kJ(C:aY)(fp:aB->Prop)(H H':aL):Prop:=(∀b o,¬fp b->H.get? b=aa o->H'.get? b=aa o)/\∀b,fp b->C.pr b->∃o xs n,H'.get? b=aa o/\o.data= .seq xs n
structure iV(C:aY)(A:bg)(target:aN)(I:aB)(fp:aB->Prop)(src:Option (Nat×O))(St:List V->aL->Prop)(Md:List V->av->aL->Prop):Prop where
 frame:∀l H H',St l H->(∀b,fp b->H'.get? b=H.get? b)->TK C H H'->(∀n o,iW src=aa n->H.get? n=aa o->H'.get? n=aa o)->St l H'
 alive:∀l H,St l H->∀b,fp b->H.get? b≠ao/\∀dI,¬bR C H b dI
 adX:∀l pv H,Md l pv H->∀b,fp b->H.get? b≠ao/\∀dI,¬bR C H b dI
 item:∀{v:V} {l:List V} {h:Hp} {s:aA} {q:Option av->aA->Prop} {E:av->aA->Prop},je src h->HR C h s.heap->St (v::l) s.heap->
  (∀pv H' tk,Md l pv H'->VR C H' v pv->kJ C fp s.heap H'->q (aa pv) {s with heap:=H',toks:=tk})->ay C.M A (ni (.ref I)) q E s
 go:∀{l:List V} {pv:av} {s:aA} {q:Unit->aA->Prop} {E:av->aA->Prop},Md l pv s.heap->(∀H',St l H'->kJ C fp s.heap H'->q () {s with heap:=H'})->ay C.M A (Hg target (.ref I) pv) q E s
 done:∀{h:Hp} {s:aA} {q:Option av->aA->Prop} {E:av->aA->Prop},je src h->HR C h s.heap->St [] s.heap->(∀H' tk,kJ C fp s.heap H'->q ao {s with heap:=H',toks:=tk})->ay C.M A (ni (.ref I)) q E s
 self:∀{l:List V} {s:aA} {q:av->aA->Prop} {E:av->aA->Prop},St l s.heap->q (.ref I) s->ay C.M A (Hh (.ref I)) q E s
def Pv(C:aY)(A:bg)(env:bJ)(h:Hp)(fp:aB->Prop):Prop:=∀b,fp b->¬b9 h b/\C.h₀.get? b=ao/\¬dc env b/\∀l,A.frames=aa l->∀e∈l,e.frame≠aa b
section
variable {C:aY}{d:Nat}{m:Bool}{A:bg}{env:bJ}{ρ Fo:Mine.Env}{h h₀ aU:Hp}{H H':aL}{s s₀ aW:aA}{Q:PX}{q:nh->aA->Prop}{E':av->aA->Prop}{W':aB->Prop}{fp:aB->Prop}
theorem Pv.step(x:Pv C A env h fp)(t:Tr au W' h H aU H')(al:∀b,fp b->H.get? b≠ao)(hW:∀b,fp b->¬W' b):Pv C A env aU fp:=λb hb=>by refine aC (x b hb) λa1 a2=>?_;refine e1a1 (uI.mp (al b hb)) λo ho=>?_;exact⟨λq=>a1 (t.new b o ho (hW b hb) (λq=>nomatch q) q),a2⟩
theorem lg(w:Wz C d A env ρ h s)(p:Pv C A env h fp)(k:kJ C fp s.heap H')(nt:∀b,fp b->∀dI,¬bR C s.heap b dI){tk:Nat}:Wz C d A env ρ h {s with heap:=H',toks:=tk}/\TK C s.heap H':=by
 have t:TK C s.heap H':=λa l x=>by
  (refine aC (id x) λn aD=>?_;refine e1a2 aD λo ho r=>?_)
  exact⟨n,o,k.1 a o (λq=>nt a q l x) ho,r⟩
 refine⟨⟨w.rm,w.ek,w.hr.frame (λb o e=>k.1 b o (λq=>by exact zA (((p b q).2.1).symm.trans e)) (w.hr.keep b o e)) (λa e=>?_) t (λa q=>?_),w.er.tr rfl t (λa o ha ho=>⟨o.slots,k.1 a o (λq=>(p a q).2.2.1 ha) ho⟩) λa ha=>(w.er.apart a ha).1,w.fr.tr rfl (λl e L o hl he hL ho f1 f2 _=>⟨o,k.1 L o (λq=>(p L q).2.2.2 l hl e he hL) ho,f1,f2⟩) λ_ _ _ _ _ _ _ _ _ n=>n⟩,t⟩
 ·refine e1a2 (w.hr.there e) λo ho _=>?_;rw[ho,k.1 a o (λq=>(p a q).1 e) ho]
 ·(refine aC (w.hr.adI a q) λdN r=>?_;refine e3a2 dN λo xs n ho hd=>?_)
  by_cases z:fp a
  ·exact⟨k.2 a z q,r⟩
  ·exact⟨⟨o,xs,n,k.1 a o z ho,hd⟩,r⟩
theorem Pt.off(p:Pt C m W' h₀ s₀ h s)(fr:∀b,fp b->s₀.heap.get? b=ao)(k:kJ C fp s.heap H')(hr:HR C h H'){tk:Nat}:Pt C m W' h₀ s₀ h {s with heap:=H',toks:=tk}:=by
 have nf:∀{a o},s₀.heap.get? a=aa o->¬fp a:=λ{a o} e q=>by exact zA ((fr a q).symm.trans e)
 refine⟨hr,⟨λa o e n w f=>?_,p.tr.new,p.tr.lk,λq n o e1 e2=>k.1 n o (nf e2) (p.tr.pin q n o e1 e2)⟩,p.sm⟩;refine e1a2 (p.tr.keep a o e n w f) λsl e1 e2=>?_;exact⟨sl,k.1 a _ (nf e) e1,e2⟩
theorem KV{R:rX->aA->Prop}{target:aN}{it:av}{body:List bL}(turn:ay C.M A (ni it) (λr aW=>match r with
   |none=>R (.ok .next) aW
   |some v=>ay C.M A (Hg target it v) (λ_ wa=>
     ay C.M A (oZ target env v) (λ_ eU=>ay C.M A (execs body env) (λf fQ=>match f with
      | .next | .cont=>gG C.M A (.forLoop target it body [] env) R fQ
      | .brk=>R (.ok .next) fQ
      | .ret v=>R (.ok (.ret v)) fQ) (j9 C.M A env λe s'=>R (.error e) s') eU) (j9 C.M A env λe s'=>R (.error e) s') wa) (j9 C.M A env λe s'=>R (.error e) s') aW) (j9 C.M A env λe s'=>R (.error e) s') s):
  gG C.M A (.forLoop target it body [] env) R s:=by
 refine AY ?_;show ay _ A ((forTurn target it body [] env).onRaise (λx=>do AX x env;PU x)) _ _ s;refine PW ?_;refine ax (iI (ax (AZ (fj turn (λr aW aU=>?_) λ_ _ h'=>iI h'))));cases r with
 |none=>exact aQ ⟨rfl,codeAny_block (He aU)⟩
 |some v=>
  refine ax (fj aU (λ_ wa Fq=>?_) λ_ _ h'=>h');refine ax (fj Fq (λ_ eU bp=>ax (fj bp (λf fQ c8=>?_) λ_ _ h'=>h')) λ_ _ h'=>h');cases f with
  |next=>exact aQ ⟨rfl,c8⟩
  |cont=>exact aQ ⟨rfl,c8⟩
  |brk=>exact aQ c8
  |ret v=>exact aQ c8
theorem yx{target:aN}{I:aB}{src:Option (Nat×O)}{St:List V->aL->Prop}{Md:List V->av->aL->Prop}{l:List V}(It:iV C A target I fp src St Md)(st:St l H)(pv:Pv C A env h fp)(t:Tr au W' h H aU H')(hW:∀b,fp b->¬W' b)(k:TK C H H')(L:∀n,iW src=aa n->h.lk=aa n):St l H':=
 It.frame _ _ _ st (λb hb=>by refine e1a1 (uI.mp (It.alive _ _ st b hb).1) λo ho=>?_;rw[ho,t.ad5 ho (pv b hb).1 (hW b hb)]) k λn o e e1=>t.pin rfl n o (L n e) e1
theorem YG{target:aN}{I:aB}{src:Option (Nat×O)}{St:List V->aL->Prop}{Md:List V->av->aL->Prop}{tup:Bool}{ts:List Nat}{b:S}{pb:List bL}(F:mA A env)(It:iV C A target I fp src St Md)(wc:nJ C d A env (dc env) tup ts target)(hb:mo C d au A env b pb)
  (fr:∀b,fp b->s₀.heap.get? b=ao) (K:Ks C d au A env (de (ts++fG b) Fo) h₀ s₀ Q q E'):∀(l:List V) {ρ:Mine.Env} {h:Hp} {s:aA},Wz C d A env ρ h s->Pv C A env h fp->(∀n,iW src=aa n->h.lk=aa n)->St l s.heap->Pt C au (dc env) h₀ s₀ h s->de (ts++fG b) Fo ρ->mr tup ts (ts++fG b) (vS Cl b) src Q l ρ h->
  gG C.M A (.forLoop target (.ref I) pb [] env) (De C.M A env q E') s:=by
 intro l;induction l with
 |nil=>
  intro ρ h s w pv _ st P o v;exact KV (It.done v.1 w.hr st λH' tk ko=>by refine aC (lg w pv ko (λb hb=>(It.alive _ _ st b hb).2) (tk:=tk)) λw' _=>?_;exact K.n _ _ _ v.2 o w' (P.off fr ko w'.hr))
 |cons x r ih=>
  intro ρ h s w pv L st P o v;exact KV (It.item v.1 w.hr st λpx H1 jW md t7 ko=>by
     refine aC (lg w pv ko (λb hb=>(It.alive _ _ st b hb).2) (tk:=jW)) λw1 _=>?_;refine It.go (s:={s with heap:=H1,toks:=jW}) md λH2 rI uc=>?_;refine aC (lg w1 pv uc (λb hb=>(It.adX _ _ _ md b hb).2) (tk:=jW)) λw2 t2=>?_;have P2:=(P.off fr ko w1.hr (tk:=jW)).off fr uc w2.hr (tk:=jW);have nW:∀b,fp b->¬dc env b:=λb hb=>(pv b hb).2.2.1;refine wc (m:=au) w2 (t7.mono t2) v.2 λzN s3 z3 o3 w3 p3=>?_;have al2:=λb hb=>(It.alive _ _ rI b hb).1;have we:=yx It rI pv p3.tr nW (yZ w2 (λ_ h=>h) p3) L;have ud:=pv.step p3.tr al2 nW;have nx:∀{aO h' s'},(de (ts++fG b) ρ aO->mr tup ts (ts++fG b) (vS Cl b) src Q r aO h')->de (fG b) zN aO->Wz C d A env aO h' s'->Pt C au (dc env) h s3 h' s'->gG C.M A (.forLoop target (.ref I) pb [] env) (De C.M A env q E') s':=λ{aO h' s'} z o' w' p'=>
      ih w' (ud.step p'.tr (λb hb=>(It.alive _ _ we b hb).1) nW) (λn e=>(p'.tr.lk.trans p3.tr.lk).trans (L n e)) (yx It we ud p'.tr nW (yZ w3 (λ_ h=>h) p') λn e=>p3.tr.lk.trans (L n e)) (P2.trans (p3.trans p')) (λx hx=>((o3.trans o') x hx).trans (o x hx)) (z (o3.trans o'))
     exact hb w3 z3 ⟨λaO h' s' z o' w' p'=>nx z o' w' p',λaO h' s' z o' w' p'=>nx z o' w' p',λv aO h' pv s' z r p'=>K.t _ _ _ _ _ z r (P2.trans (p3.trans p')),λh' e s' z x=>XR.owned F ((P2.trans p3).ad6 x) λrH x=>K.x _ _ _ z x⟩)
end
end Mine
section
set_option backward.match.sparseCases true
namespace Mine
theorem sC{α:Type}:∀{l:List α} {i:Nat} {v:α} {r:List α},l.drop i=v::r->l[i]? =aa v/\l.drop (i+1)=r:=by
 intro l;induction l with
 |nil=>intro i _ _ e;exact by rw[aco] at e;cases e
 |cons a l ih=>
  intro Fr;cases Fr with
  |zero=>intro _ _ e;exact by cases e;exact⟨rfl,rfl⟩
  |succ i=>intro _ _ e;exact ih (i:=i) e
def H5(C:aY)(A:bg)(target:aN)(aW:aA)(src:Option (Nat×O))(l:List V)(q:av->aA->Prop):Prop:=
 ∀(X':aB->Prop) I fp St Md H' tk,(∀b,fp b->aW.heap.get? b=ao)->Kp aW.heap H'->(∀a,C.pr a->X' a)->(∀a,X' a->C.pr a\/(fp a/\∃o xs n,H'.get? a=aa o/\o.data= .seq xs n))->iV (C.x X') A target I fp src St Md->St l H'->q (.ref I) {aW with heap:=H',toks:=tk}
section
variable {C:aY}{d:Nat}{m:Bool}{A:bg}{h:Hp}{H H':aL}{s:aA}{q:av->aA->Prop}{E':av->aA->Prop}{I a t:aB}{n:Nat}{items:List V}{pl:List av}{es:List (V×V)}{target:aN}{v:V}{pv:av}
theorem uX{o:Obj}{T:String}(ho:s.heap.get? I=aa o)(hc:o.cls= .type T)(hT:(["enumerate","zip","dict_itemiterator","dict_reverseitemiterator","odict_iterator","itertools.zip_longest","itertools.pairwise"]:List String).contains T=au)
  {Q:Unit->aA->Prop} (hQ:Q () s):ay C.M A (Hg target (.ref I) pv) Q E' s:=by
 have key:ay C.M A (do
   let (.ref r,.ref a):=(du I,pv)|return
   let o<-load r
   match o.cls,o.data with
   | .type n,.fields vs=>
    if(["enumerate","zip","dict_itemiterator","dict_reverseitemiterator","odict_iterator","itertools.zip_longest","itertools.pairwise"]:List String).contains n&&vs[0]? ==aa (fb a) then
     rule "for.unpacks-the-owned-tuple"
     updateField r 0 .none
   |_,_=>pure ()) Q E' s:=by
  cases pv with
  |ref a=>
   refine ax (wpAny_load ho ?_);rw[hc];cases hd:o.data with
   |fields vs=>dsimp only;rw[hT];exact aQ hQ
   |_=>exact aQ hQ
  |_=>exact aQ hQ
 cases target <;> first|exact key|exact aQ hQ
theorem hV(hs:PY I H H')(hI:¬C.pr I):kJ C (· =I) H H':=⟨λb o hb e=>hs b o hb e,λb hb hp=>absurd (hb▸hp) hI⟩
theorem iT{T:String}{o:Obj}(ho:H.get? I=aa o)(hc:o.cls= .type T)(hT:T≠"tuple"):∀b,b=I->H.get? b≠ao/\∀dI,¬bR C H b dI:=λb hb=>by
 rw[hb];refine⟨by rw[ho];exact λq=>(nomatch q),λdI q=>?_⟩
 (refine aC q λ_ aD=>?_;refine e1a3 aD λo' bN dq _=>?_)
 cases zF (ho.symm.trans bN);rw[hc] at dq;injection dq with e;exact hT e
theorem yo{T:String}{o:Obj}(ho:H.get? I=aa o)(hc:o.cls= .type T)(hT:T≠"tuple")(hs:fV I H H'):TK C H H':=λb l yy=>aC yy λp aD=>e1a3 aD λob wg Fs r=>
 ⟨p,ob,(hs.2 b λz=>by rw[z,ho] at wg;cases zF wg;rw[hc] at Fs;injection Fs with e;exact hT e).trans wg,Fs,r⟩
theorem VC(hh:A.handled=ao)(hI:¬C.pr I):iV C A target I (· =I) (aa (n,.list items)) (λl H=>∃i,H.IsListIter I n i/\items.drop i=l) (λl _ H=>∃i,H.IsListIter I n i/\items.drop i=l) where
 frame:=λl H H' yy=>e1a2 yy λi st e k _ _=>⟨i,st.at λo q=>(k I rfl).trans q,e⟩
 alive:=λl H yy=>e1a2 yy λi bq _=>e1a3 bq λo ho hc _=>iT ho hc (by decide)
 adX:=λl _ H yy=>e1a2 yy λi bq _=>e1a3 bq λo ho hc _=>iT ho hc (by decide)
 item:=λ{v l h s q E} og hr yy=>e1a2 yy λi st e hQ=>by
  refine aC (sC e) λe1 e2=>?_
  (refine aC (hr.obj n _ (og _ rfl)) λ_ aD=>?_;refine e2a2 aD λpl k ho zz=>?_)
  refine e1a2 (zz.get e1) λy hy r=>?_;refine Pq st (fy ho) (x:=y) (by rw[gF];exact hy) λh' iz c7=>?_;refine e1a3 st λo ho hc _=>?_;exact hQ y h' s.toks ⟨i+1,iz,e2⟩ (r.mono (yo ho hc (by decide) c7)) (hV c7.extBut hI)
 go:=λ{l pv s q E} md hQ=>by
  (refine e1a2 (id md) λi bq _=>?_;refine e1a3 bq λo ho hc _=>?_)
  exact uX ho hc (by decide) (hQ s.heap md (hV (λ_ _ _ e=>e) hI))
 done:=λ{h s q E} og hr yy=>e1a2 yy λi st e hQ=>by
  (refine aC (hr.obj n _ (og _ rfl)) λ_ aD=>?_;refine e2a2 aD λpl k ho zz=>?_)
  exact Po hh st (fy ho) (by rw[gF];exact oB (zz.len▸uD.mp e)) λh' hx=>hQ h' s.toks (hV hx hI)
 self:=λ{l s q E} yy=>e1a2 yy λi st _ hQ=>wpAny_pyIter_listiter st hQ
theorem Xy(hh:A.handled=ao)(hI:¬C.pr I):iV C A target I (· =I) ao (λl H=>∃i,dL H I t i/\bR C H t pl/\VL C H items pl/\items.drop i=l) (λl _ H=>∃i,dL H I t i/\bR C H t pl/\VL C H items pl/\items.drop i=l) where
 frame:=λl H H' yy=>e1a4 yy λi bq z1 z2 e=>e1a2 bq λo ho r k tk _=>⟨i,⟨o,(k I rfl).trans ho,r⟩,tk _ _ z1,z2.mono tk,e⟩
 alive:=λl H yy=>e1a2 yy λi bq _=>e1a3 bq λo ho hc _=>iT ho hc (by decide)
 adX:=λl _ H yy=>e1a2 yy λi bq _=>e1a3 bq λo ho hc _=>iT ho hc (by decide)
 item:=λ{v l h s q E} _ hr yy=>e1a4 yy λi st z1 z2 e hQ=>by refine aC (sC e) λe1 e2=>?_;refine e1a2 (z2.get e1) λy hy r=>?_;refine next_tuple_item st z1.2 (x:=y) (by rw[gF];exact hy) λh' iz c7=>?_;refine e1a3 st λo ho hc _=>?_;have tk:=yo (C:=C) ho hc (by decide) c7;exact hQ y h' s.toks ⟨i+1,iz,tk _ _ z1,z2.mono tk,e2⟩ (r.mono tk) (hV c7.extBut hI)
 go:=λ{l pv s q E} md hQ=>by
  (refine e1a2 (id md) λi bq _=>?_;refine e1a3 bq λo ho hc _=>?_)
  exact uX ho hc (by decide) (hQ s.heap md (hV (λ_ _ _ e=>e) hI))
 done:=λ{h s q E} _ hr yy=>e1a4 yy λi st z1 z2 e hQ=>next_tuple_end hh st z1.2 (by rw[gF];exact oB (z2.len▸uD.mp e)) λh' hx=>hQ h' s.toks (hV hx hI)
 self:=λ{l s q E} yy=>e1a2 yy λi st _ hQ=>wpAny_pyIter_tupleiter st hQ
theorem YH(hh:A.handled=ao)(hI:¬C.pr I):iV C A target I (· =I) ao (λl H=>∃i:Nat,IsRangeIter H I i ((n:Int)-i) 1/\i<=n/\((jE n).map λ(i:Nat)=>V.int (i:Int)).drop i=l) (λl _ H=>∃i:Nat,IsRangeIter H I i ((n:Int)-i) 1/\i<=n/\((jE n).map λ(i:Nat)=>V.int (i:Int)).drop i=l) where
 frame:=λl H H' yy=>e1a2 yy λi st e k _ _=>⟨i,(k I rfl).trans st,e⟩
 alive:=λl H yy=>e1a2 yy λi st _=>iT st rfl (by decide)
 adX:=λl _ H yy=>e1a2 yy λi st _=>iT st rfl (by decide)
 item:=λ{v l h s q E} _ hr yy=>e1a3 yy λi st hi e hQ=>by
  refine aC (sC e) λe1 e2=>?_;have cD:i<n:=by have:=(i8.mp e1).1;rwa [aP,nj] at this
  rw[qq,List.getElem?_range cD] at e1;cases zF e1;refine wpAny_pyNext_range_item st (Int.sub_pos_of_lt (gC.mpr cD)) λh' iz c7=>?_;exact hQ _ h' (s.toks+1) ⟨i+1,by rw[show((i+1:Nat):Int)=(i:Int)+1 from rfl,show((n:Int)-((i:Int)+1))=(n:Int)-i-1 from(Hi _ _ _).symm];exact iz,cD,e2⟩ (.int _ _) (hV c7.extBut hI)
 go:=λ{l pv s q E} md hQ=>by refine e1a2 (id md) λi st _=>?_;exact uX st rfl (by decide) (hQ s.heap md (hV (λ_ _ _ e=>e) hI))
 done:=λ{h s q E} _ hr yy=>e1a3 yy λi st hi e hQ=>by have:=uD.mp e;rw[aP,nj] at this;exact wpAny_pyNext_range_end hh st (Int.sub_nonpos_of_le (abP.mpr this)) λh' hx=>hQ h' s.toks (hV hx hI)
 self:=λ{l s q E} yy=>e1a2 yy λi st _ hQ=>wpAny_pyIter_rangeiter st hQ
theorem ZR{kvs:List (Int×av)}(x:DL C H nY kvs es):es.map (·.1)=kvs.map λp=>V.int p.1:=by
 induction x with
 |nil=>rfl
 |cons a _ _ ih=>rw[bW,bW,ih];exact congrArg (·::_) a
theorem Ur(hh:A.handled=ao)(hI:¬C.pr I){od:Obj}{kvs:List (Int×av)}{ep:Nat}(ha:a≠I)(l8:∀H:aL,H.get? a=aa od->H.DictAt (rQ C.prog C.w) a kvs ep)(hk:es.map (·.1)=kvs.map λp=>V.int p.1):
  iV C A target I (· =I) (aa (a,.dict es)) (λl H=>∃i,H.IsKeyIter I a i kvs.length ep/\H.get? a=aa od/\(es.map (·.1)).drop i=l) (λl _ H=>∃i,H.IsKeyIter I a i kvs.length ep/\H.get? a=aa od/\(es.map (·.1)).drop i=l) where
 frame:=λl H H' yy=>e1a3 yy λi bq z e=>e1a2 bq λo ho r k _ L=>⟨i,⟨o,(k I rfl).trans ho,r⟩,L a od rfl z,e⟩
 alive:=λl H yy=>e1a2 yy λi bq _=>e1a3 bq λo ho hc _=>iT ho hc (by decide)
 adX:=λl _ H yy=>e1a2 yy λi bq _=>e1a3 bq λo ho hc _=>iT ho hc (by decide)
 item:=λ{v l h s q E} _ hr yy=>e1a3 yy λi st z e hQ=>by
  refine aC (sC e) λe1 e2=>?_;rw[hk,qq] at e1
  (refine e1a2 (iD.mp e1) λdN e3 e4=>?_;obtain ⟨k,x⟩:=dN)
  refine wpAny_pyNext_dict_item st (l8 _ z) e3 λkey h' vP iz c7=>?_;refine hQ key h' s.toks ⟨i+1,iz,(c7.2 a ha).trans z,e2⟩ ?_ (hV c7.extBut hI);rw[<-e4];cases key with
  |int j t=>rw[show j=k from eq_of_beq vP];exact .int _ _
  |_=>exact zC vP
 go:=λ{l pv s q E} md hQ=>by
  (refine e1a2 (id md) λi bq _=>?_;refine e1a3 bq λo ho hc _=>?_)
  exact uX ho hc (by decide) (hQ s.heap md (hV (λ_ _ _ e=>e) hI))
 done:=λ{h s q E} _ hr yy=>e1a3 yy λi st z e hQ=>by rw[hk] at e;exact wpAny_pyNext_dict_end hh st (l8 _ z) (oB (by rw[<-aP (f:=λp:Int×av=>V.int p.1)];exact uD.mp e)) λh' hx=>hQ h' s.toks (hV hx hI)
 self:=λ{l s q E} yy=>e1a2 yy λi st _ hQ=>wpAny_pyIter_keyiter st hQ
theorem K_{K:Option (Nat×O)->List V->Prop}(G:C.Ok)(hh:A.handled=ao)(hr:HR C h s.heap)(r:VR C s.heap v pv)(z:ke v K h)(hQ:∀src l,K src l->(∀n o,src=aa (n,o)->h.get n=aa o)->l.length<=2*aG->H5 C A target s src l q):ay C.M A (Hh pv) q E' s:=by
 have fr:∀b,b=s.heap.objs.size->s.heap.get? b=ao:=λb e=>e▸dM _;have nI:=hr.adH (dM s.heap);have Ft:∀{H':aL} {fp:aB->Prop} a,C.pr a->C.pr a\/(fp a/\∃o xs n,H'.get? a=aa o/\o.data= .seq xs n):=λ_ z=>.inl z;rcases sX z r with ⟨n,e,z|z⟩|z
 ·refine e3a5 (gj hr z) λxs l k ho zz hl eg z=>?_;rw[e];exact Pr (fy ho) (hQ _ _ z (λn o e=>by cases e;exact eg) hl C.pr _ _ _ _ _ s.toks fr (Kp.push _ _) (λ_ z=>z) Ft (VC hh nI) ⟨0,⟨_,cV _ rfl,rfl,rfl⟩,rfl⟩)
 ·refine e1a5 (n5 hr z) λes hd hl eg hk z=>?_;refine e1a2 (hd.toI hk) λkvs hd adD=>?_;refine e1a1 hd.dictAt λep l8=>?_;refine e2a2 (id l8) λod ens ho wh=>?_;rw[e];exact wpAny_pyIter_dict (sR G hr eg) l8 (hQ _ _ z (λn o e=>by cases e;exact eg) (by rw[aP];exact hl) C.pr _ _ _ _ _ s.toks fr (Kp.push _ _) (λ_ z=>z) Ft (Ur hh nI (fE (fX ho)) (λH e=>⟨od,ens,e,wh⟩) (ZR adD)) ⟨0,⟨_,cV _ rfl,rfl,rfl⟩,Kp.push _ _ _ _ ho,rfl⟩)
 ·refine e3a6 (pU z r) λxs t l _ e ht zz hl z=>?_;rw[e];exact PZ ht.2 (hQ _ _ z (λn o e=>nomatch e) (zz.len▸hl) C.pr _ _ _ _ _ s.toks fr (Kp.push _ _) (λ_ z=>z) Ft (Xy (t:=t) (pl:=l) (items:=xs) hh nI) ⟨0,⟨_,cV _ rfl,rfl,rfl⟩,TK.of (Kp.push _ _) _ _ ht,zz.mono (TK.of (Kp.push _ _)),rfl⟩)
end
end Mine
end
section
open Sem (wp)
namespace Mine
section
variable {prog:i6}{w:dO}{A:bg}{E:av->aA->Prop}{s:aA}
theorem s7{h h':aL}{a t:aB}{i:Nat}(x:dL h a t i)(e:∀o,h.get? a=aa o->h'.get? a=aa o):dL h' a t i:=e1a2 x λo ho r=>⟨o,e _ ho,r⟩
theorem ve{it t:aB}{i:Nat}{items:Array av}{x:av}{Q:av->aA->Prop}(fi:dL s.heap it t i)
  (ht:dJ s.heap t items) (hx:items[i]? =aa x)
  (hQ:∀h',dL h' it t (i+1)->fV it s.heap h'->Q x {s with heap:=h'}):
  ay (model prog w) A (r_ (.ref it)) Q E s:=by
 refine e1a3 (id fi) λo ho hc hd=>?_
 (refine e1a3 ht λol Fu _ aD=>?_;refine e1a1 aD λnl adD=>?_)
 refine ax (oN (name:=dD "__next__") fi.typeIs Hj
  (i9 Hj fi.typeIs acp ?_ (acq _)))
 show ay _ _ (field (.ref it) 0 >>=_) _ _ s;refine ax (eK ho hd (x:=.ref t) rfl ?_);show ay _ _ (if(du t==jF)=ah then _ else _) _ _ s;rw[if_neg (show ¬((du t==jF)=ah) from k7)];show ay _ _ (field (.ref it) 1 >>=_) _ _ s;refine ax (eK ho hd (x:=.int i 0) rfl ?_);show ay _ _ (seqItems? (.ref t) >>=_) _ _ s;refine ax (l_ Fu adD ?_);simp only [P_,hx];refine ax (xc ho hd (by exact bQ _) (aQ ⟨x,rfl,aQ (hQ _ ?_ (j6 ..))⟩));exact⟨_,i_ _ ho (Hf (r9 hd _)),(acr ..).trans hc,by rw[r9 hd];(exact rfl)⟩
theorem y8{it t:aB}{i:Nat}{items:Array av}{Q:av->aA->Prop}(hh:A.handled=ao)
  (fi:dL s.heap it t i) (ht:dJ s.heap t items) (hx:items[i]? =ao)
  (hE:∀h' e,PY it s.heap h'->(∃o,h'.get? e=aa o/\o.cls= .type "StopIteration")->E (.ref e) {s with heap:=h'}):ay (model prog w) A (r_ (.ref it)) Q E s:=by
 refine e1a3 (id fi) λo ho hc hd=>?_
 (refine e1a3 ht λol Fu _ aD=>?_;refine e1a1 aD λnl adD=>?_)
 refine ax (oN (name:=dD "__next__") fi.typeIs Hj
  (i9 Hj fi.typeIs acp ?_ (acq _)))
 show ay _ _ (field (.ref it) 0 >>=_) _ _ s;refine ax (eK ho hd (x:=.ref t) rfl ?_);show ay _ _ (if(du t==jF)=ah then _ else _) _ _ s;rw[if_neg (show ¬((du t==jF)=ah) from k7)];show ay _ _ (field (.ref it) 1 >>=_) _ _ s;refine ax (eK ho hd (x:=.int i 0) rfl ?_);show ay _ _ (seqItems? (.ref t) >>=_) _ _ s;refine ax (l_ Fu adD ?_);simp only [P_,hx];refine ax (oK (ax (xc ho hd (by exact gw _) ?_)));show ay _ _ (Hk (.type "StopIteration") [] >>=_) _ _ _;refine ax ?_;refine ax (oQ ?_ (by size_fits));refine ax (m:=Hl _ _) (jd (a:=jF) (by first|rfl|(simp only [Hl];rfl)) ?_);refine oQ ?_ (by size_fits);refine Qa (show A.in1.handled=ao from hh) ?_;exact hE _ _ (((j6 ..).extBut.push _).push _) ⟨_,cV _ rfl,rfl⟩
theorem Z8{z TI TO i1 i2 l1 l2:aB}{k1 k2:Nat}{xs ys:Array av}{x y a b:av}{Q:av->aA->Prop}(D:se z TI TO i1 i2 l1 l2)
  (hz:jL s.heap z TI TO .none) (fA:dP s.heap TI (.ref i1) (.ref i2)) (fU:dP s.heap TO a b)
  (h1:dL s.heap i1 l1 k1) (h2:dL s.heap i2 l2 k2) (jz:dJ s.heap l1 xs) (fR:dJ s.heap l2 ys) (hx:xs[k1]? =aa x) (hy:ys[k2]? =aa y)
  (hQ:∀h',jL h' z TI TO (fb s.heap.objs.size)->dP h' TO x y->dL h' i1 l1 (k1+1)->dL h' i2 l2 (k2+1)->dP h' s.heap.objs.size x y->h'.objs.size=s.heap.objs.size+1->
   (∀c o,c≠z->c≠TO->c≠i1->c≠i2->s.heap.get? c=aa o->h'.get? c=aa o)->Q (.ref s.heap.objs.size) {s with heap:=h'}):
  ay (model prog w) A (e8.«zip.__next__» ⟨[.ref z],[]⟩) (λfin s'=>∃v,fin= .done (.ret v)/\Q v s') E s:=by
 show ay _ _ (field (.ref z) 2 >>=_) _ _ _;refine ax (eK hz rfl (x:=.bool au) rfl ?_);show ay _ _ (field (.ref z) 3 >>=_) _ _ _;refine ax (eK hz rfl (x:=.ref TI) rfl ?_);refine ax (l_ fA rfl ?_);show ay _ _ (Hm (.ref z) >>=_) _ _ _;refine ax ?_;unfold Hm;refine ax (eK hz rfl (x:=.none) rfl (aQ ?_));dsimp only;refine ax (oK ?_);refine ax (eK hz rfl (x:=.ref TO) rfl ?_);refine ax (uJ hz (by exact gw _) λaU kS ci=>?_);replace kS:jL aU z TI TO .ellipsis:=kS;refine ax ?_;simp only [acs,act,A4,acu];refine ax (ax (AZ ?_));show ay _ _ (r_ (.ref i1) >>=_) _ _ _;refine ax (ve (h1.extBut ci.extBut D.i1z) (jz.extBut ci.extBut D.l1z) hx λbp zO dh=>aQ ?_);have wi:dP bp TO a b:=dh.extBut _ _ D.TOi1 (ci.extBut _ _ D.TOz fU);refine ax (l_ wi rfl ?_);refine ax (Qc wi λc8 wj fB=>?_);replace wj:dP c8 TO x b:=wj;refine ax (AG (aQ ?_));refine ax (ax (AZ ?_));show ay _ _ (r_ (.ref i2) >>=_) _ _ _;refine ax (ve (((h2.extBut ci.extBut D.i2z).extBut dh.extBut D.i12.symm).extBut fB.extBut D.TOi2.symm)
  (((fR.extBut ci.extBut D.l2z).extBut dh.extBut D.l2i1).extBut fB.extBut D.l2TO) hy λm7 aa3 oh=>aQ ?_)
 have Nq:dP m7 TO x b:=oh.extBut _ _ D.TOi2 wj;refine ax (l_ Nq rfl ?_);refine ax (Qc Nq λe7 wm oi=>?_);replace wm:dP e7 TO x y:=wm;refine ax (AG (aQ (aQ ?_)));refine ax (l_ wm rfl ?_);refine ax (wpAny_newTuple ?_);have cU:e7.objs.size=s.heap.objs.size:=by rw[oi.1,oh.1,fB.1,dh.1,ci.1]
 have Nr:jL e7 z TI TO .ellipsis:=oi.extBut _ _ D.TOz.symm (oh.extBut _ _ D.i2z.symm (fB.extBut _ _ D.TOz.symm (dh.extBut _ _ D.i1z.symm kS)));have aa4:∀c o,c≠z->c≠TO->c≠i1->c≠i2->s.heap.get? c=aa o->e7.get? c=aa o:=λc o c1 c2 c3 c4 e=>
  oi.extBut _ _ c2 (oh.extBut _ _ c4 (fB.extBut _ _ c2 (dh.extBut _ _ c3 (ci.extBut _ _ c1 e))))
 have Nt:dL e7 i1 l1 (k1+1):=((zO.extBut fB.extBut D.TOi1.symm).extBut oh.extBut D.i12).extBut oi.extBut D.TOi1.symm;have Nu:dL e7 i2 l2 (k2+1):=aa3.extBut oi.extBut D.TOi2.symm;have Nv:z<e7.objs.size:=fX Nr;have hTOlt:TO<e7.objs.size:=fX wm;have hi1lt:i1<e7.objs.size:=by refine e1a2 Nt λ_ e _=>?_;exact fX e
 have hi2lt:i2<e7.objs.size:=by refine e1a2 Nu λ_ e _=>?_;exact fX e
 show ay _ _ (e8.SmallTypes.ownedTupleHandOut (.ref z) (.ref e7.objs.size) >>=_) _ _ _;refine ax ?_;have aa5:jL (e7.push {cls:=.type "tuple",data:=.seq #[x,y]}) z TI TO .ellipsis:=cu _ Nr;refine ax (uJ aa5 (by exact gw _) λh₇ Fv Fw=>?_);replace Fv:jL h₇ z TI TO (fb e7.objs.size):=Fv;refine uJ Fv (by simp) λwu zP Fx=>?_;replace zP:jL wu z TI TO (fb e7.objs.size):=zP;have up:∀c o,c≠z->e7.get? c=aa o->wu.get? c=aa o:=λc o c1 e=>Fx.extBut _ _ c1 (Fw.extBut _ _ c1 (cu _ e));have Nw:dP wu e7.objs.size x y:=Fx.extBut _ _ (A5 Nv) (Fw.extBut _ _ (A5 Nv) (cV _ rfl));have Nx:wu.objs.size=e7.objs.size+1:=by rw[Fx.1,Fw.1,qi]
 rw[cU] at zP Nw Nx;refine aQ ⟨_,rfl,?_⟩;show Q (.ref e7.objs.size) _;rw[cU];exact hQ wu zP (up _ _ D.TOz wm) (s7 Nt λo e=>up _ o D.i1z e) (s7 Nu λo e=>up _ o D.i2z e) Nw Nx λc o c1 c2 c3 c4 e=>up c o c1 (aa4 c o c1 c2 c3 c4 e)
theorem aaA{z TI TO i1 i2 l1 l2:aB}{k1 k2:Nat}{xs ys:Array av}{a b:av}{Q:Fin->aA->Prop}(hh:A.handled=ao)(D:se z TI TO i1 i2 l1 l2)
  (hz:jL s.heap z TI TO .none) (fA:dP s.heap TI (.ref i1) (.ref i2)) (fU:dP s.heap TO a b)
  (h1:dL s.heap i1 l1 k1) (h2:dL s.heap i2 l2 k2) (jz:dJ s.heap l1 xs) (fR:dJ s.heap l2 ys) (l9:xs[k1]? =ao\/ys[k2]? =ao)
  (hE:∀h' e,(∀c o,c≠z->c≠TO->c≠i1->c≠i2->s.heap.get? c=aa o->h'.get? c=aa o)->(∃o xs n,h'.get? TO=aa o/\o.data=xd xs n)->(∃o,h'.get? e=aa o/\o.cls= .type "StopIteration")->E (.ref e) {s with heap:=h'}):
  ay (model prog w) A (e8.«zip.__next__» ⟨[.ref z],[]⟩) Q E s:=by
 show ay _ _ (field (.ref z) 2 >>=_) _ _ _;refine ax (eK hz rfl (x:=.bool au) rfl ?_);show ay _ _ (field (.ref z) 3 >>=_) _ _ _;refine ax (eK hz rfl (x:=.ref TI) rfl ?_);refine ax (l_ fA rfl ?_);show ay _ _ (Hm (.ref z) >>=_) _ _ _;refine ax ?_;refine ax (eK hz rfl (x:=.none) rfl (aQ ?_));refine ax (oK ?_);refine ax (eK hz rfl (x:=.ref TO) rfl ?_);refine ax (uJ hz (by exact gw _) λaU kS ci=>?_);replace kS:jL aU z TI TO .ellipsis:=kS;refine ax ?_;simp only [acs,act,A4,acu];refine ax (ax (AZ ?_));show ay _ _ (r_ (.ref i1) >>=_) _ _ _;cases hx:xs[k1]? with
 |none=>
  refine ax (y8 hh (h1.extBut ci.extBut D.i1z) (jz.extBut ci.extBut D.l1z) hx λbp e dh he=>?_);refine e1a2 he λoe ww wx=>?_;have Ny:jL bp z TI TO .ellipsis:=dh _ _ D.i1z.symm kS;have Fy:e≠z:=λx=>by subst x;cases zF (Ny.symm.trans ww);simp at wx
  refine uJ Ny (by exact gw _) λc8 _ fB=>hE c8 e (λc o c1 _ c3 _ x=>fB.extBut _ _ c1 (dh _ _ c3 (ci.extBut _ _ c1 x))) ⟨_,_,_,fB.extBut _ _ D.TOz (dh _ _ D.TOi1 (ci.extBut _ _ D.TOz fU)),rfl⟩ ⟨oe,fB.extBut _ _ Fy ww,wx⟩
 |some x=>
  have hy:ys[k2]? =ao:=by rcases l9 with h|h;exact zB (hx.symm.trans h);exact h
  refine ax (ve (h1.extBut ci.extBut D.i1z) (jz.extBut ci.extBut D.l1z) hx λbp zO dh=>aQ ?_);have wi:dP bp TO a b:=dh.extBut _ _ D.TOi1 (ci.extBut _ _ D.TOz fU);refine ax (l_ wi rfl ?_);refine ax (Qc wi λc8 wj fB=>?_);refine ax (AG (aQ ?_));refine ax (ax (AZ ?_));show ay _ _ (r_ (.ref i2) >>=_) _ _ _;refine ax (y8 hh (((h2.extBut ci.extBut D.i2z).extBut dh.extBut D.i12.symm).extBut fB.extBut D.TOi2.symm)
   (((fR.extBut ci.extBut D.l2z).extBut dh.extBut D.l2i1).extBut fB.extBut D.l2TO) hy λm7 e oh he=>?_)
  refine e1a2 he λoe ww wx=>?_;have Nz:jL m7 z TI TO .ellipsis:=oh _ _ D.i2z.symm (fB.extBut _ _ D.TOz.symm (dh.extBut _ _ D.i1z.symm kS));have Fy:e≠z:=λx=>by subst x;cases zF (Nz.symm.trans ww);simp at wx
  refine uJ Nz (by exact gw _) λe7 _ oi=>hE e7 e (λc o c1 c2 c3 c4 x=>oi.extBut _ _ c1 (oh _ _ c4 (fB.extBut _ _ c2 (dh.extBut _ _ c3 (ci.extBut _ _ c1 x))))) ⟨_,_,_,oi.extBut _ _ D.TOz (oh _ _ D.TOi2 wj),rfl⟩ ⟨oe,oi.extBut _ _ Fy ww,wx⟩
theorem LG{z TI TO i1 i2 l1 l2:aB}{k1 k2:Nat}{xs ys:Array av}{x y a b:av}{Q:Option av->aA->Prop}(D:se z TI TO i1 i2 l1 l2)
  (hz:jL s.heap z TI TO .none) (fA:dP s.heap TI (.ref i1) (.ref i2)) (fU:dP s.heap TO a b)
  (h1:dL s.heap i1 l1 k1) (h2:dL s.heap i2 l2 k2) (jz:dJ s.heap l1 xs) (fR:dJ s.heap l2 ys) (hx:xs[k1]? =aa x) (hy:ys[k2]? =aa y)
  (hQ:∀h',jL h' z TI TO (fb s.heap.objs.size)->dP h' TO x y->dL h' i1 l1 (k1+1)->dL h' i2 l2 (k2+1)->dP h' s.heap.objs.size x y->h'.objs.size=s.heap.objs.size+1->
   (∀c o,c≠z->c≠TO->c≠i1->c≠i2->s.heap.get? c=aa o->h'.get? c=aa o)->Q (aa (.ref s.heap.objs.size)) {s with heap:=h'}):
  ay (model prog w) A (ni (.ref z)) Q E s:=by
 have hT:s.TypeIs (.ref z) "zip":=⟨_,hz,rfl⟩;exact ax (sf (oN (name:=dD "__next__") hT Hn
  (i9 Hn hT acv
   (Z8 D hz fA fU h1 h2 jz fR hx hy λh' a1 a2 a3 a4 a5 a6 a7=>aQ (hQ h' a1 a2 a3 a4 a5 a6 a7)) (acw _))))
theorem Ly{z TI TO i1 i2 l1 l2:aB}{k1 k2:Nat}{xs ys:Array av}{a b:av}{Q:Option av->aA->Prop}(hh:A.handled=ao)(D:se z TI TO i1 i2 l1 l2)
  (hz:jL s.heap z TI TO .none) (fA:dP s.heap TI (.ref i1) (.ref i2)) (fU:dP s.heap TO a b)
  (h1:dL s.heap i1 l1 k1) (h2:dL s.heap i2 l2 k2) (jz:dJ s.heap l1 xs) (fR:dJ s.heap l2 ys) (l9:xs[k1]? =ao\/ys[k2]? =ao)
  (hQ:∀h',(∀c o,c≠z->c≠TO->c≠i1->c≠i2->s.heap.get? c=aa o->h'.get? c=aa o)->(∃o xs n,h'.get? TO=aa o/\o.data=xd xs n)->Q ao {s with heap:=h'}):ay (model prog w) A (ni (.ref z)) Q E s:=by
 have hT:s.TypeIs (.ref z) "zip":=⟨_,hz,rfl⟩;refine ax (sf (oN (name:=dD "__next__") hT Hn
  (i9 Hn hT acv (aaA hh D hz fA fU h1 h2 jz fR l9 λh' e hk wy he=>?_) (acw _))))
 refine e1a2 he λo ho hc=>?_;refine ax (Ay (T:="StopIteration") (b:=ah) ⟨o,ho,hc⟩ Qd ?_);exact aQ (hQ _ hk wy)
end
noncomputable abbrev yg(h:aL)(l1:aB):aL:=h.push {cls:=.type "tuple_iterator",data:=.fields #[.ref l1,.int 0 0]}
noncomputable abbrev xR(h:aL)(l1 l2:aB):aL:=(yg h l1).push {cls:=.type "tuple_iterator",data:=.fields #[.ref l2,.int 0 0]}
noncomputable abbrev xQ(h:aL)(l1 l2:aB):aL:=(xR h l1 l2).push {cls:=.type "tuple",data:=.seq #[.ref h.objs.size,.ref (yg h l1).objs.size]}
noncomputable abbrev xN(h:aL)(l1 l2:aB):aL:=(xQ h l1 l2).push {cls:=.type "tuple",data:=.seq #[.none,.none]}
noncomputable abbrev qY(h:aL)(l1 l2:aB):aL:=(xN h l1 l2).push {cls:=.type "zip",data:=.fields #[.none,.bool au,.bool au,.ref (xR h l1 l2).objs.size,.ref (xQ h l1 l2).objs.size]}
set_option maxHeartbeats 2000000 in
theorem TU(l1 l2:aB)(xs ys:Array av):
  Meets (e8.«zip.__new__» ⟨[.type "zip",.ref l1,.ref l2],[]⟩) (λ_ R s=>dJ s.heap l1 xs/\dJ s.heap l2 ys/\
   R (.ok (.ret (.ref (xN s.heap l1 l2).objs.size))) {s with heap:=qY s.heap l1 l2}):=
 .of_wp λprog w A R s h=>by
  refine be h λjz fR h=>?_;have hsub:=sub_zip;have NA:dJ s.heap l1 xs:=jz;have hL2:dJ (aA.heap {s with heap:=s.heap.push {cls:=.type "tuple_iterator",data:=.fields #[.ref l1,.int 0 0]}}) l2 ys:=dJ.push fR _
  wp_walk using PZ NA,PZ hL2
  exact⟨_,rfl,h⟩
section
variable {prog:i6}{w:dO}{A:bg}{E:av->aA->Prop}{s:aA}
theorem Lj{l1 l2:aB}{xs ys:Array av}{Q:av->aA->Prop}(jz:dJ s.heap l1 xs)(fR:dJ s.heap l2 ys)
  (h:∀h',jL h' (s.heap.objs.size+4) (s.heap.objs.size+2) (s.heap.objs.size+3) .none->dP h' (s.heap.objs.size+2) (.ref s.heap.objs.size) (.ref (s.heap.objs.size+1))->
   dP h' (s.heap.objs.size+3) .none .none->dL h' s.heap.objs.size l1 0->dL h' (s.heap.objs.size+1) l2 0->h'.objs.size=s.heap.objs.size+5->
   (∀c o,s.heap.get? c=aa o->h'.get? c=aa o)->Q (.ref (s.heap.objs.size+4)) {s with heap:=h'}):
  ay (model prog w) A (call (.type "zip") [.ref l1,.ref l2]) Q E s:=by
 refine callType_new F.called_zip (by decide) (F.typeCall_zip_2 _ _) (F.newCall_zip_2 _ _) (λobj=>F.args_object_init_3 obj _ _) F.entry_zip_new
  (TU l1 l2 xs ys) ⟨jz,fR,?_⟩
 have z1:(yg s.heap l1).objs.size=s.heap.objs.size+1:=qi ..;have z2:(xR s.heap l1 l2).objs.size=s.heap.objs.size+2:=by rw[qi,z1]
 have z3:(xQ s.heap l1 l2).objs.size=s.heap.objs.size+3:=by rw[qi,z2]
 have z4:(xN s.heap l1 l2).objs.size=s.heap.objs.size+4:=by rw[qi,z3]
 have z5:(qY s.heap l1 l2).objs.size=s.heap.objs.size+5:=by rw[qi,z4]
 have g5:(qY s.heap l1 l2).get? (xN s.heap l1 l2).objs.size=aa _:=cV _ rfl;have g4:(qY s.heap l1 l2).get? (xQ s.heap l1 l2).objs.size=aa _:=cu _ (cV _ rfl);have g3:(qY s.heap l1 l2).get? (xR s.heap l1 l2).objs.size=aa _:=cu _ (cu _ (cV _ rfl));have g2:(qY s.heap l1 l2).get? (yg s.heap l1).objs.size=aa _:=cu _ (cu _ (cu _ (cV _ rfl)));have g1:(qY s.heap l1 l2).get? s.heap.objs.size=aa _:=cu _ (cu _ (cu _ (cu _ (cV _ rfl))));show _/\_;rw[z2,z3,z4] at g5;rw[z1,z2] at g3;rw[z3] at g4;rw[z1] at g2;rw[z4];exact⟨⟨_,g5,rfl⟩,h _ g5 g3 g4 ⟨_,g1,rfl,rfl⟩ ⟨_,g2,rfl,rfl⟩ z5 λc o x=>
  cu _ (cu _ (cu _ (cu _ (cu _ x))))⟩
end
end Mine
end
section
open Sem (wp)
namespace Mine.F
theorem Jw:Manifest.owners.lookup (String.ofList ['d','e','s','r','e','v','e','r'].reverse)=aa Manifest.sig_reversed:=by kernel_rfl
theorem SB:Slot "reversed" "__init__" "object.__init__":=
 .of (owner:="object") (n:="__init__") (by rw[rV,rW];kernel_rfl) (by decide+kernel) (by decide+kernel) (by decide+kernel)
  (by first|exact .inl (by decide+kernel)|exact .inr (by decide+kernel)) (by rw[A6];kernel_rfl)
theorem slot_reversed_iter:Slot "reversed" "__iter__" "reversed.__iter__":=
 .of (owner:="reversed") (n:="__iter__") (by rw[rV,rW];kernel_rfl) (by decide+kernel) (by decide+kernel) (by decide+kernel)
  (by first|exact .inl (by decide+kernel)|exact .inr (by decide+kernel)) (by rw[A6];kernel_rfl)
theorem args_reversed_iter_1(a:av):xe "reversed.__iter__" ⟨[a],[]⟩:=by unfold xe;rw[signature?_of (id:="reversed.__iter__") (n:=['_','_','r','e','t','i','_','_']) (o:=['d','e','s','r','e','v','e','r']) (by kernel_rfl) Jw];kernel_rfl
theorem entry_reversed_iter:G7 table "reversed.__iter__" =aa e8.«dict_keyiterator.__iter__»:=
 entryFor_alias (id':="dict_keyiterator.__iter__") (by kernel_rfl) (by first|rfl|decide+kernel|(unfold String.splitOn;simp+decide [String.splitOnAux])) (by decide+kernel) (by kernel_rfl)
theorem slot_reversed_next:Slot "reversed" "__next__" "reversed.__next__":=
 .of (owner:="reversed") (n:="__next__") (by rw[rV,rW];kernel_rfl) (by decide+kernel) (by decide+kernel) (by decide+kernel)
  (by first|exact .inl (by decide+kernel)|exact .inr (by decide+kernel)) (by rw[A6];kernel_rfl)
theorem entry_reversed_next:G7 table "reversed.__next__" =aa e8.«reversed.__next__»:=Pk (by kernel_rfl)
theorem args_reversed_next_1(a:av):xe "reversed.__next__" ⟨[a],[]⟩:=by unfold xe;rw[signature?_of (id:="reversed.__next__") (n:=['_','_','t','x','e','n','_','_']) (o:=['d','e','s','r','e','v','e','r']) (by kernel_rfl) Jw];kernel_rfl
theorem norev_tuple:uC (.type "tuple") "__reversed__" =pure ao:=by rw[rV,rW];kernel_rfl
theorem called_reversed:TypeCalled "reversed" "reversed.__new__" "object.__init__":=
 ⟨by decide+kernel,PySem.F.create_reversed,⟨_,_,PySem.F.mro_reversed⟩,PySem.F.made_reversed,PySem.F.plain_reversed_new,PySem.F.sub_reversed_self,SB⟩
end Mine.F
end
section
open Sem (wp)
namespace Mine
section
variable {prog:i6}{w:dO}{A:bg}{E:av->aA->Prop}{s:aA}
def pO(h:aL)(a t:aB)(i:Int):Prop:=∃o,h.get? a=aa o/\o.cls= .type "reversed"/\o.data= .fields #[.ref t,fb i]
theorem pO.typeIs{a t:aB}{i:Int}(x:pO s.heap a t i):s.TypeIs (.ref a) "reversed":=e1a3 x λo ho hc _=>⟨o,ho,hc⟩
theorem VV(t:aB)(items:Array av)(wz:(items.size:Int)<2 ^ 63):
  Meets (e8.«reversed.__new__» ⟨[.type "reversed",.ref t],[]⟩) (λ_ R s=>dJ s.heap t items/\
   R (.ok (.ret (.ref s.heap.objs.size))) {s with heap:=s.heap.push {cls:=.type "reversed",data:=.fields #[.ref t,fb ((items.size:Int)-1)]},toks:=s.toks+1+1}):=
 .of_wp λprog w A R s h=>by
  refine aC h λht h=>?_;have hT:=ht.typeIs;refine ax (jd (newClass_reversed _) ?_);refine ax (jd (a:=()) (by first|rfl|kernel_rfl) ?_);refine ax (jd (a:=()) (by first|rfl|kernel_rfl) ?_);refine ax (oJ hT F.norev_tuple ?_);try dsimp only
  refine ax ?_;refine ax (Ay (T:="tuple") (b:=au) hT (by rw[A6];kernel_rfl) ?_);try dsimp only
  refine ax (oJ hT acx.lookup ?_);try dsimp only
  rw[if_pos (by decide)];refine aQ ?_;refine ax (abZ ht wz ?_);refine ax (m:=asInt? _) (aQ ?_);refine ax ?_;unfold e8.SmallTypes.newRecord;refine oQ ?_ (by size_fits);first
  |exact aQ ⟨_,rfl,h⟩
  |exact ax (aQ (aQ ⟨_,rfl,h⟩))
theorem YO{t:aB}{items:Array av}(wz:(items.size:Int)<2 ^ 63){Q:av->aA->Prop}(ht:dJ s.heap t items)
  (h:Q (.ref s.heap.objs.size) {s with heap:=s.heap.push {cls:=.type "reversed",data:=.fields #[.ref t,fb ((items.size:Int)-1)]},toks:=s.toks+1+1}):
  ay (model prog w) A (call (.type "reversed") [.ref t]) Q E s:=by
 refine callType_new F.called_reversed (by decide) (F.typeCall_reversed_1 _) (F.newCall_reversed_1 _) (λobj=>F.args_object_init_2 obj _) F.entry_reversed_new
  (VV t items wz) ⟨ht,?_⟩
 exact⟨⟨_,cV _ rfl,rfl⟩,h⟩
theorem MU{a t:aB}{i:Int}{Q:av->aA->Prop}(hz:pO s.heap a t i)(h:Q (.ref a) s):ay (model prog w) A (Hh (.ref a)) Q E s:=by have hT:=hz.typeIs;refine acy hT F.slot_reversed_iter (i9 F.slot_reversed_iter hT F.entry_reversed_iter ?_ (F.args_reversed_iter_1 _));show ay _ _ (ret (.ref a)) _ _ s;exact aQ ⟨_,rfl,"reversed",_,hT,F.slot_reversed_next.lookup,h⟩
theorem V2{it t:aB}{i:Nat}{items:Array av}{x:av}{Q:Option av->aA->Prop}(fi:pO s.heap it t (i:Int))(ht:dJ s.heap t items)(hx:items[i]? =aa x)(wz:(items.size:Int)<2 ^ 63)
  (hQ:∀h' tk,pO h' it t ((i:Int)-1)->fV it s.heap h'->Q (aa x) {s with heap:=h',toks:=tk}):ay (model prog w) A (ni (.ref it)) Q E s:=by
 refine e1a3 (id fi) λo ho hc hd=>?_;have hT:=fi.typeIs;have hTt:=ht.typeIs;have cD:i<items.size:=(PQ.mp hx).1;refine ax (sf (oN (name:=dD "__next__") hT F.slot_reversed_next
  (i9 F.slot_reversed_next hT F.entry_reversed_next ?_ (F.args_reversed_next_1 _))))
 refine ax (jd (a:=(du it,[])) rfl ?_);refine ax (eK ho hd (x:=.ref t) rfl ?_);refine ax (eK ho hd (x:=fb (i:Int)) rfl ?_);show ay _ _ (if(i:Int)<0 then _ else _) _ _ s;rw[if_neg (G6.mpr (nk i))];refine ax (oJ hTt acx.lookup ?_);show ay _ _ (mkInt (i:Int) >>=_) _ _ s;refine ax (wpAny_mkInt ?_);refine ax (sf (Ph (s:={s with toks:=s.toks+1}) ht (oS (by decide) (nk i)) (G3 (gC.mpr cD) wz) (seqIndex_of (nk i) (gC.mpr cD)) (by simpa using hx) ?_));refine ax (eK (s:={s with toks:=s.toks+1}) ho hd (x:=fb (i:Int)) rfl ?_);show ay _ _ (Ho (.ref it) 1 (fb ((i:Int)-1)) >>=_) _ _ _;refine ax (xc (s:={s with toks:=s.toks+1}) ho hd (by simp) ?_);refine aQ ⟨x,rfl,aQ (hQ _ _ ?_ (j6 ..))⟩;exact⟨_,i_ _ ho (Hf (r9 hd _)),(acr ..).trans hc,by rw[r9 hd];simp⟩
theorem Tq{it t:aB}{Q:Option av->aA->Prop}(hh:A.handled=ao)(fi:pO s.heap it t (-1))
  (hQ:∀h',PY it s.heap h'->Q ao {s with heap:=h'}):ay (model prog w) A (ni (.ref it)) Q E s:=by
 refine e1a3 (id fi) λo ho hc hd=>?_;have hT:=fi.typeIs;refine ax (sf (oN (name:=dD "__next__") hT F.slot_reversed_next
  (i9 F.slot_reversed_next hT F.entry_reversed_next ?_ (F.args_reversed_next_1 _))))
 refine ax (jd (a:=(du it,[])) rfl ?_);try dsimp only
 refine ax (eK ho hd (x:=.ref t) rfl ?_);refine ax (eK ho hd (x:=fb (-1)) rfl ?_);show ay _ _ (if(-1:Int)<0 then _ else _) _ _ s;rw[if_pos (by decide)];refine ax (oK ?_);show ay _ _ ((Ho (.ref it) 1 (fb (-1)) >>=λ_=>Ho (.ref it) 0 .none) >>=_) _ _ s;refine ax (ax (xc ho hd (by simp) ?_));have NB:(s.heap.update it (xb (·.setIfInBounds 1 (fb (-1))))).get? it=_:=i_ _ ho (Hf (r9 hd _));have ci:fV it s.heap (s.heap.update it (xb (·.setIfInBounds 1 (fb (-1))))):=j6 ..;generalize hu:s.heap.update it (xb (·.setIfInBounds 1 (fb (-1))))=aU at NB ci;refine xc (s:={s with heap:=aU}) NB (r9 hd _) (by simp) ?_;have dh:fV it aU (aU.update it (xb (·.setIfInBounds 0 jF))):=j6 ..;generalize aU.update it (xb (·.setIfInBounds 0 jF))=bp at dh;first
 |show ay _ _ (Hk (.type "StopIteration") [] >>=_) _ _ _
 |(refine ax ?_;show ay _ _ (Hk (.type "StopIteration") [] >>=_) _ _ _)
 refine ax ?_;delta Hk newTuple;refine ax (oQ ?_ (by size_fits));refine ax (m:=Hl _ _) (jd (a:=jF) (by first|rfl|(simp only [Hl];rfl)) ?_);refine oQ ?_ (by size_fits);refine Qa (show A.in1.handled=ao from hh) ?_;refine ax (Ay (T:="StopIteration") (b:=ah) ⟨_,cV _ rfl,rfl⟩ Qd ?_);exact aQ (hQ _ (((ci.extBut.trans dh.extBut).push _).push _))
end
end Mine
end
namespace Mine
def F5(z TI TO i1 i2:aB)(b:aB):Prop:=b=z\/b=TI\/b=TO\/b=i1\/b=i2
noncomputable abbrev vy(f0:av)(b:Bool)(TI TO:aB):Obj:={cls:=.type "zip",data:=.fields #[f0,.bool b,.bool au,.ref TI,.ref TO]}
structure pQ(C:aY)(z TI TO i1 i2 l1 l2:aB)(vs ws:List V)(xs ys:List av)(f0:av)(bb:Bool)(i:Nat)(H:aL):Prop where
 z:H.get? z=aa (vy f0 bb TI TO)
 ti:dP H TI (.ref i1) (.ref i2)
 to:∃a b,dP H TO a b
 i1:dL H i1 l1 i
 i2:dL H i2 l2 i
 l1:bR C H l1 xs
 l2:bR C H l2 ys
 zx:VL C H vs xs
 zy:VL C H ws ys
section
variable {C:aY}{d:Nat}{m:Bool}{A:bg}{h:Hp}{H H':aL}{s:aA}{q:av->aA->Prop}{E':av->aA->Prop}{I t:aB}{n:Nat}{items:List V}{pl:List av}{target:aN}{v:V}{pv:av}
theorem I5{vs ws:List V}{i:Nat}{v:V}{l:List V}(e:((vs.zip ws).map λp=>V.tup [p.1,p.2]).drop i=v::l):∃a b,vs[i]? =aa a/\ws[i]? =aa b/\v=V.tup [a,b]/\((vs.zip ws).map λp=>V.tup [p.1,p.2]).drop (i+1)=l:=by refine aC (sC e) λe e2=>?_;rw[qq] at e;refine e1a2 (iD.mp e) λp e1 e3=>?_;refine aC (List.getElem?_zip_eq_some.mp e1) λh1 h2=>?_;exact⟨p.1,p.2,h1,h2,e3.symm,e2⟩
theorem Ik{vs ws:List V}{i:Nat}(e:((vs.zip ws).map λp=>V.tup [p.1,p.2]).drop i=[]):vs.length<=i\/ws.length<=i:=by have:=uD.mp e;rw[aP,A7] at this;exact(A8 vs.length ws.length).imp (λe=>by rwa [o7 e] at this) λe=>by rwa [xg e] at this
theorem pQ.keep{z TI TO i1 i2 l1 l2:aB}{vs ws:List V}{xs ys:List av}{f0:av}{bb:Bool}{i:Nat}(x:pQ C z TI TO i1 i2 l1 l2 vs ws xs ys f0 bb i H)(k:∀b,F5 z TI TO i1 i2 b->H'.get? b=H.get? b)(t:TK C H H'):pQ C z TI TO i1 i2 l1 l2 vs ws xs ys f0 bb i H':=
 ⟨(k _ (.inl rfl)).trans x.z,(k _ (.inr (.inl rfl))).trans x.ti,⟨x.to.choose,x.to.choose_spec.choose,(k _ (.inr (.inr (.inl rfl)))).trans x.to.choose_spec.choose_spec⟩,s7 x.i1 λo e=>(k _ (.inr (.inr (.inr (.inl rfl))))).trans e,s7 x.i2 λo e=>(k _ (.inr (.inr (.inr (.inr rfl))))).trans e,t _ _ x.l1,t _ _ x.l2,x.zx.mono t,x.zy.mono t⟩
theorem pQ.alive{z TI TO i1 i2 l1 l2:aB}{vs ws:List V}{xs ys:List av}{f0:av}{bb:Bool}{i:Nat}(x:pQ C z TI TO i1 i2 l1 l2 vs ws xs ys f0 bb i H)(fA:C.pr TI)(fU:C.pr TO):∀b,F5 z TI TO i1 i2 b->H.get? b≠ao/\∀dI,¬bR C H b dI:=λb hb=>by
 refine e2a1 x.to λa b' jX=>?_;rcases hb with e|e|e|e|e
 ·exact iT x.z rfl (by decide) b e
 ·exact⟨λq=>(by rw[e,x.ti] at q;exact zB q),λ_ q=>q.1 (e▸fA)⟩
 ·exact⟨λq=>(by rw[e,jX] at q;exact zB q),λ_ q=>q.1 (e▸fU)⟩
 ·refine e1a3 x.i1 λo ho hc _=>?_;exact iT ho hc (by decide) b e
 ·refine e1a3 x.i2 λo ho hc _=>?_;exact iT ho hc (by decide) b e
theorem Y3(hh:A.handled=ao){Fz:List aN}{k:Nat}{FA:Pos}{z TI TO i1 i2 l1 l2:aB}{vs ws:List V}{xs ys:List av}(D:se z TI TO i1 i2 l1 l2)(hz:¬C.pr z)(zQ:¬C.pr i1)(zR:¬C.pr i2)(fA:C.pr TI)(fU:C.pr TO):
  iV C A (.Tuple Fz k FA) z (F5 z TI TO i1 i2) ao (λl H=>∃i,pQ C z TI TO i1 i2 l1 l2 vs ws xs ys .none au i H/\((vs.zip ws).map λp=>V.tup [p.1,p.2]).drop i=l)
   (λl pv H=>∃i T,pv= .ref T/\pQ C z TI TO i1 i2 l1 l2 vs ws xs ys (fb T) au i H/\((vs.zip ws).map λp=>V.tup [p.1,p.2]).drop i=l):=by
 have seq:∀{H a b T},dP H T a b->∃o xs n,H.get? T=aa o/\o.data=xd xs n:=λp=>⟨_,_,_,p,rfl⟩;have ko:∀{H H'},(∀c o,¬F5 z TI TO i1 i2 c->H.get? c=aa o->H'.get? c=aa o)->(∃a b,dP H' TI a b)->(∃o xs n,H'.get? TO=aa o/\o.data=xd xs n)->kJ C (F5 z TI TO i1 i2) H H':=λk yy=>e2a1 yy λ_ _ p p'=>⟨k,λb hb hp=>by
  rcases hb with e|e|e|e|e
  ·exact absurd (e▸hp) hz
  ·exact e▸seq p
  ·exact e▸p'
  ·exact absurd (e▸hp) zQ
  ·exact absurd (e▸hp) zR⟩
 refine⟨λl H H' yy=>e1a2 yy λi st e k t _=>⟨i,st.keep k t,e⟩,λl H yy=>e1a2 yy λi st _=>st.alive fA fU,λl pv H yy=>e2a3 yy λi T _ st _=>st.alive fA fU,?_,?_,?_,λ{l s q E} yy=>e1a2 yy λi st _ hQ=>acz st.z hQ⟩
 ·rintro v l h s q E _ hr ⟨i,st,e⟩ hQ;refine e2a4 (I5 e) λva vb e1 e2 e3 e4=>?_;refine e1a2 (st.zx.get e1) λx hx rx=>?_;refine e1a2 (st.zy.get e2) λy hy ry=>?_;refine e2a1 st.to λa b jX=>?_;refine LG D st.z st.ti jX st.i1 st.i2 st.l1.2 st.l2.2 (x:=x) (y:=y) (by rw[gF];exact hx) (by rw[gF];exact hy) λh' b1 b2 b3 b4 b5 b6 hk=>?_;have pZ:=hk _ _ D.TIz D.TITO D.TIi1 D.TIi2 st.ti;have fh:∀c o,¬F5 z TI TO i1 i2 c->s.heap.get? c=aa o->h'.get? c=aa o:=λc o hc e=>hk c o (λq=>hc (.inl q)) (λq=>hc (.inr (.inr (.inl q)))) (λq=>hc (.inr (.inr (.inr (.inl q))))) (λq=>hc (.inr (.inr (.inr (.inr q))))) e;have tk:TK C s.heap h':=λc dI x=>by
   (refine aC (id x) λn aD=>?_;refine e1a2 aD λo ho r=>?_)
   exact⟨n,o,fh c o (λq=>(st.alive fA fU c q).2 _ x) ho,r⟩
  have hT0:=dM s.heap;refine hQ (.ref s.heap.objs.size) h' s.toks ⟨i+1,_,rfl,⟨b1,pZ,⟨_,_,b2⟩,b3,b4,tk _ _ st.l1,tk _ _ st.l2,st.zx.mono tk,st.zy.mono tk⟩,e4⟩ ?_ (ko fh ⟨_,_,pZ⟩ (seq b2));rw[e3];exact .ad8 (.cons (rx.mono tk) (.cons (ry.mono tk) .nil)) (Eg _) ⟨hr.adH hT0,_,b5,rfl,_,rfl⟩ (show 2<=2*aG by decide)
 ·rintro l pv s q E ⟨i,T,e,st,e2⟩ hQ;rw[e];refine wpAny_letOwnedTupleGo_zip st.z λh' FB c7=>?_;have tk:=yo (C:=C) (I:=z) st.z rfl (by decide) c7;refine e2a1 st.to λa b jX=>?_;have pZ:=c7.extBut _ _ D.TIz st.ti;have NC:=c7.extBut _ _ D.TOz jX;exact hQ h' ⟨i,⟨FB,pZ,⟨a,b,NC⟩,st.i1.extBut c7.extBut D.i1z,st.i2.extBut c7.extBut D.i2z,tk _ _ st.l1,tk _ _ st.l2,st.zx.mono tk,st.zy.mono tk⟩,e2⟩ (ko (λc o hc e=>c7.extBut c o (λq=>hc (.inl q)) e) ⟨_,_,pZ⟩ (seq NC))
 ·rintro h s q E _ hr ⟨i,st,e⟩ hQ;refine e2a1 st.to λa b jX=>?_;refine Ly hh D st.z st.ti jX st.i1 st.i2 st.l1.2 st.l2.2 ?_ λh' hk wy=>hQ h' s.toks (ko (λc o hc e=>hk c o (λq=>hc (.inl q)) (λq=>hc (.inr (.inr (.inl q)))) (λq=>hc (.inr (.inr (.inr (.inl q))))) (λq=>hc (.inr (.inr (.inr (.inr q))))) e) ⟨_,_,hk _ _ D.TIz D.TITO D.TIi1 D.TIi2 st.ti⟩ ?_)
  ·rcases Ik e with q|q
   ·exact .inl (by rw[gF];exact oB (st.zx.len▸q))
   ·exact .inr (by rw[gF];exact oB (st.zy.len▸q))
  ·exact wy
theorem WP(hh:A.handled=ao)(hI:¬C.pr I)(hn:pl.length<=2*aG):
  iV C A target I (· =I) ao (λl H=>∃i,i<=pl.length/\pO H I t ((pl.length:Int)-1-(i:Nat))/\bR C H t pl/\VL C H items pl/\items.reverse.drop i=l) (λl _ H=>∃i,i<=pl.length/\pO H I t ((pl.length:Int)-1-(i:Nat))/\bR C H t pl/\VL C H items pl/\items.reverse.drop i=l) where
 frame:=λl H H' yy=>e1a5 yy λi h dA z1 z2 e=>e1a2 dA λo ho r k tk _=>⟨i,h,⟨o,(k I rfl).trans ho,r⟩,tk _ _ z1,z2.mono tk,e⟩
 alive:=λl H yy=>e1a3 yy λi _ dA _=>e1a3 dA λo ho hc _=>iT ho hc (by decide)
 adX:=λl _ H yy=>e1a3 yy λi _ dA _=>e1a3 dA λo ho hc _=>iT ho hc (by decide)
 item:=λ{v l h s q E} _ hr yy=>e1a5 yy λi hi st z1 z2 e hQ=>by
  refine aC (sC e) λe1 e2=>?_;refine e1a2 (z2.reverse.get e1) λy hy r=>?_;have cD:i<pl.length:=by have:=(i8.mp hy).1;rwa [qn] at this
  rw[List.getElem?_reverse cD] at hy;rw[Mt cD] at st;refine V2 st z1.2 (x:=y) (by rw[gF];exact hy) (yb hn) λh' zI iz c7=>?_;refine e1a3 st λo ho hc _=>?_;have tk:=yo (C:=C) ho hc (by decide) c7;exact hQ y h' zI ⟨i+1,cD,by rw[show(pl.length:Int)-1-((i+1:Nat):Int)=((pl.length-1-i:Nat):Int)-1 by rw[<-Mt cD];exact(Hi ((pl.length:Int)-1) i 1).symm];exact iz,tk _ _ z1,z2.mono tk,e2⟩ (r.mono tk) (hV c7.extBut hI)
 go:=λ{l pv s q E} md hQ=>by
  (refine e1a3 (id md) λi _ dA _=>?_;refine e1a3 dA λo ho hc _=>?_)
  exact uX ho hc (by decide) (hQ s.heap md (hV (λ_ _ _ e=>e) hI))
 done:=λ{h s q E} _ hr yy=>e1a5 yy λi hi st z1 z2 e hQ=>by have:=uD.mp e;rw[qn,z2.len] at this;rw[Nat.le_antisymm hi this,show((pl.length:Int)-1-(pl.length:Nat))= -1 by rw[Hi,Pe,<-Hi,Int.sub_self];rfl] at st;exact Tq hh st λh' hx=>hQ h' s.toks (hV hx hI)
 self:=λ{l s q E} yy=>e1a3 yy λi _ st _ hQ=>MU st hQ
end
def mC(src:Option (Nat×O))(h bp:Hp):Prop:=(iW src=ao/\bp=h)\/∃n,iW src=aa n/\h.lk=ao/\bp=h.lock (aa n)
def SI(C:aY)(d:Nat)(m:Bool)(A:bg)(env:bJ)(target:aN)(it:E)(pit:aN):Prop:=
 ∀{ρ h s X K q E},Wz C d A env ρ h s->Dy Cl it X ρ K h->(∀h1 src l s1,Pt C m No h s h1 s1->K h1 src l->(∀n o,src=aa (n,o)->h1.get n=aa o)->H5 C A target s1 src l q)->(∀h' e s',X h'->XR C A No h s h' e s'->E e s')->
  ay C.M A (c_ pit env) (λx s1=>ay C.M A (Hh x) q E s1) E s
noncomputable def IR:E->Bool
 | .u .R _=>au
 | .u .V _=>au
 | .b .z _ _=>au
 |_=>ah
section
variable {C:aY}{X':aB->Prop}{d:Nat}{m:Bool}{A:bg}{env:bJ}{ρ Fo:Mine.Env}{h h₀ aU bp:Hp}{H H':aL}{s s₀ aW:aA}{Q:PX}{q:nh->aA->Prop}{E':av->aA->Prop}{W':aB->Prop}{fp:aB->Prop}{src:Option (Nat×O)}{l:List V}{e a b c:E}{pe pa pb pc target:aN}{pos p:Pos}{v:V}{pv:av}
theorem mC.of{P:Hp->Prop}(z:vh src P h):∃bp,mC src h bp/\P bp:=by
 delta vh at z;cases e:iW src with
 |none=>rw[e] at z;exact⟨h,.inl ⟨e,rfl⟩,z⟩
 |some n=>rw[e] at z;exact⟨_,.inr ⟨n,e,z.1,rfl⟩,z.2⟩
theorem Cn(fr:∀a,X' a->C.pr a\/s.heap.get? a=ao)(k:Kp s.heap H'):∀a l,bR C s.heap a l->bR (C.x X') H' a l:=λa l yy=>aC yy λn aD=>e1a2 aD λo ho r=>⟨λq=>(fr a q).elim n λz=>(by exact zA (z.symm.trans ho)),o,k a o ho,r⟩
theorem Wz.x(w:Wz C d A env ρ h s)(k:Kp s.heap H')(fr:∀a,X' a->C.pr a\/(s.heap.get? a=ao/\∃o xs n,H'.get? a=aa o/\o.data= .seq xs n)){tk:Nat}:Wz (C.x X') d A env ρ h {s with heap:=H',toks:=tk}:=by
 have t:=Cn (H':=H') (λa q=>(fr a q).imp id And.left) k;refine⟨w.rm,w.ek,w.hr.frame (λb o e=>k b o (w.hr.keep b o e)) (w.hr.kpO k) t λa q=>?_,w.er.tr rfl t (λa o _ ho=>⟨o.slots,k a o ho⟩) λa ha=>(w.er.apart a ha).1,w.fr.tr rfl (λl e L o _ _ _ ho f1 f2 _=>⟨o,k L o ho,f1,f2⟩) λ_ _ _ _ _ _ _ _ _ n=>n⟩;rcases fr a q with z|⟨z,z'⟩
 ·exact w.hr.kpP k a z
 ·exact⟨z',w.hr.nil z,w.hr.h0 z⟩
theorem vg(hX:∀a,C.pr a->X' a):∀a l,bR (C.x X') H a l->bR C H a l:=λa l yy=>aC yy λn r=>⟨λq=>n (hX a q),r⟩
theorem HR.less(x:HR (C.x X') h H)(hX:∀a,C.pr a->X' a):HR C h H:=x.frame (C:=C.x X') (X:=C.pr) x.keep (λ_ _=>rfl) (vg hX) λa q=>x.adI a (hX a q)
theorem Wz.less(w:Wz (C.x X') d A env ρ h s)(hX:∀a,C.pr a->X' a):Wz C d A env ρ h s:=
 ⟨w.rm,w.ek,w.hr.less hX,w.er.tr (C':=C) rfl (vg hX) (λa o _ ho=>⟨o.slots,ho⟩) λa ha=>(w.er.apart a ha).1,w.fr.tr (C':=C) rfl (λl e L o _ _ _ ho f1 f2 _=>⟨o,ho,f1,f2⟩) λ_ _ _ _ _ _ _ _ _ n=>n⟩
theorem Pt.less(p:Pt (C.x X') m W' h s aU aW)(hX:∀a,C.pr a->X' a):Pt C m W' h s aU aW:=⟨p.hr.less hX,p.tr,p.sm⟩
theorem XR.less{ex:av}(x:XR (C.x X') A W' h s aU ex aW)(hX:∀a,C.pr a->X' a):XR C A W' h s aU ex aW:=by
 (refine be x λa b aD=>?_;refine e4a3 aD λea a0 B l c d f=>?_);exact⟨a,b,ea,a0,B,l,c,d.less hX,f⟩
theorem HR.lock(x:HR C h H){n:Nat}{es:List (V×V)}(e:h.get n=aa (.dict es)):HR C (h.lock (aa n)) H:=⟨x.keep,x.obj,x.adO,x.ap,λj q=>by cases zF q;exact⟨_,e⟩,x.adI⟩
theorem HR.adC(x:HR C h H):HR C (g9 src h) H:=by
 delta g9;cases iW src with
 |none=>exact x
 |some n=>exact⟨x.keep,x.obj,x.adO,x.ap,λj q=>(nomatch q),x.adI⟩
theorem ER.lock{l:Option Nat}(x:ER C env ρ h H):ER C env ρ (h.lock l) H:=⟨x.loc,x.adJ,x.cells,x.apart⟩
theorem Wz.lk(w:Wz C d A env ρ h s)(L:mC src h bp)(eg:∀n o,src=aa (n,o)->h.get n=aa o):Wz C d A env ρ bp s:=by
 rcases L with ⟨_,e⟩|⟨n,e,_,e'⟩
 ·exact e▸w
 ·rw[e'];cases src with
  |none=>exact zA e
  |some p=>
   cases p with
   |mk n o=>
   cases o with
   |list|inst=>exact zA e
   |dict es=>cases zF e;exact⟨w.rm,w.ek,w.hr.lock (eg n _ rfl),w.er.lock,w.fr⟩
theorem Wz.adC(w:Wz C d A env ρ h s):Wz C d A env ρ (g9 src h) s:=
 ⟨w.rm,w.ek,w.hr.adC,(by delta g9;cases iW src with|none=>exact w.er|some n=>exact w.er.lock),(by delta g9;cases iW src with|none=>exact w.fr|some n=>exact w.fr)⟩
theorem Tr.adC(L:mC src h bp)(t:Tr m W' bp H aU H'):Tr m W' h H (g9 src aU) H':=by
 delta g9;rcases L with ⟨e,e'⟩|⟨n,e,e1,e'⟩
 ·rw[e];exact e'▸t
 ·rw[e];rw[e'] at t;exact⟨t.keep,t.new,e1.symm,λ_ j o q=>by exact zA (e1.symm.trans q)⟩
theorem Pt.adC(L:mC src h bp)(p:Pt C m W' bp s aU aW):Pt C m W' h s (g9 src aU) aW:=⟨p.hr.adC,p.tr.adC L,p.sm⟩
theorem XR.adC{ex:av}(L:mC src h bp)(x:XR C A W' bp s aU ex aW):XR C A W' h s (g9 src aU) ex aW:=by
 (refine be x λa b aD=>?_;refine e4a3 aD λea a0 B l c d f=>?_);exact⟨a.adC L,b,ea,a0,B,l,c,d.adC,f⟩
theorem mC.lk(L:mC src h bp):∀n,iW src=aa n->bp.lk=aa n:=λn q=>by
 rcases L with ⟨e,_⟩|⟨j,e,_,e'⟩
 ·exact zA (e.symm.trans q)
 ·cases zF (e.symm.trans q);rw[e'];rfl
theorem tx(w:Wz C d A env ρ h s)(hf:∀b,fp b->s.heap.get? b=ao):Pv C A env h fp:=λb hb=>by
 have e:=hf b hb;refine⟨w.hr.nil e,w.hr.h0 e,λq=>?_,λl hl ev he L=>?_⟩
 ·refine e1a2 (w.er.there q) λo ho _=>?_;exact zA (e.symm.trans ho)
 ·refine e1a3 w.fr λl' eZ zS _=>?_;cases zF (hl.symm.trans eZ)
  (refine aC (zS.mem (GX.mpr ⟨ev,he,L⟩)) λ_ aD=>?_;refine e1a2 aD λo ho _=>?_)
  exact zA (e.symm.trans ho)
theorem Rw{tup:Bool}{ts:List Nat}{sb:S}{lb:List bL}(F:mA A env)(hs:∀x,Qe pe env x=pure x)(hi:SI C d m A env target e pe)
  (wc:∀X':aB->Prop,nJ (C.x X') d A env (dc env) tup ts target) (hb:∀X':aB->Prop,mo (C.x X') d au A env sb lb):fJ C d m A env (.f tup ts e sb) (.For target pe lb [] pos):=λ{ρ h s Q q E'} W v k=>by
 refine wpAny_For (hi W v (λh1 src l s1 p z eg X' I fp St Md H' tk fr kp hX zT It st=>?_) λh' e s' z x=>k.x h' e s' z x.mono) hs;refine e1a2 (mC.of z) λh2 L z=>?_;have w1:=(W.step p).lk L eg;have w2:=w1.x (X':=X') (tk:=tk) kp λa q=>(zT a q).imp id λz=>⟨fr a z.1,z.2⟩;have k1:=k.step p.mono;have K2:Ks (C.x X') d au A env (de (ts++fG sb) ρ) h2 s1 (adC src Q) q E':=
  ⟨λaO h' s' z o w p=>k1.n aO _ s' z o (w.less hX).adC ((p.less hX).adC L).up,λaO h' s' z o w p=>k1.c aO _ s' z o (w.less hX).adC ((p.less hX).adC L).up,λv aO h' pv s' z r p=>k1.t v aO _ pv s' z (r.mono (vg hX)) ((p.less hX).adC L).up,λh' e s' z x=>k1.x _ e s' z ((x.less hX).adC L)⟩
 exact YG F It (wc X') (hb X') fr K2 l w2 (λb hb=>tx w1 fr b hb) L.lk st ⟨w2.hr,.kp kp,rfl,rfl,rfl⟩ .adN z
theorem Xs(hp:IR e=ah){X:Hp->Prop}{ρ:Mine.Env}{h:Hp}{K:Hp->Option (Nat×O)->List V->Prop}(v:Dy Cl e X ρ K h):vE Cl e X ρ (Ji K) h:=by
 cases e with
 |u op a=>cases op <;> first|exact v|exact zC hp
 |b op a b=>cases op <;> first|exact v|exact zC hp
 |_=>exact v
theorem C5(G:bU C)(hp:IR e=ah)(he:SE C d m A env e pe):SI C d m A env target e pe:=λ{ρ h s X K q E} W v f x=>
 he W (Xs hp v) ⟨λa h1 x s1 z r p=>K_ G.k W.rm.1 p.hr r z λsrc l z eg _=>f h1 src l s1 p z eg,x⟩
theorem vz{T:String}{args:List aN}{q:av->aA->Prop}(G:bU C)(W:Wz C d A env ρ h s)(hT:T∈["range","zip","reversed","list"])(hk:env.kindOf (dD T)=aa .globalImplicit)(cJ:args.all cB=ah)
  (h:ay C.M A (AR (ng pos (k8 args env))) (λvs aW=>C.K.In aW.heap/\ay C.M A (qo (.type T) vs) q E' aW) E' s):ay C.M A (c_ (.Call (.Name (dD T) p) args [] pos) env) q E' s:=by
 refine f9 (G.bnm T hT) λa b c d=>?_;exact Call_ (K5 G W hk a b c d (u_ (K:=C.K) (first:=[]) (C2 rfl) cJ h))
theorem xV(h:cB pa=ah):[pa].all cB=ah:=by show(cB pa&&ah)=ah;rw[h];rfl
theorem IA(h:cB pa=ah)(h':cB pb=ah):[pa,pb].all cB=ah:=by show(cB pa&&(cB pb&&ah))=ah;rw[h,h'];rfl
theorem Zn(G:bU C)(hk:env.kindOf (dD "range")=aa .globalImplicit)(cJ:cB pa=ah)(ha:SE C d m A env a pa):SI C d m A env target (.u .R a) (.Call (.Name "range" p) [pa] [] pos):=λ{ρ h s X K q E} W v f x=>by
 refine vz (T:="range") G W (.head _) hk (xV cJ) (oX (ha W v ⟨λa h1 x s1 z r p=>r6 ⟨G.k.ady.keeps p.hr.keep,?_⟩,x⟩) (kj cJ []))
 (refine e2a2 (nG z r) λk t e aD=>?_;refine aC aD λhk z=>?_)
 rw[e];refine call_range_1 ?_;have hsm:e8.Range.small 0 k 1=ah:=small_one (by decide) (by decide) (oS (by decide) (iN hk).1) (G3 (iN hk).2 (by decide));refine wpAny_pyIter_range (r:=s1.heap.objs.size) (cV _ rfl) hsm ?_;have jV:=Kp.push s1.heap {cls:=.type "range",data:=.fields #[.int 0 s1.toks,.int k t,.int 1 (s1.toks+1)]};generalize s1.heap.push {cls:=.type "range",data:=.fields #[.int 0 s1.toks,.int k t,.int 1 (s1.toks+1)]}=H1 at jV;have cU:e8.Range.rangeSize 0 k 1=(k.toNat:Int):=by
  rw[rangeSize_one];split <;> rename_i q
  ·exact(Qf k).trans (abS (Ar q)).symm
  ·exact(congrArg Int.ofNat (Int.toNat_eq_zero.mpr (G6.mp q))).symm
 refine f h1 ao _ s1 p z (λn o q=>nomatch q) C.pr _ (· =H1.objs.size) _ _ _ _ (λb e=>e▸Kp.fresh jV) (jV.trans (Kp.push _ _)) (λ_ z=>z) (λa z=>.inl z) (YH (n:=k.toNat) W.rm.1 (p.hr.adH (Kp.fresh jV))) ⟨0,?_,g0 _,rfl⟩;rw[cU,show((k.toNat:Int)-(0:Nat))=k.toNat from Qf _];exact cV _ rfl
theorem Xm(G:bU C)(hk:env.kindOf (dD "reversed")=aa .globalImplicit)(cJ:cB pa=ah)(ha:SE C d m A env a pa):SI C d m A env target (.u .V a) (.Call (.Name "reversed" p) [pa] [] pos):=λ{ρ h s X K q E} W v f x=>by refine vz (T:="reversed") G W (.tail _ (.tail _ (.head _))) hk (xV cJ) (oX (ha W v ⟨λa h1 x s1 z r p=>r6 ⟨G.k.ady.keeps p.hr.keep,?_⟩,x⟩) (kj cJ []));refine e3a6 (pU z r) λxs t l _ e ht zz hn z=>?_;rw[e];refine YO (yb hn) ht.2 (MU ⟨_,cV _ rfl,rfl,rfl⟩ ?_);refine f h1 ao _ s1 p z (λn o q=>nomatch q) C.pr _ (· =s1.heap.objs.size) _ _ _ _ (λb e=>e▸dM _) (Kp.push _ _) (λ_ z=>z) (λa z=>.inl z) (WP (t:=t) (pl:=l) (items:=xs) W.rm.1 (p.hr.adH (dM _)) hn) ⟨0,g0 _,?_,TK.of (Kp.push _ _) _ _ ht,zz.mono (TK.of (Kp.push _ _)),rfl⟩;rw[show((l.length:Int)-1-(0:Nat))=(l.toArray.size:Int)-1 from Qf _];exact⟨_,cV _ rfl,rfl,rfl⟩
theorem J9{l1 l2:aB}(h1:H.get? l1≠ao)(h2:H.get? l2≠ao):se (H.objs.size+4) (H.objs.size+2) (H.objs.size+3) H.objs.size (H.objs.size+1) l1 l2:=by
 have lt:∀{l:aB},H.get? l≠ao->l<H.objs.size:=λ{l} e=>by refine e1a1 (uI.mp e) λo ho=>?_;exact fX ho
 have a:=lt h1;have b:=lt h2;constructor <;> first|exact fE a|exact fE b|exact HV a|exact HV b|exact rl (by decide)|exact qD|exact qD.symm
theorem IZ{x y:V}{P:List (V×V)->Prop}(z:oG (tT x y) P):∃xs ys,x.items=aa xs/\y.items=aa ys/\P (xs.zip ys):=by refine e1a2 (tL z) λps e z=>?_;refine e1a2 (rS.mp e) λxs e1 e=>?_;refine e1a2 (iD.mp e) λys e2 e=>?_;exact⟨xs,ys,e1,e2,e.symm▸z⟩
theorem S7(G:bU C){Fz:List aN}{j:Nat}{FA:Pos}(hk:env.kindOf (dD "zip")=aa .globalImplicit)(cJ:cB pa=ah)(wA:cB pb=ah)(ha:SE C d m A env a pa)(hb:SE C d m A env b pb):SI C d m A env (.Tuple Fz j FA) (.b .z a b) (.Call (.Name "zip" p) [pa,pb] [] pos):=λ{ρ h s X K q E} W v f x=>by
 refine vz (T:="zip") G W (.tail _ (.head _)) hk (IA cJ wA) (oX (ha W v ⟨λa h1 x1 s1 z r p=>oX (hb (W.step p) z ⟨λb h2 y s2 z r' p'=>r6 ⟨G.k.ady.keeps p'.hr.keep,?_⟩,λh' e s' z y=>x h' e s' z (p.ad6 y)⟩) (kj wA []),x⟩) (kj cJ [pb]));refine e2a3 (IZ z) λxs ys e1 e2 z=>?_;refine e2a4 ((r.st p.hr p').items e1) λt1 l1 e3 rJ z1 _=>?_;refine e2a4 (r'.items e2) λt2 l2 e4 oo z2 _=>?_;rw[e3,e4];refine Lj rJ.2 oo.2 λh' b1 b2 b3 b4 b5 b6 hk=>acz b1 ?_;have lt:∀b,s2.heap.objs.size<=b->s2.heap.get? b=ao:=λb hb=>oP hb;have fr:∀b,F5 (s2.heap.objs.size+4) (s2.heap.objs.size+2) (s2.heap.objs.size+3) s2.heap.objs.size (s2.heap.objs.size+1) b->s2.heap.get? b=ao:=λb hb=>lt b (by rcases hb with e|e|e|e|e <;> rw[e] <;> simp [aB])
 have np:∀b,s2.heap.get? b=ao->b≠s2.heap.objs.size+2->b≠s2.heap.objs.size+3->¬(b=s2.heap.objs.size+2\/b=s2.heap.objs.size+3\/C.pr b):=λb hb n1 n2 q=>q.elim n1 λq=>q.elim n2 (p'.hr.adH hb);have tk:∀a l,bR C s2.heap a l->bR (C.x λa=>a=s2.heap.objs.size+2\/a=s2.heap.objs.size+3\/C.pr a) h' a l:=Cn (λa q=>q.elim (λe=>.inr (fr a (.inr (.inl e)))) λq=>q.elim (λe=>.inr (fr a (.inr (.inr (.inl e))))) .inl) hk;refine f h2 ao _ s2 (p.trans p') z (λn o q=>nomatch q) (λa=>a=s2.heap.objs.size+2\/a=s2.heap.objs.size+3\/C.pr a) _ _ _ _ h' s2.toks fr hk (λa q=>.inr (.inr q)) (λa q=>?_)
  (Y3 (C:=C.x λa=>a=s2.heap.objs.size+2\/a=s2.heap.objs.size+3\/C.pr a) (vs:=xs) (ws:=ys) (xs:=l1) (ys:=l2) W.rm.1 (J9 (λq=>?_) λq=>?_) (np _ (fr _ (.inl rfl)) ?_ ?_) (np _ (fr _ (.inr (.inr (.inr (.inl rfl))))) ?_ ?_) (np _ (fr _ (.inr (.inr (.inr (.inr rfl))))) ?_ ?_) (.inl rfl) (.inr (.inl rfl))) ⟨0,⟨b1,b2,⟨_,_,b3⟩,b4,b5,tk _ _ rJ,tk _ _ oo,z1.mono tk,z2.mono tk⟩,rfl⟩
 ·rcases q with e|e|q
  ·exact .inr ⟨.inr (.inl e),_,_,_,e▸b2,rfl⟩
  ·exact .inr ⟨.inr (.inr (.inl e)),_,_,_,e▸b3,rfl⟩
  ·exact .inl q
 ·refine e1a2 rJ.2 λo ho _=>?_;exact zB (ho.symm.trans q)
 ·refine e1a2 oo.2 λo ho _=>?_;exact zB (ho.symm.trans q)
 all_goals first|exact rl (by decide)|exact qD|exact qD.symm
end
structure BZ(env:bJ)(scope:qm)(ts:List Nat):Prop where
 kind:scope.kind= .function
 cell:∀y∈scope.names,y.2≠.cell
 names:∀y∈scope.names,y.2= .local->scope.names.lookup y.1=aa .local
 free:∀y∈scope.names,y.2= .free->env.kindOf y.1=aa .cell\/env.kindOf y.1=aa .free
 loc:∀x,x<eN->scope.names.lookup (aE x)=aa .local->x∈ts
theorem g7{α β:Type}[BEq α][LawfulBEq α]:∀{l:List (α×β)} {a:α} {b:β},l.lookup a=aa b->(a,b)∈l:=by
 intro l;induction l with
 |nil=>exact nofun
 |cons vM r ih=>
  cases vM with
  |mk x1 x2=>
   intro a b e;rw[o8] at e;split at e
   ·rename_i q;cases zF e;rw[eq_of_beq q];exact .head _
   ·exact .tail _ (ih e)
theorem Ej{β:Type}:∀{l:List (Str×β)} {a:Str} {b:β},(a,b)∈l->∃b',l.lookup a=aa b':=by
 intro l;induction l with
 |nil=>exact nofun
 |cons vN r ih=>
  cases vN with
  |mk a' b'=>
   intro a b hm;rw[o8];by_cases q:(a==a')=ah
   ·rw[q];exact⟨b',rfl⟩
   ·rw[Aw.mpr q];exact ih ((a_.mp hm).resolve_left λz=>q (by cases z;exact beq_self_eq_true _))
noncomputable def CP(env:bJ)(x:Str×rY)(r:List (Str×aB)):Sem (ForInStep (List (Str×aB))):=match x with
 |(name,kind)=>if(kind==Hq)=ah then do let a<-cellOf env name;pure (Hr ((name,a)::r)) else pure (Hr r)
theorem Z0:∀(names:List (Str×rY)) (cs:List (Str×aB)),(∀y∈names,y.2= .free->∃a,env.cells.lookup y.1=aa a)->(∀p∈cs,env.cells.lookup p.1=aa p.2)->
  ∃cl,forIn (m:=Sem) names cs (CP env)=pure cl/\(∀p∈cl,env.cells.lookup p.1=aa p.2)/\(∀p∈cs,p∈cl)/\∀y∈names,y.2= .free->∃a,(y.1,a)∈cl:=by
 intro names;induction names with
 |nil=>intro cs _ h2;exact⟨cs,rfl,h2,λ_ e=>e,λ_ hy=>nomatch hy⟩
 |cons vQ r ih=>
  cases vQ with
  |mk n k=>
   intro cs h1 h2;by_cases hk:(k==Hq)=ah
   ·refine e1a1 (h1 (n,k) (.head _) (eq_of_beq hk)) λa ha=>?_;refine e1a4 (ih ((n,a)::cs) (λy hy=>h1 y (.tail _ hy)) λp hp=>(a_.mp hp).elim (λz=>z▸ha) (h2 p)) λcl e1 e2 e3 e4=>?_;refine⟨cl,?_,e2,λp hp=>e3 p (.tail _ hp),λy hy hf=>(a_.mp hy).elim (λz=>z▸⟨a,e3 _ (.head _)⟩) λhy=>e4 y hy hf⟩;rw[A4,<-e1];simp only [CP,show cellOf env n=pure a by unfold cellOf;rw[ha],hk,if_true,pure_bind]
   ·refine e1a4 (ih cs (λy hy=>h1 y (.tail _ hy)) h2) λcl e1 e2 e3 e4=>?_;refine⟨cl,?_,e2,e3,λy hy hf=>(a_.mp hy).elim (λz=>absurd (by rw[z] at hf;exact beq_iff_eq.mpr hf) hk) λhy=>e4 y hy hf⟩;rw[A4,<-e1];simp only [CP,Aw.mpr hk,acA,if_false,pure_bind]
theorem aaN(h1:∀y∈scope.names,y.2= .free->∃a,env.cells.lookup y.1=aa a):∃cl,closureFor scope env=pure cl/\(∀p∈cl,env.cells.lookup p.1=aa p.2)/\∀y∈scope.names,y.2= .free->∃a,(y.1,a)∈cl:=by
 refine e1a4 (Z0 (env:=env) scope.names [] h1 (λp hp=>nomatch hp)) λcl e1 e2 _ e4=>?_;refine⟨cl,?_,e2,e4⟩;rw[<-e1];dsimp only [closureFor];first
 |rfl
 |(simp only [bind_pure];rfl)
 |(rw[bind_pure])
theorem xX(n:Str):(nu scope env).names.lookup n=(scope.names.lookup n).map λk=>if(k== .free &&env.scope.kind== .function &&env.kindOf n==aa .cell) then .cell else k:=by
 unfold nu;dsimp only;induction scope.names with
 |nil=>rfl
 |cons x r ih=>
  obtain ⟨m,k⟩:=x;rw[bW,show(if(k==Hq&&env.scope.kind== .function &&env.kindOf m==aa .cell)=ah then(m,Qg) else(m,k))=(m,if(k==Hq&&env.scope.kind== .function &&env.kindOf m==aa .cell)=ah then Qg else k) by split <;> rfl,o8,o8];by_cases q:(n==m)=ah
  ·rw[q,eq_of_beq q];rfl
  ·rw[Aw.mpr q];exact ih
noncomputable def Dh(scope:qm)(ρ:Mine.Env):Mine.Env:=λx=>if x<eN/\scope.names.lookup (aE x)=aa .local then ao else ρ x
theorem UP(S:BZ env scope ts)(w:Wz C d A env ρ h s)(c1:∀p∈cl,env.cells.lookup p.1=aa p.2)(c2:∀y∈scope.names,y.2= .free->∃a,(y.1,a)∈cl)(k:Kp s.heap H')(hL:s.heap.get? L=ao)(hn:H'.Ns L λ_=>ao):
  EK (xh scope cl L env)/\ER C (xh scope cl L env) (Dh scope ρ) h H':=by
 have t:TK C s.heap H':=TK.of k;have lX:∀n c,cl.lookup n=aa c->env.cells.lookup n=aa c:=λn c e=>c1 (n,c) (g7 e);refine⟨⟨S.kind,w.ek.gl,w.ek.bi,λn n' c e1 e2=>w.ek.inj n n' c (lX _ _ e1) (lX _ _ e2)⟩,⟨_,hn,λx v e1 e2 e3=>?_⟩,λn oa=>?_,λn c hl=>?_,λa ha=>?_⟩
 ·have e4:(nu scope env).names.lookup (aE x)=aa .local:=e3;rw[xX] at e4;refine e1a2 (iD.mp e4) λkd q e4=>?_;split at e4
  ·cases e4
  ·rw[e4] at q;exact nomatch (if_pos ⟨e2,q⟩:Dh scope ρ x=ao).symm.trans e1
 ·have mZ:scope.names.lookup n=aa .free:=by
   have e4:(nu scope env).names.lookup n=aa .cell\/(nu scope env).names.lookup n=aa .free:=oa;rw[xX] at e4;cases q:scope.names.lookup n with
   |none=>rw[q] at e4;rcases e4 with z|z <;> exact zA z
   |some kd=>
    rw[q] at e4;have hc:=S.cell _ (g7 q);cases kd with
    |free=>rfl
    |cell=>exact absurd rfl hc
    |_=>rcases e4 with z|z <;> cases z
  refine e1a1 (c2 _ (g7 mZ) rfl) λa ha=>?_;exact Ej ha
 ·(refine e1a2 (w.er.cells n c (lX _ _ hl)) λv bq kk=>?_;refine e1a2 bq λo ho hd=>?_)
  refine⟨v,⟨o,k _ _ ho,hd⟩,λoa x u e1 e2 e3=>?_⟩;have hk:env.kindOf n=aa .cell\/env.kindOf n=aa .free:=by
   have e4:(nu scope env).names.lookup n=aa .cell\/(nu scope env).names.lookup n=aa .free:=oa;rw[xX] at e4;cases q:scope.names.lookup n with
   |none=>rw[q] at e4;rcases e4 with z|z <;> exact zA z
   |some kd=>
    rw[q] at e4;have hc:=S.cell _ (g7 q);cases kd with
    |free=>exact S.free _ (g7 q) rfl
    |cell=>exact absurd rfl hc
    |_=>rcases e4 with z|z <;> cases z
  have e3:(if x<eN/\scope.names.lookup (aE x)=aa .local then ao else ρ x)=aa u:=e3;split at e3
  ·exact zA e3
  ·refine e1a2 (kk hk x u e1 e2 e3) λpv a b=>?_;exact⟨pv,a,b.mono t⟩
 ·rcases ha with ha|⟨n,ha⟩
  ·have ha:a=L:=ha;exact⟨ha▸w.hr.nil hL,ha▸w.hr.h0 hL⟩
  ·exact w.er.apart a (.inr ⟨n,lX _ _ ha⟩)
theorem Mr:∀{ts:List Nat} {vs:List V} {ρ aO:Mine.Env},vs.length=ts.length->(∀y,y∉ts->ρ y=aO y)->bf ts vs ρ=bf ts vs aO:=by
 intro ts;induction ts with
 |nil=>
  intro Fg;cases Fg with
  |nil=>intro ρ aO _ h;exact funext λy=>h y fF
  |cons _ _=>exact nofun
 |cons x r ih=>
  intro Fh;cases Fh with
  |nil=>exact nofun
  |cons v vs=>
   intro ρ aO hl h;exact ih (jZ hl) λy hy=>by
     show(if y=x then aa v else ρ y)=if y=x then aa v else aO y
     by_cases q:y=x
     ·rw[if_pos q,if_pos q]
     ·rw[if_neg q,if_neg q];exact h y λz=>(a_.mp z).elim q hy
theorem TM(ht:tup=ah\/∃x,ts=[x])(h1:∀y,y∉ts->ρ y=aO y)(z:js tup ts v ρ P h):js tup ts v aO P h:=by
 cases tup with
 |false=>refine e1a1 (ht.resolve_left λq=>nomatch q) λx e=>?_;rw[e] at z h1 ⊢;have e:bf [x] [v] ρ=bf [x] [v] aO:=Mr rfl h1;show P (bf [x] [v] aO);rw[<-e];exact z
 |true=>
  have st:∀{vs:List V},br (dU vs.length ts.length) (P (bf ts vs ρ)) False->br (dU vs.length ts.length) (P (bf ts vs aO)) False:=λ{vs} z=>by refine aC (uW z) λc z=>?_;rw[<-Mr (AV c) h1,c];exact z
  have z:sZ v (λvs=>br (dU vs.length ts.length) (P (bf ts vs ρ)) False) h:=z;show sZ v (λvs=>br (dU vs.length ts.length) (P (bf ts vs aO)) False) h
  revert z
  delta sZ;cases v.adG with
  |some n=>exact λyy=>e1a2 yy λxs e z=>⟨xs,e,st z⟩
  |none=>intro z;refine e1a2 (tL z) λxs e z=>?_;show oG v.items _;rw[e];exact st z
theorem dk.comp(e:iA.scope=nu sc env):dk sc.names iA:=by
 have key:∀n,iA.kindOf n=(sc.names.lookup n).map λk=>if(k== .free &&env.scope.kind== .function &&env.kindOf n==aa .cell) then .cell else k:=λn=>by show iA.scope.names.lookup n=_;rw[e,xX]
 refine⟨λn h=>?_,λn h=>?_,λn h=>?_,λn h=>?_⟩ <;> rw[key,h,Qh]
 ·rfl
 ·rfl
 ·split
  ·exact .inl rfl
  ·exact .inr rfl
 ·rfl
noncomputable abbrev Jo(ifs:List aN)(env:bJ):Sem Bool:=forIn ifs ah λc r=>if r=ah then do let ok<-rZ c env (c_ c env);pure (Hr ok) else pure (Hr r)
inductive uS(C:aY)(d:Nat)(A:bg)(env:bJ):List aN->E->Prop
 |none:uS C d A env [] (.l (.bool ah))
 |one {c:E} {pc:aN}:ST C d au A env c pc->uS C d A env [pc] c
def Dl(C:aY)(acc:List V)(D:aB)(H:aL):Prop:=∃pl k,H.get? D=aa {cls:=.type "list",data:=.seq (bH pl) k}/\VL C H acc pl
section
variable {C:aY}{d:Nat}{m:Bool}{A:bg}{env:bJ}{ρ wB:Mine.Env}{h h₀ aU:Hp}{H H':aL}{s s₀ aW:aA}{q:av->aA->Prop}{E':av->aA->Prop}{fp:aB->Prop}{src:Option (Nat×O)}{e elt it cond:E}{pe gu target iter:aN}{ifs:List aN}{scope:qm}{pos:Pos}{R:rX->aA->Prop}{D:aB}{acc:List V}
theorem Ju{it ac:av}(turn:ay C.M A (ni it) (λr aW=>match r with
   |none=>R (.ok .next) aW
   |some v=>ay C.M A (Hg target it v) (λ_ wa=>ay C.M A (oZ target env v) (λ_ eU=>
     ay C.M A (Jo ifs env) (λok fQ=>
      if ok=ah then ay C.M A (c_ gu env) (λx ND=>
       ay C.M A (call (.builtin "list.append") [ac,x]) (λ_ NE=>gG C.M A (.compLoop (.ListComp gu [⟨target,iter,ifs,0⟩] scope pos) 0 it ac env) R NE) (j9 C.M A env λe s'=>R (.error e) s') ND) (j9 C.M A env λe s'=>R (.error e) s') fQ
      else gG C.M A (.compLoop (.ListComp gu [⟨target,iter,ifs,0⟩] scope pos) 0 it ac env) R fQ) (j9 C.M A env λe s'=>R (.error e) s') eU) (j9 C.M A env λe s'=>R (.error e) s') wa) (j9 C.M A env λe s'=>R (.error e) s') aW) (j9 C.M A env λe s'=>R (.error e) s') s):
  gG C.M A (.compLoop (.ListComp gu [⟨target,iter,ifs,0⟩] scope pos) 0 it ac env) R s:=by
 refine AY ?_;show ay _ A ((compTurn (.ListComp gu [⟨target,iter,ifs,0⟩] scope pos) 0 it ac env).onRaise (λx=>do AX x env;PU x)) _ _ s;refine PW ?_;rw[compTurn_list];refine ax (iI (ax (fj turn (λr aW aU=>?_) λ_ _ h'=>h')));cases r with
 |none=>exact aQ aU
 |some v=>
  refine ax (fj aU (λ_ wa Fq=>?_) λ_ _ h'=>h');refine ax (fj Fq (λ_ eU bp=>ax (fj bp (λok fQ c8=>?_) λ_ _ h'=>h')) λ_ _ h'=>h');cases ok with
  |false=>exact aQ ⟨rfl,c8⟩
  |true=>exact ax (ax (fj c8 (λx ND m7=>ax (fj m7 (λ_ NE e7=>aQ (aQ ⟨rfl,e7⟩)) λ_ _ h'=>h')) λ_ _ h'=>h'))
theorem Z'{F:Bool->Hp->Prop}{q:Bool->aA->Prop}(hc:uS C d A env ifs cond)(w:Wz C d A env ρ h s)(z:vE Cl cond nX ρ (lL F) h)(k:∀b h' s',F b h'->Pt C au No h s h' s'->q b s'):ay C.M A (Jo ifs env) q E' s:=by
 cases hc with
 |none=>exact wpAny_tests_nil (k ah h s z ⟨w.hr,.refl,rfl,rfl,rfl⟩)
 |one hc=>exact wpAny_tests_one (hc (P:=λ_=>F) w z ⟨λp h' b s' z e p'=>k b h' s' ((show p.2=b from e)▸z.1) p',λ_ _ _ z=>z.elim⟩)
theorem Wz.anti{aO:Mine.Env}(w:Wz C d A env ρ h s)(f:∀x v,aO x=aa v->ρ x=aa v):Wz C d A env aO h s:=
 ⟨w.rm,w.ek,w.hr,⟨by refine e1a2 w.er.loc λM a b=>?_;exact⟨M,a,λx v e=>b x v (f x v e)⟩,w.er.adJ,λn c hl=>by refine e1a2 (w.er.cells n c hl) λv a b=>?_;exact⟨v,a,λhn x u e1 e2 e3=>b hn x u e1 e2 (f x u e3)⟩,w.er.apart⟩,w.fr⟩
theorem Dl.tr{W':aB->Prop}(x:Dl C acc D H)(t:Tr au W' h H aU H')(n:¬b9 h D)(nW:¬W' D)(k:TK C H H'):Dl C acc D H':=by refine e2a2 x λpl j ho z=>?_;exact⟨pl,j,t.ad5 ho n nW,z.mono k⟩
theorem Dl.off(x:Dl C acc D H)(ko:kJ C fp H H')(n:¬fp D)(k:TK C H H'):Dl C acc D H':=by refine e2a2 x λpl j ho z=>?_;exact⟨pl,j,ko.1 D _ n ho,z.mono k⟩
theorem Pt.aen{W':aB->Prop}(p:Pt C m No h₀ s₀ h s)(p':Pt C m W' h s aU aW)(f:∀b,W' b->s₀.heap.get? b=ao):Pt C m No h₀ s₀ aU aW:=by have:=(p.mono (W:=W')).trans p';exact⟨this.hr,this.tr.drop λa o w e=>(by exact zA ((f a w).symm.trans e)),this.sm⟩
theorem VX{I:aB}{St:List V->aL->Prop}{Md:List V->av->aL->Prop}{tup:Bool}{ts:List Nat}{K:List V->Hp->Prop}(It:iV C A target I fp src St Md)(ht:tup=ah\/∃x,ts=[x])(wc:nJ C d A env (· =env.locals) tup ts target)(hc:uS C d A env ifs cond)(he:SE C d au A env elt gu)
  (jy:∀y,y∉ts->ρ y=wB y) (hn:∀y∈ts,wB y=ao) (hD:¬fp D) (hpD:¬C.pr D) (zU:∀b,fp b\/b=D\/b=env.locals->s₀.heap.get? b=ao)
  (fin:∀acc h' s',K acc h'->acc.length<=2*aG->Wz C d A env wB h' s'->Dl C acc D s'.heap->Pt C au No h₀ s₀ h' s'->¬b9 h' D->R (.ok .next) s'):
  ∀(l acc:List V) {h:Hp} {s:aA},Wz C d A env wB h s->Pv C A env h (λb=>fp b\/b=D)->(∀n,iW src=aa n->h.lk=aa n)->St l s.heap->Dl C acc D s.heap->acc.length+l.length<=2*aG->Pt C au No h₀ s₀ h s->mx tup ts (vE Cl cond nX) (vE Cl elt nX) ρ src K l acc h->
  gG C.M A (.compLoop (.ListComp gu [⟨target,iter,ifs,0⟩] scope pos) 0 (.ref I) (.ref D) env) R s:=by
 intro l;induction l with
 |nil=>
  intro acc h s w pv L st dl hl P v;exact Ju (It.done v.1 w.hr st λH' tk ko=>by refine aC (lg w (λb hb=>pv b (.inl hb)) ko (λb hb=>(It.alive _ _ st b hb).2) (tk:=tk)) λw' t=>?_;exact fin acc h _ v.2 hl w' (dl.off ko hD t) (P.off (λb hb=>zU b (.inl hb)) ko w'.hr) (pv D (.inr rfl)).1)
 |cons x r ih=>
  intro acc h s w pv L st dl hl P v;exact Ju (It.item v.1 w.hr st λpx H1 jW md t7 ko=>by
     have FC:Pv C A env h fp:=λb hb=>pv b (.inl hb);have NG:=λb hb=>zU b (.inl hb);refine aC (lg w FC ko (λb hb=>(It.alive _ _ st b hb).2) (tk:=jW)) λw1 t1=>?_;refine It.go (s:={s with heap:=H1,toks:=jW}) md λH2 rI uc=>?_;refine aC (lg w1 FC uc (λb hb=>(It.adX _ _ _ md b hb).2) (tk:=jW)) λw2 t2=>?_;have P2:=(P.off NG ko w1.hr (tk:=jW)).off NG uc w2.hr (tk:=jW);have NH:=(dl.off ko hD t1).off uc hD t2;have nW:∀b,fp b\/b=D->¬(b=env.locals):=λb hb q=>(pv b hb).2.2.1 (.inl q);have lW:∀a,a=env.locals->dc env a:=λa q=>.inl q;refine wc (m:=au) w2 (t7.mono t2) (TM ht jy v.2) λzN s3 z3 o3 w3 p3=>?_;have t3:=yZ w2 lW p3;have al:∀{l:List V} {acc:List V} {H:aL},St l H->Dl C acc D H->∀b,fp b\/b=D->H.get? b≠ao:=λst dl b hb=>hb.elim (λhb=>(It.alive _ _ st b hb).1) λhb=>by refine e2a2 dl λpl j ho _=>?_;rw[hb,ho];exact λq=>nomatch q
     have we:=yx It rI FC p3.tr (λb hb=>nW b (.inl hb)) t3 L;have NI:=NH.tr p3.tr (pv D (.inr rfl)).1 (nW D (.inr rfl)) t3;have ud:=pv.step p3.tr (al rI NH) nW;have P3:=P2.aen p3 λb hb=>zU b (.inr (.inr hb));have nx:∀{h':Hp} {s':aA},Pt C au No h s3 h' s'->Wz C d A env zN h' s'/\Pv C A env h' (λb=>fp b\/b=D)/\St r s'.heap/\Dl C acc D s'.heap/\Pt C au No h₀ s₀ h' s':=λp=>by have t:=p.tk w3.hr;exact⟨w3.step p,ud.step p.tr (al we NI) (λ_ _ q=>q),yx It we (λb hb=>ud b (.inl hb)) p.tr (λ_ _ q=>q) t λn e=>p3.tr.lk.trans (L n e),NI.tr p.tr (ud D (.inr rfl)).1 id t,P3.trans p⟩
     have jO:∀{h':Hp} {s':aA},Wz C d A env zN h' s'->Wz C d A env wB h' s':=λw=>w.anti λy u e=>by
      by_cases hy:y∈ts
      ·exact zA ((hn y hy).symm.trans e)
      ·exact(o3 y hy).trans e
     refine Z' hc w3 z3 λok h4 s4 z4 p4=>?_;refine iX (nx p4) λw4 pv4 st4 dl4 P4=>?_;have eZ:acc.length+1+r.length<=2*aG:=by rw[hZ,dB 1];exact hl
     have L4:∀n,iW src=aa n->h4.lk=aa n:=λn e=>(p4.tr.lk.trans p3.tr.lk).trans (L n e);cases ok with
     |false=>exact ih acc (jO w4) pv4 L4 st4 dl4 (aI (fC (gZ _) _) eZ) P4 z4
     |true=>
      refine he w4 z4 ⟨λu h5 y s5 z5 r5 p5=>?_,λ_ _ _ z=>z.elim⟩;refine iX (nx (p4.trans p5)) λw5 FE st5 dl5 P5=>?_;refine e2a2 (id dl5) λpl j ho zz=>?_;refine aca ⟨j,ho⟩ (λh' fR c7=>?_) (fI (show pl.length<=_ from zz.len▸aI (b_ _ _) (aI (b_ _ _) eZ)));refine e1a1 fR λj' bN=>?_;have NJ:kJ C (· =D) s5.heap h':=hV c7.extBut hpD;refine aC (lg w5 (λb hb=>FE b (.inr hb)) NJ (λb hb=>(iT ho rfl (by decide) b hb).2) (tk:=s5.toks)) λw6 t6=>?_;have st6:=It.frame _ _ _ st5 (λb hb=>c7.2 b λq=>hD (q▸hb)) t6 λn o e e1=>(c7.2 n λq=>by refine e1a1 (w5.hr.adQ n ((p5.tr.lk).trans (L4 n e))) λes e2=>?_;exact(FE D (.inr rfl)).1 ⟨n,_,e2,.inl q.symm⟩).trans e1
      exact ih (acc++[u]) (s:={s5 with heap:=h',toks:=s5.toks}) (jO w6) FE (λn e=>p5.tr.lk.trans (L4 n e)) st6 ⟨pl++[y],j',by rw[bN,Px],(zz.snoc r5).mono t6⟩ (by rw[aT];exact eZ) (P5.off (λb hb=>zU b (.inr (.inl hb))) NJ w6.hr (tk:=s5.toks)) z5)
end
section
variable {C:aY}{d:Nat}{m:Bool}{A:bg}{env:bJ}{ρ:Mine.Env}{h:Hp}{s:aA}{X:Hp->Prop}{Q:PV}{q:av->aA->Prop}{E':av->aA->Prop}{elt it cond:E}{gu jA target:aN}{ifs:List aN}{scope:qm}{pos cp p fM:Pos}{tup:Bool}{ts:List Nat}{x:Nat}
structure y6(C:aY)(d:Nat)(m:Bool)(A:bg)(env:bJ)(elt it cond:E)(tup:Bool)(ts:List Nat)(target gu jA:aN)(ifs:List aN)(scope:qm):Prop where
 S:BZ env scope ts
 hs:∀x,Qe jA env x=pure x
 hi:SE C d m A env it jA
 ht:tup=ah\/∃x,ts=[x]
 hl:∀y∈ts,y<eN/\scope.names.lookup (aE y)=aa .local
 hb:∀(X':aB->Prop) (iA:bJ),iA.scope=nu scope env->nJ (C.x X') d A iA (· =iA.locals) tup ts target
 hc:∀(X':aB->Prop) (iA:bJ),iA.scope=nu scope env->uS (C.x X') d A iA ifs cond
 he:∀(X':aB->Prop) (iA:bJ),iA.scope=nu scope env->SE (C.x X') d au A iA elt gu
theorem Jb(G:bU C)(O:y6 C d m A env elt it cond tup ts target gu jA ifs scope){use:Option (av->Sem Unit)}(W:Wz C d A env ρ h s)(v:vE Cl (.C elt tup ts it cond) X ρ Q h)(hx:∀h' e s',X h'->XR C A No h s h' e s'->E' e s')
  (fin:∀h1 s1 h2 D L M s',Pt C m No h s h1 s1->Q (.ref D) h2->Pt C au No h1 s1 h2 s'->s1.heap.get? L=ao->s'.heap.Ns L M->¬b9 h2 L->compPost C.M A E' use q (.ref D) L (.ok .next) s'):
  ay C.M A (comprehension (.ListComp gu [⟨target,jA,ifs,0⟩] scope pos) scope env cp (newList []) au (c_ jA env) use) q E' s:=by
 obtain ⟨S,hs,hi,ht,hl,hb,hc,he⟩:=O;refine e1a3 (aaN (scope:=scope) (env:=env) λy hy hf=>W.er.adJ _ (S.free y hy hf)) λcl oq c1 c2=>?_;refine wpAny_comprehension_free (use:=use) rfl hs oq S.kind S.names (hi W v ⟨λa h1 x s1 z r p=>K_ (target:=target) (K:=λs l=>vh s (mx tup ts (vE Cl cond nX) (vE Cl elt nX) ρ s (λacc h=>cj (.list acc) Q (g9 s h)) l []) h1) G.k W.rm.1 p.hr r z λsrc l z eg gr X' I fp St Md H' tk fr kp hX zT It st=>?_,hx⟩);refine e1a2 (mC.of z) λh2 L z=>?_;have w1:=(W.step p).lk L eg;have w2:=w1.x (X':=X') (tk:=tk) kp λa q=>(zT a q).imp id λz=>⟨fr a z.1,z.2⟩;refine oQ (wpAny_newFunctionEnv S.cell (λy hy=>nomatch hy) (λc8 uf FF=>?_) S.kind);dsimp only at uf FF ⊢;have gD:(H'.push {cls:=.type "list",dict:=ao,data:=.seq ([]:List av).toArray}).get? H'.objs.size=aa {cls:=.type "list",dict:=ao,data:=.seq ([]:List av).toArray}:=cV _ rfl;have kD:=Kp.push H' {cls:=.type "list",dict:=ao,data:=.seq ([]:List av).toArray};generalize H'.push {cls:=.type "list",dict:=ao,data:=.seq ([]:List av).toArray}=H2 at uf FF kD gD ⊢;have hL:H2.get? H2.objs.size=ao:=dM _;have iB:Kp H2 c8:=λb o e=>FF.extBut b o (fE (fX e)) (cu _ e);have w3:Wz (C.x X') d A env ρ h2 {s1 with heap:=H2,toks:=tk}:=w2.kp (s':={s1 with heap:=H2,toks:=tk}) kD;refine aC (UP S w3 c1 c2 iB hL uf) λek er=>?_;have w4:Wz (C.x X') d A (xh scope cl H2.objs.size env) (Dh scope ρ) h2 {s1 with heap:=c8,toks:=tk+([]:List (Str×av)).length}:=⟨w3.rm,ek,w3.hr.kp iB,er,(w3.kp (s':={s1 with heap:=c8}) iB).fr⟩;have kk:=(Kp.trans kp kD).trans iB;have fD:s1.heap.get? H'.objs.size=ao:=Kp.fresh kp;have fL:s1.heap.get? H2.objs.size=ao:=Kp.fresh (Kp.trans kp kD);have wC:∀b,fp b->H'.get? b≠ao:=λb hb=>(It.alive _ _ st b hb).1;have clW:∀{b},dc (xh scope cl H2.objs.size env) b->b=H2.objs.size\/dc env b:=λ{b} q=>q.imp id λ⟨n,q⟩=>.inr ⟨n,c1 (n,b) (g7 q)⟩;have pv:Pv (C.x X') A (xh scope cl H2.objs.size env) h2 (λb=>fp b\/b=H'.objs.size):=λb hb=>by
  have kX:s1.heap.get? b=ao:=hb.elim (fr b) λe=>e▸fD;have al:H2.get? b≠ao:=hb.elim (λhb=>by refine e1a1 (uI.mp (wC b hb)) λo ho=>?_;rw[kD b o ho];exact λq=>nomatch q) λe=>by rw[e,gD];exact λq=>nomatch q
  refine f9 (tx (fp:=(· =b)) w1 (λ_ e=>e▸kX) b rfl) λq1 q2 q3 q4=>?_;exact⟨q1,q2,λq=>(clW q).elim (λe=>al (e▸hL)) q3,q4⟩
 have loop:gG C.M A (.compLoop (.ListComp gu [⟨target,jA,ifs,0⟩] scope pos) 0 (.ref I) (.ref H'.objs.size) (xh scope cl H2.objs.size env)) (compPost C.M A E' use q (.ref H'.objs.size) H2.objs.size) {s1 with heap:=c8,toks:=tk+([]:List (Str×av)).length}:=by
  refine VX (C:=C.x X') (s₀:=s1) (h₀:=h2) (K:=λacc h=>cj (.list acc) Q (g9 src h)) (ρ:=ρ) It ht (hb X' _ rfl) (hc X' _ rfl) (he X' _ rfl) (λy hy=>?_) (λy hy=>if_pos (hl y hy)) (λq=>wC _ q (dM _)) (λq=>?_) (λb hb=>?_) (λacc h' s' z hn w dl P v4=>?_) l [] w4 pv L.lk ?_ ⟨[],_,iB _ _ gD,.nil⟩ (by rw[wZ,nb];exact gr) ⟨w4.hr,.kp kk,rfl,rfl,rfl⟩ z
  ·exact(if_neg λq=>hy (S.loc y q.1 q.2)).symm
  ·rcases zT _ q with q|q
   ·exact(W.step p).hr.adH fD q
   ·exact wC _ q.1 (dM _)
  ·rcases hb with hb|hb|hb
   ·exact fr b hb
   ·exact hb▸fD
   ·exact hb▸fL
  ·refine e2a2 dl λpl j ho zz=>?_;have P1:=(P.less (C:=C) hX).adC L;have FG:∀{b},b9 (g9 src h') b->b9 h' b:=λ{b} q=>by delta g9 at q;cases e:iW src <;> rw[e] at q <;> exact q
   have v5:=P1.hr.adopt (o:=.list acc) (H':=s'.heap) rfl (λq=>v4 (FG q)) (w1.hr.h0 fD) (w1.hr.adH fD) ⟨rfl,λ_ _=>rfl⟩ (λ_ _ x=>x) ⟨hn,pl,j,ho,zz.mono (vg hX)⟩;have hg:(g9 src h').get H'.objs.size=ao:=by
    cases q:(g9 src h').get H'.objs.size with
    |none=>rfl
    |some o=>exact absurd (FG ⟨_,o,q,.inl rfl⟩) v4
   refine e1a2 w.er.loc λM hM _=>?_;refine fin h1 s1 _ H'.objs.size H2.objs.size M s' p (z _ hg) ⟨v5,⟨P1.tr.keep,λa o e n f q=>?_,P1.tr.lk,P1.tr.pin⟩,P1.sm⟩ fL hM λq=>?_
   ·rcases q.put with q|q
    ·rw[mt rfl q,fD] at e;exact zA e
    ·exact P1.tr.new a o e n f q
   ·rcases q.put with q|q
    ·rw[mt rfl q,gD] at hL;exact zB hL
    ·exact(w.er.apart _ (.inl rfl)).1 (FG q)
  ·exact It.frame _ _ _ st (λb hb=>by refine e1a1 (uI.mp (wC b hb)) λo ho=>?_;rw[ho];exact iB _ _ (kD b o ho)) (TK.of (Kp.trans kD iB)) λn o _ e=>iB _ _ (kD n o e)
 exact codeAny_compStart_list loop (It.self (It.frame _ _ _ st (λb hb=>by refine e1a1 (uI.mp (wC b hb)) λo ho=>?_;rw[ho];exact iB _ _ (kD b o ho)) (TK.of (Kp.trans kD iB)) λn o _ e=>iB _ _ (kD n o e)) loop)
theorem Xo{H:aL}{L:aB}{M:Str->Option av}(hn:H.Ns L M):∀b,b=L->∀dI,¬bR C H b dI:=λb e dI yy=>aC yy λ_ aD=>e1a3 aD λo ho _ jU=>e1a1 jU λn hd=>by refine e1a3 (Ns.data hn) λoL pY _ n1=>?_;rw[e,pY] at ho;cases zF ho;exact n1 _ _ hd
theorem Mn{h2:Hp}{s1 s':aA}{L:aB}{M:Str->Option av}{wD:aL}{O:Mine.Env->Prop}{aO:Mine.Env}{W':aB->Prop}(w1:Wz C d A env ρ h s1)(w2:Wz C d A env aO h2 s')(P:Pt C au W' h s1 h2 s')(hL:s1.heap.get? L=ao)(hn:s'.heap.Ns L M)(ho:¬b9 h2 L)(hs:fV L s'.heap wD):
  Wz C d A env aO h2 {s' with heap:=wD}/\TK C s'.heap wD/\Pt C au W' h s1 h2 {s' with heap:=wD}:=by
 have fr:∀b,b=L->s1.heap.get? b=ao:=λb e=>e▸hL;have pf:=tx w1 fr;have ko:kJ C (· =L) s'.heap wD:=hV hs.extBut (w1.hr.adH hL);refine aC (lg w2 (λb hb=>⟨(by rw[hb];exact ho),(pf b hb).2⟩) ko (Xo hn) (tk:=s'.toks)) λa t=>?_;exact⟨a,t,P.off fr ko a.hr (tk:=s'.toks)⟩
theorem Rt(G:bU C)(O:y6 C d m A env elt it cond tup ts target gu jA ifs scope):SE C d m A env (.C elt tup ts it cond) (.ListComp gu [⟨target,jA,ifs,0⟩] scope pos):=λ{ρ h s Q X q E'} W v k=>by rw[eval_ListComp];refine Jb G O (use:=ao) W v k.x λh1 s1 h2 D L M s' p z P hL hn ho=>⟨M,hn,λh'' hs''=>?_⟩;have w1:=W.step p;refine be (Mn (O:=λ_=>True) w1 (w1.step P) P hL hn ho hs'') λ_ _ P'=>?_;exact k.r _ _ _ _ z (.ref D) (p.trans P'.up)
theorem Yd(G:bU C)(O:y6 C d m A env elt it cond tup ts target gu jA ifs scope)(hx:LC env x)(t_:uH (.ListComp gu [⟨target,jA,ifs,0⟩] scope pos) (aa (.Name (aE x) p)) fM.line env=pure ah):
  fJ C d m A env (.e (.s au [x]) (.C elt tup ts it cond)) (.Assign [.Name (aE x) p] (.ListComp gu [⟨target,jA,ifs,0⟩] scope pos) fM):=λ{ρ h s Q q E'} W v k=>by
 rw[exec_Assign_Name_used _ _ _ _ t_];refine ax (iI (ax ?_));show ay _ A (do let _<-comprehension (.ListComp gu [⟨target,jA,ifs,0⟩] scope pos) scope env _ (newList []) au (c_ jA env) (aa (oZ (.Name (aE x) p) env))) _ _ s;refine ax (fj (Jb G O (use:=aa (oZ (.Name (aE x) p) env)) (q:=λ_ s'=>q .next s') (E':=E') W v (λh' e s' z y=>k.x h' e s' z y.mono) λh1 s1 h2 D L M s' p' z P hL hn ho=>?_) (λ_ s' hq=>aQ (aQ hq)) λ_ _ e=>e);have w1:=W.step p';have w2:=w1.step P;show ay _ A (oZ (.Name (aE x) p) env (.ref D)) _ _ _;rw[PM];refine ax (iI (Cq (m:=au) (v:=.ref D) w2 hx (.ref D) (λa=>yr) λrH w3 p3=>?_));refine e1a2 (Ns.data hn) λoL pY _=>?_;have rG:rH.heap.Ns L M:=Ns.at' hn (by rw[pY];exact p3.tr.ad5 pY ho λq=>(tx (fp:=(· =L)) w1 (λb e=>e▸hL) L rfl).2.2.1 q);refine⟨M,rG,λc8 fB=>?_⟩;refine be (Mn (O:=λ_=>True) w1 w3 (P.mono.trans p3) hL rG ho fB) λw4 _ P'=>?_;exact k.n _ _ _ z Eo w4 (p'.mono.trans P'.up)
end
end Mine
section
open Sem (wp)
namespace Mine
section
variable {prog:i6}{w:dO}{A:bg}{E:av->aA->Prop}{s:aA}
theorem U5{M:uv}{a:aB}{Q:Option Obj->aA->Prop}(h:Q (s.heap.get? a) s):ay M A (loadIfAlive a) Q E s:=λΓ p _=>by show wp M Γ (.loadIfAlive a .pure) _ _ p s;rw[Sem.wp_loadIfAlive];exact h
theorem JL{z TI TO i1 i2 l1 l2 T:aB}{k:Nat}{xs ys:Array av}{bb:Bool}{oT:Obj}{Q:av->aA->Prop}(hh:A.handled=ao)(D:se z TI TO i1 i2 l1 l2)
  (hz:s.heap.get? z=aa (vy (fb T) bb TI TO)) (hT:s.heap.get? T=aa oT) (fA:dP s.heap TI (.ref i1) (.ref i2))
  (h1:dL s.heap i1 l1 k) (h2:dL s.heap i2 l2 k) (jz:dJ s.heap l1 xs) (fR:dJ s.heap l2 ys)
  (hQ:∀x y h',xs[k]? =aa x->ys[k]? =aa y->h'.get? z=aa (vy (fb T) ah TI TO)->dL h' i1 l1 (k+1)->dL h' i2 l2 (k+1)->dP h' s.heap.objs.size x y->
   (∀c o,c≠z->c≠i1->c≠i2->s.heap.get? c=aa o->h'.get? c=aa o)->Q (.ref s.heap.objs.size) {s with heap:=h'})
  (hE:∀h' e,xs[k]? =ao\/ys[k]? =ao->(∀c o,c≠z->c≠i1->c≠i2->s.heap.get? c=aa o->h'.get? c=aa o)->(∃o,h'.get? e=aa o/\o.cls= .type "StopIteration")->E (.ref e) {s with heap:=h'}):
  ay (model prog w) A (e8.«zip.__next__» ⟨[.ref z],[]⟩) (λfin s'=>∃v,fin= .done (.ret v)/\Q v s') E s:=by
 show ay _ _ (field (.ref z) 2 >>=_) _ _ _;refine ax (eK hz rfl (x:=.bool au) rfl ?_);show ay _ _ (field (.ref z) 3 >>=_) _ _ _;refine ax (eK hz rfl (x:=.ref TI) rfl ?_);refine ax (l_ fA rfl ?_);show ay _ _ (Hm (.ref z) >>=_) _ _ _;refine ax ?_;refine ax (eK hz rfl (x:=fb T) rfl ?_);show ay _ _ (loadIfAlive ((T:Int).toNat) >>=_) _ _ _;refine ax (U5 ?_);rw[show s.heap.get? ((T:Int).toNat)=aa oT by rw[P_];exact hT];refine ax (eK hz rfl (x:=.bool bb) rfl ?_);refine fj (Q:=λr s'=>r=au/\∃aU,s'={s with heap:=aU}/\aU.get? z=aa (vy (fb T) ah TI TO)/\fV z s.heap aU) ?_ ?_ (λ_ _ e=>e)
 ·cases bb with
  |true=>exact aQ ⟨rfl,s.heap,rfl,hz,acl ..⟩
  |false=>show ay _ _ (Ho (.ref z) 1 (.bool ah) >>=λ_=>pure au) _ _ _;exact ax (uJ hz (by simp) λaU kS ci=>aQ ⟨rfl,aU,rfl,kS,ci⟩)
 intro r s' q
 (refine aC q λe aD=>?_;refine e1a3 aD λaU es kS ci=>?_)
 rw[e,es,if_neg (by decide)];refine ax ?_;refine ax (ax (dv ?_));show ay _ _ (r_ (.ref i1) >>=_) _ _ _;have g1:=h1.extBut ci.extBut D.i1z;have NK:=jz.extBut ci.extBut D.l1z;cases hx:xs[k]? with
 |none=>exact ax (y8 hh (s:={s with heap:=aU}) g1 NK hx λbp e he hq=>hE bp e (.inl hx) (λc o c1 c2 c3 q=>he _ _ c2 (ci.extBut _ _ c1 q)) hq)
 |some x=>
  refine ax (ve (s:={s with heap:=aU}) g1 NK hx λbp zO dh=>aQ ?_);refine aQ ?_;refine ax (ax (dv ?_));show ay _ _ (r_ (.ref i2) >>=_) _ _ _;have g2:=(h2.extBut ci.extBut D.i2z).extBut dh.extBut D.i12.symm;have NL:=(fR.extBut ci.extBut D.l2z).extBut dh.extBut D.l2i1;cases hy:ys[k]? with
  |none=>exact ax (y8 hh (s:={s with heap:=bp}) g2 NL hy λc8 e he hq=>hE c8 e (.inr hy) (λc o c1 c2 c3 q=>he _ _ c3 (dh.extBut _ _ c2 (ci.extBut _ _ c1 q))) hq)
  |some y=>
   refine ax (ve (s:={s with heap:=bp}) g2 NL hy λc8 aa6 fB=>aQ ?_);refine aQ (aQ ?_);dsimp only;refine ax (wpAny_newTuple ?_ (by show 2<=jH;decide));refine aQ ⟨_,rfl,?_⟩;have k3:∀c o,c≠z->c≠i1->c≠i2->s.heap.get? c=aa o->c8.get? c=aa o:=λc o c1 c2 c3 e=>fB.extBut _ _ c3 (dh.extBut _ _ c2 (ci.extBut _ _ c1 e));have up:∀c o,c8.get? c=aa o->(c8.push {cls:=.type "tuple",data:=.seq #[x,y]}).get? c=aa o:=λc o e=>cu _ e;have sz:c8.objs.size=s.heap.objs.size:=by rw[fB.1,dh.1,ci.1]
   have gT:=cV c8 (o:={cls:=.type "tuple",data:=.seq #[x,y]}) rfl;rw[sz] at gT;rw[sz];exact hQ x y _ hx hy (up _ _ (fB.extBut _ _ D.i2z.symm (dh.extBut _ _ D.i1z.symm kS))) (s7 (zO.extBut fB.extBut D.i12) (up _)) (s7 aa6 (up _)) gT λc o c1 c2 c3 e=>up _ _ (k3 c o c1 c2 c3 e)
end
theorem aar:uC (.type "zip") "__len__" =pure ao:=by rw[rV,rW];kernel_rfl
theorem Wu:uC (.type "zip") "__length_hint__" =pure ao:=by rw[rV,rW];kernel_rfl
def Me(C:aY)(z TI TO i1 i2 l1 l2:aB)(vs ws:List V)(xs ys:List av)(l:List V)(H:aL):Prop:=∃i f0 bb,pQ C z TI TO i1 i2 l1 l2 vs ws xs ys f0 bb i H/\((f0= .none/\bb=au)\/∃(T:aB) (dI:List av),f0=fb T/\bR C H T dI)/\((vs.zip ws).map λp=>V.tup [p.1,p.2]).drop i=l
section
variable {C:aY}{d:Nat}{m:Bool}{A:bg}{env:bJ}{ρ:Mine.Env}{h:Hp}{H H':aL}{s:aA}{q:av->aA->Prop}{E':av->aA->Prop}{I t:aB}{n:Nat}{items:List V}{pl:List av}{target:aN}{v:V}{pv:av}
theorem Sk(hh:A.handled=ao){nm:Str}{p:Pos}{z TI TO i1 i2 l1 l2:aB}{vs ws:List V}{xs ys:List av}(D:se z TI TO i1 i2 l1 l2)(hz:¬C.pr z)(zQ:¬C.pr i1)(zR:¬C.pr i2)(fA:C.pr TI)(fU:C.pr TO):
  iV C A (.Name nm p) z (F5 z TI TO i1 i2) ao (Me C z TI TO i1 i2 l1 l2 vs ws xs ys) (λl _ H=>Me C z TI TO i1 i2 l1 l2 vs ws xs ys l H):=by
 have seq:∀{H a b T},dP H T a b->∃o xs n,H.get? T=aa o/\o.data=xd xs n:=λp=>⟨_,_,_,p,rfl⟩;have ko:∀{H H'},(∀c o,¬F5 z TI TO i1 i2 c->H.get? c=aa o->H'.get? c=aa o)->(∃a b,dP H' TI a b)->(∃o xs n,H'.get? TO=aa o/\o.data=xd xs n)->kJ C (F5 z TI TO i1 i2) H H':=λk yy=>e2a1 yy λ_ _ p p'=>⟨k,λb hb hp=>by
  rcases hb with e|e|e|e|e
  ·exact absurd (e▸hp) hz
  ·exact e▸seq p
  ·exact e▸p'
  ·exact absurd (e▸hp) zQ
  ·exact absurd (e▸hp) zR⟩
 have w5:∀{H H':aL},(∀c o,c≠z->c≠TO->c≠i1->c≠i2->H.get? c=aa o->H'.get? c=aa o)->∀c o,¬F5 z TI TO i1 i2 c->H.get? c=aa o->H'.get? c=aa o:=λhk c o hc e=>hk c o (λq=>hc (.inl q)) (λq=>hc (.inr (.inr (.inl q)))) (λq=>hc (.inr (.inr (.inr (.inl q))))) (λq=>hc (.inr (.inr (.inr (.inr q))))) e;refine⟨λl H H' yy=>e3a3 yy λi f0 bb st f e k t _=>⟨i,f0,bb,st.keep k t,f.imp id λ⟨T,dI,e,x⟩=>⟨T,dI,e,t _ _ x⟩,e⟩,λl H yy=>e3a2 yy λi _ _ st _=>st.alive fA fU,λl pv H yy=>e3a2 yy λi _ _ st _=>st.alive fA fU,?_,λmd hQ=>aQ (hQ _ md ⟨λ_ _ _ e=>e,λb hb hp=>?_⟩),?_,λ{l s q E} yy=>e3a2 yy λi f0 bb st _ hQ=>?_⟩
 ·intro v l h s q E _ hr cJ hQ;refine e3a3 cJ λi f0 bb st f e=>?_;refine e2a4 (I5 e) λva vb e1 e2 e3 e4=>?_;refine e1a2 (st.zx.get e1) λx hx rx=>?_;refine e1a2 (st.zy.get e2) λy hy ry=>?_;refine e2a1 st.to λa b jX=>?_;have fin:∀h' FH,(∀c o,c≠z->c≠TO->c≠i1->c≠i2->s.heap.get? c=aa o->h'.get? c=aa o)->∀T:aB,(∃dI,bR C h' T dI)->h'.get? z=aa (vy (fb T) FH TI TO)->(∃a b,dP h' TO a b)->dL h' i1 l1 (i+1)->dL h' i2 l2 (i+1)->dP h' s.heap.objs.size x y->q (aa (.ref s.heap.objs.size)) {s with heap:=h'}:=λh' FH hk T fT b1 zV b3 b4 b5=>by
   have pZ:=hk _ _ D.TIz D.TITO D.TIi1 D.TIi2 st.ti;have tk:TK C s.heap h':=λc dI x=>by
    (refine aC (id x) λn aD=>?_;refine e1a2 aD λo ho r=>?_)
    exact⟨n,o,w5 hk c o (λq=>(st.alive fA fU c q).2 _ x) ho,r⟩
   refine e1a1 fT λdI fT=>?_;refine e2a1 zV λa' b' zV=>?_;refine hQ (.ref s.heap.objs.size) h' s.toks ⟨i+1,_,FH,⟨b1,pZ,⟨_,_,zV⟩,b3,b4,tk _ _ st.l1,tk _ _ st.l2,st.zx.mono tk,st.zy.mono tk⟩,.inr ⟨T,dI,rfl,fT⟩,e4⟩ ?_ (ko (w5 hk) ⟨_,_,pZ⟩ (seq zV));rw[e3];exact .ad8 (.cons (rx.mono tk) (.cons (ry.mono tk) .nil)) (Eg _) ⟨hr.adH (dM s.heap),_,b5,rfl,_,rfl⟩ (show 2<=2*aG by decide)
  have gx:(bH xs)[i]? =aa x:=by rw[gF];exact hx
  have gy:(bH ys)[i]? =aa y:=by rw[gF];exact hy
  rcases f with ⟨f1,f2⟩|⟨T,dI,f1,fT⟩
  ·have sz:=st.z;rw[f1,f2] at sz;exact LG D sz st.ti jX st.i1 st.i2 st.l1.2 st.l2.2 gx gy λh' b1 b2 b3 b4 b5 b6 hk=>fin h' au hk _ ⟨[x,y],hr.adH (dM s.heap),_,b5,rfl,_,rfl⟩ b1 ⟨_,_,b2⟩ b3 b4 b5
  ·have sz:=st.z;rw[f1] at sz;refine e1a2 (id fT.2) λoT wE _=>?_;have hT:s.TypeIs (.ref z) "zip":=⟨_,sz,rfl⟩;refine ax (sf (oN (name:=dD "__next__") hT A9
    (i9 A9 hT acB
     (JL (E:=λe s'=>_) hh D sz wE st.ti st.i1 st.i2 st.l1.2 st.l2.2 (λx' y' h' ex ey b1 b3 b4 b5 hk=>aQ ?_) λh' e l9 hk he=>?_) (acC _))))
   ·rw[gx] at ex;rw[gy] at ey;cases zF ex;cases zF ey;refine fin h' ah (λc o c1 _ c3 c4 e=>hk c o c1 c3 c4 e) T ⟨dI,fT.1,oT,hk _ _ ?_ ?_ ?_ wE,by refine e1a2 fT.2 λo ho r=>?_;cases zF (wE.symm.trans ho);exact r⟩ b1 ⟨a,b,hk _ _ D.TOz D.TOi1 D.TOi2 jX⟩ b3 b4 b5 <;> intro q
    ·exact(st.alive fA fU T (.inl q)).2 _ fT
    ·exact(st.alive fA fU T (.inr (.inr (.inr (.inl q))))).2 _ fT
    ·exact(st.alive fA fU T (.inr (.inr (.inr (.inr q))))).2 _ fT
   ·rcases l9 with q|q
    ·exact zB (gx.symm.trans q)
    ·exact zB (gy.symm.trans q)
 ·rcases hb with e|e|e|e|e
  ·exact absurd (e▸hp) hz
  ·refine e3a2 md λ_ _ _ st _=>?_;exact e▸seq st.ti
  ·refine e3a2 md λ_ _ _ st _=>?_;refine e2a1 st.to λ_ _ st=>?_;exact e▸seq st
  ·exact absurd (e▸hp) zQ
  ·exact absurd (e▸hp) zR
 ·intro h s q E _ hr cJ hQ;refine e3a3 cJ λi f0 bb st f e=>?_;refine e2a1 st.to λa b jX=>?_;have l9:(bH xs)[i]? =ao\/(bH ys)[i]? =ao:=(Ik e).imp (λq=>by rw[gF];exact oB (st.zx.len▸q)) λq=>by rw[gF];exact oB (st.zy.len▸q)
  rcases f with ⟨f1,f2⟩|⟨T,dI,f1,fT⟩
  ·have sz:=st.z;rw[f1,f2] at sz;exact Ly hh D sz st.ti jX st.i1 st.i2 st.l1.2 st.l2.2 l9 λh' hk wy=>hQ h' s.toks (ko (w5 hk) ⟨_,_,hk _ _ D.TIz D.TITO D.TIi1 D.TIi2 st.ti⟩ wy)
  ·have sz:=st.z;rw[f1] at sz;refine e1a2 (id fT.2) λoT wE _=>?_;have hT:s.TypeIs (.ref z) "zip":=⟨_,sz,rfl⟩;refine ax (sf (oN (name:=dD "__next__") hT A9
    (i9 A9 hT acB
     (JL hh D sz wE st.ti st.i1 st.i2 st.l1.2 st.l2.2 (λx' y' h' ex ey b1 b3 b4 b5 hk=>?_) λh' e l9 hk he=>?_) (acC _))))
   ·rcases l9 with q|q
    ·exact zB (ex.symm.trans q)
    ·exact zB (ey.symm.trans q)
   ·refine e1a2 he λo ho hc=>?_;refine ax (Ay (T:="StopIteration") (b:=ah) ⟨o,ho,hc⟩ Qd (aQ ?_));exact hQ h' s.toks (ko (w5 λc o c1 _ c3 c4 e=>hk c o c1 c3 c4 e) ⟨_,_,hk _ _ D.TIz D.TIi1 D.TIi2 st.ti⟩ (seq (hk _ _ D.TOz D.TOi1 D.TOi2 jX)))
 ·have hT:s.TypeIs (.ref z) "zip":=⟨_,st.z,rfl⟩;refine acy hT acD (i9 acD hT PySem.F.entry_zip_iter ?_ (PySem.F.args_zip_iter_1 _));show ay _ _ (ret (.ref z)) _ _ s;exact aQ ⟨_,rfl,"zip",_,hT,A9.lookup,hQ⟩
end
section
variable {C:aY}{d:Nat}{m:Bool}{A B:bg}{env:bJ}{ρ:Mine.Env}{h:Hp}{H H':aL}{s:aA}{q:av->aA->Prop}{E':av->aA->Prop}{I S:aB}{n:Nat}{items done:List V}{pl acc:List av}{v:V}{pv:av}{fp:aB->Prop}{St:List V->aL->Prop}{nm:Str}{np:Pos}{c:Nat}{R:rX->aA->Prop}{wF:av}
structure Mk(C:aY)(d:Nat)(B:bg)(env:bJ)(ρ:Mine.Env)(h:Hp)(fp:aB->Prop)(S:aB)(H0:aL)(done:List V)(acc:List av)(c:Nat)(s:aA):Prop where
 w:Wz C d B env ρ h s
 pv:Pv C B env h fp
 ps:Pv C B env h (· =S)
 nS:¬fp S
 np:¬C.pr S
 k0:Kp H0 s.heap
 fr:∀b,fp b->H0.get? b=ao
 fS:H0.get? S=ao
 at_:s.heap.get? S=aa {cls:=.type "list",data:=.seq (bH acc) c}
 zz:VL C s.heap done acc
theorem Mk.off{H0:aL}{tk:Nat}(x:Mk C d B env ρ h fp S H0 done acc c s)(k:kJ C fp s.heap H')(nt:∀b,fp b->∀dI,¬bR C s.heap b dI):Mk C d B env ρ h fp S H0 done acc c {s with heap:=H',toks:=tk}:=by refine aC (lg x.w x.pv k nt (tk:=tk)) λw t=>?_;exact⟨w,x.pv,x.ps,x.nS,x.np,λb o e=>k.1 b o (λq=>by exact zA ((x.fr b q).symm.trans e)) (x.k0 b o e),x.fr,x.fS,k.1 _ _ x.nS x.at_,x.zz.mono t⟩
theorem MI{o:Obj}(ho:H.get? S=aa o)(hc:o.cls= .type "list"):∀b,b=S->∀dI,¬bR C H b dI:=λb e=>(iT ho hc (by decide) b e).2
theorem Mk.put{H0:aL}{done':List V}{acc':List av}{g:Obj->Obj}{tk:Nat}(x:Mk C d B env ρ h fp S H0 done acc c s)(e:(s.heap.update S g).get? S=aa {cls:=.type "list",data:=.seq (bH acc') n})(z:TK C s.heap (s.heap.update S g)->VL C (s.heap.update S g) done' acc'):Mk C d B env ρ h fp S H0 done' acc' n {s with heap:=s.heap.update S g,toks:=tk}:=by have zW:∀b o,b≠S->s.heap.get? b=aa o->(s.heap.update S g).get? b=aa o:=λb o hb e=>(qj _ _ (eJ hb)).trans e;refine aC (lg x.w x.ps ⟨zW,λb e q=>absurd (e▸q) x.np⟩ (MI x.at_ rfl) (tk:=tk)) λw t=>?_;exact⟨w,x.pv,x.ps,x.nS,x.np,λb o e=>zW b o (λq=>by rw[q,x.fS] at e;exact zA e) (x.k0 b o e),x.fr,x.fS,e,z t⟩
theorem Mk.keep{H0:aL}{l:List V}{target:aN}{src:Option (Nat×O)}{Md:List V->av->aL->Prop}{g:Obj->Obj}{A:bg}(It:iV C A target I fp ao St Md)(x:Mk C d B env ρ h fp S H0 done acc c s)(st:St l s.heap):St l (s.heap.update S g):=by have zW:∀b o,b≠S->s.heap.get? b=aa o->(s.heap.update S g).get? b=aa o:=λb o hb e=>(qj _ _ (eJ hb)).trans e;exact It.frame _ _ _ st (λb hb=>qj _ _ λq=>x.nS (q▸hb)) (lg x.w x.ps ⟨zW,λb e q=>absurd (e▸q) x.np⟩ (MI x.at_ rfl) (tk:=0)).2 λ_ _ e=>nomatch e
theorem R0{H0:aL}(It:iV C A.in1 (.Name nm np) I fp ao St (λl _=>St l)):∀(l:List V) {s:aA} {done:List V} {acc:List av} {c:Nat},Mk C d B env ρ h fp S H0 done acc c s->St l s.heap->acc.length+l.length<=jH->
   (∀s' acc' c',Mk C d B env ρ h fp S H0 (done++l) acc' c' s'->fZ s s'->R (.ok (.ret wF)) s')->
   gG C.M A (.builtin "list.extend.loop" ⟨[.ref S,.ref I,wF],[]⟩) R s:=by
 intro l;induction l with
 |nil=>intro s done acc c x st hl hR;refine AN acE ?_;rw[AO Hs _];show ay _ A.in1 (ni (.ref I) >>=_) _ _ s;refine ax (It.done (λ_ q=>nomatch q) x.w.hr st λH' tk ko=>aQ (hR _ acc c ?_ ⟨rfl,rfl,rfl⟩));rw[cq];exact x.off ko λb hb=>(It.alive _ _ st b hb).2
 |cons v l ih=>
  intro s done acc c x st hl hR;refine AN acE ?_;rw[AO Hs _];show ay _ A.in1 (ni (.ref I) >>=_) _ _ s;refine ax (It.item (λ_ q=>nomatch q) x.w.hr st λpv H' tk iz r ko=>?_);have x':=x.off ko (λb hb=>(It.alive _ _ st b hb).2) (tk:=tk);generalize hs:({s with heap:=H',toks:=tk}:aA)=s1 at x';have e1:H'=s1.heap:=by rw[<-hs]
  rw[e1] at iz r;show ay _ A.in1 (Ht S (·.push pv) >>=_) _ _ _;have hS:=i_ (ny (·.push pv)) x'.at_ rfl;obtain ⟨n,hn⟩:∃n,aa (ny (·.push pv) {cls:=.type "list",data:=.seq (bH acc) c})=aa {cls:=.type "list",data:=.seq (bH (acc++[pv])) n}:=⟨_,by rw[<-Px];rfl⟩;have len:(bH acc).size+1<=jH:=aI (ds (A_ 1 _) _) hl;refine ax (Hu x'.at_ rfl (aQ ⟨AP Hs _,ih (x'.put (acc':=acc++[pv]) (n:=n) (tk:=s1.toks) ?_ λt=>(x'.zz.mono t).snoc (r.mono t)) (x'.keep (src:=ao) It iz) ?_ λs' acc' c' y sm=>hR s' acc' c' ?_ ?_⟩) ?_)
  ·exact hS.trans hn
  ·rw[aT,hZ];rw[e_] at hl;rw[dB [_].length];exact hl
  ·rw[bt] at y;exact y
  ·rw[<-hs] at sm;exact sm
  ·exact w8 len
theorem WK{H0:aL}{l:List V}(It:iV C A.in1 (.Name nm np) I fp ao St (λl _=>St l))(hT:s.TypeIs (.ref I) "zip")(hSI:S≠I)(x:Mk C d B env ρ h fp S H0 [] [] c s)(st:St l s.heap)(hl:l.length<=jH)
  (hR:∀s' acc' c',Mk C d B env ρ h fp S H0 l acc' c' s'->fZ s s'->R (.ok (.ret wF)) s'):
  ay C.M A.in1 (Hv (.ref S) (.ref I) wF)
   (λfin s'=>match fin with| .done f=>R (.ok f) s'| .again c'=>c'.quiet=ah/\gG C.M A c' R s') (λe s'=>R (.error e) s') s:=by
 unfold Hv;refine ax (G8 hT ?_);have h1:acF (.ref S) (.ref I)=au:=by simp [acF,hSI]
 have h2:(xi "zip" ==xi "list")=au:=by decide
 have h3:(xi "zip" ==xi "tuple")=au:=by decide
 simp only [h1,h2,h3,acG,acA,if_false];refine ax (It.self st ?_);refine ax (dv ?_);refine ax (oJ hT aar ?_);show ay _ A.in1 (specialOf (du I) (dD "__length_hint__") >>=_) _ _ _;refine ax (oJ hT Wu ?_);refine aQ ?_;show ay _ A.in1 (rule "list.extend.makes-room" >>=λ_=>e8.List.listTouch (.ref S) >>=λ_=>
  again (.builtin "list.extend.loop" ⟨[.ref S,.ref I,wF],[]⟩)) _ _ _
 refine ax (oK (ax ?_));show ay _ A.in1 (Ht S (·.push .none) >>=λ_=>Ht S (·.pop)) _ _ _;refine ax (Hu x.at_ rfl ?_);have wG:=i_ (ny (·.push jF)) x.at_ rfl;have y1:=x.put (g:=ny (·.push jF)) (tk:=s.toks) (acc':=[.none]) (done':=[.none]) wG λ_=>.cons .none .nil;have FI:=x.keep (g:=ny (·.push jF)) (src:=ao) It st;refine Hu (hz:=by seq_fits) wG rfl ?_;have aa7:=i_ (ny (·.pop)) wG rfl;have y2:=y1.put (g:=ny (·.pop)) (tk:=s.toks) (acc':=[]) (done':=[]) aa7 λ_=>.nil;have rI:=y1.keep (g:=ny (·.pop)) (src:=ao) It FI;exact aQ ⟨AP Hs _,R0 It l y2 rI (by rw[wZ,nb];exact hl) λs' acc' c' z sm=>hR s' acc' c' z sm⟩
theorem Zx{H0:aL}{l:List V}(It:iV C A.in1.in1 (.Name nm np) I fp ao St (λl _=>St l))(hT:s.TypeIs (.ref I) "zip")(st:St l s.heap)(hl:l.length<=jH)(x:s.heap.get? S=ao->Mk C d B env ρ h fp S H0 [] [] 0 {s with heap:=s.heap.push {cls:=.type "list",data:=.seq #[]}})
  (hR:∀s' acc' c',Mk C d B env ρ h fp S H0 l acc' c' s'->fZ s s'->q (.ref S) s') (eS:S=s.heap.objs.size):
  ay C.M A (call (.type "list") [.ref I]) q E' s:=by
 have x:=x (eS▸dM _);refine callType_codes (Q₁:=λobj aW=>obj= .ref S/\aW={s with heap:=s.heap.push {cls:=.type "list",data:=.seq #[]}}) PySem.F.called_list (PySem.F.typeCall_list_1 _) PySem.F.entry_list_init
  (eS▸code_list_new _ ⟨rfl,rfl⟩) λobj aW aU=>?_
 rw[aU.1,aU.2];refine⟨⟨_,x.at_,rfl⟩,PySem.F.args_list_init_2 _ _,?_⟩;refine e1a2 (id hT) λoI wH hcI=>?_;have NM:St l (s.heap.push {cls:=.type "list",data:=.seq #[]}):=It.frame _ _ _ st (λb hb=>by refine e1a1 (uI.mp (It.alive _ _ st b hb).1) λo ho=>?_;rw[ho];exact Kp.push _ _ _ _ ho) (TK.of (Kp.push _ _)) λn o _ e=>Kp.push _ _ _ _ e
 generalize hs:({s with heap:=s.heap.push {cls:=.type "list",data:=.seq #[]}}:aA)=s1 at x;have e1:s.heap.push {cls:=.type "list",data:=.seq #[]}=s1.heap:=by rw[<-hs]
 have k1:Kp s.heap s1.heap:=e1▸Kp.push _ _;rw[e1] at NM;have sm0:fZ s s1:=hs▸⟨rfl,rfl,rfl⟩;show ay _ A.in1.in1 (do let old<-e8.List.listItems (.ref S);e8.List.listUpdate (.ref S) (λ_=>#[]);letGo old.toList.reverse;Hv (.ref S) (.ref I) .none) _ _ s1;refine ax ?_;refine ax (l_ x.at_ rfl (aQ ?_));show ay _ A.in1.in1 (Ht S (λ_=>#[]) >>=λ_=>letGo (#[]:Array av).toList.reverse >>=λ_=>Hv (.ref S) (.ref I) .none) _ _ s1;refine ax (Hu x.at_ rfl ?_);have wG:=i_ (ny (λ_=>(#[]:Array av))) x.at_ rfl;have y1:=x.put (g:=ny (λ_=>(#[]:Array av))) (tk:=s1.toks) (acc':=[]) (done':=[]) wG λ_=>.nil;have FI:=x.keep (g:=ny (λ_=>(#[]:Array av))) (src:=ao) It NM;refine ax (AG ?_);refine WK It ?_ ?_ y1 FI hl λs' acc' c' z sm=>⟨rfl,hR s' acc' c' z (sm0.trans sm)⟩
 ·exact⟨oI,(qj _ _ λq=>by rw[q] at eS;rw[eS,dM] at wH;exact zA wH).trans (k1 _ _ wH),hcI⟩
 ·exact λq=>by rw[<-q,eS,dM] at wH;exact zA wH
end
end Mine
end
namespace Mine
theorem aaR(x:fZ s s'):s'={s with heap:=s'.heap,toks:=s'.toks}:=by rw[<-x.1,<-x.2.1,<-x.2.2]
theorem R5(G:bU C)(fh:env.kindOf (dD "list")=aa .globalImplicit)(hk:env.kindOf (dD "zip")=aa .globalImplicit)(cJ:cB pa=ah)(wA:cB pb=ah)(ha:SE C d m A env a pa)(hb:SE C d m A env b pb):
  SE C d m A env (.b .z a b) (.Call (.Name "list" p') [.Call (.Name "zip" p) [pa,pb] [] pos] [] pos'):=λ{ρ h s Q X q E} W v k=>by
 refine vz (T:="list") G W (.tail _ (.tail _ (.tail _ (.head _)))) fh (xV rfl) (oX ?_ (kj rfl []));refine vz (T:="zip") G W (.tail _ (.head _)) hk (IA cJ wA) (oX (ha W v ⟨λa h1 x1 s1 z r p=>oX (hb (W.step p) z ⟨λb h2 y s2 z r' p'=>r6 ⟨G.k.ady.keeps p'.hr.keep,?_⟩,λh' e s' z y=>k.x h' e s' z (p.ad6 y)⟩) (kj wA []),k.x⟩) (kj cJ [pb]));refine e2a4 (IZ z) λxs ys e1 e2 hl z=>?_;refine e2a4 ((r.st p.hr p').items e1) λt1 l1 e3 rJ z1 _=>?_;refine e2a4 (r'.items e2) λt2 l2 e4 oo z2 _=>?_;rw[e3,e4];refine Lj rJ.2 oo.2 λh' b1 b2 b3 b4 b5 b6 hk=>r6 ⟨G.k.ady.keeps (Kp.trans p'.hr.keep hk),?_⟩;have lt:∀b,s2.heap.objs.size<=b->s2.heap.get? b=ao:=λb hb=>oP hb;have fr:∀b,F5 (s2.heap.objs.size+4) (s2.heap.objs.size+2) (s2.heap.objs.size+3) s2.heap.objs.size (s2.heap.objs.size+1) b->s2.heap.get? b=ao:=λb hb=>lt b (by rcases hb with e|e|e|e|e <;> rw[e] <;> simp [aB])
 have np:∀b,s2.heap.get? b=ao->b≠s2.heap.objs.size+2->b≠s2.heap.objs.size+3->¬(b=s2.heap.objs.size+2\/b=s2.heap.objs.size+3\/C.pr b):=λb hb n1 n2 q=>q.elim n1 λq=>q.elim n2 (p'.hr.adH hb);have tk:∀a l,bR C s2.heap a l->bR (C.x λa=>a=s2.heap.objs.size+2\/a=s2.heap.objs.size+3\/C.pr a) h' a l:=Cn (λa q=>q.elim (λe=>.inr (fr a (.inr (.inl e)))) λq=>q.elim (λe=>.inr (fr a (.inr (.inr (.inl e))))) .inl) hk;have W2:=(W.step p).step p';have W3:=W2.x (X':=λa=>a=s2.heap.objs.size+2\/a=s2.heap.objs.size+3\/C.pr a) (tk:=s2.toks) hk λa q=>by
  rcases q with e|e|q
  ·exact .inr ⟨fr a (.inr (.inl e)),_,_,_,e▸b2,rfl⟩
  ·exact .inr ⟨fr a (.inr (.inr (.inl e))),_,_,_,e▸b3,rfl⟩
  ·exact .inl q
 have fS:s2.heap.get? h'.objs.size=ao:=lt _ (by rw[b6];simp [aB]);have pf1:=tx W2 fr;have pf2:=tx (fp:=(· =h'.objs.size)) W2 (λb e=>e▸fS);refine Zx (C:=C.x λa=>a=s2.heap.objs.size+2\/a=s2.heap.objs.size+3\/C.pr a) (B:=A) (H0:=s2.heap) (nm:=aE 0) (np:=pos) (s:={s2 with heap:=h'}) (l:=(xs.zip ys).map λp=>V.tup [p.1,p.2]) (S:=h'.objs.size)
  (Sk (A:=A.in1.in1) (nm:=aE 0) (p:=pos) (C:=C.x λa=>a=s2.heap.objs.size+2\/a=s2.heap.objs.size+3\/C.pr a) (vs:=xs) (ws:=ys) (xs:=l1) (ys:=l2) W.rm.1 (J9 (λq=>?t1) λq=>?t2) (np _ (fr _ (.inl rfl)) ?_ ?_) (np _ (fr _ (.inr (.inr (.inr (.inl rfl))))) ?_ ?_) (np _ (fr _ (.inr (.inr (.inr (.inr rfl))))) ?_ ?_) (.inl rfl) (.inr (.inl rfl)))
  ⟨_,b1,rfl⟩ ⟨0,_,_,⟨b1,b2,⟨_,_,b3⟩,b4,b5,tk _ _ rJ,tk _ _ oo,z1.mono tk,z2.mono tk⟩,.inl ⟨rfl,rfl⟩,rfl⟩ (by rw[aP];exact bP (c9 hl (by decide))) (λhS=>⟨W3.kp (s':={s2 with heap:=h'.push _}) (Kp.push _ _),pf1,pf2,λq=>?nf,np _ fS ?_ ?_,Kp.trans hk (Kp.push _ _),fr,fS,cV _ rfl,.nil⟩) (λs' acc' c' z' sm=>?fin) rfl
 case fin=>
  have FJ:fZ s2 s':=sm;rw[aaR FJ];exact(k.step (p.trans p')).new p'.hr z z'.k0 (λa q=>(mt rfl q).symm▸fS) ⟨by rw[zj,aP];exact bP (c9 hl (by decide)),acc',c',z'.at_,z'.zz.mono (vg λa q=>.inr (.inr q))⟩
 case t1=>refine e1a2 rJ.2 λo ho _=>?_;exact zB (ho.symm.trans q)
 case t2=>refine e1a2 oo.2 λo ho _=>?_;exact zB (ho.symm.trans q)
 case nf=>
  rw[b6] at q;delta F5 at q;exact q.elim (rl (by decide)) λq=>q.elim (rl (by decide)) λq=>q.elim (rl (by decide)) λq=>q.elim qD.symm (rl (by decide))
 all_goals (first|rw[b6]|skip) <;> first|exact rl (by decide)|exact qD|exact qD.symm
theorem Rc{α β:Type}{f g:α->Option β}:∀{l:List α},(∀a∈l,f a=g a)->l.filterMap f=l.filterMap g:=by
 intro l;induction l with
 |nil=>intro _;exact rfl
 |cons a r ih=>intro h;exact by rw[o0,o0,h a (.head _),ih λb hb=>h b (.tail _ hb)]
theorem ZJ:∀{ps:List Str} {vals:List av},ps.Nodup->ps.length=vals.length->ps.filterMap (λn=>((ps.zip vals).lookup n).map (n,·))=ps.zip vals:=by
 intro ps;induction ps with
 |nil=>
  intro Fi;cases Fi with
  |nil=>intro _ _;exact rfl
  |cons _ _=>intro _ h;exact nomatch h
 |cons p ps n8=>
  intro Fr;cases Fr with
  |nil=>intro _ h;exact nomatch h
  |cons v vals=>intro hn hl;rw[dK] at hn;have ih:=n8 hn.2 (jZ hl) (vals:=vals);rw[o0,G',o8,beq_self_eq_true];show(p,v)::_=_;rw[Rc λn hm=>?_,ih];rw[o8,show(n==p)=au from beq_eq_false_iff_ne.mpr λe:n=p=>hn.1 (e▸hm)]
theorem aaG:∀{ps:List Str} {vals:List av},ps.length=vals.length->∀n∈ps,((ps.zip vals).lookup n).isNone=au:=by
 intro ps;induction ps with
 |nil=>exact nofun
 |cons p ps ih=>
  intro z8';cases z8' with
  |nil=>exact nofun
  |cons v vals=>
   intro hl n hm;rw[G',o8];cases e:n==p with
   |true=>rfl
   |false=>exact ih (jZ hl) n ((a_.mp hm).resolve_left (beq_eq_false_iff_ne.mp e))
theorem RS{fd:jb}{as:List Arg}{kd:List (Option acH)}{df:List acH}{vals:List av}(hp:fd.params=⟨[],as,ao,[],kd,ao,df⟩)(hd:fd.defaults= .none)
  (hl:¬(decide (vals.length>(as.map xj).length)&&ah)=ah) (hz:∀(x:List Str) k,x.zip (([]:List av).drop k)=[]) (hm:∀k,¬(!((((as.map xj).take k).filter λn=>(((as.map xj).zip vals).lookup n).isNone).isEmpty))=ah):
  bindArgs fd ⟨vals,[]⟩=pure ((as.map xj++[]).filterMap λn=>(((as.map xj).zip vals).lookup n).map (n,·)):=by
 cases fd;cases hp;cases hd;exact(if_neg (c:=_) (t:=_) (e:=_) hl).trans ((if_neg (c:=_) (t:=_) (e:=_) (hm _)).trans ((congrArg (λl=>forIn l _ _ >>=_) (hz _ _)).trans rfl))
theorem RN{p:Arguments}(a:p.posonlyargs=[])(b:p.vararg=ao)(c:p.kwonlyargs=[])(d:p.kwarg=ao):p=⟨[],p.args,ao,[],p.kw_defaults,ao,p.defaults⟩:=by cases p;cases a;cases b;cases c;cases d;rfl
theorem Mg{fd:jb}{ps:List Str}(P:x8 fd ps){vals:List av}(hl:ps.length=vals.length):bindArgs fd ⟨vals,[]⟩=pure (ps.zip vals):=by
 have ha:fd.params.args.map xj=ps:=P.args;refine(RS (RN P.pos P.va P.kw P.ka) P.dflt (λz=>?_) (λx k=>by rw[aco,List.zip_nil_right]) λk=>?_).trans (congrArg pure ?_) <;> rw[ha] at *
 ·exact qk _ (hl▸of_decide_eq_true (aV z))
 ·rw[si.mpr λn hm=>by rw[aaG hl n (acI hm)];exact k7];exact k7
 ·rw[cq];exact ZJ P.nodup hl
theorem Il{n:Str}:∀{names:List (Str×rY)} {k:Nat} {acc:List (Str×aB)},(n,Qg)∈names\/(∃c,(n,c)∈acc)->∃c,(n,c)∈cellsFrom k names acc:=by
 intro names;induction names with
 |nil=>intro _ _ h;exact h.elim (λh=>nomatch h) id
 |cons z9' r ih=>
  cases z9' with
  |mk m kd=>
   intro k acc h;unfold cellsFrom;split
   ·refine ih (h.elim (λh=>?_) λyy=>e1a1 yy λc h=>.inr ⟨c,.tail _ h⟩);exact(a_.mp h).elim (λe=>.inr ⟨k,by injection e with e1;rw[e1];exact .head _⟩) .inl
   ·rename_i hk;refine ih (h.imp (λh=>?_) id);exact(a_.mp h).elim (λe=>absurd (by injection e with _ e2;rw[<-e2];rfl) hk) id
theorem Rk{n n':Str}{c:aB}:∀{l:List (Str×aB)},l.Pairwise (λx y=>x.2≠y.2)->(n,c)∈l->(n',c)∈l->n=n':=by
 intro l;induction l with
 |nil=>exact nofun
 |cons a l ih=>
  intro h m m';refine aC (rU.mp h) λh1 h2=>?_;rcases a_.mp m with e|m <;> rcases a_.mp m' with e'|m'
  ·injection e.trans e'.symm
  ·exact absurd (e▸rfl) (h1 _ m')
  ·exact absurd (e'▸rfl) (h1 _ m)
  ·exact ih h2 m m'
section
variable {C:aY}{d:Nat}{m:Bool}{A:bg}{h:Hp}{H:aL}{s aW:aA}{f:Nat}{ps:List Nat}{fd:jb}{pb:List bL}{vs:List V}{pvs:List av}{a:aB}
theorem S6{kindOf:Str->Option rY}:∀{ps:List Nat} {vs:List V} {pvs:List av},VL C H vs pvs->(∀p∈ps,p<eN)->ps.length=vs.length->
  ∀{ρ:Mine.Env} {m cm:Str->Option av},(∀x v,ρ x=aa v->x<eN->(kindOf (aE x)=aa .local->∃pv,m (aE x)=aa pv/\VR C H v pv)/\(kindOf (aE x)≠aa .local->∃pv,cm (aE x)=aa pv/\VR C H v pv))->
  ∀x v,bf ps vs ρ x=aa v->x<eN->(kindOf (aE x)=aa .local->∃pv,bindL kindOf ((ps.map aE).zip pvs) m (aE x)=aa pv/\VR C H v pv)/\(kindOf (aE x)≠aa .local->∃pv,bindC kindOf ((ps.map aE).zip pvs) cm (aE x)=aa pv/\VR C H v pv):=by
 intro ps;induction ps with
 |nil=>
  intro vs pvs p _ hn ρ m cm hi x v e hx;cases p with
  |nil=>exact hi x v e hx
  |cons _ _=>cases hn
 |cons p ps ih=>
  intro vs pvs pp hl hn ρ m cm hi x v e hx;cases pp with
  |nil=>cases hn
  |cons p1 p2=>
   refine ih p2 (λq hq=>hl q (.tail _ hq)) (jZ hn) (λx v e hx=>?_) x v e hx;rcases tJ e with ⟨e1,e2⟩|⟨bF,e⟩
   ·rw[e1,e2];exact⟨λhk=>⟨_,by rw[if_pos hk,if_pos rfl],p1⟩,λhk=>⟨_,by rw[if_neg hk,if_pos rfl],p1⟩⟩
   ·have bF:¬aE x=aE p:=λz=>bF (nM hx (hl p (.head _)) z);refine(hi x v e hx).imp (λf hk=>?_) λf hk=>?_
    ·refine e1a2 (f hk) λpv a1 a2=>?_;exact⟨pv,by split <;> first|exact(if_neg bF).trans a1|exact a1,a2⟩
    ·refine e1a2 (f hk) λpv a1 a2=>?_;exact⟨pv,by split <;> first|exact a1|exact(if_neg bF).trans a1,a2⟩
theorem ML(x:InCallC s (fY fd s.heap.objs.size a).locals (bindL (fY fd s.heap.objs.size a).kindOf ((ps.map aE).zip pvs) λ_=>ao) (fY fd s.heap.objs.size a).cells
    (bindC (fY fd s.heap.objs.size a).kindOf ((ps.map aE).zip pvs) λ_=>ao) aW):∀b,dc (fY fd s.heap.objs.size a) b->s.heap.get? b=ao:=λb hb=>by
 refine oP ?_;rcases hb with e|⟨n,e⟩
 ·exact e▸x.toInCall.fresh
 ·exact bP (aR x.toInCall.fresh (x.above n b (g7 e)))
theorem XZ(F:xZ C.h₀ f ps fd pb)(rm:mG d (A.deeper (fY fd s.heap.objs.size a)))(hr:HR C h s.heap)(fr:gP C A h s.heap)(z:VL C s.heap vs pvs)(hl:ps.length=vs.length)
  (x:InCallC s (fY fd s.heap.objs.size a).locals (bindL (fY fd s.heap.objs.size a).kindOf ((ps.map aE).zip pvs) λ_=>ao) (fY fd s.heap.objs.size a).cells
    (bindC (fY fd s.heap.objs.size a).kindOf ((ps.map aE).zip pvs) λ_=>ao) aW):Wz C d (A.deeper (fY fd s.heap.objs.size a)) (fY fd s.heap.objs.size a) (bf ps vs Env.nil) h aW:=by
 have kk:=x.toInCall.keep;have key:=S6 (C:=C) (kindOf:=(fY fd s.heap.objs.size a).kindOf) (z.mono (TK.of kk)) F.lt hl (ρ:=Env.nil) (m:=λ_=>ao) (cm:=λ_=>ao) λx v e=>nomatch e;have hw:=ML x;refine e1a3 (gP.step (m:=au) (h':=h) (s':=aW) fr (.kp kk)) λl e hF hn=>?_;have hN:=dM s.heap;refine⟨rm,⟨F.kind,F.gl,F.bi,λn n' c h1 h2=>Rk x.apart (g7 h1) (g7 h2)⟩,hr.kp kk,⟨⟨_,x.toInCall.ns,λy v e hy hk=>(key y v e hy).1 hk⟩,λn hn=>?_,λn c hc=>⟨_,x.cell n c hc,λhk y w e hy hw=>?_⟩,λb hb=>⟨hr.nil (hw b hb),hr.h0 (hw b hb)⟩⟩,⟨_,acJ e,acK (L:=s.heap.objs.size) (by show fd.scope.kind≠.module;rw[F.kind];decide) rfl x.toInCall.ns (hr.h0 hN) hF,λenv he L hL=>?_⟩⟩
 ·have hk:(fY fd s.heap.objs.size a).kindOf n=aa .cell:=hn.resolve_right (F.ad7 n);obtain ⟨c,hc⟩:=Il (.inl (g7 hk));exact Ej hc
 ·rw[e] at hk;exact e▸(key y w hw hy).2 (by rw[hk.resolve_right (F.ad7 _)];decide)
 ·rcases a_.mp he with e|he
  ·rw[e] at hL;have hL:s.heap.objs.size=L:=by injection hL
   rw[<-hL];refine e1a3 (Ns.data x.toInCall.ns) λo' bN _ ns=>?_;exact⟨hr.nil hN,λo ho=>(by cases bN.symm.trans ho;exact ns)⟩
  ·exact hn env he L hL
end
end Mine
section
set_option backward.match.sparseCases true
namespace Mine
theorem Pt.umo(hm:m0=ah->m=ah)(p:Pt C m0 W h s h' s'):Pt C m W h s h' s':=by
 cases m0 with
 |false=>exact p.up
 |true=>exact hm rfl▸p
theorem UD(G:bU C)(F:xZ C.h₀ f ps fd pb)(hf:BB f=aa (ps,body))(rm:∀env,mG d (A.deeper env))(hm:m0=ah->m=ah)
  (hb:∀L,mA (A.deeper (fY fd L (dG f))) (fY fd L (dG f))->mo C d m0 (A.deeper (fY fd L (dG f))) (fY fd L (dG f)) body pb)
  (hr:HR C h s.heap) (fr:gP C A h s.heap) (z:VL C s.heap vs pvs) (v:vF Cl f vs Q X h) (k:Kt C m A (VR C) h s Q X q E'):gG C.M A (.call (.ref (dG f)) ⟨pvs,[]⟩) (CF q E') s:=by
 delta vF at v;rw[hf] at v;refine aC (uW v) λhl v=>?_;have hl:=AV hl;refine e1a2 F.obj λo ho hd=>?_;refine e1a2 (id fr) λgX hA _=>?_;refine codeAny_call_cells (aR (aI (gZ _) (aI (b_ _ _) (b_ _ _))) (rm default).2.1) (hr.keep _ o ho) hd (G.k.nolimit.keeps hr.keep) (F.code.keeps hr.keep) F.body (Mg F.pp (by rw[aP,hl,z.len])) F.clo (λx hx=>?_) (λaW x=>?_) F.co F.gen F.kind
 ·refine e1a2 (bz.mp (Ba (show(x.1,x.2)∈_ from hx)).1) λp hp e=>?_;rw[<-e];refine(F.loc p hp).imp id λh=>⟨h,?_⟩;refine e1a1 (Il (k:=s.heap.objs.size+1) (acc:=[]) (.inl (g7 h))) λc hc=>?_;refine e1a1 (Ej hc) λc' dq=>?_;rw[dq];rfl
 ·have W:=XZ F (rm _) hr fr z hl x;have kk:=x.toInCall.keep;have NN:fZ s aW:=by refine e2a1 x.toInCall.same λh' tk e=>?_;exact e▸⟨rfl,rfl,rfl⟩
  have d8:=acJ (env:=fY fd s.heap.objs.size (dG f)) hA;have tr:∀{m' h' H'},Tr m' (dc (fY fd s.heap.objs.size (dG f))) h aW.heap h' H'->Tr m' No h s.heap h' H':=λt=>((Tr.kp kk).trans t).drop λa o hw e=>by exact zA ((ML x a hw).symm.trans e)
  have dn:∀{h' s'},Pt C m0 (dc (fY fd s.heap.objs.size (dG f))) h aW h' s'->Pt C m No h s h' s':=λp=>Pt.umo hm ⟨p.hr,tr p.tr,NN.trans p.sm⟩;refine hb s.heap.objs.size ⟨⟨_,d8⟩,rfl⟩ (q:=λf s'=>CF q E' (.ok (.ret (match f with| .ret v=>v|_=>.none))) s') W v ⟨λaO h' s' z _ _ p=>k.r _ h' _ s' z .none (dn p),λaO h' s' z=>z.elim,λv aO h' pv s' z r p=>k.r _ h' _ s' z r (dn p),λh' e s' z y=>?_⟩
  (refine be y λg FJ aD=>?_;refine e4a4 aD λea a0 B l e1 hr' mZ st=>?_)
  cases zF (d8.symm.trans mZ);rw[e1];exact V_ d8 rfl st λbp iz u=>k.x h' _ _ z ⟨(tr g).slots u,NN.trans FJ,ea,a0,B,gX,rfl,hr',hA,iz⟩
end Mine
end
namespace Mine
section
variable {prog:i6}{w:dO}{A:bg}{E:av->aA->Prop}{h:aL}{g:Array Qi}{d:Drawn}{t:Nat}{os:k9}
variable {nm q:Str}{C N:aB}{bs:List av}{hdct:Bool}{sn:List Str}{sub:List av}{ab:Bool}{col:Option Bool}{dd:Option aB}{k0 k1 k2 k3 k5:Option av}
theorem Xk{f:aB}{bO:List av}{Q:Fin->aA->Prop}
  (hC:h.get? C=aa (jK nm q C N bs dm hdct sn sub ab col dd k0 k1 k2 k3 k5 "Exception.__new__"))
  (hi:j8 (model prog w) h (uC (.ref C) "__init__") (aa (.ref f))) (hb:∀self,j8 (model prog w) h (Qj (.ref f) self) (.ref f,[self]))
  (hq:gG (model prog w) A (.call (.ref f) ⟨.ref (h.objs.size+1)::bO,[]⟩) (λr s'=>match r with| .ok (.ret v)=>v= .none/\Q (.done (.ret (.ref (h.objs.size+1)))) s'| .ok _=>False| .error e=>E e s')
   ⟨(h.push {cls:=.type "tuple",data:=.seq bO.toArray}).push {cls:=.ref C,data:=.fields #[.ref h.objs.size,.none,.none,.none,.bool au,.none]},g,d,t,os⟩) (wh:bO.length<=jH):
  ay (model prog w) A (e8.«type.__call__» ⟨.ref C::bO,[]⟩) Q E ⟨h,g,d,t,os⟩:=by
 have Fn:=acL;have T:OwnTail h dm dm:=.base;repeat (first|with_reducible refine sj hC ?_|with_reducible refine wpAny_madeBy_exc hC ?_|wp_step)
 refine codeAny_call_builtin_code (acM _ Fn.quiet) (wpAny_check_new_subU Fn (bmB:=dm) (by decide+kernel) T hC ?_);refine codeAny_exc_new_subU Fn (bmB:=dm) (by decide+kernel) Fn T hC ?_ wh;show ay _ _ _ _ _ _;have k:∀b o,h.get? b=aa o->((h.push {cls:=.type "tuple",data:=.seq bO.toArray}).push {cls:=.ref C,data:=.fields #[.ref h.objs.size,.none,.none,.none,.bool au,.none]}).get? b=aa o:=
  λb o e=>cu _ (cu _ e)
 have aa8:=k _ _ hC;have FK:((h.push {cls:=.type "tuple",data:=.seq bO.toArray}).push
   {cls:=.ref C,data:=.fields #[.ref h.objs.size,.none,.none,.none,.bool au,.none]}).get? (h.objs.size+1)=aa
   {cls:=.ref C,data:=.fields #[.ref h.objs.size,.none,.none,.none,.bool au,.none]}:=by heap_get
 have ug:(du C::dm).contains (.ref C)=ah:=by simp
 unfold OX;repeat (first|with_reducible refine sj FK ?_|(with_reducible refine xk aa8 ?_;rw[ug])|wp_step)
 refine(hi.keeps k).at ?_;refine dv (ax (((hb (.ref (h.objs.size+1))).keeps k).at ?_));refine ax (AU (PH hq λr s' z=>?_));rcases r with e|(v|_|_|_) <;> first
  |exact z
  |(obtain ⟨rfl,z⟩:=z;exact aQ (aQ z))
  |exact False.elim z
theorem ZT{f:aB}{bO:List av}{Q:av->aA->Prop}
  (hC:h.get? C=aa (jK nm q C N bs dm hdct sn sub ab col dd k0 k1 k2 k3 k5 "Exception.__new__"))
  (hi:j8 (model prog w) h (uC (.ref C) "__init__") (aa (.ref f))) (hb:∀self,j8 (model prog w) h (Qj (.ref f) self) (.ref f,[self]))
  (hq:gG (model prog w) (A.under (.builtin "type.__call__" ⟨.ref C::bO,[]⟩)) (.call (.ref f) ⟨.ref (h.objs.size+1)::bO,[]⟩) (λr s'=>match r with| .ok (.ret v)=>v= .none/\Q (.ref (h.objs.size+1)) s'| .ok _=>False| .error e=>E e s')
   ⟨(h.push {cls:=.type "tuple",data:=.seq bO.toArray}).push {cls:=.ref C,data:=.fields #[.ref h.objs.size,.none,.none,.none,.bool au,.none]},g,d,t,os⟩) (wh:bO.length<=jH):
  ay (model prog w) A (qo (.ref C) bO) Q E ⟨h,g,d,t,os⟩:=by
 have f1:=tc_lookup;have f2:=tc_bind (.ref C);have hT:(⟨h,g,d,t,os⟩:aA).TypeIs (.ref C) "type":=⟨_,hC,rfl⟩;refine AU (AY ?_);show ay _ _ (callAny (.ref C) _) _ _ _;repeat (any_goals (first|assumption|with_reducible refine sj hC ?_|wp_step))
 refine⟨rfl,?_⟩;refine codeAny_call_builtin_at (acM _ (by decide+kernel)) entry_typeCall (wpAny_check_type_call_sub hC (Xk hC hi hb ?_ wh));exact hq
end
theorem Vw:classOwn (.type "Exception") "__init__" =pure (aa (.builtin "Exception.__init__")):=by kernel_rfl
theorem MW:w7 (.builtin "Exception.__init__")=pure (.type "wrapper_descriptor"):=by kernel_rfl
theorem IE:Slot "wrapper_descriptor" "__get__" "wrapper_descriptor.__get__":=.of (owner:="wrapper_descriptor") (n:="__get__") (by rw[rV,rW];kernel_rfl) (by decide+kernel) (by decide+kernel) (by decide+kernel)
 (by first|exact .inl (by decide+kernel)|exact .inr (by decide+kernel)) (by rw[A6];kernel_rfl)
theorem ZF:G7 table "wrapper_descriptor.__get__" =aa e8.«wrapper_descriptor.__get__»:=Pk (by kernel_rfl)
theorem Re(a b c:av):xe "wrapper_descriptor.__get__" ⟨[a,b,c],[]⟩:=by unfold xe;kernel_rfl
section
variable {prog:i6}{w:dO}{A:bg}{E:av->aA->Prop}{h:aL}{g:Array Qi}{d:Drawn}{t:Nat}{os:k9}
variable {nm q:Str}{C N:aB}{bs:List av}{hdct:Bool}{sn:List Str}{sub:List av}{ab:Bool}{col:Option Bool}{dd:Option aB}{k0 k1 k2 k3 k5:Option av}
theorem Ui{e:aB}{oe:Obj}{Q:Fin->aA->Prop}(hC:h.get? C=aa (jK nm q C N bs dm hdct sn sub ab col dd k0 k1 k2 k3 k5 "Exception.__new__"))(he:h.get? e=aa oe)(wI:oe.cls= .ref C)
  (hq:Q (.done (.ret (.ref h.objs.size))) ⟨h.push {cls:=.type "method-wrapper",data:=.fields #[.builtin "Exception.__init__",.ref e]},g,d,t,os⟩):
  ay (model prog w) A (e8.«wrapper_descriptor.__get__» ⟨[.builtin "Exception.__init__",.ref e,.ref C],[]⟩) Q E ⟨h,g,d,t,os⟩:=by
 have hcE:(du C::dm).contains (.type "Exception")=ah:=by rw[Bb,qp];exact .inr (by decide+kernel)
 refine ax (jd (a:=(GH "Exception.__init__",aa (du e),aa (du C))) (by kernel_rfl) ?_);refine ax (ax (jd (a:=((dD "__init__"),xi "Exception")) (by kernel_rfl) ?_));refine ax ?_;repeat (first|(with_reducible refine sj he ?_;rw[wI])|(with_reducible refine xk hC ?_;rw[hcE])|wp_step)
 exact hq
noncomputable abbrev BD(D e C:aB):Obj:={cls:=.type "super",dict:=ao,data:=.fields #[.ref D,.ref e,.ref C],slots:=#[]}
noncomputable abbrev jN(e:aB):Obj:={cls:=.type "method-wrapper",data:=.fields #[.builtin "Exception.__init__",.ref e]}
theorem aaI{α:Type}{M:uv}{c:Prop}[Decidable c]{x y:Sem α}{Q:α->aA->Prop}{s:aA}(n:¬c)(hy:ay M A y Q E s):ay M A (if c then x else y) Q E s:=by rw[if_neg n];exact hy
theorem Rb{so e:aB}{oe:Obj}{tk:Tok}{Q:Fin->aA->Prop}(kY:h.get? so=aa (BD C e C))(kL:j8 (model prog w) h (acN (.ref C)) ao)
  (hC:h.get? C=aa (jK nm q C N bs dm hdct sn sub ab col dd k0 k1 k2 k3 k5 "Exception.__new__")) (he:h.get? e=aa oe) (wI:oe.cls= .ref C) (bF:e≠C)
  (hq:Q (.done (.ret (.ref h.objs.size))) ⟨h.push (jN e),g,d,t,os⟩):
  ay (model prog w) A (e8.«super.__getattribute__» ⟨[.ref so,.str "__init__" tk],[]⟩) Q E ⟨h,g,d,t,os⟩:=by
 have zX:=IE.lookup;have hne':(du e==du C)=au:=by simp [bF]
 have rA:(BD C e C).data= .fields #[.ref C,.ref e,.ref C]:=rfl;have f0:(#[.ref C,.ref e,.ref C]:Array av)[0]? =aa (.ref C):=rfl;have f1:(#[.ref C,.ref e,.ref C]:Array av)[1]? =aa (.ref e):=rfl;have f2:(#[.ref C,.ref e,.ref C]:Array av)[2]? =aa (.ref C):=rfl;have hn:((dD "__init__")==("__class__" :Str))=au:=by decide+kernel
 have hT:(⟨h,g,d,t,os⟩:aA).TypeIs (.builtin "Exception.__init__") "wrapper_descriptor":=MW;have hl:((du C::dm).dropWhile (λx=>x !=du C)).drop 1=dm:=by simp
 unfold e8.«super.__getattribute__»;repeat (first
  |(with_reducible refine eK kY rA f0 ?_)|(with_reducible refine eK kY rA f1 ?_)|(with_reducible refine eK kY rA f2 ?_)
  |(with_reducible refine ks_wpAny_notOpaque kL ?_)
  |(with_reducible refine wpAny_mroOf_exc hC ?_;dsimp only;rw[hl,A4])
  |(with_reducible refine jd Vw ?_)
  |(with_reducible refine jd MW ?_)
  |(with_reducible refine jd zX ?_)
  |(with_reducible refine i9 IE hT ZF ?_ (Re _ _ _))
  |(with_reducible refine Ui hC he wI ?_)
  |(with_reducible refine⟨_,rfl,?_⟩)
  |(with_reducible refine aaI (by rw[hn];exact k7) ?_)
  |(rw[hne',if_neg k7])
  |wp_step
  |dsimp only)
 all_goals exact hq
theorem Wg{so e:aB}{oe:Obj}{pl:Sem Bool}{Q:av×List av->aA->Prop}(kY:h.get? so=aa (BD C e C))(kL:j8 (model prog w) h (acN (.ref C)) ao)
  (hC:h.get? C=aa (jK nm q C N bs dm hdct sn sub ab col dd k0 k1 k2 k3 k5 "Exception.__new__")) (he:h.get? e=aa oe) (wI:oe.cls= .ref C) (bF:e≠C)
  (hq:Q (.ref h.objs.size,[]) ⟨h.push (jN e),g,d,t+1,os⟩):
  ay (model prog w) A (Pu (.ref so) "__init__" pl) Q E ⟨h,g,d,t,os⟩:=by
 have zX:=Qk.lookup;have hcan:=PySem.F.ks_canon_super_ga;have hT:∀t',(⟨h,g,d,t',os⟩:aA).TypeIs (.ref so) "super":=λ_=>⟨_,kY,rfl⟩;refine ax (oJ (hT _) zX ?_);show ay _ _ (if(Manifest.canonical "super.__getattribute__" != "object.__getattribute__")=ah then _ else _) _ _ _;rw[if_pos hcan];refine ax (ax (wpAny_mkText (dv (ax (G8 (hT _) (ax (jd zX ?_)))))));show ay _ _ (getAttrByItsOwn (.ref so) (.str "__init__" t) (.type "super") (.builtin "super.__getattribute__") ah au) _ _ _;refine ax (jd (show(if onTheHeap (.type "super") then uC (.type "super") "__getattr__" else pure ao)=pure ao from rfl) ?_);refine ax (sf (dv ?_));show ay _ _ (Qj (.builtin "super.__getattribute__") (.ref so) >>=_) _ _ _;refine ax (jd (Qk.bind _) ?_);refine fj (Q:=λv s'=>v= .ref h.objs.size/\s'=⟨h.push (jN e),g,d,t+1,os⟩) (E:=λ_ _=>False)
  (i9 Qk (hT _) PySem.F.ks_entry_super_ga (Rb kY kL hC he wI bF ⟨_,rfl,rfl,rfl⟩) (PySem.F.ks_gaArgs_super _ _)) (λv s' hv=>?_) λ_ _ z=>z.elim
 (refine aC hv λdN bq=>?_;cases dN;cases bq)
 exact aQ (aQ hq)
noncomputable abbrev gL(C a:aB)(dd:Option aB):Obj:={cls:=.ref C,dict:=dd,data:=.fields #[.ref a,.none,.none,.none,.bool au,.none]}
noncomputable def SZ:Manifest.Signature:=⟨.positional,"*","Exception",.self,[⟨"args",.varPos,au⟩]⟩
theorem V7(e:aB)(v:av):Ql "Exception.__init__" ⟨[.ref e,v],[]⟩=Bind.checkArgs "Exception.__init__" SZ ⟨[.ref e,v],[]⟩:=by kernel_rfl
theorem aak{e a:aB}{v:av}{Q:Unit->aA->Prop}
  (hC:h.get? C=aa (jK nm q C N bs dm hdct sn sub ab col dd k0 k1 k2 k3 k5 "Exception.__new__")) (he:h.get? e=aa (gL C a ao)) (hq:Q () ⟨h,g,d,t,os⟩):
  ay (model prog w) A (Ql "Exception.__init__" ⟨[.ref e,v],[]⟩) Q E ⟨h,g,d,t,os⟩:=by
 rw[V7];have FM:(du C::dm).contains (.type "Exception")=ah:=by rw[Bb,qp];exact .inr (by decide+kernel)
 refine ax ?_;repeat (first|(with_reducible refine sj he ?_)|with_reducible refine sj hC ?_|(with_reducible refine xk hC ?_;rw[FM])|wp_step)
 exact hq
theorem Xi{mw e a:aB}{v:av}{Q:av->aA->Prop}(zY:h.get? mw=aa (jN e))
  (hC:h.get? C=aa (jK nm q C N bs dm hdct sn sub ab col dd k0 k1 k2 k3 k5 "Exception.__new__")) (he:h.get? e=aa (gL C a ao))
  (hq:∀h' a',(∀b o,b≠e->h.get? b=aa o->h'.get? b=aa o)->h'.get? e=aa (gL C a' ao)->Q .none ⟨h',g,d,t,os⟩):
  ay (model prog w) A (qo (.ref mw) [v]) Q E ⟨h,g,d,t,os⟩:=by
 have Fn:=acL;refine AU (AY ?_);show ay _ A.in1 (callAny (.ref mw) _) _ _ _;refine ax (wpAny_load zY ?_);dsimp only;rw[if_pos (by decide)];show ay _ _ (Ql "Exception.__init__" ⟨[.ref e,v],[]⟩ >>=λ_=>again (.builtin "Exception.__init__" ⟨[.ref e,v],[]⟩)) _ _ _;refine ax (aak hC he (aQ ?_));refine⟨AP Fn.init.plain _,AN Fn.initEntry ?_⟩;rw[AO Fn.init.plain _]
 wp_walk
 refine hq _ h.objs.size (λb o hb ho=>?_) ?_
 ·rw[qj _ _ (eJ hb)];exact cu _ ho
 ·rw[i_ _ (cu _ he) rfl];rfl
end
theorem SH(self:av):refuseLoop self "__setattr__" dm=pure ():=by kernel_rfl
section
variable {prog:i6}{w:dO}{A:bg}{E:av->aA->Prop}{s:aA}{K:di}
variable {nm q:Str}{C N:aB}{bs:List av}{sn:List Str}{sub:List av}{ab:Bool}{col:Option Bool}{dd:Option aB}{k0 k1 k2 k3 k5:Option av}
theorem Ux{e a:aB}{name:Str}{v:av}{Q:Unit->aA->Prop}(X:K.In s.heap)(hC:s.heap.get? C=aa (jK nm q C N bs dm ah sn sub ab col dd k0 k1 k2 k3 k5 "Exception.__new__"))
  (he:s.heap.get? e=aa (gL C a ao)) (hs:j7 K (.ref C) "__setattr__" =aa (aa (.builtin "object.__setattr__"))) (ht:j7 K (.ref C) name=aa ao)
  (hq:∀h' d tk,(∀b o,b≠e->s.heap.get? b=aa o->h'.get? b=aa o)->h'.get? e=aa (gL C a (aa d))->Q () {s with heap:=h',toks:=tk}):
  ay (model prog w) A (setAttr (.ref e) name v) Q E s:=by
 have I:InstAt s.heap e (gL C a ao) C ao:=⟨he,rfl,rfl,trivial⟩;refine set_plain X I hs ?_;have SF:=PySem.F.store_object;have hm:j8 (model prog w) s.heap (mroOf (.ref C)) (.ref C::dm):=((Qm (part:=ao) hC).andThen .now).andThen .now;have sub':j8 (model prog w) s.heap (OX (.ref e) (.type "object")) ah:=I.type.andThen (λA Q E s k hq=>by
  refine xk (k _ _ hC) ?_;have:(du C::dm).contains (.type "object")=ah:=by rw[Bb,qp];exact .inr (by decide+kernel)
  rw[this];exact hq)
 refine codeAny_call_builtin SF.slot.plain SF.entry (@check_slot (model prog w) _ _ {s with toks:=s.toks+1} "object.__setattr__" "object" "__setattr__" (.ref e) [.str name s.toks,v] [] _ SF.kind SF.split sub' (SF.args (.ref e) (.str name s.toks) v) ?_);rw[osa_eq,refuse_eq];refine ax (ax (I.type.at (ax (hm.at ?_))));have hr:refuseLoop (.ref e) "__setattr__" (.ref C::dm)=pure ():=by rw[refuseLoop_ref];exact SH _
 rw[hr];refine aQ (ax (I.type.at (ax ((PF X ht).at (ax ?_)))));refine(aQ (a:=(ao:Option av)) ?_);have FN:j8 (model prog w) s.heap (classData C) {name:=nm,bases:=bs,mro:=.ref C::dm,ns:=N,qualname:=q,hasDict:=ah,slotNames:=sn,subclasses:=sub,abstract:=ab,collection:=col,hasDel:=au}:=(Qm (part:=ao) hC).andThen .now;refine ax (aQ (ax (ax (Pj he (ax (FN.at ?_))))));dsimp only;have hz:e≠s.heap.objs.size:=λz=>by have:=fX he;rw[z] at this;exact qk _ this
 have NO:(s.heap.push {cls:=.type "dict",data:=.dict #[]}).get? e=aa (gL C a ao):=cu _ he;rw[if_neg (by decide),if_neg (by rw[show typeHasDict (du C)=ah from rfl];decide)];refine ax (wpAny_alloc (ax (wpAny_update NO (aQ ?_))));dsimp only;have k1:∀b o,b≠e->s.heap.get? b=aa o->((s.heap.push {cls:=.type "dict",data:=.dict #[]}).update e λo=>{o with dict:=aa s.heap.objs.size}).get? b=aa o:=λb o hb ho=>by rw[qj _ _ (eJ hb)];exact cu _ ho
 have k2:((s.heap.push {cls:=.type "dict",data:=.dict #[]}).update e λo=>{o with dict:=aa s.heap.objs.size}).get? e=aa (gL C a (aa s.heap.objs.size)):=i_ _ NO rfl;have k3:((s.heap.push {cls:=.type "dict",data:=.dict #[]}).update e λo=>{o with dict:=aa s.heap.objs.size}).get? s.heap.objs.size=aa {cls:=.type "dict",data:=.dict #[]}:=by rw[qj _ _ hz];exact cV _ rfl
 refine ax (aQ (ax ?_));refine I7 (m:=λ_=>ao) ⟨_,#[],0,k3,rfl,(λe he=>by simp at he),λn=>rfl⟩ k3 rfl λh' o' d9 zG x1 x2 x3 x4 x5 x6 x7=>?_;refine ax (abW x1 (by rw[x3];exact abX (by rw[wW];simp at x4;exact aI x4 (by decide))) ?_);refine aQ (hq h' s.heap.objs.size _ (λb o hb ho=>?_) ?_)
 ·rw[x7.2 _ (λz=>by have:=fX ho;rw[z] at this;exact qk _ this)];exact k1 b o hb ho
 ·rw[x7.2 _ hz];exact k2
end
theorem XO{M:uv}{mw e:aB}:∀h,di.In [(mw,jN e)] h->∃k,(k=PD\/k=r7\/k=PE)/\j8 M h (r8 (.ref mw)) k:=by intro h jy;have hm:h.get? mw=aa (jN e):=jy _ _ (by simp);exact⟨.machine,.inr (.inl rfl),(Qm (part:=ao) hm).andThen (aci rfl)⟩
section
variable {C:aY}{EC f:aB}{A:bg}{s:aA}
theorem Xq(K:C.Ok)(S:tM C.prog C.K EC f)(kp:∀b o,C.h₀.get? b=aa o->s.heap.get? b=aa o){e a:aB}{v:av}(he:s.heap.get? e=aa (gL EC a ao))(bF:C.h₀.get? e=ao)
  (FP:A.depth<GU) {R:rX->aA->Prop}
  (hR:∀h' a' d tk,(∀b o,b≠e->s.heap.get? b=aa o->h'.get? b=aa o)->h'.get? e=aa (gL EC a' (aa d))->R (.ok (.ret .none)) {s with heap:=h',toks:=tk}):
  gG C.M A (.call (.ref f) ⟨[.ref e,v],[]⟩) R s:=by
 refine S.cE λnm q N bs sn sub ab col dd k0 k1 k2 k3 k5 jB=>?_
 (refine e8a1 S.fn λo fd cc zJ oc vs file tf aD=>?_;refine e8a1 aD λzK p0 p1 p2 p3 p4 p5 p6 jU=>?_;refine e3a14 jU λp7 p8 p9 ho hd hpp v_ NP hco hgen hgl hbi hclo aa9 aba zZ FQ=>?_;refine ZS FQ λhcin hcda hoc hvs abb v6 abc hocl=>?_)
 have X:C.K.In s.heap:=K.ady.keeps kp;refine e1a1 K.glob λmg hg=>?_;refine e1a2 K.blt λmb E9 E_=>?_;have hneC:e≠EC:=λz=>by have:=K.ady _ _ jB;rw[<-z,bF] at this;exact zA this
 refine ks_codeAny_call_defAt (fd:=fd) (body:=Bw p0 p1 p2 p3 p4 p5 p6 p7 p8 p9) (binds:=([("self" :Str),"what"]:List Str).zip [.ref e,v]) FP (X _ _ ho) hd (K.nolimit.keeps kp) (codeRec_of X hcin) aba (BindsTo.of_eq (Mg hpp rfl))
  (by rw[v_];decide) (by rw[v_];intro x hx;simp only [G',List.zip_nil_left,a_,fF,or_false] at hx;rcases hx with rfl|rfl <;> rfl) (λaU uf n_=>?_) hco hgen NP
 have rK:=X.keeps n_;have rL:(xl fd s.heap.objs.size f).scope.kind= .function:=NP;have adF:∀n,(xl fd s.heap.objs.size f).kindOf n=Dq.lookup n:=λn=>by show fd.scope.names.lookup n=_;rw[v_]
 have NQ:(λx=>(([("self" :Str),"what"]:List Str).zip [du e,v]).reverse.lookup x) ("self" :Str)=aa (.ref e):=by rfl
 have NR:(λx=>(([("self" :Str),"what"]:List Str).zip [du e,v]).reverse.lookup x) ("what" :Str)=aa v:=by rfl
 obtain ⟨ar,har,hara⟩:∃ar,(fd.params.posonlyargs++fd.params.args).head?=aa ar/\ar.arg= "self":=by
  cases z:(fd.params.posonlyargs++fd.params.args).head? with
  |none=>rw[z] at zZ;exact zA zZ
  |some ar=>rw[z] at zZ;exact⟨ar,rfl,by injection zZ⟩
 have NT:∀b o,C.h₀.get? b=aa o->aU.get? b=aa o:=λb o q=>n_ b o (kp b o q);refine ks_wpAt_execs_cons (ks_wpAt_Expr_any (ks_wpAt_MethodCall (pl:=do return (<-importBound (.Call (.Name "super" p0) [] [] p1) (xl fd s.heap.objs.size f)).getD ah) ?_ ?_) ?_ rfl)
 ·refine ks_wpAt_super_base (ar:=ar) (f:=f) (cc:=zJ) (fd:=fd) (adF _) (adF _) (by decide+kernel) rfl (rK _ _ ho) hd har aa9 (rK _ _ hcda) hoc hvs abb S.top ?_;refine ks_loadName_global rL (adF _) (acg (by show aU.Ns fd.globals mg;rw[hgl];exact hg.keeps NT) (mg_none_of K.ady hg S.sup) (by show aU.Ns fd.builtins mb;rw[hbi];exact E9.keeps NT) ((E_ _ (by decide+kernel)).trans (by decide+kernel)) ⟨rfl,?_⟩);refine ace rL (adF _) (c:=cc) (by show fd.closure.lookup _=_;rw[hclo];rfl) ⟨zK,rK _ _ abc,hocl⟩ ?_;rw[hara];refine w_ rL (adF _) uf NQ ?_;refine ks_wpAny_isType_cls (rK _ _ jB) rfl ⟨rfl,?_⟩;have FR:=n_ _ _ he;have hmro:j8 C.M aU (isSubtype (.ref EC) (.ref EC)) ah:=λA Q E s k hq=>by
   refine xk (k _ _ (rK _ _ jB)) ?_;have:(du EC::dm).contains (.ref EC)=ah:=by rw[Bb];simp
   rw[this];exact hq
  refine ks_wpAny_call_super (rK _ _ jB) rfl FR rfl (λc q=>by cases q) hmro λbp kY wJ=>?_;have FS:=rK.keeps wJ;refine Wg (oe:=gL EC a ao) kY (looks_opaque FS S.opq) (FS _ _ jB) (wJ _ _ FR) rfl hneC ?_;have zY:(bp.push (jN e)).get? bp.objs.size=aa (jN e):=cV _ rfl;have iB:∀b o,bp.get? b=aa o->(bp.push (jN e)).get? b=aa o:=λb o q=>cu _ q;have NU:(bp.push (jN e)).Ns s.heap.objs.size (λx=>(([("self" :Str),"what"]:List Str).zip [du e,v]).reverse.lookup x):=uf.keeps λb o q=>iB _ _ (wJ _ _ q);refine u_ (C:=C) (K:=[(bp.objs.size,jN e)]) XO rfl ?_;refine oX (uG (w_ rL (adF _) NU NR ?_) (by decide+kernel)) (kj rfl []);have hKm:di.In [(bp.objs.size,jN e)] (bp.push (jN e)):=λa o q=>by
   rw[o8] at q;split at q
   ·rename_i z;injection q with q;subst q;rw[eq_of_beq z];exact zY
   ·exact zA q
  refine r6 ⟨hKm,?_⟩;refine Xi (C:=EC) zY (iB _ _ (FS _ _ jB)) (iB _ _ (wJ _ _ FR)) λm7 a' NV abd=>?_;have neL:s.heap.objs.size≠e:=λz=>by have:=fX he;rw[z] at this;exact qk _ this
  have kk:∀b o,b≠e->s.heap.get? b=aa o->m7.get? b=aa o:=λb o hb q=>NV b o hb (iB _ _ (wJ _ _ (n_ _ _ q)));have abe:∀b o,C.h₀.get? b=aa o->m7.get? b=aa o:=λb o q=>kk b o (λz=>by rw[z,bF] at q;exact zA q) (kp b o q);have NW:C.K.In m7:=K.ady.keeps abe;have NX:m7.Ns s.heap.objs.size (λx=>(([("self" :Str),"what"]:List Str).zip [du e,v]).reverse.lookup x):=by refine e3a2 NU λoL es ep hL r=>?_;exact⟨oL,es,ep,NV _ _ neL hL,r⟩
  refine wpAt_of_wpAny (xa (plainObj_wpAny_Assign_Attribute (uG (w_ rL (adF _) NX NR ?_) (by decide+kernel)) rfl));refine uG (w_ rL (adF _) NX NQ ?_) (by decide+kernel);refine Ux (X:=NW) (NW _ _ jB) abd S.seta S.what λe7 d tk k₅ abf=>?_;refine He ?_;exact hR e7 a' d tk (λb o hb q=>k₅ b o hb (kk b o hb q)) abf
 ·rw[arm_eval_Call];have Fe:G_ ([aN.Name "what" p3].length+([]:List Keyword).length) (ng p4 (k8 [.Name "what" p3] (xl fd s.heap.objs.size f))) (backToKw p4 (keywordEach [] (xl fd s.heap.objs.size f)))=ah:=by unfold G_;rw[(Bt p4 rfl).2];exact rfl
  have Ff:Ha ah (.Call (.Name "super" p0) [] [] p1) (xl fd s.heap.objs.size f) p2 p4=pure p4:=by unfold Ha;simp [v6]
  unfold methodCall;rw[Fe];simp only [Ff,if_true,pure_bind];rfl
 ·unfold AW;rw[rL];rfl
end
section
variable {Cf:aY}{d0:Nat}{m:Bool}{prog:i6}{w:dO}{A:bg}{E:av->aA->Prop}{s:aA}{env:bJ}{h:Hp}
variable {nm q:Str}{C N:aB}{bs:List av}{hdct:Bool}{sn:List Str}{sub:List av}{ab:Bool}{col:Option Bool}{dd:Option aB}{k0 k1 k2 k3 k5:Option av}
theorem V5{x:Sem av}{Q:nh->aA->Prop}(hh:A.handled=ao)
  (h:ay (model prog w) A x (λv aW=>∃e a d,v= .ref e/\aW.heap.get? C=aa (jK nm q C N bs dm hdct sn sub ab col dd k0 k1 k2 k3 k5 "Exception.__new__")/\
   aW.heap.get? e=aa (gL C a d)/\E (.ref e) aW) E s):
  ay (model prog w) A (raiseStmt env (aa x) ao) Q E s:=by
 have FM:(du C::dm).contains (.type "BaseException")=ah:=by rw[Bb,qp];exact .inr (by decide+kernel)
 refine ax (fj h (λv aW aU=>?_) λ_ _ x=>x);refine e3a4 aU λe t d ev hC he hE=>?_;rw[ev];repeat (first|with_reducible refine sj he ?_|with_reducible refine sj hC ?_|(with_reducible refine xk hC ?_;rw[FM])|wp_step)
 exact Qa hh hE
theorem X6{x:Str}{np FU pos:Pos}{arg:aN}{Q:nh->aA->Prop}(hh:A.handled=ao)(cJ:cB arg=ah)
  (h:ay (Cf.M) A (c_ (.Name x np) env) (λf aW=>f= .ref C/\ay (Cf.M) A (c_ arg env) (λv eU=>eU.heap.get? C=aa (jK nm q C N bs dm hdct sn sub ab col dd k0 k1 k2 k3 k5 "Exception.__new__")/\
   ay (Cf.M) A (qo (.ref C) [v]) (λr fQ=>∃e a d,r= .ref e/\fQ.heap.get? C=aa (jK nm q C N bs dm hdct sn sub ab col dd k0 k1 k2 k3 k5 "Exception.__new__")/\fQ.heap.get? e=aa (gL C a d)/\E (.ref e) fQ) E eU) E aW) E s):
  ay (Cf.M) A (Hb (.Raise (aa (.Call (.Name x np) [arg] [] FU)) ao pos) env) Q E s:=by
 rw[arm_exec_Raise];refine ax (iI (V5 (C:=C) (nm:=nm) (q:=q) (N:=N) (bs:=bs) (hdct:=hdct) (sn:=sn) (sub:=sub) (ab:=ab) (col:=col) (dd:=dd) (k0:=k0) (k1:=k1) (k2:=k2) (k3:=k3) (k5:=k5) hh ?_));refine ax (fj (wpAny_Call_ofName (fj h (λf aW aU=>?_) λ_ _ x=>x)) (λv fQ c8=>ax (iI (aQ c8))) λ_ _ x=>x);refine aC aU λef aU=>?_;rw[ef];refine u_ (C:=Cf) (first:=[]) (K:=[(C,jK nm q C N bs dm hdct sn sub ab col dd k0 k1 k2 k3 k5 "Exception.__new__")]) (λh jy=>⟨.machine,.inr (.inl rfl),λA Q E s k hq=>?_⟩) (xV cJ) ?_
 ·exact wpAny_keeperOf_exc (k _ _ (jy _ _ (by rw[o8,beq_self_eq_true]))) hq
 refine oX (fj aU (λv eU bp=>?_) λ_ _ x=>x) (kj cJ []);refine r6 ⟨λa o q=>?_,bp.2⟩;rw[o8] at q;split at q
 ·rename_i z;injection q with q;rw[<-q,eq_of_beq z];exact bp.1
 ·exact zA q
theorem Xv{W:aB->Prop}(hr:HR Cf h s.heap)(fr:gP Cf A h s.heap){s':aA}{e a:aB}{d:Option aB}(rM:s.heap.get? e=ao)(hk:Kp s.heap s'.heap)(he:s'.heap.get? e=aa (gL (cT 81) a d))(sm:fZ s s'):
  XR Cf A W h s h (.ref e) s':=by
 refine e1a3 fr λl hl hF hn=>?_;have fin:∀b,b∈l.filterMap (·.frame)->∃env∈l,env.frame=aa b:=λb hb=>by refine e1a2 (GX.mp hb) λenv he hf=>?_;exact⟨env,he,hf⟩
 have ow:∀{b},b9 h b->b∉l.filterMap (·.frame):=λhb q=>by refine e1a2 (fin _ q) λenv h1 h2=>?_;exact(hn env h1 _ h2).1 hb
 have ns:∀{b o},s.heap.get? b=aa o->(∃xs n,o.data= .seq xs n)->b∉l.filterMap (·.frame):=λho yy=>e2a1 yy λxs n hd q=>by refine e1a2 (fin _ q) λenv h1 h2=>?_;exact(hn env h1 _ h2).2 _ ho _ _ hd
 refine⟨.kp hk,sm,e,.ref a,k_ s.heap (l.filterMap (·.frame)),l,rfl,?_,hl,.inl ⟨λb o q=>hk b o (Hw _ q),?_,?_,_,_,he,rfl,rfl,rfl,rfl⟩⟩
 ·refine hr.frame (λb o q=>sq _ (hr.keep b o q) λhb=>?_) (λb hb=>?_) (λt items yy=>aC yy λnp aD=>e1a3 aD λo ho hc jU=>e1a1 jU λn hd=>⟨np,o,sq _ ho (ns ho ⟨_,_,hd⟩),hc,n,hd⟩) λb hb=>?_
  ·exact zA (((hF.mem hb).1).symm.trans q)
  ·refine e1a2 (hr.there hb) λo ho _=>?_;rw[ho];exact sq _ ho (ow hb)
  ·(refine aC (hr.adI b hb) λdN r=>?_;refine e3a2 dN λo xs n ho hd=>?_)
   exact⟨⟨o,xs,n,sq _ ho (ns ho ⟨_,_,hd⟩),hd⟩,r⟩
 ·cases q:(k_ s.heap (l.filterMap (·.frame))).get? e with
  |none=>rfl
  |some o=>have:=Hw _ q;exact zA (rM.symm.trans this)
 ·exact aL.FunFrames.of_keeps (λb o q _=>⟨o,hk b o q,rfl⟩) (funFrames_hide hF λenv he a hf=>GX.mpr ⟨env,he,hf⟩)
theorem XA(K:Cf.Ok){ec f:aB}(S:tM Cf.prog Cf.K ec f)(kp:Kp Cf.h₀ s.heap)(FP:A.depth+3<GU){v:av}{Q:av->aA->Prop}
  (hq:∀s' e a d,s.heap.get? e=ao->Kp s.heap s'.heap->s'.heap.get? e=aa (gL ec a d)->fZ s s'->Q (.ref e) s'):ay Cf.M A (qo (.ref ec) [v]) Q E s:=by
 refine S.cE λnm q N bs sn sub ab col dd j0 j1 j2 j3 j5 jB=>?_;have Xh:Cf.K.In s.heap:=K.ady.keeps kp;refine ZT (Xh _ _ jB) (PF Xh S.init) (λself=>bind_fn Xh self S.ity) ?_ (by rw[wW];show 1<=16777216;decide);have k2:∀b' o,s.heap.get? b'=aa o->((s.heap.push {cls:=.type "tuple",data:=.seq [v].toArray}).push (gL ec s.heap.objs.size ao)).get? b'=aa o:=λb' o e=>cu _ (cu _ e);have rM:s.heap.get? (s.heap.objs.size+1)=ao:=oP (gZ _);have u1:=(K4 A ec [v]).1;have FK:((s.heap.push {cls:=.type "tuple",data:=.seq [v].toArray}).push (gL ec s.heap.objs.size ao)).get? (s.heap.objs.size+1)=aa (gL ec s.heap.objs.size ao):=by heap_get
 have h0:Cf.h₀.get? (s.heap.objs.size+1)=ao:=by
  cases e:Cf.h₀.get? (s.heap.objs.size+1) with
  |none=>rfl
  |some o=>have:=kp _ o e;exact zA (rM.symm.trans this)
 refine Xq K S (λb o q=>k2 b o (kp b o q)) FK h0 (aR u1 FP) λh' a' d tk kk he=>⟨rfl,?_⟩;exact hq _ _ a' (aa d) rM (λb o q=>kk b o (λz=>by rw[z,rM] at q;exact zA q) (k2 b o q)) he ⟨rfl,rfl,rfl⟩
theorem UO(G:bU Cf){x:Nat}(FV:env.kindOf (aE 81)=aa .globalImplicit)(hx:x<eN)(NY:env.kindOf (aE x)=aa .local)
  {a b:Str} (ha:a.length<=1000) (hb:b.length<=1000) {k1 k2:Nat} {np q1 q2 q3 q4 jp FU pos:Pos}:
  fJ Cf d0 m A env (.R 81 x) (.Raise (aa (.Call (.Name (aE 81) np) [.JoinedStr [.Constant (.str a) k1 q1,.FormattedValue (.Name (aE x) q2) (-1) ao q3,.Constant (.str b) k2 q4] jp] [] FU)) ao pos):=λ{ρ h s Q q E'} W v k=>by
 (refine be v λdN _ v=>?_;refine e1a2 dN λi FW hc=>?_)
 refine aC (G.cls 81 (by decide+kernel)) λg3 _=>?_;refine G.aec.cE λnm q N bs sn sub ab col dd j0 j1 j2 j3 j5 jB=>?_;have hi:i.natAbs<2 ^ 31:=of_decide_eq_true hc;have hlog:i.natAbs.log2<1920:=by
  by_cases z:i.natAbs=0
  ·rw[z];decide
  ·exact(Nat.log2_lt z).mpr (bY hi (Nat.pow_lt_pow_right (by decide) (by decide)))
 have gr:(dD (toString i)).length<=11:=by rw[PySem.ofString_length];exact int_text_length_le10 (k:=10) (by decide) (bY hi (by decide))
 have hr:=W.hr;have Xh:=G.k.ady.keeps hr.keep;refine X6 (Cf:=Cf) (C:=47) (nm:=nm) (q:=q) (N:=N) (bs:=bs) (hdct:=ah) (sn:=sn) (sub:=sub) (ab:=ab) (col:=col) (dd:=dd) (k0:=j0) (k1:=j1) (k2:=j2) (k3:=j3) (k5:=j5) W.rm.1 rfl (xE G W (by decide) FV g3 ⟨rfl,?_⟩);refine e1a2 W.er.loc λM hm hloc=>?_;refine e1a2 (hloc x (.int i) FW hx NY) λpv NZ hrel=>?_;refine e1a1 hrel.ofInt λti e=>?_;rw[e] at NZ;refine wpAny_JoinedStr (show Joins _ _ _ [c_ (.Constant (.str a) k1 q1) env,c_ (.FormattedValue (.Name (aE x) q2) (-1) ao q3) env,c_ (.Constant (.str b) k2 q4) env] _ _ _ from ?_);have FX:2011<=jH:=by rw[wW];decide
 have FY:(Str.empty++a).length=a.length:=by rw[Hx];exact nb _
 refine PA ⟨_,_,rfl,by rw[FY];exact aI ha (aI (by decide) FX),?_⟩;refine wpAny_FormattedValue_plain (uG (w_ W.ek.kind NY hm NZ (wpAny_formatField_int hlog ⟨_,_,rfl,by rw[Hx,FY];exact aI (dF ha gr) (aI (by decide) FX),?_⟩)) (qG hx));have l3:(Str.empty++a++dD (toString i)++b).length<=jH:=by rw[Hx,Hx,FY];exact aI (dF (dF ha gr) hb) FX
 refine PA ⟨_,_,rfl,l3,l3,Xh _ _ jB,?_⟩;apply XA G.k G.aec
 ·exact λb o q=>hr.keep b o q
 ·exact aR (aI (ds (by decide) _) (fC (b_ _ _) 20)) W.rm.2.1
 intro s' e a' d' rM hk he sm;exact⟨e,a',d',rfl,hk _ _ (Xh _ _ jB),he,k.x _ _ _ v (Xv hr W.fr rM hk he sm)⟩
end
theorem Wc(G:bU C)(F:mA A env)(FV:env.kindOf (aE 81)=aa .globalImplicit)(hc:qH pe=ah)(he:SE C d ah A env e pe):
  fJ C d ah A env (.y e (.q (.e .r (.l (.bool N1))) .n) 81 (.q (.e .r (.l (.bool N2))) .n)) (.Try [.Expr pe p1,.Return (aa (.Constant (.bool N1) k1 p2)) p3] [.ExceptHandler (aa (.Name (aE 81) np)) ao [.Return (aa (.Constant (.bool N2) k2 p4)) p5] hp] [] [] pos):=λ{ρ h s Q q E'} W v k=>by
 have v:vE Cl e (λh=>Q (.ret (.bool N2)) Env.nil h) ρ (λ_ h=>Q (.ret (.bool N1)) Env.nil h) h:=v.2;have hint:AW env=au:=by unfold AW;rw[W.ek.kind];rfl
 refine wpAny_Try_except (xa (wpAny_Expr_any (he W v ⟨λa h' x s1 z r p=>?_,λh' ex s1 z x=>?_⟩) hint (EN hc _ _)))
 ·exact xa (PP (Pz (k.t _ _ _ _ _ z (.bool _) p.mono)))
 ·(refine be x λg sm aD=>?_;refine e4a4 aD λea a0 B l ee N3 hl st=>?_)
  refine e1a1 F.top λgX ho=>?_;cases zF (ho.symm.trans hl);rw[ee];refine G.aec.cE λnm q N bs sn sub ab col dd j0 j1 j2 j3 j5 jB=>?_;refine B' ho F.at_ st λaU ua v8=>?_;refine wpAny_landsW (s:={s1 with heap:=aU}) ua λbp FZ v9=>?_;have N4:Kp C.h₀ bp:=λb o q=>FZ.1 b o (N3.keep b o q);refine e1a1 G.k.glob λmg hg=>?_;refine wpAny_handleBy_cons (codeAny_handlers_test (PB W.ek.kind FV (acf (by rw[W.ek.gl];exact hg.keeps N4) (mg_of G.k.ady hg (G.cls 81 (by decide+kernel)).1) ?_) (qG (by decide)))) (by intro q;cases q);refine e1a2 FZ.there λob wg hobc=>?_;refine wpAny_excMatches_sub_self (N4 _ _ (G.k.ady _ _ jB)) wg hobc (by decide+kernel) (codeAny_handlers_suite ?_);refine lands_againW (s:={s1 with heap:=bp}) FZ λc8 abg u₃=>?_;refine xa (PP (Pz ?_));exact k.t _ _ h' _ _ z (.bool _) ⟨N3.kp abg.1,((((g.slots v8).slots v9).slots u₃).mono λ_ q=>q.elim),sm⟩
theorem bU.x{C:aY}(G:bU C){X:aB->Prop}:bU (C.x X):=⟨G.k,G.bok,G.bnm,G.cls,G.makes,G.aec,G.fns⟩
structure ET(C:aY)(d:Nat)(m:Bool)(A:bg)(env:bJ)(e:E)(pe:aN):Prop where
 v:SE C d m A env e pe
 t:ST C d m A env e pe
structure GA(d:Nat)(A:bg)(e:E)(m:Bool):Prop where
 v:∀{ns pe},(bD d e m).v ns pe=ah->∀{C env},bU C->dk ns env->ET C d m A env e ((gE e).v pe)
 es:∀{ns l},(bD d e m).es ns l=ah->∀{C env},bU C->dk ns env->lN C d m A env e ((gE e).es l)
 ps:m=au->∀{ns l l'},(bD d e m).ps ns l l'=ah->∀{C env},bU C->dk ns env->pB C d A env e ((gE e).ks l) ((gE e).vs l')
 adR:m=au->∀{ns l l'},(bD d e m).adR ns l l'=ah->∀{C env},bU C->dk ns env->∀{k pk},SE C d au A env k pk->pB C d A env (.b .k k e) (aa pk::(gE e).ad3 l) ((gE e).aeb l')
section
variable {C:aY}{d:Nat}{m:Bool}{A:bg}{ns:dp}{env:bJ}{e a b c:E}{pe pa pb pc target:aN}{pos p:Pos}{l:List aN}{tup:Bool}{ts:List Nat}{W':aB->Prop}{ok:Str->Bool}
theorem II(hW:∀a,W' a->dc env a)(og:∀x,x<eN->ok (aE x)=ah->LC env x/\∀a,Sl env x a->W' a)(h:pE ok tup ts=ah):nJ C d A env W' tup ts (mu tup ts target):=by
 match tup,ts,h with
 |true,ts,h=>exact λ{_ _ _ _ _ _ _ _ _}=>Ka hW λx hx=>let q:=cQ.mp (aH h) x hx;og x (gq (aV q)) (aH q)
 |false,[x],h=>exact have q:=og x (gq (aV h)) (aH h);λ{_ _ _ _ _ _ _ _ _}=>Mj q.1 q.2
theorem To(hn:dk ns env)(h:pE (tP ns) tup ts=ah):nJ C d A env (· =env.locals) tup ts (mu tup ts target):=
 II (λa e=>.inl e) (λx hx h=>have k:=hn.l _ (yu h);⟨⟨hx,.inl k⟩,λa z=>z.elim And.right λz=>by rw[k] at z;cases z.1⟩) h
theorem Sz(hn:dk ns env)(h:pE (vI ns) tup ts=ah):nJ C d A env (dc env) tup ts (mu tup ts target):=
 II (λ_ h=>h) (λx hx h=>⟨⟨hx,hn.lc h⟩,λa=>yr⟩) h
theorem BM{a b:Bool}(h:(!a||b)=ah)(ha:a=ah):b=ah:=by rw[ha] at h;exact h
theorem Zk(hn:dk ns env){sc:qm}(h:JE ns sc ts=ah):BZ env sc ts:=by
 have h2:=cQ.mp (aH h);have loc:∀y∈sc.names,y.2= .local->tP sc.names y.1=ah/\(y.1== ".0" ||ts.any λt=>gM t&&aE t==y.1)=ah:=λy hy e=>have q:=BM (aV (aH (h2 y hy))) (beq_iff_eq.mpr e);⟨aV q,aH q⟩;refine⟨beq_iff_eq.mp (aV h),λy hy e=>?_,λy hy e=>yu (loc y hy e).1,λy hy e=>hn.cf (BM (aH (aH (h2 y hy))) (beq_iff_eq.mpr e)),λx hx e=>?_⟩
 ·have q:=aV (h2 y hy);rw[e] at q;exact zC q
 ·rcases qp _ _▸(loc _ (g7 e) rfl).2 with z|z
  ·exact absurd (beq_iff_eq.mp z) (QR hx)
  ·refine e1a2 (Az.mp z) λt ht hz=>?_;exact nM (gq (aV hz)) hx (beq_iff_eq.mp (aH hz))▸ht
theorem JY(h:Cz pe=ah):∀x,Qe pe env x=pure x:=by intro x;cases pe <;> first|rfl|exact zC h
theorem Xj(h:pE ok tup ts=ah):(tup=ah\/∃x,ts=[x])/\∀y∈ts,y<eN/\ok (aE y)=ah:=by
 match tup,ts,h with
 |true,ts,h=>exact⟨.inl rfl,λx hx=>have q:=cQ.mp (aH h) x hx;⟨gq (aV q),aH q⟩⟩
 |false,[x],h=>exact⟨.inr ⟨x,rfl⟩,λy hy=>by rw[aZ.mp hy];exact⟨gq (aV h),aH h⟩⟩
theorem LP{v:V}(h:D6 v=ah):v= .adt:=by cases v <;> first|rfl|exact zC h
theorem I9{e:E}{b:Bool}(h:lB e=aa b):e= .l (.bool b):=by
 cases e <;> first|(exact zA h;done)|skip
 rename_i v;cases v <;> first|(cases zF h;rfl)|exact zA h
theorem Y9{c:E}(h:tO c=ah):c= .l (.bool ah):=by
 cases e:lB c with
 |none=>have h:(lB c).getD au=ah:=h;rw[e] at h;exact zC h
 |some b=>have h:(lB c).getD au=ah:=h;rw[e] at h;have h:b=ah:=h;rw[I9 e,h]
theorem Ip(G:bU C)(hn:dk ns env){elt it cond:E}(ii:GA d A it m)(ie:GA d A elt au)(ic:GA d A cond au)
  (h:(bD d (.C elt tup ts it cond) m).v ns pe=ah):y6 C d m A env elt it cond tup ts (mu tup ts (aJ pe 1)) ((gE elt).v (aJ pe 0)) ((gE it).v (aJ pe 2)) (match tO cond with|true=>[]|false=>[(gE cond).v (aJ pe 3)]) (qJ pe):=by
 have h1:=aH h;have h2:=aH h1;have h3:=aH h2;have h4:=aH h3;refine aC (Xj (aV h2)) λq1 q2=>?_;refine⟨Zk hn (aV h1),JY (aV h),(ii.v (aV h3) G hn).v,q1,λy hy=>⟨(q2 y hy).1,yu (q2 y hy).2⟩,λX' iA e=>To (dk.comp e) (aV h2),λX' iA e=>?_,λX' iA e=>(ie.v (aV h4) G.x (dk.comp e)).v⟩;have h5:=aH h4;cases q:tO cond with
 |true=>rw[Y9 q];exact .none
 |false=>rw[q] at h5;exact .one (ic.v h5 G.x (dk.comp e)).t
theorem gQ(he:rZ pe env (c_ pe env)=(do let v<-c_ pe env;w9 pe.pos;AS [v] (AJ v)))(h:SE C d m A env e pe):ET C d m A env e pe:=⟨h,Lc he h⟩
theorem V'(hc:ST C d m A env c pc)(ha:ST C d m A env a pa)(hb:ST C d m A env b pb):ST C d m A env (.t c a b) (.IfExp pc pa pb pos):=λ{ρ _ _ P X _ _} W v k=>
 isTrue_IfExp (hc (P:=λ_=>kT (vE Cl a X) (vE Cl b X) ρ (kP P)) W v (k.to λc h1 c' s1 z e p k=>by
  obtain ⟨cv,c⟩:=c;have e:c=c':=e;rw[<-e];cases c with
  |true=>exact ha (W.step p) z.1 k
  |false=>exact hb (W.step p) z.1 k))
theorem JP{op:uF}{c:Bool}{P:List aN->Prop}{q:OE}(hc:c=ah->∃x r,(gE b).v (.BoolOp op l p)= .BoolOp op (x::r) p)(h1:q.v ns pb=ah->P [(gE b).v pb])(h2:q.v ns (.BoolOp op l p)=ah->∀x r,(gE b).v (.BoolOp op l p)= .BoolOp op (x::r) p->P (x::r)){n:Bool}
  (h:(match n with|true=>q.v ns pb|false=>c&&q.v ns (.BoolOp op l p))=ah):P (match (generalizing:=false) n with|true=>[(gE b).v pb]|false=>CG ((gE b).v (.BoolOp op l p))):=by
 cases n with
 |true=>exact h1 h
 |false=>refine e2a1 (hc (aV h)) λx r e=>?_;have:=h2 (aH h) x r e;show P (CG ((gE b).v (.BoolOp op l p)));rw[e];exact this
end
theorem GA.of(hw:bD d e m=OE.of w)(v:∀{ns pe},w ns pe=ah->∀{C env},bU C->dk ns env->ET C d m A env e ((gE e).v pe)):GA d A e m:=
 ⟨λh=>v (by rw[hw] at h;exact h),λh=>(by rw[hw] at h;exact zC h),λ_ _ _ _ h=>(by rw[hw] at h;exact zC h),λ_ _ _ _ h=>(by rw[hw] at h;exact zC h)⟩
theorem XB(G:bU C)(hn:dk ns env)(h1:EE op=au->m'=m)(h2:EE op=ah->m'=au)(ia:GA d A a m')(h:oU d m op (gE a) (bD d a m') ns pe=ah):ET C d m A env (.u op a) (gU op (gE a) pe):=by
 cases op with
 |D=>cases h2 rfl;exact gQ rfl (WY (ia.ps rfl (aH h) G hn) (Bd (aV h)))
 |K=>cases h2 rfl;exact gQ rfl (RC (ia.ps rfl (aH h) G hn) (Bd (aV h)))
 |a f=>cases h1 rfl;exact gQ rfl (X9 G (aV h) (ia.v (aH h) G hn).v)
 |r=>cases h1 rfl;exact gQ rfl (Uf (ia.v h G hn).v)
 |n=>cases h1 rfl;exact⟨RA (ia.v h G hn).v,Vk (ia.v h G hn).t⟩
 |L=>cases h1 rfl;exact gQ rfl (W7 (ia.es h G hn))
 |T=>cases h1 rfl;exact gQ rfl (Zb (ia.es h G hn))
 |c f=>cases h1 rfl;exact have g:=aV h;have k:=aH h;gQ rfl (Yi G ⟨gq (aV g),aV (aH g)⟩ (aH (aH g)) (hn.g _ (lJ (aV k))) (aV (aH k)) (ia.es (aH (aH k)) G hn))
 |B f=>cases h1 rfl;exact have k:=aH h;gQ rfl (Wq G (aV h) (hn.g _ (lJ (aV k))) (aV (aH k)) (ia.es (aH (aH k)) G hn))
 |N c=>cases h1 rfl;exact have g:=aV h;have k:=aH h;gQ rfl (Sj G (aV g) (Nat.ne_of_beq_eq_false (pJ (aV (aH (aH g))))) (gq (aV (aH g))) (aH (aH (aH g))) (hn.g _ (lJ (aV k))) (aV (aH k)) (ia.es (aH (aH k)) G hn))
 |R=>exact zC h
 |V=>exact zC h
theorem RF(G:bU C)(hn:dk ns env)(ia:GA d A a m)(ib:GA d A b m)(h:KJ op (gE a) (gE b) (bD d a m) (bD d b m) ns pe=ah):ET C d m A env (.b op a b) (gB op (gE a) (gE b) pe):=by
 cases op with
 |i=>exact gQ rfl (Tw G (aV h) (ia.v (aV (aH h)) G hn).v (ib.v (aH (aH h)) G hn).v)
 |s=>exact gQ rfl (Vu (ia.v (aV h) G hn).v (ib.v (aH h) G hn).v)
 |f=>exact gQ rfl (Rm (ia.v (aV h) G hn).v (ib.v (aH h) G hn).v)
 |z=>exact have k:=aH (aH h);have k':=aH (aH k);gQ rfl (R5 G (hn.g _ (lJ (aV h))) (hn.g _ (lJ (aV (aH h)))) (aV k) (aV (aH k)) (ia.v (aV k') G hn).v (ib.v (aH k') G hn).v)
 |k=>exact zC h
 |a op=>exact gQ rfl (Yj (ia.v (aV h) G hn).v (ib.v (aH h) G hn).v)
 |c op=>exact have x:=ia.v (aV (aH h)) G hn;have y:=ib.v (aH (aH h)) G hn;⟨RM G (pJ (aV h)) x.v y.v,X3 G (pJ (aV h)) x.v y.v⟩
theorem R9(h:BQ b=ah):∃x r,(gE b).v (.BoolOp .And l p)= .BoolOp .And (x::r) p:=by cases b <;> first|(exact zC h;done)|exact⟨_,_,rfl⟩
theorem Tn(h:Er b=ah):∃x r,(gE b).v (.BoolOp .Or l p)= .BoolOp .Or (x::r) p:=by cases b <;> first|(exact zC h;done)|exact⟨_,_,rfl⟩
theorem Xu(G:bU C)(hn:dk ns env)(ia:GA d A a m)(ib:GA d A b m)(h:yR .And (BQ b) (bD d a m) (bD d b m) ns pe=ah):ET C d m A env (.A a b) (yH .And (gE a) (gE b) pe):=
 have x:=ia.v (aV h) G hn
 JP (P:=λl=>ET C d m A env (.A a b) (.BoolOp .And ((gE a).v (aJ pe 0)::l) pe.pos)) R9 (λq=>have y:=ib.v q G hn;⟨Kr x.v y.v,eW.to (eW.and x.t (eW.one y.t))⟩) (λq u r e=>have y:ET C d m A env b (.BoolOp .And (u::r) pe.pos):=e▸ib.v q G hn;⟨Kr x.v y.v,eW.to (eW.and x.t (eW.of y.t))⟩) (aH h)
theorem TN(G:bU C)(hn:dk ns env)(ia:GA d A a m)(ib:GA d A b m)(h:yR .Or (Er b) (bD d a m) (bD d b m) ns pe=ah):ET C d m A env (.O a b) (yH .Or (gE a) (gE b) pe):=
 have x:=ia.v (aV h) G hn
 JP (P:=λl=>ET C d m A env (.O a b) (.BoolOp .Or ((gE a).v (aJ pe 0)::l) pe.pos)) Tn (λq=>have y:=ib.v q G hn;⟨HW x.v y.v,eW.to (eW.or x.t (eW.one y.t))⟩) (λq u r e=>have y:ET C d m A env b (.BoolOp .Or (u::r) pe.pos):=e▸ib.v q G hn;⟨HW x.v y.v,eW.to (eW.or x.t (eW.of y.t))⟩) (aH h)
theorem x_(h:vC op=ah):op= .k:=by cases op <;> first|rfl|exact zC h
theorem iS(d:Nat)(A:bg):∀(e:E) (m:Bool),GA d A e m:=by
 intro x;induction x with
 |l v=>exact λm=>⟨λh _ _ _ _=>⟨HT h,Lc RQ (HT h)⟩,λh _ _ _ _=>(by rw[LP h];exact aaS),λ_ _ _ _ h _ _ _ _=>(by rw[LP h];exact U9),λ_ _ _ _ h=>nomatch h⟩
 |v x=>exact λm=>.of rfl λh _ _ _ hn=>gQ rfl (Y' (gq (aV h)) (hn.var (aH h)))
 |g x=>exact λm=>.of rfl λh _ _ G hn=>gQ rfl (Za G (hn.g _ (lJ h)))
 |u op a i5=>exact λm=>.of rfl λh _ _ G hn=>XB G hn (λq=>by rw[q];exact Av m) (λq=>by rw[q];exact abU m) (i5 _) h
 |b op a b i5 gY=>
  exact λm=>⟨λh _ _ G hn=>RF G hn (i5 m) (gY m) h,λh _ _ G hn=>(by have e:=x_ (aV h);rw[e];exact λ{_ _ _ _ _ _ _}=>T8 (aV (aH h)) ((i5 m).v (aV (aH (aH h))) G hn).v ((gY m).es (aH (aH (aH h))) G hn)),
   λhm _ _ _ h _ _ G hn=>(by have e:=x_ (aV h);rw[e];exact(gY m).adR hm (aH (aH h)) G hn (hm▸((i5 m).v (aV (aH h)) G hn).v)),
   λhm _ _ _ h _ _ G hn _ _ hk=>(by have e:=x_ (aV h);rw[e];exact SW hk (hm▸((i5 m).v (aV (aH h)) G hn).v) ((gY m).ps hm (aH (aH h)) G hn))⟩
 |A a b i5 gY=>exact λm=>.of rfl λh _ _ G hn=>Xu G hn (i5 m) (gY m) h
 |O a b i5 gY=>exact λm=>.of rfl λh _ _ G hn=>TN G hn (i5 m) (gY m) h
 |t c a b ih_c i5 gY=>
  exact λm=>.of rfl λh _ _ G hn=>
   have x:=(ih_c m).v (aV h) G hn;have y:=(i5 m).v (aV (aH h)) G hn;have z:=(gY m).v (aH (aH h)) G hn
   ⟨YI x.t y.v z.v,V' x.t y.t z.t⟩
 |C elt tup ts it cond abh abi abj=>exact λm=>.of rfl λh _ _ G hn=>gQ rfl (Rt G (Ip G hn (abi m) (abh au) (abj au) h))
 |m o j es ih_o abk=>
  exact λm=>.of rfl λh _ _ G hn=>
   have k:=aH (aH h);have k':=aH (aH k)
   gQ rfl (Ww G (aV h) (aV (aH h)) (AQ▸aV k) (aV (aH k)) (aV k') ((ih_o m).v (aV (aH k')) G hn).v ((abk m).es (aH (aH k')) G hn))
structure GT(d:Nat)(A:bg)(b:S)(m:Bool):Prop where
 s:∀{ns l},(jQ d b m).s ns l=ah->∀{C env},bU C->dk ns env->mA A env->mo C d m A env b ((gS b).s l)
 o:∀{ns st},(jQ d b m).o ns st=ah->∀{C env},bU C->dk ns env->mA A env->fJ C d m A env b ((gS b).o st)
section
variable {C:aY}{d:Nat}{m m':Bool}{A:bg}{ns:dp}{env:bJ}{e a b c it:E}{pe target:aN}{st:bL}{tup:Bool}{ts xs:List Nat}{sb:S}
theorem GT.one{w:dp->bL->Bool}(hw:jQ d sb m=⟨λ_ _=>au,w⟩)(o:∀{ns st},w ns st=ah->∀{C env},bU C->dk ns env->mA A env->fJ C d m A env sb ((gS sb).o st)):GT d A sb m:=
 ⟨λh=>(by rw[hw] at h;exact zC h),λh=>o (by rw[hw] at h;exact h)⟩
theorem VQ(G:bU C)(hn:dk ns env)(h:HX d m it tup ns pe=ah):SI C d m A env (mu tup ts target) it (Cx it pe):=by
 cases it
 case u op a=>
  cases op
  case R=>exact Zn G (hn.g _ (lJ (aV h))) (aV (aH h)) ((iS d A a m).v (aH (aH h)) G hn).v
  case V=>exact Xm G (hn.g _ (lJ (aV h))) (aV (aH h)) ((iS d A a m).v (aH (aH h)) G hn).v
  all_goals exact C5 G rfl ((iS d A _ m).v h G hn).v
 case b op a b=>
  cases op
  case z=>
   have ht:tup=ah:=aV h;have k:=aH h;have k':=aH (aH k);cases ht;exact λ{_ _ _ _ _ _}=>S7 G (hn.g _ (lJ (aV k))) (aV (aH k)) (aV k') ((iS d A a m).v (aV (aH k')) G hn).v ((iS d A b m).v (aH (aH k')) G hn).v
  all_goals exact C5 G rfl ((iS d A _ m).v h G hn).v
 all_goals exact C5 G rfl ((iS d A _ m).v h G hn).v
theorem WW{elt:aN}{gs:List Comprehension}{sc:qm}{pos p:Pos}{n:Str}{line:Nat}{env:bJ}:∃b:Bool,uH (.ListComp elt gs sc pos) (aa (.Name n p)) line env=pure b:=⟨_,rfl⟩
theorem Zr(h:(bD d e m).v ns pe=ah):qH ((gE e).v pe)=ah\/∃elt tup ts it cond,e= .C elt tup ts it cond:=by
 cases e
 case C=>exact .inr ⟨_,_,_,_,_,rfl⟩
 case l v=>
  left;show qH (nP v pe)=ah;delta nP;split
  ·split <;> rfl
  all_goals rfl
 case u op a=>cases op <;> first|exact .inl rfl|exact zC h
 case b op a b=>cases op <;> first|exact .inl rfl|exact zC h
 all_goals exact .inl rfl
theorem VO(G:bU C)(hn:dk ns env){fM:Pos}(h1:pE (vI ns) tup xs=ah)(h2:(!tup||yP ((gE e).v pe))=ah)(h3:(bD d e m).v ns pe=ah):fJ C d m A env (.e (.s tup xs) e) (.Assign [mu tup xs target] ((gE e).v pe) fM):=by
 have he:SE C d m A env e ((gE e).v pe):=((iS d A e m).v h3 G hn).v
 match tup,xs,h1,h2 with
 |true,xs,h1,h2=>exact λ{_ _ _ _ _ _}=>Ro (of_decide_eq_true (aV h1)) (λx hx=>have q:=cQ.mp (aH h1) x hx;⟨gq (aV q),hn.lc (aH q)⟩) h2 he
 |false,[x],h1,_=>
  have hx:LC env x:=⟨gq (aV h1),hn.lc (aH h1)⟩;rcases Zr h3 with hc|⟨elt,ct,ts,it,cond,ee⟩
  ·exact λ{_ _ _ _ _ _}=>HU hx (EN hc _ _) he
  ·cases ee;obtain ⟨b,q⟩:=WW (elt:=(gE elt).v (aJ pe 0)) (gs:=[⟨mu ct ts (aJ pe 1),(gE it).v (aJ pe 2),(match tO cond with|true=>[]|false=>[(gE cond).v (aJ pe 3)]),0⟩]) (sc:=qJ pe) (pos:=pe.pos) (p:=target.pos) (n:=aE x) (line:=fM.line) (env:=env)
   cases b with
   |false=>exact λ{_ _ _ _ _ _}=>HU hx q he
   |true=>exact λ{_ _ _ _ _ _}=>Yd G (Ip G hn (iS d A it m) (iS d A elt au) (iS d A cond au) h3) hx q
theorem yQ(h:vx e=ah):e= .b .k (eA e) (eB e):=by
 cases e <;> first|(exact zC h;done)|skip
 rw[x_ h];rfl
theorem Y6(h:By e=ah):e= .l .none:=by
 cases e <;> first|(exact zC h;done)|skip
 rename_i v;cases v <;> first|rfl|exact zC h
theorem KP{α:Type}{c:Bool}{o:Option α}{x:α}(h:(bif c then o else ao)=aa x):c=ah/\o=aa x:=by
 cases c with
 |true=>exact⟨rfl,h⟩
 |false=>exact zA h
theorem Mx(h:B4 sb=ah):sb= .q (.e .r (.l (.bool (pI sb)))) .n:=by
 refine e1a1 (AL.mp h) λb e=>?_;rw[show pI sb=b from congrArg (·.getD au) e];cases sb <;> first|(exact zA e;done)|skip
 rename_i s r;refine aC (KP e) λh1 h2=>?_;cases r <;> first|(exact zC h1;done)|skip
 cases s <;> first|(exact zA h2;done)|skip
 rename_i op x;refine aC (KP h2) λh3 h4=>?_;cases op <;> first|(exact zC h3;done)|skip
 rw[I9 h4]
theorem YA(G:bU C)(hn:dk ns env)(F:mA A env){op:SO}(h:LJ d m op e ns st=ah):fJ C d m A env (.e op e) (gO op e st):=by
 have ev:∀{e' pe},(bD d e' m).v ns pe=ah->SE C d m A env e' ((gE e').v pe):=λq=>((iS d A _ m).v q G hn).v;cases op with
 |s tup xs=>exact λ{_ _ _ _ _ _}=>VO G hn (aV h) (aV (aH h)) (aH (aH h))
 |a f=>have q:=yQ (aV h);generalize eA e=x,eB e=y at q;cases q;have h:(ah&&((bD d x m).v ns (sk st 1)&&(bD d y m).v ns (aJ (sk st 0) 0)))=ah:=h;exact λ{_ _ _ _ _ _}=>WG G (ev (aV (aH h))) (ev (aH (aH h)))
 |i=>
  have q:=yQ (aV h);have q':=yQ (aV (aH h));generalize eA e=x,eB e=y at q;cases q;generalize eA (eB (E.b B.k x y))=z,eB (eB (E.b B.k x y))=w at q';have q':y= .b .k z w:=q';cases q';have k:(s8 ((gE w).v (aJ (sk st 0) 1))&&((bD d x m).v ns (sk st 1)&&((bD d z m).v ns (aJ (sk st 0) 0)&&(bD d w m).v ns (aJ (sk st 0) 1))))=ah:=by have h:(ah&&(ah&&_))=ah:=h;exact h
  exact λ{_ _ _ _ _ _}=>RI (aV k) (ev (aV (aH k))) (ev (aV (aH (aH k)))) (ev (aH (aH (aH k))))
 |d=>have q:=yQ (aV h);generalize eA e=x,eB e=y at q;cases q;have h:(ah&&((bD d x m).v ns (aJ (sk st 0) 0)&&(bD d y m).v ns (aJ (sk st 0) 1)))=ah:=h;exact λ{_ _ _ _ _ _}=>Y1 (ev (aV (aH h))) (ev (aH (aH h)))
 |x=>exact λ{_ _ _ _ _ _} W=>WT (by unfold AW;rw[W.ek.kind];rfl) (aV h) (ev (aH h)) W
 |r=>
  show fJ C d m A env (.e .r e) (.Return (match (sx st).isEmpty with|true=>ao|false=>aa ((gE e).v (sk st 0))) (fM st));have h:(match (sx st).isEmpty with|true=>By e|false=>(bD d e m).v ns (sk st 0))=ah:=h;cases q:(sx st).isEmpty with
  |true=>rw[q] at h;rw[Y6 h];exact λ{_ _ _ _ _ _}=>Uu
  |false=>rw[q] at h;exact λ{_ _ _ _ _ _}=>Yx (ev h)
end
theorem Cd(d:Nat)(A:bg):∀(b:S) (m:Bool),GT d A b m:=by
 intro x;induction x with
 |bad=>exact λm=>⟨λ_ _ _ _ _ _ _ _ _ _ _ _ _ v=>v.elim,λ_ _ _ _ _ _ _ _ _ _ _ _ _ v=>v.elim⟩
 |n=>exact λm=>⟨λ_ _ _ _ _ _=>Uk,λh=>nomatch h⟩
 |q b r gY ih_r=>exact λm=>⟨λh _ _ G hn F=>Sh ((gY m).o (aV h) G hn F) ((ih_r m).s (aH h) G hn F),λh=>nomatch h⟩
 |e op e=>exact λm=>.one rfl λh _ _ G hn F=>YA G hn F h
 |i c a b i5 gY=>exact λm=>.one rfl λh _ _ G hn F=>Te ((iS d A c m).v (aV h) G hn).t ((i5 m).s (aV (aH h)) G hn F) ((gY m).s (aH (aH h)) G hn F)
 |f tup ts it b gY=>exact λm=>.one rfl λh _ _ G hn F=>Rw F (JY (aV h)) (VQ G hn (aV (aH h))) (λX'=>Sz hn (aV (aH (aH h)))) λX'=>(gY au).s (aH (aH (aH h))) G.x hn F
 |w c b gY=>exact λm=>.one rfl λh _ _ G hn F=>XN ((iS d A c m).v (aV h) G hn).t ((gY m).s (aH h) G hn F)
 |c=>exact λm=>.one rfl λh _ _ G hn F=>Xc
 |R c x=>
  exact λm=>.one rfl λ{_ _} h _ _ G hn F {_ _ _ _ _ _} W v=>by have e:=v.2.1;cases e;have k:=aH h;exact UO G (hn.g _ (lJ (aV h))) (gq (aV k)) (hn.l _ (yu (aV (aH k)))) (Bd (aV (aH (aH k)))) (Bd (aH (aH (aH k)))) W v
 |y e a c hd i5 ih_hd=>
  exact λm=>.one rfl λ{_ _} h _ _ G hn F {_ _ _ _ _ _} W v=>by have e:=v.1;cases e;have hm:m=ah:=aV h;cases hm;have k:=aH (aH h);have q1:=Mx (aV (aH h));have q2:=Mx (aV k);show Ks _ _ _ _ _ _ _ _ _ _ _->ay _ A (Hb (.Try [_,yd (pI a) _] [.ExceptHandler (aa (.Name (aE 81) _)) ao [yd (pI hd) _] _] [] [] _) _) _ _ _;generalize pI a=x at q1 ⊢;generalize pI hd=y at q2 ⊢;cases q1;cases q2;exact Wc G F (hn.g _ (lJ (aV (aH k)))) (aV (aH (aH k))) ((iS d A _ ah).v (aH (aH (aH k))) G hn).v W v
theorem UM:dk fd.scope.names (fY fd L a):=⟨λ_ h=>h,λ_ h=>h,λ_ h=>.inr h,λ_ h=>h⟩
theorem ba(x:vF Cl f vs Q X h):Cl f vs Q X h:=⟨λC G m hm A s pvs rm hr fr z q E k=>by refine e1a2 (tL x) λp hp _=>?_;refine e2a2 (G.fns f p hp) λfd l F ok=>?_;exact UD G F hp rm hm (λL FO=>(Cd (tX f) _ p.2 (wk f)).s ok G UM FO) hr fr z x k⟩
end Mine
end
namespace Mine
theorem iQ{α:Type}{l:List α}{a:α}(i:Nat)(e:l[i]? =aa a):a∈l:=AF e
theorem b8{α:Type}{l r:List α}{a:α}(h:a∈l):a∈l++r:=Hc r h
theorem aX{α:Type}{l r:List α}{a:α}(h:a∈r):a∈l++r:=GI l h
abbrev aM:=List (Nat×O)
section
variable {h h':Hp}{a b n:Nat}{o o':O}{L L' A B:aM}
theorem BR(h:Hp)(a:Nat)(o:O):(h.put a o).get a=aa o:=if_pos rfl
theorem DB(e:b≠a):(h.put a o).get b=h.get b:=if_neg e
def kH(h h':Hp):Prop:=h'.lk=h.lk/\∀a o,h.get a=aa o->h'.get a=aa o
theorem kH.refl(h:Hp):kH h h:=⟨rfl,λ_ _ e=>e⟩
theorem kH.new(e:h.get n=ao):kH h (h.put n o):=⟨rfl,λa o' e'=>(DB (λz=>(by rw[z,e] at e';exact zA e'))).trans e'⟩
structure St(h:Hp)(L:aM):Prop where
 lk:h.lk=ao
 nd:(L.map (·.1)).Nodup
 at_:∀p∈L,h.get p.1=aa p.2
theorem St.get(x:St h L)(e:(a,o)∈L):h.get a=aa o:=x.at_ _ e
theorem St.ix(x:St h L)(i:Nat)(e:L[i]? =aa (a,o)):h.get a=aa o:=x.at_ _ (iQ i e)
theorem St.ext(x:St h L)(e:kH h h'):St h' L:=⟨e.1.trans x.lk,x.nd,λp hp=>e.2 _ _ (x.at_ p hp)⟩
theorem St.new(x:St h L)(e:h.get n=ao):St (h.put n o) ((n,o)::L):=
 ⟨x.lk,dK.mpr ⟨λz=>by(refine e1a2 (bz.mp z) λp hp q=>?_;have:=x.at_ p hp;rw[q,e] at this;exact zA this),x.nd⟩,λp hp=>by
  rcases a_.mp hp with rfl|hp
  ·exact BR _ _ _
  ·exact(kH.new e).2 _ _ (x.at_ p hp)⟩
theorem St.upd(x:St h (A++(a,o)::B))(o':O):St (h.put a o') (A++(a,o')::B):=by
 have nd:=x.nd;refine⟨x.lk,by simpa using nd,λp hp=>?_⟩;simp only [bA,bW,fW,dK,bz,a_] at nd;rcases bx.mp hp with hp|hp
 ·rw[DB λe=>nd.2.2 _ ⟨p,hp,rfl⟩ _ (.inl rfl) e];exact x.at_ p (b8 hp)
 ·rcases a_.mp hp with rfl|hp
  ·exact BR _ _ _
  ·rw[DB λe=>nd.2.1.1 ⟨p,hp,e⟩];exact x.at_ p (aX (.tail _ hp))
theorem St.set(x:St h L)(i:Nat)(e:L[i]? =aa (a,o))(o':O):St (h.put a o') (L.set i (a,o')):=by
 refine e1a1 (i8.mp e) λl e=>?_;rw[List.set_eq_take_append_cons_drop,if_pos l];have x:St h (L.take i++(a,o)::L.drop (i+1)):=by rw[<-e,<-Pp l,Qn];exact x
 exact x.upd o'
theorem St.sub(x:St h L)(p:L'.Sublist L):St h L':=⟨x.lk,x.nd.sublist (p.map _),λq hq=>x.at_ q (p.subset hq)⟩
theorem St.perm(x:St h L)(p:L.Perm L'):St h L':=⟨x.lk,(p.map _).nodup_iff.mp x.nd,λq hq=>x.at_ q (p.mem_iff.mpr hq)⟩
theorem St.mid{X Y:aM}{p:Nat×O}(x:St h (p::(X++Y))):St h (X++p::Y):=x.perm mf.symm
end
section
variable {h:Hp}{Q:PV}{Qt:Bool->Hp->Prop}{Qu:Hp->Prop}{v w:V}{n m c f:Nat}{xs ys:List V}{es:List (V×V)}{fs:List (Nat×V)}{A B:Prop}
theorem dx{p:Prop}[Decidable p](x:p->A)(y:¬p->B):br (decide p) A B:=by
 by_cases e:p
 ·rw[decide_eq_true e];exact x e
 ·rw[decide_eq_false e];exact y e
theorem ij{p:Prop}[Decidable p](x:¬p->A)(y:p->B):br (!decide p) A B:=by
 by_cases e:p
 ·rw[decide_eq_true e];exact y e
 ·rw[decide_eq_false e];exact x e
theorem mK{p:Prop}[Decidable p](e:p)(x:A):br (decide p) A B:=by rw[decide_eq_true e];exact x
theorem lO{p:Prop}[Decidable p](e:¬p)(x:B):br (decide p) A B:=by rw[decide_eq_false e];exact x
theorem pq{p:Prop}[Decidable p](e:p)(x:B):br (!decide p) A B:=by rw[decide_eq_true e];exact x
theorem Ja{p:Prop}[Decidable p](e:¬p)(x:A):br (!decide p) A B:=by rw[decide_eq_false e];exact x
theorem cX(e:h.get n=aa (.inst c fs))(p:mU c f=ah)(g:dR fs f=aa v)(q:Q v h):db (.ref n) f Q h:=⟨c,fs,v,e,p,g,q⟩
theorem cz{k:Int}(e:h.get n=aa (.list xs))(g:iR xs k=aa v)(q:Q v h):eY (.ref n) (.int k) Q h:=.inl ⟨xs,e,v,g,q⟩
theorem eX(e:h.get n=aa (.dict es))(ko:b7 w es=ah)(g:bC es w=aa v)(q:Q v h):eY (.ref n) w Q h:=.inr ⟨es,e,v,ko,g,q⟩
theorem lQ{k:Nat}(e:xs[k]? =aa v):iR xs (k:Int)=aa v:=by delta iR;rw[if_pos (nk k)];exact e
theorem cI{Q:MK->Hp->Prop}(e:h.get n=aa (.inst c fs))(g:(dR fs m).isNone=ah)(p:iM c m=aa f)(q:Q (.fn f) h):gh (.ref n) m Q h:=.inl ⟨c,fs,f,e,g,p,q⟩
theorem cN{k:MK}{Q:MK->Hp->Prop}(e:h.get n=aa (.list xs))(g:tW m=aa k)(q:Q k h):gh (.ref n) m Q h:=.inr (.inl ⟨xs,e,k,g,q⟩)
theorem BL{k:MK}{Q:MK->Hp->Prop}(e:h.get n=aa (.dict es))(g:xB m=aa k)(q:Q k h):gh (.ref n) m Q h:=.inr (.inr ⟨es,e,k,g,q⟩)
theorem q_(k:h.lk=ao):h.lk≠aa n:=λz=>by exact zA (k.symm.trans z)
theorem sO(e:h.get n=aa (.list xs))(l:xs.length<aG)(k:h.lk=ao)(q:Q .none (h.put n (.list (xs++[v])))):iK n v Q h:=⟨xs,e,l,q_ k,q⟩
theorem Cp(e:h.get n=aa (.list xs))(e':h.get m=aa (.list ys))(l:xs.length<aG)(l':ys.length<aG)(k:h.lk=ao)(q:Q .none (h.put n (.list (xs++ys)))):qT n (.ref m) Q h:=⟨xs,e,ys,e',l,l',q_ k,q⟩
theorem KF(e:h.get n=aa (.list (xs++[v])))(k:h.lk=ao)(q:Q v (h.put n (.list xs))):tB n Q h:=⟨_,e,xs,v,rfl,q_ k,q⟩
theorem aaO(e:h.get n=aa (.dict es))(ko:b7 w es=ah)(q:Q ((bC es w).getD .none) h):ru n [w] Q h:=⟨es,e,ko,q⟩
theorem Xe(e:h.get n=aa (.dict es))(ko:b7 w es=ah)(q:Q ((bC es w).getD v) h):ru n [w,v] Q h:=⟨es,e,ko,q⟩
theorem ZL(e:h.get n=aa (.inst c fs))(p:mU c f=ah)(l:fs.length<aG)(k:h.lk=ao)(q:Qu (h.put n (.inst c (jk fs f v)))):lY (.ref n) f v Qu h:=⟨c,fs,e,p,l,q_ k,q⟩
theorem yw(e:h.get n=aa (.dict es))(ko:b7 w es=ah)(l:es.length<aG)(k:h.lk=ao)(q:Qu (h.put n (.dict (bB es w v)))):dY (.ref n) w v Qu h:=⟨es,e,ko,l,q_ k,q⟩
theorem TH(e:h.get n=aa (.dict es))(ko:b7 w es=ah)(g:(bC es w).isSome=ah)(k:h.lk=ao)(q:Qu (h.put n (.dict (iy es w)))):pR (.ref n) w Qu h:=⟨es,e,ko,g,q_ k,q⟩
theorem Ct(e:h.get n=aa (.dict es))(ko:b7 w es=ah)(q:Qt (bC es w).isSome h):bZ .inn w (.ref n) Qt h:=.inr ⟨es,e,ko,q⟩
theorem qQ(e:h.get n=aa (.dict es))(ko:b7 w es=ah)(q:Qt (!(bC es w).isSome) h):bZ .notin w (.ref n) Qt h:=.inr ⟨es,e,ko,q⟩
theorem JS{a b:Int}:decide (V.int a=V.int b)=decide (a=b):=decide_eq_decide.mpr ⟨λe=>by injection e,congrArg _⟩
theorem Kx{a b:Nat}:decide (V.str a=V.str b)=decide (a=b):=decide_eq_decide.mpr ⟨λe=>by injection e,congrArg _⟩
theorem B_{a b:Int}(q:Qt (decide (a=b)) h):bZ .eq (.int a) (.int b) Qt h:=.inl ⟨rfl,rfl,JS▸q⟩
theorem Ce{a b:Int}(q:Qt (!decide (a=b)) h):bZ .ne (.int a) (.int b) Qt h:=.inl ⟨rfl,rfl,(JS▸q:)⟩
theorem jg{a b:Nat}(q:Qt (decide (a=b)) h):bZ .eq (.str a) (.str b) Qt h:=.inl ⟨rfl,rfl,Kx▸q⟩
section
variable {L:aM}(x:St h L)(i:Nat)
include x
theorem iw(e:L[i]? =aa (n,.list xs))(l:xs.length<aG)(q:∀h',St h' (L.set i (n,.list (xs++[v])))->Q .none h'):iK n v Q h:=sO (x.ix i e) l x.lk (q _ (x.set i e _))
theorem J0(e:L[i]? =aa (n,.list (xs++[v])))(q:∀h',St h' (L.set i (n,.list xs))->Q v h'):tB n Q h:=KF (x.ix i e) x.lk (q _ (x.set i e _))
theorem f6(e:L[i]? =aa (n,.dict es))(ko:b7 w es=ah)(l:es.length<aG)(q:∀h',St h' (L.set i (n,.dict (bB es w v)))->Qu h'):dY (.ref n) w v Qu h:=yw (x.ix i e) ko l x.lk (q _ (x.set i e _))
theorem nT(e:L[i]? =aa (n,.inst c fs))(p:mU c f=ah)(l:fs.length<aG)(q:∀h',St h' (L.set i (n,.inst c (jk fs f v)))->Qu h'):lY (.ref n) f v Qu h:=ZL (x.ix i e) p l x.lk (q _ (x.set i e _))
omit i in
theorem qZ{o:O}(q:∀n h',St h' ((n,o)::L)->Q (.ref n) h'):cj o Q h:=λn e=>q n _ (x.new e)
end
theorem eO(e:h.get n=aa (.list xs))(q:Q (.int xs.length) h):pM (.ref n) Q h:=⟨xs,e,q⟩
end
structure Tm where
 op:Nat
 args:List Nat
 sort:Nat
 data:V
 deriving DecidableEq
noncomputable abbrev iv(n:Nat):V:=.int n
noncomputable def Tm.key(t:Tm):V:=V.tup [.str t.op,V.tup (t.args.map iv),iv t.sort,t.data]
structure FT where
 sn:List V
 sw:List V
 fn:List V
 fa:List V
 fr:List V
 xf:List (Nat×V)
noncomputable def kz:Nat->List Tm->List (V×V)
 |_,[]=>[]
 |n,t::r=>(t.key,iv n)::kz (n+1) r
noncomputable def rv:List (List Nat):=[[1],[1],[3,1],[2],[],[],[],[],[],[],[]]
noncomputable def vG:List Nat:=[1,0,3,2,1,1,1,3,3,2,2]
noncomputable def y9(b:Nat->Nat):List (Nat×V):=[(33,.ref (b 33)),(32,.ref (b 32)),(31,.ref (b 31)),(30,.ref (b 30)),(29,.ref (b 29)),(28,.int 0),(26,.ref (b 26)),(25,.ref (b 25)),(24,.ref (b 24)),(23,.ref (b 23)),(22,.ref (b 22))]
noncomputable def fT:FT:=⟨[.str 34,.str 35,.str 36,.str 208],[iv 0,iv 0,iv 0,iv 0],[.str 41,.str 206,.str 204,.str 205,.str 201,.str 202,.str 203,.str 199,.str 200,.str 58,.str 196],rv.map λl=>V.tup (l.map iv),vG.map iv,[(20,.int 1),(16,.int 2)]⟩
noncomputable def bd(F:FT)(b:Nat->Nat)(ts:List Tm):aM:=[(b 0,.inst 209 (y9 b++F.xf)),(b 33,.list F.sn),(b 32,.list F.sw),(b 31,.list F.fn),(b 30,.list F.fa),(b 29,.list F.fr),
 (b 26,.list (.str 27::ts.map λt=>.str t.op)),(b 25,.list (.adt::ts.map λt=>V.tup (t.args.map iv))),(b 24,.list (iv 0::ts.map λt=>iv t.sort)),(b 23,.list (iv 0::ts.map λt=>t.data)),(b 22,.dict (kz 1 ts))]
def BH(b:Nat->Nat)(ts:List Tm)(h:Hp):Prop:=∀p∈bd fT b ts,h.get p.1=aa p.2
noncomputable def tm(ts:List Tm)(n:Nat):Option Tm:=if n=0 then ao else ts[n-1]?
theorem rp(e:tm ts n=aa t):iR (x::ts.map g) (n:Int)=aa (g t):=by
 delta tm at e;split at e
 ·exact zA e
 ·(refine e1a1 (Nat.exists_eq_succ_of_ne_zero ‹_›) λk bq=>?_;cases bq)
  exact lQ (by rw[List.getElem?_cons_succ,qq,show ts[k]? =aa t from e];rfl)
theorem BH.g(x:BH b ts h)(i:Nat)(e:(bd fT b ts)[i]? =aa (a,o)):h.get a=aa o:=x _ (iQ i e)
theorem tE(x:BH b ts h)(e:tm ts n=aa t)(q:Q (.str t.op) h):Cl 1006 [.ref (b 0),iv n] Q X h:=ba (cX (x.g 0 rfl) rfl rfl (cz (x.g 6 rfl) (rp e) q))
theorem il(x:BH b ts h)(e:tm ts n=aa t)(q:Q (V.tup (t.args.map iv)) h):Cl 1007 [.ref (b 0),iv n] Q X h:=ba (cX (x.g 0 rfl) rfl rfl (cz (x.g 7 rfl) (rp e) q))
theorem ky(x:BH b ts h)(e:tm ts n=aa t)(q:Q (iv t.sort) h):Cl 1008 [.ref (b 0),iv n] Q X h:=ba (cX (x.g 0 rfl) rfl rfl (cz (x.g 8 rfl) (rp e) q))
theorem u8(x:BH b ts h)(e:tm ts n=aa t)(q:Q t.data h):Cl 1009 [.ref (b 0),iv n] Q X h:=ba (cX (x.g 0 rfl) rfl rfl (cz (x.g 9 rfl) (rp e) q))
theorem yf(n d:Nat):(iv n).data d=ah:=by delta iv;cases d <;> rfl
theorem TX:∀l:List V,(V.tup l).adL=ah
 |[]=>rfl
 |_::_=>rfl
theorem BV{d:Nat}:∀{l:List V},(∀x∈l,x.data d=ah)->(V.tup l).data (d+1)=ah:=by
 intro l;induction l with
 |nil=>intro _;exact by cases d <;> rfl
 |cons x l ih=>intro h;show(x.data d&&(V.tup l).adL &&(V.tup l).data (d+1))=ah;rw[h x (.head _),TX,ih λy hy=>h y (.tail _ hy)];rfl
theorem Ii{d:Nat}{l:List Nat}:(V.tup (l.map iv)).data (d+1)=ah:=BV λx hx=>by
 (refine e1a2 (bz.mp hx) λn _ dA=>?_;cases dA);exact yf n d
theorem sV:∀{l l':List V},V.tup l=V.tup l'->l=l':=by
 intro l;induction l with
 |nil=>
  intro z10';cases z10' with
  |nil=>intro _;exact rfl
  |cons _ _=>intro h;exact by cases h
 |cons x l ih=>
  intro z11';cases z11' with
  |nil=>intro h;exact by cases h
  |cons y l'=>intro h;have h:V.adA x (V.tup l)=V.adA y (V.tup l'):=h;injection h with h1 h2;rw[h1,ih h2]
theorem ji{a b:Nat}(h:iv a=iv b):a=b:=by delta iv at h;injection h with h;exact acO h
theorem xW:∀{l l':List Nat},l.map iv=l'.map iv->l=l':=by
 intro l;induction l with
 |nil=>
  intro z12';cases z12' with
  |nil=>intro _;exact rfl
  |cons _ _=>intro h;exact by cases h
 |cons x l ih=>
  intro z13';cases z13' with
  |nil=>intro h;exact by cases h
  |cons y l'=>intro h;rw[bW] at h;injection h with h1 h2;rw[ji h1,ih h2]
theorem lU:∀l:List V,(V.tup l).items=aa l:=by
 intro l;induction l with
 |nil=>exact rfl
 |cons x l ih=>exact by show((V.tup l).items).map _=_;rw[ih];rfl
theorem QQ{t t':Tm}(h:t.key=t'.key):t=t':=by
 have h:=sV h;obtain ⟨o,a,s,d⟩:=t;obtain ⟨o',a',s',d'⟩:=t';injection h with h1 h;injection h with h2 h;injection h with h3 h;injection h with h4 h
 injection h1 with h1
 have h5:=xW (sV h2);have h6:=ji h3;simp only at h1 h4 h5 h6;subst h1 h4 h5 h6;rfl
noncomputable def adv:Nat->List Tm->Tm->Option Nat
 |_,[],_=>ao
 |n,x::r,t=>if x=t then aa n else adv (n+1) r t
theorem vH{n:Nat}{x t:Tm}{r:List Tm}:adv n (x::r) t=if x=t then aa n else adv (n+1) r t:=rfl
theorem IU(t:Tm):∀(ts:List Tm) (n:Nat),bC (kz n ts) t.key=(adv n ts t).map iv:=by
 intro ts;induction ts with
 |nil=>intro _;exact rfl
 |cons x r ih=>
  intro n;dsimp only [kz,bC,adv];by_cases e:x=t
  ·rw[if_pos (by rw[e]),if_pos e];rfl
  ·rw[if_neg (λz=>e (QQ z)),if_neg e];exact ih _
theorem XV(t:Tm):∀(ts:List Tm) (n:Nat),kz n (ts++[t])=kz n ts++[(t.key,iv (n+ts.length))]:=by
 intro ts;induction ts with
 |nil=>intro _;exact rfl
 |cons x r ih=>intro n;simp only [qr,kz,ih (n+1),e_];rw[show n+1+r.length=n+(r.length+1) from PK n 1 _]
theorem rq{k v:V}:∀{es:List (V×V)},bC es k=ao->bB es k v=es++[(k,v)]:=by
 intro es;induction es with
 |nil=>intro _;exact rfl
 |cons e r ih=>
  intro h;rw[jP] at h;split at h
  ·exact zB h
  ·rename_i z;rw[tN,if_neg z,ih h];rfl
theorem Tc:∀(ts:List Tm) (n:Nat),(kz n ts).all (λe=>kk e.1==3)=ah:=by
 intro ts;induction ts with
 |nil=>intro _;exact rfl
 |cons x r ih=>intro n;exact by simp only [kz,GM,ih,Av];rfl
theorem V8:∀(ts:List Tm) (n:Nat),(kz n ts).length=ts.length:=by
 intro ts;induction ts with
 |nil=>intro _;exact rfl
 |cons x r ih=>intro n;exact by simp only [kz,e_,ih]
theorem Km{t:Tm}{ts:List Tm}{n:Nat}(h:t.data.data 5=ah):b7 t.key (kz n ts)=ah:=by
 delta b7;rw[show kk t.key=3 from rfl,Tc,Av];refine BV λx hx=>?_;simp only [a_,fF,or_false] at hx;rcases hx with rfl|rfl|rfl|rfl
 ·rfl
 ·exact Ii
 ·exact yf _ _
 ·exact h
theorem Uq{t:Tm}:∀{ts:List Tm} {n k:Nat},adv n ts t=aa k->n<=k:=by
 intro ts;induction ts with
 |nil=>intro _ _ h;exact by exact zA h
 |cons x r ih=>
  intro n k h;rw[vH] at h;split at h
  ·injection h with h;exact jD h
  ·exact w8 (ih h)
noncomputable def upd{α β:Type}[DecidableEq α](f:α->β)(k:α)(v:β):α->β:=λx=>if x=k then v else f x
theorem ip{α β:Type}[DecidableEq α](f:α->β)(k:α)(v:β):upd f k v k=v:=if_pos rfl
theorem gV{α β:Type}[DecidableEq α]{f:α->β}{k x:α}{v:β}(e:x≠k):upd f k v x=f x:=if_neg e
theorem CN(k v k':V):∀es:List (V×V),bC (bB es k v) k'=if k'=k then aa v else bC es k':=by
 intro es;induction es with
 |nil=>
  show(if k=k' then aa v else ao)=if k'=k then aa v else ao
  by_cases e:k=k'
  ·rw[if_pos e,if_pos e.symm]
  ·rw[if_neg e,if_neg λz=>e z.symm]
 |cons e r ih=>
  rw[tN];by_cases q:e.1=k
  ·rw[if_pos q,jP,jP];dsimp only;by_cases q':e.1=k'
   ·rw[if_pos q',if_pos (q'.symm.trans q)]
   ·rw[if_neg q',if_neg λz=>q' (q.trans z.symm),if_neg q']
  ·rw[if_neg q,jP,jP,ih];by_cases q':e.1=k'
   ·rw[if_pos q',if_neg λz=>q (q'.trans z),if_pos q']
   ·rw[if_neg q',if_neg q']
theorem Cc(k v:V):∀es:List (V×V),(bB es k v).map (·.1)=if(bC es k).isSome then es.map (·.1) else es.map (·.1)++[k]:=by
 intro es;induction es with
 |nil=>exact rfl
 |cons e r ih=>
  rw[tN,jP];by_cases q:e.1=k
  ·rw[if_pos q,if_pos q];rfl
  ·rw[if_neg q,if_neg q,bW,ih];split <;> rfl
theorem sT{k:V}:∀{es:List (V×V)},bC es k=ao↔k∉es.map (·.1):=by
 intro es;induction es with
 |nil=>exact by simp [bC]
 |cons e r ih=>
  rw[jP];by_cases q:e.1=k
  ·simp [q]
  ·rw[if_neg q,ih,bW,a_,not_or];exact⟨λz=>⟨λw=>q w.symm,z⟩,λz=>z.2⟩
theorem DU{k v:V}:∀{es:List (V×V)},bC es k=aa v->(k,v)∈es:=by
 intro es;induction es with
 |nil=>intro h;exact by exact zA h
 |cons e r ih=>
  intro h;rw[jP] at h;split at h
  ·rename_i q;injection h with h;subst q h;exact .head _
  ·exact .tail _ (ih h)
theorem LL(k:V):∀es:List (V×V),(iy es k).Sublist es:=by
 intro es;induction es with
 |nil=>exact .slnil
 |cons e r ih=>exact by rw[yl];split;exact .cons _ (Hy r);exact .cons₂ _ (ih)
theorem KR(k k':V):∀{es:List (V×V)},(es.map (·.1)).Nodup->bC (iy es k) k'=if k'=k then ao else bC es k':=by
 intro es;induction es with
 |nil=>intro _;exact by show ao=if k'=k then ao else ao;split <;> rfl
 |cons e r ih=>
  intro n;rw[bW,dK] at n;rw[yl];by_cases q:e.1=k
  ·rw[if_pos q];by_cases q':k'=k
   ·rw[if_pos q',sT,q',<-q];exact n.1
   ·rw[if_neg q'];conv=>rhs;rw[jP]
    rw[if_neg λz=>q' (z.symm.trans q)]
  ·rw[if_neg q,jP,jP,ih n.2];by_cases q':e.1=k'
   ·rw[if_pos q',if_pos q',if_neg λz=>q (q'.trans z)]
   ·rw[if_neg q',if_neg q']
theorem KO{a b:Nat}(h:a≠b):iv a≠iv b:=λz=>h (ji z)
theorem g_:∀(n:Nat) (l:List Nat),l.Nodup->(∀x∈l,x<n)->l.length<=n:=by
 intro n;induction n with
 |zero=>
  intro z14';cases z14' with
  |nil=>intro _ _;exact bQ _
  |cons x l=>intro _ h;exact absurd (h x (.head _)) (OY x)
 |succ n n8=>
  intro l hn h;have e:(l.filter (·≠n)).length<=n:=n8 _ (hn.filter _) λx hx=>by rw[cW,decide_eq_true_eq] at hx;exact Be (nz (h x hx.1)) hx.2
  have:l.length<=(l.filter (·≠n)).length+1:=by
   clear e h;induction l with
   |nil=>exact g0 _
   |cons x l ih=>
    rw[dK] at hn;by_cases q:x=n
    ·subst q;have:l.filter (·≠x)=l:=List.filter_eq_self.mpr λy hy=>by simp;rintro rfl;exact hn.1 hy
     rw[ss];simp only [ne_eq,not_true_eq_false,decide_false,e_];simp only [ne_eq] at this;rw[if_neg (by(intro h;exact zC h;done)),this];exact bQ _
    ·rw[AA (by simpa using q),e_,e_];exact dw (ih hn.2)
  exact aI this (dw e)
structure DI(es:List (V×V))(f:Nat->Option V):Prop where
 nd:(es.map (·.1)).Nodup
 ks:∀e∈es,∃t,t<18/\e.1=iv t
 g:∀t,bC es (iv t)=f t
theorem Jm{l:List V}(h:l.Nodup)(k:∀e∈l,∃t,t<18/\e=iv t):l.length<=18:=by
 have:∃l':List Nat,l=l'.map iv/\∀t∈l',t<18:=by
  clear h;induction l with
  |nil=>exact⟨[],rfl,λt ht=>by exact zE ht⟩
  |cons x l ih=>
   refine e1a2 (ih λe he=>k e (.tail _ he)) λl' e q=>?_
   (refine e1a2 (k x (.head _)) λt ht dA=>?_;cases dA)
   exact⟨t::l',by rw[e];rfl,λs hs=>by rcases a_.mp hs with rfl|hs;exact ht;exact q s hs⟩
 (refine e1a2 this λl' bq q=>?_;cases bq)
 rw[aP];refine g_ 18 l' ?_ q;exact(Bf.mp h).imp λx=>λz=>x (by rw[z])
theorem DI.len{es:List (V×V)}{f:Nat->Option V}(x:DI es f):es.length<=18:=by rw[<-aP (f:=(·.1))];exact Jm x.nd λe he=>by(refine e1a2 (bz.mp he) λp hp dA=>?_;cases dA);exact x.ks p hp
theorem DI.lim{es:List (V×V)}{f:Nat->Option V}(x:DI es f):es.length<aG:=aR x.len (by decide)
theorem DI.ko{es:List (V×V)}{f:Nat->Option V}(x:DI es f)(t:Nat):b7 (iv t) es=ah:=by delta b7;rw[yf,Hz,cQ];intro e he;refine e1a2 (x.ks e he) λs _ q=>?_;rw[q];rfl
theorem DI.put{es:List (V×V)}{f:Nat->Option V}(x:DI es f){t:Nat}(ht:t<18)(v:V):DI (bB es (iv t) v) (upd f t (aa v)):=by
 refine⟨?_,λe he=>?_,λs=>?_⟩
 ·rw[Cc];split
  ·exact x.nd
  ·rename_i q;have q:bC es (iv t)=ao:=by cases e:bC es (iv t) <;> simp [e] at q ⊢
   rw[sT] at q;rw[fW];exact⟨x.nd,by simp,λa ha b hb=>by simp at hb;subst hb;rintro rfl;exact q ha⟩
 ·have:e.1∈(bB es (iv t) v).map (·.1):=bz.mpr ⟨e,he,rfl⟩;rw[Cc] at this;have:e.1∈es.map (·.1)\/e.1=iv t:=by split at this;exact .inl this;simpa using this
  rcases this with h|h
  ·refine e1a2 (bz.mp h) λp hp h=>?_;rw[<-h];exact x.ks p hp
  ·exact⟨t,ht,h⟩
 ·rw[CN];delta upd;by_cases e:s=t
  ·rw[if_pos (by rw[e]),if_pos e]
  ·rw[if_neg (KO e),if_neg e,x.g]
theorem DI.del{es:List (V×V)}{f:Nat->Option V}(x:DI es f)(t:Nat):DI (iy es (iv t)) (upd f t ao):=by
 have sub:=LL (iv t) es;refine⟨x.nd.sublist (sub.map _),λe he=>x.ks e (sub.subset he),λs=>?_⟩;rw[KR _ _ x.nd];delta upd;by_cases e:s=t
 ·rw[if_pos (by rw[e]),if_pos e]
 ·rw[if_neg (KO e),if_neg e,x.g]
noncomputable abbrev cR(l:List Nat):V:=V.tup (l.map iv)
theorem JK{l l':List Nat}(h:cR l=cR l'):l=l':=xW (sV h)
structure DT(es:List (V×V))(f:List Nat->Option Nat):Prop where
 nd:(es.map (·.1)).Nodup
 nv:(es.map (·.2)).Nodup
 ks:∀e∈es,∃l t,t<18/\e=(cR l,iv t)
 g:∀l,bC es (cR l)=(f l).map iv
theorem DT.len{es:List (V×V)}{f:List Nat->Option Nat}(x:DT es f):es.length<=18:=by rw[<-aP (f:=(·.2))];exact Jm x.nv λe he=>by(refine e1a2 (bz.mp he) λp hp dA=>?_;cases dA);refine e2a2 (x.ks p hp) λl t ht q=>?_;exact⟨t,ht,by rw[q]⟩
theorem DT.put{es:List (V×V)}{f:List Nat->Option Nat}(x:DT es f){l:List Nat}{t:Nat}(ht:t<18)(hn:f l=ao)(hf:∀l,f l≠aa t):DT (bB es (cR l) (iv t)) (upd f l (aa t)):=by
 have e0:bC es (cR l)=ao:=by rw[x.g,hn];rfl
 rw[rq e0];refine⟨?_,?_,λe he=>?_,λs=>?_⟩
 ·rw[bA,fW];exact⟨x.nd,by simp,λa ha b hb=>by simp at hb;subst hb;rintro rfl;exact sT.mp e0 ha⟩
 ·rw[bA,fW];refine⟨x.nv,by simp,λa ha b hb=>?_⟩;simp at hb;subst hb;rintro rfl;refine e1a2 (bz.mp ha) λp hp q=>?_;refine e2a2 (x.ks p hp) λl' t' _ e=>?_;have e1:bC es (cR l')=aa (iv t):=by
   have m0:(cR l',iv t)∈es:=by rw[e] at hp q;rw[<-q];exact hp
   cases z:bC es (cR l') with
   |none=>exact absurd (bz.mpr ⟨_,m0,rfl⟩) (sT.mp z)
   |some w=>
    have m1:=DU z;have:∀{es:List (V×V)} {k a b:V},(es.map (·.1)).Nodup->(k,a)∈es->(k,b)∈es->a=b:=by
     intro es;induction es with
     |nil=>intro k a b _ h;exact zE h
     |cons y r ih=>
      intro k a b n h1 h2;rw[bW,dK] at n;rcases a_.mp h1 with h1|h1 <;> rcases a_.mp h2 with h2|h2
      ·rw[<-h2] at h1;injection h1
      ·exact absurd (bz.mpr ⟨_,h2,by rw[<-h1]⟩) n.1
      ·exact absurd (bz.mpr ⟨_,h1,by rw[<-h2]⟩) n.1
      ·exact ih n.2 h1 h2
    rw[this x.nd m1 m0]
  rw[x.g] at e1;cases z:f l' with
  |none=>rw[z] at e1;exact zA e1
  |some w=>rw[z] at e1;injection e1 with e1;exact hf l' (by rw[z,ji e1])
 ·rcases bx.mp he with he|he
  ·exact x.ks e he
  ·simp at he;exact⟨l,t,ht,he⟩
 ·rw[<-rq e0,CN];delta upd;by_cases e:s=l
  ·rw[if_pos (by rw[e]),if_pos e];rfl
  ·rw[if_neg (λz=>e (JK z)),if_neg e,x.g]
theorem DT.del{es:List (V×V)}{f:List Nat->Option Nat}(x:DT es f)(l:List Nat):DT (iy es (cR l)) (upd f l ao):=by
 have sub:=LL (cR l) es;refine⟨x.nd.sublist (sub.map _),x.nv.sublist (sub.map _),λe he=>x.ks e (sub.subset he),λs=>?_⟩;rw[KR _ _ x.nd];delta upd;by_cases e:s=l
 ·rw[if_pos (by rw[e]),if_pos e];rfl
 ·rw[if_neg (λz=>e (JK z)),if_neg e,x.g]
noncomputable def gf(ts:List Tm)(t:Tm):Nat×List Tm:=match adv 1 ts t with
 |some k=>(k,ts)
 |none=>(ts.length+1,ts++[t])
theorem pN(x:St h (bd F b ts++R))(hd:t.data.data 5=ah)(hl:ts.length<1000)(q:∀h',St h' (bd F b (gf ts t).2++R)->Q (iv (gf ts t).1) h'):
  Cl 1011 [.ref (b 0),.str t.op,V.tup (t.args.map iv),iv t.sort,t.data] Q X h:=by
 have L:∀{α:Type} (x:α) (f:Tm->α),(x::ts.map f).length <aG:=λx f=>by rw[e_,aP];exact aR hl (by decide)
 refine ba (cX (x.ix 0 rfl) rfl rfl (BL (x.ix 10 rfl) rfl (Xe (w:=t.key) (x.ix 10 rfl) (Km hd) ?_)));rw[IU];delta gf at q;cases e:adv 1 ts t with
 |some k=>rw[e] at q;exact B_ (lO (λz=>A5 (Uq e) (acO z)) (q h x))
 |none=>rw[e] at q;refine B_ (a:=0) (b:=0) (cX (x.ix 0 rfl) rfl rfl (eO (x.ix 6 rfl) ?_));rw[show V.int ((V.str 27::ts.map λt=>V.str t.op).length:Nat)=iv (ts.length+1) by rw[e_,aP]];refine cX (x.ix 0 rfl) rfl rfl (cN (x.ix 6 rfl) rfl (iw x 6 rfl (L _ _) λh x=>?_));refine cX (x.ix 0 rfl) rfl rfl (cN (x.ix 7 rfl) rfl (iw x 7 rfl (L _ _) λh x=>?_));refine cX (x.ix 0 rfl) rfl rfl (cN (x.ix 8 rfl) rfl (iw x 8 rfl (L _ _) λh x=>?_));refine cX (x.ix 0 rfl) rfl rfl (cN (x.ix 9 rfl) rfl (iw x 9 rfl (L _ _) λh x=>?_));refine cX (x.ix 0 rfl) rfl rfl (f6 x 10 rfl (Km (t:=t) hd) (by rw[V8];exact bY hl (by decide)) λh x=>q h ?_);rw[show bd F b (ts++[t])++R=_ by delta bd;rw[XV,<-rq (by rw[IU,e];rfl),bA,bA,bA,bA,dB 1]];exact x
noncomputable abbrev bE:=Option Nat
noncomputable def wv:bE->V
 |none=>.str 77
 |some k=>iv k
noncomputable abbrev qv(x:Nat×Nat×bE):V:=V.tup [iv x.1,iv x.2.1,wv x.2.2]
noncomputable abbrev ev(x:Nat×bE):V:=V.tup [iv x.1,wv x.2]
abbrev LF:=Nat->Option (List Nat)
structure PS where
 r:Nat->Option Nat
 v:Nat->Option Nat
 up:Nat->Option (Nat×bE)
 tb:List Nat->Option Nat
 l:Nat->LF
 q:List (Nat×Nat×bE)
 tr:List V
 ms:List Nat
 cl:Option (List V)
 lv:Nat
noncomputable abbrev PS.m(p:PS):LF:=p.l 0
noncomputable abbrev PS.u(p:PS):LF:=p.l 1
noncomputable def PS.sl(p:PS)(k t:Nat)(l:Option (List Nat)):PS:={p with l:=upd p.l k (upd (p.l k) t l)}
noncomputable def lf:Nat->Nat
 |0=>120
 |1=>119
 |2=>118
 |_=>117
structure CS where
 root:List (V×V)
 val:List (V×V)
 up:List (V×V)
 tab:List (V×V)
 es:Nat->List (V×V)
 A:Nat->Nat->Option Nat
 an:Nat
 aq:Nat
 am:Nat
 ac:Nat
noncomputable def Ic(S:CS)(p:PS):V:=match p.cl with
 |none=>.none
 |some _=>.ref S.ac
noncomputable def gk(S:CS)(p:PS):aM:=match p.cl with
 |none=>[]
 |some xs=>[(S.ac,.list xs)]
noncomputable def q9(c b:Nat->Nat)(S:CS)(p:PS):List (Nat×V):=[(63,.ref (b 0)),(52,.ref (c 52)),(120,.ref (c 120)),(119,.ref (c 119)),(89,.ref (c 89)),(118,.ref (c 118)),(117,.ref (c 117)),(116,.ref (c 116)),(115,.ref (c 115)),(114,.ref (c 114)),(64,.ref (c 64)),(113,.ref S.an),(112,.ref S.aq),(111,Ic S p),(110,iv p.lv),(109,.ref (c 109)),(108,.ref S.am)]
noncomputable def dQ(S:CS)(p:PS)(i:Nat):Option (Nat×O):=(S.A (i / 18) (i % 18)).bind λa=>(p.l (i / 18) (i % 18)).map λxs=>(a,.list (xs.map iv))
noncomputable def eM(F:Nat->Option (Nat×O)):aM:=(jE 72).filterMap F
noncomputable def cells(c b:Nat->Nat)(S:CS)(p:PS)(R:aM):aM:=[(c 0,.inst 254 (q9 c b S p)),(c 52,.dict S.root),(c 89,.dict S.val),(c 116,.dict S.up),(c 115,.dict S.tab),(c 109,.list p.tr),(S.an,.list []),(S.aq,.list (p.q.map qv)),(S.am,.list (p.ms.map iv)),
 (c 120,.dict (S.es 0)),(c 119,.dict (S.es 1)),(c 118,.dict (S.es 2)),(c 117,.dict (S.es 3))]++(R++(eM (dQ S p)++gk S p))
structure qU(S:CS)(p:PS):Prop where
 r:DI S.root λt=>(p.r t).map iv
 v:DI S.val λt=>(p.v t).map iv
 up:DI S.up λt=>(p.up t).map ev
 tb:DT S.tab p.tb
 e:∀k,k<4->DI (S.es k) (λt=>(S.A k t).map .ref)/\∀t,(S.A k t).isSome=(p.l k t).isSome
 cl:∀xs,p.cl=aa xs->xs.length<64
def CR(c b:Nat->Nat)(p:PS)(R:aM)(h:Hp):Prop:=∃S,St h (cells c b S p R)/\qU S p
def LV(c b:Nat->Nat)(p:PS)(R:aM)(h:Hp)(k t ad:Nat):Prop:=∃S,St h (cells c b S p R)/\qU S p/\S.A k t=aa ad
theorem S5{F:Nat->Option (Nat×O)}{n i:Nat}(hi:i<n):∃L1 L2,∀G:Nat->Option (Nat×O),(∀j,j≠i->G j=F j)->(jE n).filterMap G=L1++((G i).toList++L2):=by
 refine e2a1 (acP (oA.mpr hi)) λl1 l2 e=>?_;have nd:=e▸List.nodup_range (n:=n);rw[fW,dK] at nd;have k:∀(G:Nat->Option (Nat×O)) (l:List Nat),(∀j,j≠i->G j=F j)->i∉l->l.filterMap G=l.filterMap F:=λG l h n=>by
  induction l with
  |nil=>rfl
  |cons x l ih=>rw[a_,not_or] at n;rw[o0,o0,h x (eJ n.1),ih n.2]
 refine⟨l1.filterMap F,l2.filterMap F,λG h=>?_⟩;rw[e,acQ,k G l1 h (λz=>nd.2.2 _ z _ (.head _) rfl),o0,<-k G l2 h nd.2.1.1];cases G i <;> rfl
theorem vK{P:Nat->Prop}(a:P 0)(b:P 1)(c:P 2)(d:P 3)(k:Nat)(h:k<4):P k:=by have m:∀k∈fc 0 4,P k:=j_.mpr ⟨a,j_.mpr ⟨b,j_.mpr ⟨c,j_.mpr ⟨d,λ_ h=>nomatch h⟩⟩⟩⟩;exact m k (kb.mpr ⟨g0 k,by rw[nb];exact h⟩)
theorem Dz{i k t:Nat}(ht:t<18):(i / 18=k/\i % 18=t)↔i=18*k+t:=
 ⟨λh=>by rw[<-h.1,<-h.2,Nat.div_add_mod],λh=>by rw[h,acR (by decide),HA,Qo ht,Bh ht];exact⟨rfl,rfl⟩⟩
section
variable {c b:Nat->Nat}{S S':CS}{p p':PS}{R:aM}{h h':Hp}{t s k n ad f m:Nat}{l l':List Nat}{v:V}{Q:PV}{Qu:Hp->Prop}{Qt:Bool->Hp->Prop}
theorem St.rep{P1 P2:aM}{y z:Nat×O}(x:St h (P1++y::(P2++z::R))):St h (P1++z::(P2++R)):=
 St.perm (x.sub (acS (Hy P1) (HB _ _))) (List.Perm.append_left _ mf)
theorem CR.ext(X:CR c b p R h)(e:kH h h'):CR c b p R h':=e1a2 X λS x A=>⟨S,x.ext e,A⟩
theorem CR.lk(X:CR c b p R h):h.lk=ao:=e1a2 X λ_ x _=>x.lk
theorem CR.at(X:CR c b p R h){q:Nat×O}(hq:q∈R):h.get q.1=aa q.2:=e1a2 X λ_ x _=>x.at_ q (aX (b8 hq))
theorem CR.ix(X:CR c b p R h)(i:Nat){a:Nat}{o:O}(e:R[i]? =aa (a,o)):h.get a=aa o:=X.at (iQ i e)
theorem CR.bh{ts:List Tm}(X:CR c b p R h)(hb:∀q∈bd fT b ts,q∈R):BH b ts h:=λq hq=>X.at (hb q hq)
theorem CR.new{o:O}(X:CR c b p R h)(e:h.get n=ao):CR c b p ((n,o)::R) (h.put n o):=e1a2 X λS x A=>⟨S,(x.new e).mid (X:=[_,_,_,_,_,_,_,_,_,_,_,_,_]),A⟩
theorem cZ{o:O}(X:CR c b p R h)(q:∀n h',CR c b p ((n,o)::R) h'->Q (.ref n) h'):cj o Q h:=λn e=>q n _ (X.new e)
theorem CR.sub{R':aM}(X:CR c b p R h)(s:R'.Sublist R):CR c b p R' h:=e1a2 X λS x A=>⟨S,x.sub (acS (Hy _) (s.append (Hy _))),A⟩
theorem CR.set{o o':O}{A B:aM}(X:CR c b p (A++(n,o)::B) h):CR c b p (A++(n,o')::B) (h.put n o'):=by refine e1a2 X λS x a=>?_;refine⟨S,?_,a⟩;unfold cells at x ⊢;rw[bt A,<-bt] at x ⊢;exact x.upd o'
theorem cL(X:CR c b p R h)(pf:mU 254 f=ah)(e:∀S p,dR (q9 c b S p) f=aa v)(q:Q v h):db (.ref (c 0)) f Q h:=e1a2 X λS x A=>cX (x.ix 0 rfl) pf (e S p) q
theorem cS{Q:MK->Hp->Prop}(X:CR c b p R h)(g:∀S p,(dR (q9 c b S p) m).isNone=ah)(e:iM 254 m=aa f)(q:Q (.fn f) h):gh (.ref (c 0)) m Q h:=e1a2 X λS x A=>cI (x.ix 0 rfl) (g S p) e q
theorem x_r(X:CR c b p R h)(e:p.r t=aa s)(q:Q (iv s) h):eY (.ref (c 52)) (iv t) Q h:=e1a2 X λS x A=>eX (x.ix 1 rfl) (A.r.ko t) (by rw[A.r.g,e];rfl) q
theorem x_v(X:CR c b p R h)(e:p.v t=aa s)(q:Q (iv s) h):eY (.ref (c 89)) (iv t) Q h:=e1a2 X λS x A=>eX (x.ix 2 rfl) (A.v.ko t) (by rw[A.v.g,e];rfl) q
theorem x_u{e:Nat×bE}(X:CR c b p R h)(k:p.up t=aa e)(q:Q (ev e) h):eY (.ref (c 116)) (iv t) Q h:=e1a2 X λS x A=>eX (x.ix 3 rfl) (A.up.ko t) (by rw[A.up.g,k];rfl) q
theorem MF(X:CR c b p R h)(q:Qt (!(p.r t).isSome) h):bZ .notin (iv t) (.ref (c 52)) Qt h:=e1a2 X λS x A=>qQ (x.ix 1 rfl) (A.r.ko t) (by rw[A.r.g,AC];exact q)
theorem LZ(X:CR c b p R h)(q:Qt (p.up t).isSome h):bZ .inn (iv t) (.ref (c 116)) Qt h:=e1a2 X λS x A=>Ct (x.ix 3 rfl) (A.up.ko t) (by rw[A.up.g,AC];exact q)
theorem L_(X:CR c b p R h)(e:p.up t=ao)(q:Qt au h):bZ .inn (iv t) (.ref (c 116)) Qt h:=LZ X (by rw[e];exact q)
theorem Mb{y:Nat×bE}(X:CR c b p R h)(e:p.up t=aa y)(q:Qt ah h):bZ .inn (iv t) (.ref (c 116)) Qt h:=LZ X (by rw[e];exact q)
theorem DT.ko'{es:List (V×V)}{f:List Nat->Option Nat}(x:DT es f)(l:List Nat):b7 (cR l) es=ah:=by delta b7;rw[show(cR l).data fk=ah from Ii,Hz,cQ];intro e he;refine e2a2 (x.ks e he) λs t _ q=>?_;rw[q,show kk (cR s)=3 by cases s <;> rfl,show kk (cR l)=3 by cases l <;> rfl];rfl
theorem MY(X:CR c b p R h)(q:Q (((p.tb l).map iv).getD .none) h):ru (c 115) [cR l] Q h:=e1a2 X λS x A=>aaO (x.ix 4 rfl) (A.tb.ko' l) (by rw[A.tb.g];exact q)
theorem Kz(X:CR c b p R h)(e:p.tb l=ao)(q:Q .none h):ru (c 115) [cR l] Q h:=MY X (by rw[e];exact q)
theorem J4(X:CR c b p R h)(e:p.tb l=aa s)(q:Q (iv s) h):ru (c 115) [cR l] Q h:=MY X (by rw[e];exact q)
theorem CR.kt{Q:MK->Hp->Prop}{k:MK}(X:CR c b p R h)(g:xB m=aa k)(q:Q k h):gh (.ref (c 115)) m Q h:=e1a2 X λS x A=>BL (x.ix 4 rfl) g q
theorem CR.ktr{Q:MK->Hp->Prop}{k:MK}(X:CR c b p R h)(g:tW m=aa k)(q:Q k h):gh (.ref (c 109)) m Q h:=e1a2 X λS x A=>cN (x.ix 5 rfl) g q
theorem HS:∀k,k<4->(cells c b S p R)[9+k]? =aa (c (lf k),.dict (S.es k)):=vK rfl rfl rfl rfl
theorem D0(k:Nat)(hk:k<4)(X:CR c b p R h)(e:p.l k t=aa l)(q:∀ad,LV c b p R h k t ad->Q (.ref ad) h):eY (.ref (c (lf k))) (iv t) Q h:=by refine e1a2 X λS x A=>?_;refine aC (A.e k hk) λD d=>?_;have d:=d t;rw[e] at d;refine e1a1 (AL.mp d) λad ea=>?_;exact eX (es:=S.es k) (x.ix (9+k) (HS k hk)) (D.ko t) (by rw[D.g,ea];rfl) (q ad ⟨S,x,A,ea⟩)
theorem DI.adP{es:List (V×V)}{f g:Nat->Option V}(x:DI es f)(e:∀k,f k=g k):DI es g:=⟨x.1,x.2,λk=>(x.3 k).trans (e k)⟩
theorem DI.lt{es:List (V×V)}{f:Nat->Option V}(x:DI es f)(e:f t=aa v):t<18:=by refine e1a2 (x.ks _ (DU ((x.g t).trans e))) λs hs q=>?_;rw[ji q];exact hs
theorem hH{v:Option (List Nat)}(j s:Nat):(p.sl k t v).l j s=if j=k/\s=t then v else p.l j s:=by
 show upd p.l k _ j s=_;delta upd;by_cases e:j=k
 ·subst e;by_cases e':s=t <;> simp [e']
 ·rw[if_neg e,if_neg λz=>e z.1]
noncomputable def gi(c b:Nat->Nat)(S:CS)(p:PS):aM:=(cells c b S p []).take 13
theorem qU.sl(A:qU S p)(e:(p.l k t).isSome):qU S (p.sl k t (aa l)):={A with e:=λj hj=>⟨(A.e j hj).1,λs=>by
  rw[hH,(A.e j hj).2];split
  ·rename_i z;rw[z.1,z.2,e];rfl
  ·rfl⟩}
theorem Jj(hk:k<4)(ht:t<18)(v:Option (List Nat)):∃L1 L2,∀S':CS,(∀j s,¬(j=k/\s=t)->S'.A j s=S.A j s)->eM (dQ S' p)=L1++(((S'.A k t).bind λa=>(p.l k t).map λxs=>(a,O.list (xs.map iv))).toList++L2)/\
  ∀v,eM (dQ S' (p.sl k t v))=L1++(((S'.A k t).bind λa=>v.map λxs=>(a,O.list (xs.map iv))).toList++L2):=by
 refine e2a1 (S5 (F:=dQ S p) (show 18*k+t<72 from c9 (ut ht _) (h_ 18 hk))) λL1 L2 h=>?_;have ix:=(Dz (i:=18*k+t) (k:=k) ht).mpr rfl;refine⟨L1,L2,λS' hS=>⟨?_,λv=>?_⟩⟩
 ·rw[eM,h _ λj hj=>by delta dQ;rw[hS _ _ λz=>hj ((Dz ht).mp z)]];delta dQ;rw[ix.1,ix.2]
 ·rw[eM,h _ λj hj=>by delta dQ;have:=λz=>hj ((Dz ht).mp z);rw[hS _ _ this,hH,if_neg this]];delta dQ;rw[ix.1,ix.2,hH,if_pos ⟨rfl,rfl⟩]
theorem LV.lt(V:LV c b p R h k t ad)(hk:k<4):t<18:=by refine e1a3 V λS x A ea=>?_;exact(A.e k hk).1.lt (congrArg (oM Mine.V.ref) ea)
theorem LV.set(V:LV c b p R h k t ad)(hk:k<4)(e:p.l k t=aa l):h.get ad=aa (.list (l.map iv))/\∀l',CR c b (p.sl k t (aa l')) R (h.put ad (.list (l'.map iv))):=by
 have ht:=V.lt hk;refine e1a3 V λS x A ea=>?_;refine e2a1 (Jj (S:=S) (p:=p) hk ht ao) λL1 L2 f=>?_;refine aC (f S λ_ _ _=>rfl) λf1 f2=>?_;rw[show cells c b S p R=(gi c b S p++(R++L1))++(ad,.list (l.map iv))::(L2++gk S p) by show gi c b S p++(R++(eM (dQ S p)++gk S p))=_;rw[f1,ea,e];simp] at x
 refine⟨x.get (aX (.head _)),λl'=>⟨S,?_,A.sl (by rw[e];rfl)⟩⟩;show St _ (gi c b S p++(R++(eM (dQ S (p.sl k t (aa l')))++gk S p)));rw[f2,ea];have x:=x.upd (.list (l'.map iv));simp only [bt,qr] at x ⊢;exact x
theorem LV.g(V:LV c b p R h k t ad)(hk:k<4)(e:p.l k t=aa l):h.get ad=aa (.list (l.map iv)):=(V.set hk e).1
theorem LV.lk(V:LV c b p R h k t ad):h.lk=ao:=e1a2 V λ_ x _=>x.lk
theorem C3(V:LV c b p R h k t ad)(hk:k<4)(e:p.l k t=aa l)(g:h.get n=aa (.list (l'.map iv)))(hl:l.length<aG)(eZ:l'.length<aG)(q:∀h',CR c b (p.sl k t (aa (l++l'))) R h'->Q .none h'):qT ad (.ref n) Q h:=by refine aC (V.set hk e) λg1 x=>?_;exact Cp g1 g (by rw[aP];exact hl) (by rw[aP];exact eZ) V.lk (by rw[<-bA];exact q _ (x _))
theorem XE(V:LV c b p R h k t ad)(hk:k<4)(e:p.l k t=aa l)(hl:l.length<aG)(q:∀h',CR c b (p.sl k t (aa (l++[s]))) R h'->Q .none h'):iK ad (iv s) Q h:=by refine aC (V.set hk e) λg1 x=>?_;exact sO g1 (by rw[aP];exact hl) V.lk (by rw[show l.map iv++[iv s]=(l++[s]).map iv by rw[bA];rfl];exact q _ (x _))
theorem LV.kd{Q:MK->Hp->Prop}{mk:MK}(V:LV c b p R h k t ad)(hk:k<4)(e:p.l k t=aa l)(g:tW m=aa mk)(q:Q mk h):gh (.ref ad) m Q h:=cN (V.set hk e).1 g q
theorem St.ins{F L1 L2 O Z:aM}{z:Nat×Mine.O}(x:St h (F++((z::R)++((L1++(O++L2))++Z)))):St h (F++(R++((L1++([z]++L2))++Z))):=by have x:=x.sub (L':=F++((z::R)++((L1++L2)++Z))) (.append (.refl _) (.append (.refl _) (.append (.append (.refl _) (Qp _ _)) (.refl _))));refine x.perm (.append_left _ ?_);rw[show R++((L1++([z]++L2))++Z)=(R++L1)++z::(L2++Z) by simp,show(z::R)++((L1++L2)++Z)=z::((R++L1)++(L2++Z)) by simp];exact mf.symm
noncomputable def CS.put(S:CS)(k t n:Nat):CS:={S with es:=upd S.es k (bB (S.es k) (iv t) (.ref n)),A:=upd S.A k (upd (S.A k) t (aa n))}
theorem Zv(k:Nat)(hk:k<4)(X:CR c b p ((n,.list (l.map iv))::R) h)(ht:t<18)(q:∀h',CR c b (p.sl k t (aa l)) R h'->Qu h'):dY (.ref (c (lf k))) (iv t) (.ref n) Qu h:=by
 refine e1a2 X λS x A=>?_;have D:=(A.e k hk).1;refine f6 x (9+k) (HS k hk) (D.ko t) D.lim λh' x=>q h' ?_;refine e2a1 (Jj (S:=S) (p:=p) hk ht ao) λL1 L2 f=>?_;have f1:=(f S λ_ _ _=>rfl).1;have hA:∀j s,(S.put k t n).A j s=if j=k/\s=t then aa n else S.A j s:=λj s=>by
  show upd S.A k _ j s=_;delta upd;by_cases e:j=k
  ·subst e;by_cases e':s=t <;> simp [e']
  ·simp [e]
 have f2:=(f (S.put k t n) λj s hj=>(hA j s).trans (if_neg hj)).2 (aa l);rw[(hA k t).trans (if_pos ⟨rfl,rfl⟩)] at f2;refine⟨S.put k t n,?_,?_⟩
 ·have x:St h' (gi c b (S.put k t n) p++(((n,.list (l.map iv))::R)++(eM (dQ S p)++gk S p))):=
   vK (P:=λk=>(cells c b S p ((n,.list (l.map iv))::R)).set (9+k) (c (lf k),.dict (bB (S.es k) (iv t) (.ref n)))=gi c b (S.put k t n) p++(((n,.list (l.map iv))::R)++(eM (dQ S p)++gk S p))) rfl rfl rfl rfl k hk▸x
  show St _ (gi c b (S.put k t n) p++(R++(eM (dQ (S.put k t n) (p.sl k t (aa l)))++gk S p)));rw[f2];rw[f1] at x;exact x.ins
 ·have E:∀j,j<4->DI ((S.put k t n).es j) (λt'=>((S.put k t n).A j t').map .ref)/\∀s,((S.put k t n).A j s).isSome=((p.sl k t (aa l)).l j s).isSome:=λj hj=>⟨by
   rw[show(λs=>((S.put k t n).A j s).map V.ref)= λs=>if j=k/\s=t then aa (.ref n) else(S.A j s).map .ref from funext λs=>by rw[hA];split <;> rfl];show DI (upd S.es k (bB (S.es k) (iv t) (.ref n)) j) _;by_cases e:j=k
   ·subst e;rw[ip];refine(D.put ht (.ref n)).adP λs=>?_;delta upd;by_cases z:s=t <;> simp [z]
   ·rw[gV e];exact(A.e j hj).1.adP λs=>(if_neg λz=>e z.1).symm,λs=>by rw[hH,hA];split;rfl;exact(A.e j hj).2 s⟩
  exact {A with e:=E}
end
section
variable {c b:Nat->Nat}{S S':CS}{p p':PS}{R:aM}{h h':Hp}{t s k n ad f m:Nat}{l l':List Nat}{v:V}{Q:PV}{Qu:Hp->Prop}{Qt:Bool->Hp->Prop}
theorem s_{α:Type}{f:Nat->Option α}{g:α->V}(t:Nat)(o:Option α)(k:Nat):upd (λt=>(f t).map g) t (o.map g) k=(upd f t o k).map g:=by delta upd;split <;> rfl
noncomputable def PS.sr(p:PS)(t s:Nat):PS:={p with r:=upd p.r t (aa s)}
noncomputable def PS.sv(p:PS)(t s:Nat):PS:={p with v:=upd p.v t (aa s)}
noncomputable def PS.su(p:PS)(t:Nat)(e:Option (Nat×bE)):PS:={p with up:=upd p.up t e}
noncomputable def PS.st(p:PS)(l:List Nat)(e:Option Nat):PS:={p with tb:=upd p.tb l e}
noncomputable def PS.adE(p:PS)(v:V):PS:={p with tr:=p.tr++[v]}
theorem aal(X:CR c b p R h)(ht:t<18)(q:∀h',CR c b (p.sr t s) R h'->Qu h'):dY (.ref (c 52)) (iv t) (iv s) Qu h:=
 e1a2 X λS x A=>f6 x 1 rfl (A.r.ko t) A.r.lim λh' x=>q h' ⟨{S with root:=bB S.root (iv t) (iv s)},x,{A with r:=(A.r.put ht (iv s)).adP (s_ t (aa s))}⟩
theorem We(X:CR c b p R h)(ht:t<18)(q:∀h',CR c b (p.sv t s) R h'->Qu h'):dY (.ref (c 89)) (iv t) (iv s) Qu h:=
 e1a2 X λS x A=>f6 x 2 rfl (A.v.ko t) A.v.lim λh' x=>q h' ⟨{S with val:=bB S.val (iv t) (iv s)},x,{A with v:=(A.v.put ht (iv s)).adP (s_ t (aa s))}⟩
theorem aas{e:Nat×bE}(X:CR c b p R h)(ht:t<18)(q:∀h',CR c b (p.su t (aa e)) R h'->Qu h'):dY (.ref (c 116)) (iv t) (ev e) Qu h:=
 e1a2 X λS x A=>f6 x 3 rfl (A.up.ko t) A.up.lim λh' x=>q h' ⟨{S with up:=bB S.up (iv t) (ev e)},x,{A with up:=(A.up.put ht (ev e)).adP (s_ t (aa e))}⟩
theorem Kw{L:aM}{es:List (V×V)}{w:V}(x:St h L)(i:Nat)(e:L[i]? =aa (n,.dict es))(ko:b7 w es=ah)(g:(bC es w).isSome=ah)(q:∀h',St h' (L.set i (n,.dict (iy es w)))->Qu h'):pR (.ref n) w Qu h:=TH (x.ix i e) ko g x.lk (q _ (x.set i e _))
theorem R6{e:Nat×bE}(X:CR c b p R h)(k:p.up t=aa e)(q:∀h',CR c b (p.su t ao) R h'->Qu h'):pR (.ref (c 116)) (iv t) Qu h:=
 e1a2 X λS x A=>Kw x 3 rfl (A.up.ko t) (by rw[A.up.g,k];rfl) λh' x=>q h' ⟨{S with up:=iy S.up (iv t)},x,{A with up:=(A.up.del t).adP (s_ t ao)}⟩
theorem ZI(X:CR c b p R h)(ht:t<18)(hn:p.tb l=ao)(hf:∀l,p.tb l≠aa t)(q:∀h',CR c b (p.st l (aa t)) R h'->Qu h'):dY (.ref (c 115)) (cR l) (iv t) Qu h:=
 e1a2 X λS x A=>f6 x 4 rfl (A.tb.ko' l) (aR A.tb.len (by decide)) λh' x=>q h' ⟨{S with tab:=bB S.tab (cR l) (iv t)},x,{A with tb:=A.tb.put ht hn hf}⟩
theorem RE(X:CR c b p R h)(hs:p.tb l=aa t)(q:∀h',CR c b (p.st l ao) R h'->Qu h'):pR (.ref (c 115)) (cR l) Qu h:=
 e1a2 X λS x A=>Kw x 4 rfl (A.tb.ko' l) (by rw[A.tb.g,hs];rfl) λh' x=>q h' ⟨{S with tab:=iy S.tab (cR l)},x,{A with tb:=A.tb.del l}⟩
theorem Ki(X:CR c b p R h)(hl:p.tr.length<aG)(q:∀h',CR c b (p.adE v) R h'->Q .none h'):iK (c 109) v Q h:=
 e1a2 X λS x A=>iw x 5 rfl hl λh' x=>q h' ⟨S,x,{A with}⟩
theorem Z_{tr:List V}(X:CR c b p R h)(e:p.tr=tr++[v])(q:∀h',CR c b {p with tr:=tr} R h'->Q v h'):tB (c 109) Q h:=by refine e1a2 X λS x A=>?_;exact J0 x 5 (by show aa (c 109,O.list p.tr)=_;rw[e]) λh' x=>q h' ⟨S,x,{A with}⟩
theorem tF{K:V->Hp->Prop}(X:CR c b p R h)(q:∀n,h.get n=aa (.list (p.q.map qv))->(∀e,p.q.length<aG->∀Q:PV,(∀h',CR c b {p with q:=p.q++[e]} R h'->Q .none h')->iK n (qv e) Q h)->K (.ref n) h):db (.ref (c 0)) 112 K h:=by refine e1a2 X λS x A=>?_;refine cX (x.ix 0 rfl) rfl rfl (q S.aq (x.ix 7 rfl) λe l Q k=>iw x 7 rfl (by rw[aP];exact l) λh' x=>k h' ⟨S,?_,{A with}⟩);rw[show p.q.map qv++[qv e]=(p.q++[e]).map qv by rw[bA];rfl] at x;exact x
theorem rg{K:V->Hp->Prop}(X:CR c b p R h)(q:∀n,h.get n=aa (.list (p.ms.map iv))->(∀e,p.ms.length<aG->∀Q:PV,(∀h',CR c b {p with ms:=p.ms++[e]} R h'->Q .none h')->iK n (iv e) Q h)->K (.ref n) h):db (.ref (c 0)) 108 K h:=by refine e1a2 X λS x A=>?_;refine cX (x.ix 0 rfl) rfl rfl (q S.am (x.ix 8 rfl) λe l Q k=>iw x 8 rfl (by rw[aP];exact l) λh' x=>k h' ⟨S,?_,{A with}⟩);rw[show p.ms.map iv++[iv e]=(p.ms++[e]).map iv by rw[bA];rfl] at x;exact x
theorem aaC{K:V->Hp->Prop}(X:CR c b p R h)(q:∀n,h.get n=aa (.list [])->K (.ref n) h):db (.ref (c 0)) 113 K h:=e1a2 X λS x A=>cX (x.ix 0 rfl) rfl rfl (q S.an (x.ix 6 rfl))
theorem lX:(q9 c b S p).length <aG:=show 17<aG by decide
theorem EO(X:CR c b p ((n,.list [])::R) h)(q:∀h',CR c b {p with q:=[]} R h'->Qu h'):lY (.ref (c 0)) 112 (.ref n) Qu h:=
 e1a2 X λS x A=>nT x 0 rfl rfl lX λh' x=>q h' ⟨{S with aq:=n},St.rep (P1:=[_,_,_,_,_,_,_]) (P2:=[_,_,_,_,_]) x,{A with}⟩
theorem Zo(X:CR c b p ((n,.list [])::R) h)(q:∀h',CR c b p R h'->Qu h'):lY (.ref (c 0)) 113 (.ref n) Qu h:=
 e1a2 X λS x A=>nT x 0 rfl rfl lX λh' x=>q h' ⟨{S with an:=n},St.rep (P1:=[_,_,_,_,_,_]) (P2:=[_,_,_,_,_,_]) x,{A with}⟩
theorem RO(X:CR c b p ((n,.list (l.map iv))::R) h)(q:∀h',CR c b {p with ms:=l} R h'->Qu h'):lY (.ref (c 0)) 108 (.ref n) Qu h:=
 e1a2 X λS x A=>nT x 0 rfl rfl lX λh' x=>q h' ⟨{S with am:=n},St.rep (P1:=[_,_,_,_,_,_,_,_]) (P2:=[_,_,_,_]) x,{A with}⟩
theorem QZ(X:CR c b p R h)(q:∀h',CR c b {p with lv:=n} R h'->Qu h'):lY (.ref (c 0)) 110 (iv n) Qu h:=
 e1a2 X λS x A=>nT x 0 rfl rfl lX λh' x=>q h' ⟨S,x,{A with}⟩
theorem Yz(X:CR c b p R h)(q:∀h',CR c b {p with cl:=ao} R h'->Qu h'):lY (.ref (c 0)) 111 .none Qu h:=
 e1a2 X λS x A=>nT x 0 rfl rfl lX λh' x=>q h' ⟨S,x.sub (.append (.refl [_,_,_,_,_,_,_,_,_,_,_,_,_]) (.append (.refl R) (.append (.refl (eM (dQ S p))) (HC _)))),{A with cl:=λxs e=>nomatch e}⟩
theorem T_{xs:List V}(X:CR c b p ((n,.list xs)::R) h)(hx:xs.length<64)(q:∀h',CR c b {p with cl:=aa xs} R h'->Qu h'):lY (.ref (c 0)) 111 (.ref n) Qu h:=by refine e1a2 X λS x A=>?_;refine nT x 0 rfl rfl lX λh' x=>q h' ⟨{S with ac:=n},?_,{A with cl:=λys e=>by cases zF e;exact hx}⟩;have x:St h' (gi c b {S with ac:=n} {p with cl:=aa xs}++(n,.list xs)::(R++(eM (dQ S p)++gk S p))):=x;have x:=x.sub (.append (.refl _) (.cons₂ _ (.append (.refl R) (.append (.refl (eM (dQ S p))) (HC _)))));refine x.perm (.append_left _ (show((n,O.list xs)::(R++(eM (dQ S p)++[]))).Perm (R++(eM (dQ S p)++[(n,.list xs)])) from ?_));rw[cq,<-bt];exact(acT _ _).symm
theorem zd{K:V->Hp->Prop}(X:CR c b p R h)(q:(p.cl=ao->K .none h)/\∀n xs,p.cl=aa xs->h.get n=aa (.list xs)->xs.length<64->K (.ref n) h):db (.ref (c 0)) 111 K h:=by
 refine e1a2 X λS x A=>?_;refine cX (x.ix 0 rfl) rfl rfl ?_;delta Ic;cases e:p.cl with
 |none=>exact q.1 e
 |some xs=>exact q.2 S.ac xs e (x.get (aX (aX (aX (by delta gk;rw[e];exact .head _))))) (A.cl xs e)
theorem iO{K:PV}(X:CR c b p R h)(e:p.r t=aa s)(q:K (iv s) h):db (.ref (c 0)) 52 (λv h=>eY v (iv t) K h) h:=cL X rfl (λ_ _=>rfl) (x_r X e q)
theorem CZ{K:PV}(X:CR c b p R h)(e:p.v t=aa s)(q:K (iv s) h):db (.ref (c 0)) 89 (λv h=>eY v (iv t) K h) h:=cL X rfl (λ_ _=>rfl) (x_v X e q)
theorem yO{K:PV}{e:Nat×bE}(X:CR c b p R h)(k:p.up t=aa e)(q:K (ev e) h):db (.ref (c 0)) 116 (λv h=>eY v (iv t) K h) h:=cL X rfl (λ_ _=>rfl) (x_u X k q)
theorem zg(k:Nat)(hk:k<4){K:PV}(X:CR c b p R h)(q:K (.ref (c (lf k))) h):db (.ref (c 0)) (lf k) K h:=by
 revert q
 exact vK (P:=λk=>K (.ref (c (lf k))) h->db (.ref (c 0)) (lf k) K h) (cL X rfl λ_ _=>rfl) (cL X rfl λ_ _=>rfl) (cL X rfl λ_ _=>rfl) (cL X rfl λ_ _=>rfl) k hk
theorem jT(k:Nat)(hk:k<4){K:PV}(X:CR c b p R h)(e:p.l k t=aa l)(q:∀ad,LV c b p R h k t ad->K (.ref ad) h):db (.ref (c 0)) (lf k) (λv h=>eY v (iv t) K h) h:=zg k hk X (D0 k hk X e q)
theorem C8(k:Nat)(hk:k<4){K:PV}(C:CR c b p R h)(e:p.l k t=aa l)(q:K (.int l.length) h):eY (.ref (c (lf k))) (iv t) (λv h=>pM v K h) h:=
 D0 k hk C e λad V=>eO (V.set hk e).1 (by rw[aP];exact q)
theorem yF(k:Nat)(hk:k<4){K:PV}(X:CR c b p R h)(e:p.l k t=aa l)(q:K (.int l.length) h):db (.ref (c 0)) (lf k) (λv h=>eY v (iv t) (λv h=>pM v K h) h) h:=zg k hk X (C8 k hk X e q)
theorem aaB(X:CR c b p R h)(ht:t<18)(q:∀h',CR c b (p.sr t s) R h'->Qu h'):db (.ref (c 0)) 52 (λo h=>dY o (iv t) (iv s) Qu h) h:=cL X rfl (λ_ _=>rfl) (aal X ht q)
theorem ze(X:CR c b p R h)(ht:t<18)(q:∀h',CR c b (p.sv t s) R h'->Qu h'):db (.ref (c 0)) 89 (λo h=>dY o (iv t) (iv s) Qu h) h:=cL X rfl (λ_ _=>rfl) (We X ht q)
theorem KI{e:Nat×bE}(X:CR c b p R h)(ht:t<18)(q:∀h',CR c b (p.su t (aa e)) R h'->Qu h'):db (.ref (c 0)) 116 (λo h=>dY o (iv t) (ev e) Qu h) h:=cL X rfl (λ_ _=>rfl) (aas X ht q)
theorem MP{e:Nat×bE}(X:CR c b p R h)(k:p.up t=aa e)(q:∀h',CR c b (p.su t ao) R h'->Qu h'):db (.ref (c 0)) 116 (λo h=>pR o (iv t) Qu h) h:=cL X rfl (λ_ _=>rfl) (R6 X k q)
theorem H_(X:CR c b p R h)(ht:t<18)(hn:p.tb l=ao)(hf:∀l,p.tb l≠aa t)(q:∀h',CR c b (p.st l (aa t)) R h'->Qu h'):db (.ref (c 0)) 115 (λo h=>dY o (cR l) (iv t) Qu h) h:=cL X rfl (λ_ _=>rfl) (ZI X ht hn hf q)
theorem Ml(X:CR c b p R h)(hs:p.tb l=aa t)(q:∀h',CR c b (p.st l ao) R h'->Qu h'):db (.ref (c 0)) 115 (λo h=>pR o (cR l) Qu h) h:=cL X rfl (λ_ _=>rfl) (RE X hs q)
theorem vc(k:Nat)(hk:k<4)(X:CR c b p ((n,.list (l.map iv))::R) h)(ht:t<18)(q:∀h',CR c b (p.sl k t (aa l)) R h'->Qu h'):db (.ref (c 0)) (lf k) (λo h=>dY o (iv t) (.ref n) Qu h) h:=zg k hk X (Zv k hk X ht q)
theorem xH{Y:Hp->Prop}(X:CR c b p R h)(hl:p.tr.length<aG)(q:∀h',CR c b (p.adE v) R h'->Q .none h'):db (.ref (c 0)) 109 (λw h=>gh w 0 (λk h=>zc Cl Y k w Q (.adA v .adt) h) h) h:=cL X rfl (λ_ _=>rfl) (X.ktr rfl (Ki X hl q))
end
theorem de.refl{bs:List Nat}{ρ:Env}:de bs ρ ρ:=λ_ _=>rfl
theorem de.tr{bs:List Nat}{ρ aO N5:Env}(a:de bs ρ aO)(b:de bs aO N5):de bs ρ N5:=λx h=>(b x h).trans (a x h)
noncomputable def xz{α β:Type}(o:Option α)(f:α->Option β):Option β:=match o with
 |some a=>f a
 |none=>ao
theorem q7:∀{xs:List Nat} {vs:List V} {ρ:Env},xs.map ρ=vs.map aa->bf xs vs ρ=ρ:=by
 intro xs;induction xs with
 |nil=>
  intro z15';cases z15' with
  |nil=>intro _ _;exact rfl
  |cons _ _=>intro _ _;exact rfl
 |cons x xs ih=>
  intro z16';cases z16' with
  |nil=>intro _ _;exact rfl
  |cons v vs=>
   intro ρ e;injection e with e1 e2
   have z:ρ.set x v=ρ:=funext λy=>by delta Env.set;split;rename_i q;rw[q,e1];rfl
   show bf xs vs (ρ.set x v)=ρ;rw[z];exact ih e2
noncomputable def lk:List Nat->Env->Option (List V)
 |[],_=>aa []
 |x::r,ρ=>xz (ρ x) λv=>xz (lk r ρ) λvs=>aa (v::vs)
theorem qW:∀{xs:List Nat} {ρ:Env} {vs:List V},lk xs ρ=aa vs->xs.map ρ=vs.map aa:=by
 intro xs;induction xs with
 |nil=>intro _ _ e;exact by cases zF e;rfl
 |cons x r ih=>
  intro ρ vs e;have e:(xz (ρ x) λv=>xz (lk r ρ) λvs=>aa (v::vs))=aa vs:=e;cases e1:ρ x with
  |none=>rw[e1] at e;exact zA e
  |some v=>
   rw[e1] at e;cases e2:lk r ρ with
   |none=>rw[e2] at e;exact zA e
   |some l=>rw[e2] at e;cases zF e;rw[bW,bW,ih e2,e1]
noncomputable def dj(ls bs:List Nat):Bool:=ls.all λx=>!bs.elem x
theorem vd{ls bs:List Nat}{vs:List V}{dH ρ:Env}(e0:lk ls dH=aa vs)(d:dj ls bs=ah)(o:de bs dH ρ):bf ls vs ρ=ρ:=by refine q7 ((ma λx hx=>o x λz=>?_).trans (qW e0));have:=cQ.mp d x hx;rw[Qq z] at this;exact zC this
section
variable {α:Type}{g:α->V}{L:List α}{tup:Bool}{xs bs:List Nat}{tb:TS}{tc te:TE}{s:Option (Nat×O)}{Q:PX}{ρ dH:Env}{h:Hp}{n:Nat}{o:O}{ys:List V}
theorem bM(e:h.get n=aa o):je (aa (n,o)) h:=λp q=>by cases zF q;exact e
theorem cY:je ao h:=λ_ q=>nomatch q
theorem bT{Q:Option (Nat×O)->List V->Prop}(e:h.get n=aa (.list ys))(q:Q (aa (n,.list ys)) ys):ke (.ref n) Q h:=.inl ⟨ys,e,q⟩
theorem uO(xs:List V):(V.tup xs).adG=ao:=by cases xs <;> rfl
theorem Zz(xs:List V):(V.tup xs).int?=ao:=by cases xs <;> rfl
theorem n6{Q:Option (Nat×O)->List V->Prop}(q:Q ao ys):ke (V.tup ys) Q h:=by delta ke;rw[uO,lU];exact q
theorem cb(ls:List Nat){vs:List V}(e0:Mine.lk ls dH=aa vs)(ed:dj ls bs=ah)(I:List α->Hp->Prop)(hs:∀p h,I p h->je s h)(i0:I [] h)
  (step:∀p x r,L=p++x::r->∀ξ h,I p h->∀J:Env->Hp->Prop,(∀aO h',I (p++[x]) h'->J aO h')->js tup xs (g x) (bf ls vs ξ) (λf_=>tb f_ (lq J Q) h) h)
  (fin:∀ξ h,I L h->Q .next (bf ls vs ξ) h):mr tup xs bs tb s Q (L.map g) dH h:=by
 suffices ∀r p ρ h,L=p++r->de bs dH ρ->I p h->mr tup xs bs tb s Q (r.map g) ρ h from this L [] dH h rfl .refl i0
 intro r;induction r with
 |nil=>intro p ρ h e o i;rw[cq] at e;exact⟨hs _ _ i,by rw[<-vd e0 ed o];exact fin ρ h (e▸i)⟩
 |cons x r ih=>intro p ρ h e o i;refine⟨hs _ _ i,?_⟩;have:=step p x r e ρ h i (λaO h'=>de bs ρ aO->mr tup xs bs tb s Q (r.map g) aO h') λaO h' i' o'=>ih (p++[x]) aO h' (by rw[e,bt];rfl) (o.tr o') i';rw[vd e0 ed o] at this;exact this
theorem mM(ls:List Nat){vs:List V}(e0:Mine.lk ls dH=aa vs)(ed:dj ls bs=ah){A:Type}(xs:List Nat)(vals:A->List V)(I:A->Hp->Prop)(μ:A->Nat)(a0:A)(e1:Mine.lk xs dH=aa (vals a0))(i0:I a0 h)
  (step:∀a ξ h,I a h->∀J:Env->Hp->Prop,(∀a' aO h',μ a'<μ a->Mine.lk xs aO=aa (vals a')->I a' h'->de bs (bf xs (vals a) (bf ls vs ξ)) aO->J aO h')->tc (bf xs (vals a) (bf ls vs ξ)) (lL (kW bs tb J Q (bf xs (vals a) (bf ls vs ξ)))) h):Jh bs tc tb Q dH h:=by
 intro J hJ
 suffices ∀m a ρ h,μ a<m->Mine.lk xs ρ=aa (vals a)->de bs dH ρ->I a h->J ρ h from this _ a0 dH h (jY _) e1 .refl i0
 intro m;induction m with
 |zero=>intro a ρ h l;exact absurd l (OY _)
 |succ m ih=>
  intro a ρ h l e o i;have eq:bf xs (vals a) (bf ls vs ρ)=ρ:=by rw[vd e0 ed o];exact q7 (qW e)
  have:=step a ρ h i J λa' aO h' l' e' i' o'=>ih a' aO h' (c9 l' (nz l)) e' (by rw[eq] at o';exact o.tr o') i';rw[eq] at this;exact hJ ρ h this
theorem Jg{A:Type}{ta tz:TS}{K:PX}{b:Bool}(ls:List Nat)(vals:A->List V)(J:A->Hp->Prop)(j:∀a ξ h',J a h'->K .next (bf ls (vals a) ξ) h')
  (q:∀K':PX,(∀a aO h',Mine.lk ls aO=aa (vals a)->J a h'->K' .next aO h')->(∀v aO h',K (.ret v) aO h'->K' (.ret v) aO h')->ya ta tz ρ K' b h):ya ta tz ρ K b h:=
 q K (λa aO h' e i=>q7 (qW e)▸j a aO h' i) λ_ _ _ z=>z
theorem DH{K:List V->Hp->Prop}(I:List α->List V->Hp->Prop)(hs:∀p l h,I p l h->je s h)(i0:I [] [] h)
  (step:∀p x r,L=p++x::r->∀acc h,I p acc h->∀J:List V->Hp->Prop,(∀acc h',I (p++[x]) acc h'->J acc h')->js tup xs (g x) dH (λf_=>tc f_ (lL λb h=>br b (te f_ (λv h=>J (acc++[v]) h) h) (J acc h)) h) h)
  (fin:∀acc h,I L acc h->K acc h):mx tup xs tc te dH s K (L.map g) [] h:=by
 suffices ∀r p acc h,L=p++r->I p acc h->mx tup xs tc te dH s K (r.map g) acc h from this L [] [] h rfl i0
 intro r;induction r with
 |nil=>intro p acc h e i;rw[cq] at e;exact⟨hs _ _ _ i,fin _ _ (e▸i)⟩
 |cons x r ih=>intro p acc h e i;exact⟨hs _ _ _ i,step p x r e acc h i _ λacc h' i'=>ih _ acc h' (by rw[e,bt];rfl) i'⟩
theorem yv{K:List V->Hp->Prop}(f:α->Option V)(hs:je s h)(step:∀x∈L,∀acc (J:List V->Hp->Prop),J (acc++(f x).toList) h->js tup xs (g x) dH (λf_=>tc f_ (lL λb h=>br b (te f_ (λv h=>J (acc++[v]) h) h) (J acc h)) h) h)
  (fin:K (L.filterMap f) h):mx tup xs tc te dH s K (L.map g) [] h:=by
 refine DH (λp acc h'=>h'=h/\acc=p.filterMap f) (λp l h' i=>i.1▸hs) ⟨rfl,rfl⟩ ?_ λacc h' i=>by rw[i.1,i.2];exact fin
 rintro p x r e acc h' ⟨rfl,rfl⟩ J hJ;refine step x (by rw[e];exact aX (.head _)) _ J (hJ _ _ ⟨rfl,?_⟩);rw[acQ];exact congrArg (p.filterMap f++·) (by rw[o0];cases f x <;> rfl)
end
theorem Jt:decide (iv a=iv b)=decide (a=b):=decide_eq_decide.mpr ⟨ji,congrArg _⟩
theorem ff(q:Qt (decide (a=b)) h):bZ .eq (iv a) (iv b) Qt h:=.inl ⟨rfl,rfl,Jt▸q⟩
theorem jo(q:Qt (!decide (a=b)) h):bZ .ne (iv a) (iv b) Qt h:=.inl ⟨rfl,rfl,(Jt▸q:)⟩
theorem I1(hx:xs.length<aG)(hy:ys.length<aG)(q:Q (V.tup (xs++ys)) h):pW .add (V.tup xs) (V.tup ys) Q h:=by show oE (V.tup xs).int? _ _;rw[Zz,uO,lU,lU];exact⟨hx,hy,q⟩
theorem EB(e:h.get n=aa (.list xs))(hl:xs.length<aG)(q:Q (V.tup xs) h):yp (.ref n) Q h:=⟨xs,e,hl,q⟩
theorem Ez(e:h.get n=aa (.list xs))(hl:xs.length<aG)(q:cj (.list xs) Q h):xF (.ref n) Q h:=.inl ⟨xs,e,hl,q⟩
theorem l64(h:n<64):n<aG:=bY h (by decide)
noncomputable def rt(p:PS)(t:Nat):Nat:=(p.r t).getD 0
noncomputable def f8(p:PS)(f:Nat)(T:Tm):List Nat:=f::T.args.map (rt p)
noncomputable def jR(p:PS)(t:Nat)(mk:List Nat):PS:=match p.tb mk with
 |none=>(p.adE (V.tup [.str 115,cR mk,.none])).st mk (aa t)
 |some o=>if rt p o=rt p t then p else {p with q:=p.q++[(t,o,ao)]}
noncomputable def mD(p:PS)(t:Nat)(mk:List Nat):PS:=
 if p.tb mk=aa t then(p.adE (V.tup [.str 115,cR mk,iv t])).st mk ao else p
theorem dS(e:p.r t≠ao):p.r t=aa (rt p t):=by delta rt;cases q:p.r t with|none=>exact absurd q e|some s=>rfl
theorem aab(C:CR c b p R h)(e:p.r t=aa s)(q:Q (iv s) h):Cl 1035 [.ref (c 0),iv t] Q X h:=ba (iO C e q)
theorem YD(C:CR c b p R h)(e:p.r t=aa s)(e':p.r t'=aa s')(q:Q (.bool (decide (s=s'))) h):Cl 1036 [.ref (c 0),iv t,iv t'] Q X h:=
 ba (iO C e (iO C e' (ff q)))
theorem Xf(C:CR c b p R h)(q:∀v h',kH h h'->(v= .none↔p.cl=ao)->Q v h'):Cl 1039 [.ref (c 0)] Q X h:=
 ba (zd C ⟨λe=>q _ _ (kH.refl h) ⟨λ_=>e,λ_=>rfl⟩,λn xs e g l=>zd C ⟨λe'=>(nomatch e.symm.trans e'),λn xs e g l=>Ez g (l64 l) λm em=>q (.ref m) _ (kH.new em) ⟨λz=>(nomatch z),λz=>(nomatch e.symm.trans z)⟩⟩⟩)
theorem sF(C:CR c b p R h)(q:Q (.ref (b 0)) h):db (.ref (c 0)) 63 Q h:=cL C rfl (λ_ _=>rfl) q
theorem BH.k(B:BH b ts h)(e:iM 209 m=aa f)(g:(dR (y9 b++fT.xf) m).isNone=ah)(q:Q (.fn f) h):gh (.ref (b 0)) m Q h:=cI (B.g 0 rfl) g e q
theorem TF(C:CR c b p R h)(hb:∀q∈bd fT b ts,q∈R)(e:tm ts t=aa T)(q:Q (V.tup ((if T.op=61 then T.args else []).map iv)) h):Cl 1040 [.ref (c 0),iv t] Q X h:=by
 have B:=C.bh hb;refine ba (sF C (B.k rfl rfl (tE B e (jg (dx (λz=>?_) λz=>?_)))))
 ·rw[if_pos z] at q;exact sF C (B.k rfl rfl (il B e q))
 ·rw[if_neg z] at q;exact q
theorem xS(C:CR c b p R h)(hb:∀q∈bd fT b ts,q∈R)(e:tm ts t=aa T)(ed:T.data=iv f)(ha:∀a∈T.args,p.r a≠ao)(hl:T.args.length<100)(q:∀h',kH h h'->Q (cR (f8 p f T)) h'):Cl 1043 [.ref (c 0),iv t] Q X h:=by
 have B:=C.bh hb;refine ba (sF C (B.k rfl rfl (u8 B e (sF C (B.k rfl rfl (il B e (n6 (yv (λa=>aa (iv (rt p a))) cY ?_ ?_))))))))
 ·exact λa cA acc J q=>iO C (dS (ha a cA)) q
 ·intro n en;rw[acU];have l:(T.args.map λa=>iv (rt p a)).length <aG:=by rw[aP];exact bY hl (by decide)
  refine EB (BR _ _ _) l (I1 (xs:=[T.data]) (show 1<aG by decide) l ?_);rw[ed,show [iv f]++T.args.map (λa=>iv (rt p a))=(f8 p f T).map iv by delta f8;rw[bW,iE];rfl];exact q _ (kH.new en)
section
variable {c b:Nat->Nat}{n m:Nat}{p:PS}{h:Hp}{Q:PV}{Qu:Hp->Prop}{R A B:aM}{xs ys:List V}{v w:V}{es:List (V×V)}{o:O}
theorem CR.mid(C:CR c b p (A++(n,o)::B) h):h.get n=aa o:=C.at (q:=(n,o)) (aX (.head _))
theorem Cj(A:aM)(C:CR c b p (A++(n,.list xs)::B) h)(l:xs.length<aG)(q:∀h',CR c b p (A++(n,.list (xs++[v]))::B) h'->Q .none h'):iK n v Q h:=sO C.mid l C.lk (q _ C.set)
theorem xA(A:aM)(C:CR c b p (A++(n,.list (xs++[v]))::B) h)(q:∀h',CR c b p (A++(n,.list xs)::B) h'->Q v h'):tB n Q h:=KF C.mid C.lk (q _ C.set)
theorem I0(A:aM)(C:CR c b p (A++(n,.list xs)::B) h)(g:h.get m=aa (.list ys))(l:xs.length<aG)(l':ys.length<aG)(q:∀h',CR c b p (A++(n,.list (xs++ys))::B) h'->Q .none h'):qT n (.ref m) Q h:=Cp C.mid g l l' C.lk (q _ C.set)
theorem EL(A:aM)(C:CR c b p (A++(n,.dict es)::B) h)(ko:b7 w es=ah)(l:es.length<aG)(q:∀h',CR c b p (A++(n,.dict (bB es w v))::B) h'->Qu h'):dY (.ref n) w v Qu h:=yw C.mid ko l C.lk (q _ C.set)
theorem CR.kl{k:MK}{Q:MK->Hp->Prop}(A:aM)(C:CR c b p (A++(n,.list xs)::B) h)(g:tW m=aa k)(q:Q k h):gh (.ref n) m Q h:=cN C.mid g q
theorem CR.drop{x:Nat×O}(C:CR c b p (x::R) h):CR c b p R h:=C.sub (HB _ _)
end
noncomputable def bX(up:Nat->Option (Nat×bE)):Nat->List (Nat×Nat×bE)->Nat->Prop
 |x,[],top=>x=top/\up top=ao
 |x,e::r,top=>x=e.1/\up e.1=aa e.2/\bX up e.2.1 r top
noncomputable def ez(up:Nat->Option (Nat×bE)):List (Nat×Nat×bE)->Nat->Option (Nat×bE)
 |[]=>up
 |e::r=>ez (upd up e.1 ao) r
noncomputable def eP(up:Nat->Option (Nat×bE)):List (Nat×Nat×bE)->Nat->Option (Nat×bE)
 |[]=>up
 |e::r=>eP (upd up e.2.1 (aa (e.1,e.2.2))) r
theorem BJ{x:Nat}:∀{ch:List (Nat×Nat×bE)} {up:Nat->Option (Nat×bE)},x∉ch.map (·.1)->ez up ch x=up x:=by
 intro ch;induction ch with
 |nil=>intro up _;exact rfl
 |cons e r ih=>intro up h;rw[bW,a_,not_or] at h;exact(ih h.2).trans (gV h.1)
theorem QX(up:Nat->Option (Nat×bE))(e:Nat×Nat×bE):∀(ch:List (Nat×Nat×bE)) (up:Nat->Option (Nat×bE)),ez up (ch++[e])=upd (ez up ch) e.1 ao:=by
 intro ch;induction ch with
 |nil=>intro _;exact rfl
 |cons x r ih=>intro up;exact ih _
theorem ZU(up:Nat->Option (Nat×bE))(e:Nat×Nat×bE):∀(ch:List (Nat×Nat×bE)) (up:Nat->Option (Nat×bE)),eP up (ch++[e])=upd (eP up ch) e.2.1 (aa (e.1,e.2.2)):=by
 intro ch;induction ch with
 |nil=>intro _;exact rfl
 |cons x r ih=>intro up;exact ih _
theorem tG{up:Nat->Option (Nat×bE)}:∀{ch:List (Nat×Nat×bE)} {x top:Nat},bX up x ch top->∀e∈ch,up e.1=aa e.2:=by
 intro ch;induction ch with
 |nil=>exact nofun
 |cons y r ih=>intro x top h e he;exact(a_.mp he).elim (λq=>q▸h.2.1) λhe=>ih h.2.2 e he
noncomputable abbrev cv(e:Nat×Nat×bE):V:=V.tup [iv e.1,ev e.2]
section
variable {c b:Nat->Nat}{n t top:Nat}{p:PS}{h:Hp}{Q:PV}{X:Hp->Prop}{R:aM}{ch:List (Nat×Nat×bE)}
theorem Xa(hn:(ch.map (·.1)).Nodup)(hs:∀e∈ch,e.1<18/\e.2.1<18):ch.length<=18:=by rw[<-aP (f:=(·.1))];exact g_ 18 _ hn λx hx=>by(refine e1a2 (bz.mp hx) λe he dA=>?_;cases dA);exact(hs e he).1
theorem Ea{up:Nat->Option (Nat×bE)}{r:List (Nat×Nat×bE)}{x:Nat}{G:Prop}(h:bX up x r top)(k0:r=[]->x=top->up x=ao->G)(k1:∀e r',r=e::r'->x=e.1->up x=aa e.2->bX up e.2.1 r' top->G):G:=by
 cases r with
 |nil=>exact k0 rfl h.1 (h.1▸h.2)
 |cons e r=>exact k1 e r rfl h.1 (h.1▸h.2.1) h.2.2
theorem KS(C:CR c b p R h)(uh:bX p.up t ch top)(hn:(ch.map (·.1)).Nodup)(hs:∀e∈ch,e.1<18/\e.2.1<18)(q:∀h',CR c b {p with up:=eP (ez p.up ch) ch} R h'->Q (iv top) h'):
  Cl 1054 [.ref (c 0),iv t] Q X h:=by
 have dn:∀{d e r},ch=d++e::r->ez p.up d e.1=aa e.2:=λ{d e r} e1=>(BJ λz=>by rw[e1,bA,fW] at hn;exact hn.2.2 _ z _ (.head _) rfl).trans (tG uh e (by rw[e1];exact aX (.head _)))
 have dl:∀{d e r},ch=d++e::r->(d.map cv).length <aG:=λ{d e r} e1=>by have:=Xa hn hs;rw[e1,aT] at this;rw[aP];exact aR (aI (b_ _ _) this) (by decide)
 refine ba (cZ C λa h C=>mM [15,158] rfl rfl [125] (λa:List (Nat×Nat×bE)×List (Nat×Nat×bE)×Nat=>[iv a.2.2])
  (λx h=>ch=x.1++x.2.1/\bX p.up x.2.2 x.2.1 top/\CR c b p ((a,.list (x.1.map cv))::R) h) (λx=>x.2.1.length) ([],ch,t) rfl ⟨rfl,uh,C⟩ λx ξ h i J hJ=>?_)
 have C:=i.2.2;refine Ea i.2.1 (λer ex eu=>?_) λe r er ex eu p_=>?_
 ·have C:CR c b p ((a,.list (ch.map cv))::R) h:=by have:=i.1;rw[er,cq] at this;rw[this];exact C
  refine cL C rfl (λ_ _=>rfl) (L_ C eu (bT (C.ix 0 rfl) (cb [15,158,125] rfl rfl (λd h=>CR c b {p with up:=ez p.up d} ((a,.list (ch.map cv))::R) h) (λ_ _ C=>bM (C.ix 0 rfl)) C
   (λd e r e1 ξ h C J hJ=>MP (e:=e.2) C (dn e1) λh C=>hJ _ _ (by rw[QX p.up];exact C))
   λξ h C=>bT (C.ix 0 rfl) (cb [15,125] rfl rfl (λd h=>CR c b {p with up:=eP (ez p.up ch) d} ((a,.list (ch.map cv))::R) h) (λ_ _ C=>bM (C.ix 0 rfl)) C
   (λd e r e1 ξ h C J hJ=>KI (e:=(e.1,e.2.2)) C (hs e (by rw[e1];exact aX (.head _))).2 λh C=>hJ _ _ (by rw[ZU p.up];exact C))
   λξ h C=>ex▸q h C.drop))))
 ·have e1:ch=x.1++e::r:=er▸i.1;exact cL C rfl (λ_ _=>rfl) (Mb C eu (yO C eu (C.kl [] rfl (Cj (v:=cv (x.2.2,e.2)) [] C (dl e1) λh C=>
   hJ (x.1++[e],r,e.2.1) _ _ (by rw[er];exact jY _) rfl ⟨by rw[e1,bt];rfl,p_,by rw[bA,show [e].map cv=[cv (x.2.2,e.2)] by rw[ex];rfl];exact C⟩))))
end
theorem B1(k:p.tb mk=ao):jR p t mk=(p.adE (V.tup [.str 115,cR mk,.none])).st mk (aa t):=by delta jR;rw[k]
theorem Kd(k:p.tb mk=aa o)(z:rt p o≠rt p t):jR p t mk={p with q:=p.q++[(t,o,ao)]}:=by delta jR;rw[k];exact if_neg z
theorem H8(k:p.tb mk=aa o)(z:rt p o=rt p t):jR p t mk=p:=by delta jR;rw[k];exact if_pos z
theorem K9(C:CR c b p R h)(hb:∀q∈bd fT b ts,q∈R)(e:tm ts t=aa T)(ed:T.data=iv f)(ha:∀a∈T.args,p.r a≠ao)(hl:T.args.length<100)(ht:t<18)(hr:p.r t≠ao)(hv:∀l o,p.tb l=aa o->p.r o≠ao)
  (hf:p.tb (f8 p f T)=ao->∀l,p.tb l≠aa t) (jC:p.tr.length<aG) (lq:p.q.length<aG) (q:∀h',CR c b (jR p t (f8 p f T)) R h'->Q .none h'):Cl 1044 [.ref (c 0),iv t] Q X h:=by
 cases k:p.tb (f8 p f T) with
 |none=>rw[B1 k] at q;exact ba (cS C (λ_ _=>rfl) rfl (xS C hb e ed ha hl λh e1=>cL (C.ext e1) rfl (λ_ _=>rfl) ((C.ext e1).kt rfl (Kz (C.ext e1) k (xH (C.ext e1) jC λh C=>H_ C ht k (hf k) q)))))
 |some o=>
  refine ba (cS C (λ_ _=>rfl) rfl (xS C hb e ed ha hl λh e1=>?_));have C:=C.ext e1;exact cL C rfl (λ_ _=>rfl) (C.kt rfl (J4 C k (iO C (dS (hv _ _ k)) (iO C (dS hr) (jo (ij
   (λz=>tF C λn g k'=>cN g rfl (k' (t,o,ao) lq _ (Kd k z▸q))) λz=>q _ ((H8 k z).symm▸C)))))))
theorem BX(k:p.tb mk=aa t):mD p t mk=(p.adE (V.tup [.str 115,cR mk,iv t])).st mk ao:=if_pos k
theorem zp(k:p.tb mk≠aa t):mD p t mk=p:=if_neg k
theorem TG(q:Qt au h):bZ .eq .none (.int k) Qt h:=.inr (.inr (.inr ⟨rfl,⟨_,rfl⟩,q⟩))
theorem ZO(C:CR c b p R h)(hb:∀q∈bd fT b ts,q∈R)(e:tm ts t=aa T)(ed:T.data=iv f)(ha:∀a∈T.args,p.r a≠ao)(hl:T.args.length<100)(jC:p.tr.length<aG)
  (q:∀h',CR c b (mD p t (f8 p f T)) R h'->Q .none h'):Cl 1050 [.ref (c 0),iv t] Q X h:=by
 cases k:p.tb (f8 p f T) with
 |none=>rw[zp (by rw[k];exact λz=>nomatch z)] at q;exact ba (cS C (λ_ _=>rfl) rfl (xS C hb e ed ha hl λh e1=>cL (C.ext e1) rfl (λ_ _=>rfl) ((C.ext e1).kt rfl (Kz (C.ext e1) k (TG (q _ (C.ext e1)))))))
 |some o=>
  refine ba (cS C (λ_ _=>rfl) rfl (xS C hb e ed ha hl λh e1=>?_));have C:=C.ext e1;exact cL C rfl (λ_ _=>rfl) (C.kt rfl (J4 C k (ff (dx
   (λz=>xH C jC λh C=>Ml C k (BX (z▸k)▸z▸q)) λz=>q _ ((zp λw=>z (cP (k.symm.trans w))).symm▸C)))))
theorem Ws(C:CR c b p R h)(e1:p.m t=aa lm)(e2:p.u t=aa lu)(e3:p.l 2 t=aa la)(e4:p.l 3 t=aa lw)(q:Q (V.tup [iv lm.length,iv lu.length,iv la.length,iv lw.length]) h):Cl 1049 [.ref (c 0),iv t] Q X h:=
 ba (yF 0 (by decide) C e1 (yF 1 (by decide) C e2 (yF 2 (by decide) C e3 (yF 3 (by decide) C e4 q))))
theorem VF(k:Nat)(hk:k<4)(C:CR c b p R h)(e:p.l k t=aa [])(q:Qx .next ρ h):eY (.ref (c (lf k))) (iv t) (λv h=>ke v (kF tup xs bs tb ρ Qx h) h) h:=
 D0 k hk C e λad V=>bT (V.set hk e).1 ⟨bM (V.set hk e).1,q⟩
theorem Jq(k:Nat)(hk:k<4)(C:CR c b p R h)(e:p.l k t=aa [])(q:Qx .next ρ h):db (.ref (c 0)) (lf k) (λv h=>eY v (iv t) (λv h=>ke v (kF tup xs bs tb ρ Qx h) h) h) h:=zg k hk C (VF k hk C e q)
theorem VU(C:CR c b p R h)(e:p.l 2 t=aa [])(q:Q .none h):Cl 1051 [.ref (c 0),iv t] Q X h:=ba (Jq 2 (by decide) C e q)
theorem TJ(C:CR c b p R h)(e:p.l 3 t=aa [])(q:Q .none h):Cl 1061 [.ref (c 0),iv t] Q X h:=ba (Jq 3 (by decide) C e q)
theorem TC(C:CR c b p ((n,.list xs)::R) h)(hx:xs.length<64)(q:∀h',CR c b {p with cl:=aa xs,lv:=p.ms.length} R h'->Q .none h'):Cl 1048 [.ref (c 0),.ref n] Q X h:=
 ba (T_ C hx λh C=>rg C λm g _=>eO g (by rw[aP];exact QZ C λh C=>q h C))
theorem Wh(C:CR c b p R h)(lm:p.ms.length<aG)(q:∀h',CR c b {p with ms:=p.ms++[p.tr.length]} R h'->Q .none h'):Cl 1063 [.ref (c 0)] Q X h:=
 ba (rg C λm g k=>cN g rfl (cL C rfl (λ_ _=>rfl) (e1a2 C λ_ x _=>eO (x.ix 5 rfl) (k _ lm _ q))))
theorem Ug(C:CR c b p R h)(uh:bX p.up t ch top)(hn:(ch.map (·.1)).Nodup)(hs:∀e∈ch,e.1<18/\e.2.1<18)(ht:t<18)(jC:p.tr.length<aG)
  (q:∀h',CR c b (({p with up:=eP (ez p.up ch) ch}:PS).su t (aa (s,k)) |>.adE (V.tup [.str 154,iv t,iv top])) R h'->Q .none h'):Cl 1053 [.ref (c 0),iv t,iv s,wv k] Q X h:=
 ba (cS C (λ_ _=>rfl) rfl (KS C uh hn hs λh C=>KI (e:=(s,k)) C ht λh C=>xH C jC q))
theorem tQ(hx:h.get m=aa (.list xs))(hy:h.get n=aa (.list ys))(lx:xs.length<aG)(ly:ys.length<aG)(q:cj (.list (xs++ys)) Q h):pW .add (.ref m) (.ref n) Q h:=⟨xs,hx,ys,hy,lx,ly,q⟩
theorem Wt(g:h.get n=aa (.list xs))(hk:0<=k)(l:xs.length<aG)(q:cj (.list (f xs)) Q h):qK (.ref n) k f Q h:=⟨xs,g,hk,l,q⟩
def Ix(sp:List (V×V))(L:List Nat):Prop:=∃f:Nat->Option Nat,DI sp (λt=>(f t).map iv)/\(∀x,f x≠ao↔x∈L)/\∀x i,f x=aa i->i<L.length
theorem Ix.add(I:Ix sp L)(hy:y<18):Ix (bB sp (iv y) (iv L.length)) (L++[y]):=by
 refine e1a3 I λf D e1 e2=>?_;refine⟨upd f y (aa L.length),(D.put hy (iv L.length)).adP (s_ y (aa L.length)),λx=>?_,λx i e=>?_⟩
 ·delta upd;split
  ·rename_i q;simp [q]
  ·rename_i q;rw[e1];simp [q]
 ·rw[aT];unfold upd at e;split at e
  ·cases zF e;exact jY _
  ·exact AM (e2 x i e)
theorem Ix.one(hx:x<18):Ix (kq [] [(iv x,.int 0)]) [x]:=
 Ix.add (L:=[]) ⟨λ_=>ao,⟨.nil,λe he=>(nomatch he),λ_=>rfl⟩,λx=>⟨λz=>absurd rfl z,λz=>(nomatch z)⟩,λx i e=>(nomatch e)⟩ hx
theorem U3(C:CR c b p R h)(hx:bX p.up x cx top)(hy:bX p.up y cy top)(sx:∀e∈cx,e.1<18/\e.2.1<18)(sx0:x<18)(lx:cx.length<100)(ly:cy.length<100)
  (q:∀(h':Hp) (ad:Nat) (es:List Nat),CR c b p ((ad,.list (es.map iv))::R) h'->(∀e∈es,∃k,p.up e=aa k/\(e∈cx.map (·.1)\/e∈cy.map (·.1)))->es.length<1000->Q (.ref ad) h'):Cl 1055 [.ref (c 0),iv x,iv y] Q X h:=by
 have lt:∀{d e r:List (Nat×Nat×bE)},d.length<=100->((d.map (·.1)).map iv).length <aG:=λ{d _ _} l=>by rw[aP,aP];exact aR l (by decide)
 refine ba (cZ C λal h C=>cZ C λas h C=>mM [15,58,159,160] rfl rfl [125] (λa:List (Nat×Nat×bE)×List (Nat×Nat×bE)×Nat×List (V×V)=>[iv a.2.2.1])
  (λa h=>cx=a.1++a.2.1/\bX p.up a.2.2.1 a.2.1 top/\Ix a.2.2.2 (a.1.map (·.1)++[a.2.2.1])/\CR c b p ((as,.dict a.2.2.2)::(al,.list ((a.1.map (·.1)++[a.2.2.1]).map iv))::R) h) (λa=>a.2.1.length) ([],cx,x,_) rfl ⟨rfl,hx,.one sx0,C⟩ λa ξ h i J hJ=>?_)
 have C:=i.2.2.2;have ld:a.1.length<=cx.length:=by rw[i.1,aT];exact b_ _ _
 refine e1a3 i.2.2.1 λf D f1 f2=>?_;refine Ea i.2.1 (λer ex eu=>?_) λe r er ex eu p_=>?_
 ·have e1:cx=a.1:=by have:=i.1;rw[er,cq] at this;exact this
  refine cL C rfl (λ_ _=>rfl) (L_ C eu (cZ C λab h C=>mM [15,159,160,161] rfl rfl [125] (λz:List (Nat×Nat×bE)×List (Nat×Nat×bE)×Nat=>[iv z.2.2])
   (λz h=>cy=z.1++z.2.1/\bX p.up z.2.2 z.2.1 top/\CR c b p ((ab,.list ((z.1.map (·.1)).map iv))::(as,.dict a.2.2.2)::(al,.list ((a.1.map (·.1)++[a.2.2.1]).map iv))::R) h) (λz=>z.2.1.length) ([],cy,y) rfl ⟨rfl,hy,C⟩ λz ξ h i' J hJ=>?_))
  have C:=i'.2.2;have lz:z.1.length<=cy.length:=by rw[i'.1,aT];exact b_ _ _
  cases k:f z.2.2 with
  |none=>
   refine Ea i'.2.1 (λF3 F4 N6=>?_) λe r F3 F4 N6 p_=>?_
   ·exact absurd k ((f1 _).mpr (aX (by rw[F4,ex];exact .head _)))
   ·exact qQ (C.ix 1 rfl) (D.ko _) (by rw[D.g,k];exact C.kl [] rfl (Cj [] C (lt (e:=[]) (r:=[]) (aI lz (bP ly))) λh C=>yO C N6 (hJ (z.1++[e],r,e.2.1) _ _ (by rw[F3];exact jY _) rfl ⟨by rw[i'.1,F3,bt];rfl,p_,by rw[bA,bA,show([e].map (·.1)).map iv=[iv z.2.2] by rw[F4];rfl];exact C⟩)))
  |some i=>
   have hi:=f2 _ _ k;rw[aT,aP] at hi;exact qQ (C.ix 1 rfl) (D.ko _) (by
    rw[D.g,k];refine eX (v:=iv i) (C.ix 1 rfl) (D.ko _) (by rw[D.g,k];rfl) (Wt (C.ix 2 rfl) (nk i) ?_ (cZ C λa1 h C=>tQ (C.ix 0 rfl) (C.ix 1 rfl) ?_ (lt (e:=[]) (r:=[]) (aI lz (bP ly))) (cZ C λad h C=>q _ ad ((a.1.map (·.1)++[a.2.2.1]).take i++z.1.map (·.1)) ?_ (λe he=>?_) ?_)))
    ·rw[aP,aT,aP];exact aR (fC (aI ld (bP lx)) 1) (by decide)
    ·refine aR (List.length_take_le' _ _) ?_;rw[aP,aT,aP];exact aR (fC (aI ld (bP lx)) 1) (by decide)
    ·rw[bA,acV];exact C.sub (.cons₂ _ (.cons _ (.cons _ (.cons _ (.cons _ (.refl _))))))
    ·rcases bx.mp he with he|he
     ·rw[acW (by rw[aP];exact nz hi)] at he;have he:=acI he
      (refine e1a2 (bz.mp he) λw hw dA=>?_;cases dA)
      exact⟨_,tG hx w (e1▸hw),.inl (e1▸he)⟩
     ·(refine e1a2 (bz.mp he) λw hw dA=>?_;cases dA)
      have hw:w∈cy:=by rw[i'.1];exact b8 hw
      exact⟨_,tG hy w hw,.inr (bz.mpr ⟨w,hw,rfl⟩)⟩
    ·rw[aT,aP];exact aR (dF (aI (acX i _) (aI (nz hi) (aI ld (bP lx)))) (aI lz (bP ly))) (by decide))
 ·have e1:cx=a.1++e::r:=er▸i.1;refine cL C rfl (λ_ _=>rfl) (Mb C eu (yO C eu (eO (C.ix 1 rfl) (EL [] C (D.ko _) D.lim λh C=>C.kl [_] rfl (Cj [_] C ?_ λh C=>
   hJ (a.1++[e],r,e.2.1,bB a.2.2.2 (iv e.2.1) (iv (a.1.map (·.1)++[a.2.2.1]).length)) _ _ (by rw[er];exact jY _) rfl ⟨by rw[e1,bt];rfl,p_,?_,?_⟩)))))
  ·rw[aP,aT,aP];exact aR (fC (aI ld (bP lx)) 1) (by decide)
  ·rw[bA,show [e].map (·.1)=[a.2.2.1] by rw[ex];rfl];exact i.2.2.1.add (sx e (by rw[e1];exact aX (.head _))).2
  ·show CR c b p ((as,.dict (bB a.2.2.2 (iv e.2.1) (iv (a.1.map (·.1)++[a.2.2.1]).length)))::(al,.list (((a.1++[e]).map (·.1)++[e.2.1]).map iv))::R) h;rw[bA (l₁:=a.1),show [e].map (·.1)=[a.2.2.1] by rw[ex];rfl,bA (l₂:=[e.2.1])];rw[aP] at C;exact C
structure MD(ts:List Tm)(p:PS):Prop where
 path:∀x y,p.r x≠ao->p.r x=p.r y->∃cx cy top,bX p.up x cx top/\bX p.up y cy top/\cx.length<100/\cy.length<100
 lt:∀x,p.r x≠ao->x<18
 up:∀x y w,p.up x=aa (y,w)->p.r x≠ao/\p.r y≠ao
 adS:∀x y,p.up x=aa (y,ao)->∃T T',tm ts x=aa T/\tm ts y=aa T'/\T.args.length<=2/\T'.args.length<=2/\∀q∈T.args.zip T'.args,p.r q.1≠ao/\p.r q.1=p.r q.2
noncomputable abbrev pv(q:Nat×Nat):V:=V.tup [iv q.1,iv q.2]
structure Fd(es:List (V×V)):Prop where
 nd:(es.map (·.1)).Nodup
 ks:∀e∈es,∃k:Nat,e.1=iv k
section
variable {c b:Nat->Nat}{n x y top:Nat}{ts:List Tm}{p:PS}{h:Hp}{Q:PV}{Qt:Bool->Hp->Prop}{X:Hp->Prop}{R E:aM}{es:List (V×V)}{xs:List V}
theorem VS{k:bE}(q:Qt (decide (k=ao)) h):bZ .eq (wv k) (.str 77) Qt h:=by
 cases k with
 |none=>exact .inl ⟨rfl,rfl,q⟩
 |some k=>exact .inl ⟨rfl,rfl,q⟩
theorem Q3{ks:List Int}(e:h.get n=aa (.list xs))(k:kr xs=aa ks)(l:ks.length<64)(q:cj (.list ((jj ks).map V.int)) Q h):tZ (.ref n) Q h:=.inl ⟨xs,e,ks,k,l,q⟩
theorem Yo(e:h.get n=aa (.dict es))(k:hY es=ah)(l:es.length<aG)(q:cj (.list (es.map (·.1))) Q h):xF (.ref n) Q h:=.inr ⟨es,e,k,by rw[aP];exact l,q⟩
theorem Q2(k:Int):∀l:List Int,(nF k l).length=l.length+1:=by
 intro l;induction l with
 |nil=>exact rfl
 |cons x l ih=>exact by rw[DE];split;rfl;exact congrArg qg (ih)
theorem Y4:∀l:List Int,(jj l).length=l.length:=by
 intro l;induction l with
 |nil=>exact rfl
 |cons x l ih=>exact(Q2 x (jj l)).trans (congrArg qg (ih))
theorem Fd.put(x:Fd es)(k:Nat)(v:V):Fd (bB es (iv k) v)/\(bB es (iv k) v).length<=es.length+1:=by
 have e:=Cc (iv k) v es;have len:(bB es (iv k) v).length=((bB es (iv k) v).map (·.1)).length:=(aP _).symm;cases z:bC es (iv k) with
 |some w=>
  rw[z,if_pos (show(aa w).isSome=ah from rfl)] at e;refine⟨⟨e▸x.nd,λa ha=>?_⟩,?_⟩
  ·refine e1a2 (bz.mp (e▸bz.mpr ⟨a,ha,rfl⟩:a.1∈es.map (·.1))) λb hb q=>?_;rw[<-q];exact x.ks b hb
  ·rw[len,e,aP];exact gZ _
 |none=>
  have n:=sT.mp z;rw[z,if_neg (show ¬(ao:Option V).isSome=ah from k7)] at e;refine⟨⟨?_,λa ha=>?_⟩,?_⟩
  ·rw[e,fW];exact⟨x.nd,acY _ _,λa ha b hb=>by rw[aZ.mp hb];rintro rfl;exact n ha⟩
  ·rcases bx.mp (e▸bz.mpr ⟨a,ha,rfl⟩:a.1∈es.map (·.1)++[iv k]) with h|h
   ·refine e1a2 (bz.mp h) λb hb q=>?_;rw[<-q];exact x.ks b hb
   ·exact⟨k,aZ.mp h⟩
  ·rw[len,e,aT,aP];exact bQ _
theorem Fd.ko(x:Fd es)(k:Nat):b7 (iv k) es=ah:=by delta b7;rw[yf,Hz,cQ];intro e he;refine e1a1 (x.ks e he) λs q=>?_;rw[q];rfl
theorem Fd.ints:∀{es:List (V×V)},(∀e∈es,∃k:Nat,e.1=iv k)->hY es=ah/\∃ks,kr (es.map (·.1))=aa ks/\ks.length=es.length:=by
 intro es;induction es with
 |nil=>intro _;exact⟨rfl,[],rfl,rfl⟩
 |cons e es ih=>
  intro h
  (refine aC (ih λe he=>h e (.tail _ he)) λh1 aD=>?_;refine e1a2 aD λks h2 h3=>?_)
  refine e1a1 (h e (.head _)) λk q=>?_;refine⟨?_,(k:Int)::ks,?_,congrArg qg h3⟩
  ·unfold hY at h1 ⊢;rw[GM,h1,q];rfl
  ·rw[bW,q];show(kr _).map _=_;rw[h2];rfl
theorem VI{α:Type}{G:Prop}(l:List α)(k0:l=[]->G)(k1:∀r x,l=r++[x]->G):G:=by
 by_cases e:l=[]
 ·exact k0 e
 ·exact k1 l.dropLast (l.getLast e) (List.dropLast_concat_getLast e).symm
theorem mR{k:Nat}(e:h.get n=aa (.list xs))(l:xs.length=k)(q:Q (iv k) h):pM (.ref n) Q h:=eO e (by rw[l];exact q)
theorem K8{f:Nat}{m:Nat}{K:V->MK->Hp->Prop}(C:CR c b p R h)(hb:∀q∈bd fT b ts,q∈R)(e:iM 209 m=aa f)(g:(dR (y9 b++fT.xf) m).isNone=ah)(q:K (.ref (b 0)) (.fn f) h):db (.ref (c 0)) 63 (λv h=>gh v m (K v) h) h:=sF C ((C.bh hb).k e g q)
abbrev EA:=List (Nat×Nat)×List (V×V)×List (V×V)
noncomputable def em(a:EA):Nat:=3*(18-a.2.1.length)+a.1.length
structure EI(c b:Nat->Nat)(p:PS)(R E:aM)(aw as af n:Nat)(a:EA)(h:Hp):Prop where
 m:em a<=n
 k:∀q∈a.1,p.r q.1≠ao/\p.r q.1=p.r q.2
 s:DI a.2.1 (λt=>bC a.2.1 (iv t))
 f:Fd a.2.2
 l:a.2.2.length<=a.2.1.length
 C:CR c b p (E++(af,.dict a.2.2)::(as,.dict a.2.1)::(aw,.list (a.1.map pv))::R) h
theorem Z6(l l':List Nat):zj ((l.map iv).zip (l'.map iv))=(l.zip l').map pv:=by delta zj;rw[acZ,iE];rfl
theorem aam{l l':List Nat}(hl:l.length<aG)(q:cj (.list ((l.zip l').map pv)) Q h):Ld .z (V.tup (l.map iv)) Q (V.tup (l'.map iv)) h:=by show oG (tT _ _) _;delta tT;rw[lU,lU];refine⟨?_,by rw[Z6];exact q⟩;rw[A7,aP];exact aR (xm _ _) hl
theorem Eu{n m k M z:Nat}(h1:k=n+1)(h2:k<=18)(h:3*(18-n)+m<=M)(hz:z<=2):3*(18-k)+(m+z)<=M:=by
 have e:18-n=(18-k)+1:=by rw[h1] at h2 ⊢;exact(sy (Nat.sub_pos_of_lt h2)).symm
 rw[e] at h;refine aI ?_ h;rw[OW,hZ,dB m];exact ds (fC (iH hz) _) _
theorem UR{s t:Nat}(C:CR c b p R h)(hb:∀q∈bd fT b ts,q∈R)(F:MD ts p)(hx:p.r s≠ao)(wL:p.r s=p.r t)(q:∀(h':Hp) (ad:Nat) (xs:List V),CR c b p ((ad,.list xs)::R) h'->xs.length<64->Q (.ref ad) h'):
  Cl 1056 [.ref (c 0),iv s,iv t] Q X h:=by
 refine ba (iO C (dS hx) (iO C (s:=rt p s) (wL▸dS hx) (jo (pq rfl
  (cZ C λaw h C=>cZ C λas h C=>cZ C λaf h C=>mM [15,162,164,47] rfl rfl [] (λ_=>[]) (λa=>EI c b p R [] aw as af 55 a) em ([(s,t)],[],[]) rfl
   ⟨bQ 55,λq hq=>by rw[aZ.mp hq];exact⟨hx,wL⟩,⟨.nil,λe he=>(nomatch he),λ_=>rfl⟩,⟨.nil,λe he=>(nomatch he)⟩,bQ _,C⟩ λa ξ h i J hJ=>?_)))))
 refine VI a.1 (λer=>?_) λwk w er=>?_
 ·have g:h.get aw=aa (.list (([]:List (Nat×Nat)).map pv)):=er▸i.C.ix 2 rfl
  (refine aC (Fd.ints i.f.ks) λi1 aD=>?_;refine e1a2 aD λks i2 i3=>?_)
  have N7:ks.length<64:=i3▸aR (aI i.l i.s.len) (by decide);refine eO g (Yo (i.C.ix 0 rfl) i1 (aR (aI i.l i.s.len) (by decide)) (cZ i.C λa1 h C=>Q3 (C.ix 0 rfl) i2 N7 (cZ C λa2 h C=>q h a2 _ (C.sub (.cons₂ _ (.cons _ (.cons _ (.cons _ (.cons _ (.refl _))))))) ?_)));rw[aP,Y4];exact N7
 ·have C:CR c b p ((af,.dict a.2.2)::(as,.dict a.2.1)::(aw,.list (wk.map pv++[pv w]))::R) h:=by have C:=i.C;rw[er,bA] at C;exact C
  refine aC (i.k w (by rw[er];exact aX (.head _))) λk1 k2=>?_;refine e3a4 (F.path w.1 w.2 k1 k2) λcx cy top p1 p2 l1 l2=>?_;have m0:=i.m;have hm:em a=3*(18-a.2.1.length)+(wk.length+1):=by delta em;rw[er,aT];rfl
  refine mR (k:=wk.length+1) (C.ix 2 rfl) (by rw[aT,aP];rfl) (mK (o9.mpr (gw _)) (C.kl [_,_] rfl (xA [_,_] C λh C=>cS C (λ_ _=>rfl) rfl
   (U3 C p1 p2 (λe he=>(F.up _ _ _ (tG p1 e he)).imp (F.lt _) (F.lt _)) (F.lt _ k1) l1 l2 λh ae es C he hl=>bT (C.ix 0 rfl) (cb [15,162,164,47] rfl rfl
    (λ_ h=>∃a',EI c b p R [(ae,.list (es.map iv))] aw as af (em a-1) a' h) (λ_ h i=>(i.elim λa' i=>bM (i.C.ix 0 rfl))) ⟨(wk,a.2.1,a.2.2),by rw[hm];exact bQ _,λq hq=>i.k q (by rw[er];exact b8 hq),i.s,i.f,i.l,C⟩ ?_ ?_)))))
  ·intro d e r e1 ξ h i J hJ;refine i.elim λa' i=>?_
   (refine e1a2 (he e (by rw[e1];exact aX (.head _))) λdN jV _=>?_;obtain ⟨y,k⟩:=dN)
   refine aC (F.up _ _ _ jV) λz1 z2=>?_;have lt:=F.lt e z1;refine qQ (i.C.ix 2 rfl) (i.s.ko e) ?_;cases hfe:bC a'.2.1 (iv e) with
   |some _=>exact hJ _ h ⟨a',i⟩
   |none=>
    have hs:=i.s.put lt (.bool ah);have c7:DI (bB a'.2.1 (iv e) (.bool ah)) _:=⟨hs.nd,hs.ks,λ_=>rfl⟩;have eZ:(bB a'.2.1 (iv e) (.bool ah)).length=a'.2.1.length+1:=by rw[rq hfe,aT];rfl
    have adB:=hs.len;have mm:3*(18-a'.2.1.length)+a'.1.length<=em a-1:=i.m;refine EL [_,_] i.C (i.s.ko e) i.s.lim λh C=>yO C jV (VS ?_);cases k with
    |none=>
     refine e2a5 (F.adS e y jV) λT T' t1 t2 t3 t4 t5=>?_;have qa:∀q∈bd fT b ts,q∈(ae,O.list (es.map iv))::(af,.dict a'.2.2)::(as,.dict (bB a'.2.1 (iv e) (.bool ah)))::(aw,.list (a'.1.map pv))::R:=λq hq=>.tail _ (.tail _ (.tail _ (.tail _ (hb q hq))));have lz:(T.args.zip T'.args).length<=2:=by rw[A7];exact aI (xm _ _) t3
     refine C.kl [_,_,_] rfl (K8 C qa rfl rfl (il (C.bh qa) t1 (K8 C qa rfl rfl (il (C.bh qa) t2 (aam (aR t3 (by decide)) (cZ C λaz h C=>I0 [_,_,_,_] C (C.ix 0 rfl) ?_ ?_ λh C=>hJ _ h ⟨(a'.1++T.args.zip T'.args,bB a'.2.1 (iv e) (.bool ah),a'.2.2),?_,λq hq=>(bx.mp hq).elim (i.k q) (t5 q),c7,i.f,?_,?_⟩))))))
     ·rw[aP];exact aR (aI (A_ _ _) (aI mm (Nat.sub_le_sub_right m0 1))) (by decide)
     ·rw[aP];exact aR lz (by decide)
     ·show 3*(18-(bB a'.2.1 (iv e) (.bool ah)).length)+(a'.1++T.args.zip T'.args).length<=em a-1;rw[aT];exact Eu eZ adB mm lz
     ·rw[eZ];exact iH i.l
     ·show CR c b p (_::_::_::(aw,.list ((a'.1++T.args.zip T'.args).map pv))::R) h;rw[bA];exact C.drop
    |some k=>
     refine Ce (ij (λ_=>EL [_] C (i.f.ko k) (aR (aI i.l i.s.len) (by decide)) λh C=>hJ _ h ⟨(a'.1,bB a'.2.1 (iv e) (.bool ah),bB a'.2.2 (iv k) (.bool ah)),?_,i.k,c7,(i.f.put k _).1,?_,C⟩) λ_=>hJ _ h ⟨(a'.1,bB a'.2.1 (iv e) (.bool ah),a'.2.2),?_,i.k,c7,i.f,?_,C⟩)
     ·exact Eu eZ adB mm (g0 2)
     ·have:=(i.f.put k (.bool ah)).2;show(bB a'.2.2 (iv k) (.bool ah)).length<=(bB a'.2.1 (iv e) (.bool ah)).length;rw[eZ];exact aI this (dw i.l)
     ·exact Eu eZ adB mm (g0 2)
     ·show a'.2.2.length<=(bB a'.2.1 (iv e) (.bool ah)).length;rw[eZ];exact iH i.l
  ·exact λξ h i=>i.elim λa' i=>hJ a' _ _ (aR i.m (Nat.sub_lt (hm▸gw _) Nat.one_pos)) rfl ⟨aI i.m (aI (Nat.sub_le _ _) m0),i.k,i.s,i.f,i.l,i.C.drop⟩
end
noncomputable abbrev Up:=Nat->Option (Nat×bE)
noncomputable abbrev Ch:=List (Nat×Nat×bE)
theorem J8:∀{ch p_:Ch} {x top N8:Nat},bX up x ch top->bX up x p_ N8->ch=p_/\top=N8:=by
 intro ch;induction ch with
 |nil=>
  intro z17';cases z17' with
  |nil=>intro _ _ _ h h';exact⟨rfl,h.1.symm.trans h'.1⟩
  |cons e r=>intro x _ _ h h';exact by(refine aC h λdN h=>?_;cases dN);have:=h'.2.1;rw[<-h'.1,h] at this;exact zA this
 |cons e r ih=>
  intro z18';cases z18' with
  |nil=>intro x _ _ h h';exact by(refine aC h' λdN h'=>?_;cases dN);have:=h.2.1;rw[<-h.1,h'] at this;exact zA this
  |cons e' r'=>
   intro x _ _ h h';have h1:=h.2.1;have h2:=h'.2.1;rw[<-h.1] at h1;rw[<-h'.1] at h2;have e2:e.2=e'.2:=by rw[h1] at h2;injection h2
   have h3:=h.2.2;have h4:=h'.2.2;rw[<-e2] at h4;refine aC (ih h3 h4) λq1 q2=>?_;refine⟨?_,q2⟩;rw[q1,show e=e' from Bi (h.1.symm.trans h'.1) e2]
noncomputable def cG(ch:Ch)(top:Nat):List Nat:=ch.map (·.1)++[top]
theorem BE:∀{ch:Ch} {x:Nat},bX up x ch top->∀z∈cG ch top,∃c1 c2,ch=c1++c2/\bX up z c2 top:=by
 intro ch;induction ch with
 |nil=>intro x h z hz;exact by simp [cG] at hz;exact⟨[],[],rfl,hz,h.2⟩
 |cons e r ih=>
  intro x h z hz;simp only [cG,bW,qr,a_] at hz;rcases hz with rfl|hz
  ·exact⟨[],e::r,rfl,rfl,h.2⟩
  ·refine e2a2 (ih h.2.2 z hz) λc1 c2 q1 q2=>?_;exact⟨e::c1,c2,by rw[q1];rfl,q2⟩
theorem vA:∀{ch:Ch} {x:Nat},bX up x ch top->(cG ch top).Nodup:=by
 intro ch;induction ch with
 |nil=>intro x h;exact by simp [cG]
 |cons e r ih=>intro x h;show(e.1::cG r top).Nodup;rw[dK];refine⟨λz=>?_,ih h.2.2⟩;refine e2a2 (BE h.2.2 _ z) λc1 c2 q1 q2=>?_;have:=(J8 q2 (h.1▸h:bX up e.1 (e::r) top)).1;rw[this] at q1;have:=congrArg o_ q1;simp at this;exact absurd this (fE (c9 (jY _) (A_ _ _)))
theorem DX:∀{ch:Ch} {x:Nat},bX up x ch top->x∈cG ch top
 |[],x,h=>by simp [cG,h.1]
 |e::r,x,h=>by rw[h.1];exact iQ 0 rfl
theorem KW:∀{ch:Ch} {x:Nat},bX up x ch top->∀e∈ch,e.2.1∈cG ch top:=by
 intro ch;induction ch with
 |nil=>exact nofun
 |cons e r ih=>
  intro x h f hf;rcases a_.mp hf with rfl|hf
  ·exact .tail _ (DX h.2.2)
  ·exact .tail _ (ih h.2.2 f hf)
theorem UZ:∀{ch:Ch} {up:Up},x∈ch.map (·.1)->ez up ch x=ao:=by
 intro ch;induction ch with
 |nil=>exact nofun
 |cons e r ih=>
  intro up h;show ez (upd up e.1 ao) r x=ao;by_cases q:x∈r.map (·.1)
  ·exact ih q
  ·rw[BJ q];rcases a_.mp h with h|h
   ·rw[h,ip]
   ·exact absurd h q
theorem Ew:∀{ch:Ch} {up:Up},x∉ch.map (·.2.1)->eP up ch x=up x:=by
 intro ch;induction ch with
 |nil=>intro up _;exact rfl
 |cons e r ih=>intro up h;rw[bW,a_,not_or] at h;show eP (upd up e.2.1 _) r x=_;rw[ih h.2,gV h.1]
theorem aaw:∀{ch:Ch} {up:Up},(ch.map (·.2.1)).Nodup->∀e∈ch,eP up ch e.2.1=aa (e.1,e.2.2):=by
 intro ch;induction ch with
 |nil=>exact nofun
 |cons e r ih=>
  intro up n f hf;rw[bW,dK] at n;show eP (upd up e.2.1 _) r f.2.1=_;rcases a_.mp hf with rfl|hf
  ·rw[Ew n.1,ip]
  ·exact ih n.2 f hf
theorem yW:∀{ch:Ch} {x:Nat},bX up x ch top->x::ch.map (·.2.1)=cG ch top:=by
 intro ch;induction ch with
 |nil=>intro x h;exact by simp [cG,h.1]
 |cons e r ih=>intro x h;show x::e.2.1::r.map (·.2.1)=e.1::cG r top;rw[ih h.2.2,h.1]
theorem tq(h:bX up x ch top):(∀e∈ch,eP (ez up ch) ch e.2.1=aa (e.1,e.2.2))/\eP (ez up ch) ch x=ao/\∀z,z∉cG ch top->eP (ez up ch) ch z=up z:=by
 have n:=vA h;have t:=yW h;rw[<-t,dK] at n;refine⟨λe he=>aaw n.2 e he,?_,λz hz=>?_⟩
 ·rw[Ew n.1];cases ch with
  |nil=>(refine aC h λdN h=>?_;cases dN);exact h
  |cons e r=>rw[h.1];exact UZ (by exact iQ 0 rfl)
 ·rw[Ew (λw=>hz (by rw[<-t];exact .tail _ w)),BJ (λw=>hz (bx.mpr (.inl w)))]
noncomputable def jO(ch:Ch):Ch:=(ch.map λe=>(e.2.1,e.1,e.2.2)).reverse
theorem EM(h:bX up x ch top):bX (eP (ez up ch) ch) top (jO ch) x:=by
 refine be (tq h) λs1 s2 _=>?_;generalize eP (ez up ch) ch=up1 at s1 s2;have:∀(ch:Ch) (x:Nat) (c0:Ch) (y:Nat),bX up x ch top->(∀e∈ch,up1 e.2.1=aa (e.1,e.2.2))->bX up1 x c0 y->bX up1 top (jO ch++c0) y:=by
  intro ch;induction ch with
  |nil=>intro x c0 y h _ k;rw[<-h.1];exact k
  |cons e r ih=>
   intro x c0 y h s k;have:=ih e.2.1 ((e.2.1,e.1,e.2.2)::c0) y h.2.2 (λf hf=>s f (.tail _ hf)) ⟨rfl,s e (.head _),h.1▸k⟩
   simpa [jO] using this
 have:=this ch x [] x h s1 ⟨rfl,s2⟩
 simpa using this
theorem xT:e∈jO ch↔(e.2.1,e.1,e.2.2)∈ch:=by
 delta jO;simp only [acn,bz];constructor
 ·rintro ⟨f,hf,rfl⟩;exact hf
 ·intro h;exact⟨_,h,rfl⟩
theorem ZB(h:bX up x ch top):eP (ez (eP (ez up ch) ch) (jO ch)) (jO ch)=up:=by
 have b:=EM h;refine be (tq h) λs1 s2 s3=>?_;refine be (tq b) λt1 t2 t3=>?_
 funext z
 have tn:∀z,z∈cG (jO ch) x↔z∈cG ch top:=λz=>by
  rw[<-yW b];simp only [cG,a_,bx,bz,xT,aZ];constructor
  ·rintro (h|⟨e,he,rfl⟩)
   ·exact .inr (by simpa using h)
   ·exact .inl ⟨_,he,rfl⟩
  ·rintro (⟨e,he,rfl⟩|h)
   ·exact .inr ⟨(e.2.1,e.1,e.2.2),he,rfl⟩
   ·exact .inl (by simpa using h)
 by_cases q:z∈cG ch top
 ·rcases bx.mp q with w|w
  ·(refine e1a2 (bz.mp w) λe he dA=>?_;cases dA)
   have:=t1 (e.2.1,e.1,e.2.2) (xT.mpr he);rw[this];exact(tG h e he).symm
  ·have w:z=top:=by simpa using w
   subst w;rw[t2];refine e2a2 (BE h z q) λc1 c2 q1 q2=>?_;cases c2 with
   |nil=>exact q2.2.symm
   |cons e r=>
    have n:=vA h;have:z∈ch.map (·.1):=by rw[q1,q2.1];simp
    unfold cG at n;rw[fW] at n;exact absurd rfl (n.2.2 _ this z (by assumption))
 ·rw[t3 z (λw=>q ((tn z).mp w)),s3 z q]
noncomputable def hd(T:Tm):Nat:=match T.data with
 | .int k=>k.toNat
 |_=>0
noncomputable def aF(ts:List Tm)(t:Nat):Tm:=(tm ts t).getD ⟨0,[],0,.none⟩
noncomputable def sg(ts:List Tm)(p:PS)(t:Nat):List Nat:=f8 p (hd (aF ts t)) (aF ts t)
theorem tD(e:p'.r=p.r)(t:Nat):sg ts p' t=sg ts p t:=by delta sg f8 rt;rw[e]
inductive rh:V->PS->PS->Prop
 |tab0 {p:PS} {l:List Nat} {t:Nat} (h:p.tb l=ao):rh (V.tup [.str 115,cR l,.none]) p (p.st l (aa t))
 |tabT {p:PS} {l:List Nat} {t:Nat} (h:p.tb l=aa t) (ht:t<18) (h1:∀l',p.tb l'=aa t->l'=l):rh (V.tup [.str 115,cR l,iv t]) p (p.st l ao)
 |adK {p:PS} {l s top:Nat} {k:bE} {ch:Ch} (h:bX p.up l ch top) (h1:∀e∈ch,e.1<18/\e.2.1<18) (h2:l<18):rh (V.tup [.str 154,iv l,iv top]) p ({p with up:=eP (ez p.up ch) ch}.su l (aa (s,k)))
 |join {p:PS} {s l v v':Nat} {ms us ml ul:List Nat} (h1:p.m s=aa ms) (h2:p.u s=aa us) (h3:p.m l=aa ml) (h4:p.u l=aa ul) (h5:p.l 2 l=aa []) (h6:p.l 3 l=aa []) (h7:p.v l=aa v) (hr:∀t,t∈ms↔p.r t=aa s) (hs:s≠l) (hm:∀t∈ms,t<18) (hl:l<18) (lm:ms.length+ml.length<1000) (lu:us.length+ul.length<1000):
   rh (V.tup [.str 140,iv s,iv l,V.tup [iv ml.length,iv ul.length,iv 0,iv 0],iv v]) p (((({p with r:=λt=>if t∈ms then aa l else p.r t}:PS).sl 0 l (aa (ml++ms))).sl 1 l (aa (ul++us))).sv l v')
def fg(p p':PS):Prop:=p'.r=p.r/\p'.v=p.v/\p'.up=p.up/\p'.tb=p.tb/\p'.l=p.l
theorem fg.refl(p:PS):fg p p:=⟨rfl,rfl,rfl,rfl,rfl⟩
theorem fg.trans(x:fg p q)(y:fg q r):fg p r:=⟨y.1.trans x.1,y.2.1.trans x.2.1,y.2.2.1.trans x.2.2.1,y.2.2.2.1.trans x.2.2.2.1,y.2.2.2.2.trans x.2.2.2.2⟩
inductive dZ:List V->PS->PS->Prop
 |nil {p p':PS}:fg p p'->dZ [] p p'
 |snoc {es:List V} {e:V} {p q q' q'':PS}:dZ es p q->rh e q q'->fg q' q''->dZ (es++[e]) p q''
theorem dZ.same(h:dZ es p q)(s:fg q q'):dZ es p q':=by
 cases h with
 |nil x=>exact .nil (x.trans s)
 |snoc h x y=>exact .snoc h x (y.trans s)
theorem dZ.app(h:dZ es p q)(k:dZ d9 q r):dZ (es++d9) p r:=by
 induction k with
 |nil x=>rw[cq];exact h.same x
 |snoc _ x y ih=>rw[<-bt];exact .snoc (ih h) x y
noncomputable def gN(ts:List Tm)(p:PS):List Nat->PS
 |[]=>p
 |t::r=>gN ts (mD p t (sg ts p t)) r
noncomputable def gW(ts:List Tm)(p:PS):List Nat->PS
 |[]=>p
 |t::r=>gW ts (jR p t (sg ts p t)) r
theorem JB(ts:List Tm):∀(ms:List Nat) (p:PS),(∀t∈ms,t<18)->(∀l o,p.tb l=aa o->l=sg ts p o)->∃tb es,gN ts p ms={p with tb:=tb,tr:=p.tr++es}/\es.length<=ms.length/\(∀l o,tb l=aa o↔p.tb l=aa o/\o∉ms)/\dZ es p (gN ts p ms):=by
 intro ms;induction ms with
 |nil=>intro p _ h;exact⟨p.tb,[],by rw[cq];rfl,bQ _,λl o=>⟨λz=>⟨z,fF⟩,λz=>z.1⟩,.nil (fg.refl p)⟩
 |cons t r ih=>
  intro p hl h;by_cases q:p.tb (sg ts p t)=aa t
  ·have e:=BX q;have E:gN ts p (t::r)=gN ts ((p.adE (V.tup [.str 115,cR (sg ts p t),iv t])).st (sg ts p t) ao) r:=by show gN ts (mD p t (sg ts p t)) r=_;rw[e]
   refine e2a4 (ih ((p.adE (V.tup [.str 115,cR (sg ts p t),iv t])).st (sg ts p t) ao) (λx hx=>hl x (.tail _ hx)) (λl o z=>by
    have z:upd p.tb (sg ts p t) ao l=aa o:=z;rw[tD (show _=p.r from rfl)];delta upd at z;split at z
    ·exact zA z
    ·exact h l o z)) λtb es h1 h2 h3 h4=>?_
   rw[E];refine⟨tb,V.tup [.str 115,cR (sg ts p t),iv t]::es,?_,dw h2,λl o=>?_,?_⟩
   ·rw[h1];show {p with tb:=tb,tr:=(p.tr++[_])++es}={p with tb:=tb,tr:=p.tr++_::es};rw[bt];rfl
   ·rw[h3,a_,not_or];show upd p.tb (sg ts p t) ao l=aa o/\_↔_;delta upd;by_cases w:l=sg ts p t
    ·rw[if_pos w];exact⟨λz=>(nomatch z.1),λz=>absurd (cP ((w▸z.1).symm.trans q)) z.2.1⟩
    ·rw[if_neg w];exact⟨λz=>⟨z.1,λz3=>w (by rw[h l o z.1,z3]),z.2⟩,λz=>⟨z.1,z.2.2⟩⟩
   ·exact dZ.app (es:=[_]) (.snoc (es:=[]) (.nil (fg.refl p)) (.tabT q (hl t (.head _)) λl' z=>h l' t z) (q'':=(p.adE (V.tup [.str 115,cR (sg ts p t),iv t])).st (sg ts p t) ao) ⟨rfl,rfl,rfl,rfl,rfl⟩) h4
  ·refine e2a4 (ih p (λx hx=>hl x (.tail _ hx)) h) λtb es h1 h2 h3 h4=>?_;have e2:gN ts p (t::r)=gN ts p r:=by show gN ts (mD p t (sg ts p t)) r=_;rw[zp q]
   rw[e2];refine⟨tb,es,h1,iH h2,λl o=>?_,h4⟩;rw[h3,a_,not_or];exact⟨λz=>⟨z.1,λz3=>q (by rw[<-z3,<-h l o z.1];exact z.1),z.2⟩,λz=>⟨z.1,z.2.2⟩⟩
structure Lk(ts:List Tm)(ms:List Nat)(p p':PS)(tb:List Nat->Option Nat)(es:List V)(qs:List (Nat×Nat×bE)):Prop where
 e:p'={p with tb:=tb,tr:=p.tr++es,q:=p.q++qs}
 l1:es.length<=ms.length
 l2:qs.length<=ms.length
 k:∀l o,p.tb l=aa o->tb l=aa o
 n:∀l o,tb l=aa o->p.tb l=aa o\/o∈ms/\l=sg ts p o
 c:∀t∈ms,∃o,tb (sg ts p t)=aa o/\(rt p t=rt p o\/(t,o,ao)∈qs)
 q:∀e∈qs,∃t o,e=(t,o,ao)/\t∈ms/\tb (sg ts p t)=aa o
 h:dZ es p p'
theorem Lk.one(ts:List Tm)(t:Nat)(p:PS):∃tb es qs,Lk ts [t] p (jR p t (sg ts p t)) tb es qs:=by
 cases q:p.tb (sg ts p t) with
 |none=>
  rw[B1 q];refine⟨upd p.tb (sg ts p t) (aa t),[V.tup [.str 115,cR (sg ts p t),.none]],[],⟨?_,bQ _,g0 _,λl o z=>?_,λl o z=>?_,λx hx=>?_,λe he=>(nomatch he),?_⟩⟩
  ·rw[cq];rfl
  ·rw[gV];exact z;rintro rfl;exact zA (q.symm.trans z)
  ·unfold upd at z;split at z
   ·rename_i w;cases zF z;exact .inr ⟨.head _,w⟩
   ·exact .inl z
  ·rw[aZ.mp hx];exact⟨t,ip _ _ _,.inl rfl⟩
  ·exact .snoc (es:=[]) (.nil (fg.refl p)) (.tab0 q) ⟨rfl,rfl,rfl,rfl,rfl⟩
 |some o=>
  by_cases w:rt p o=rt p t
  ·rw[H8 q w];exact⟨p.tb,[],[],by rw[cq,cq],g0 _,g0 _,λ_ _ h=>h,λ_ _ h=>.inl h,λx hx=>by rw[aZ.mp hx];exact⟨o,q,.inl w.symm⟩,λe he=>(nomatch he),.nil (fg.refl p)⟩
  ·rw[Kd q w];exact⟨p.tb,[],[(t,o,ao)],by rw[cq],g0 _,bQ _,λ_ _ h=>h,λ_ _ h=>.inl h,λx hx=>by rw[aZ.mp hx];exact⟨o,q,.inr (.head _)⟩,λe he=>⟨t,o,aZ.mp he,.head _,q⟩,.nil ⟨rfl,rfl,rfl,rfl,rfl⟩⟩
theorem C7(ts:List Tm):∀(ms:List Nat) (p:PS),∃tb es qs,Lk ts ms p (gW ts p ms) tb es qs:=by
 intro ms;induction ms with
 |nil=>intro p;exact⟨p.tb,[],[],by rw[cq,cq];rfl,bQ _,bQ _,λ_ _ h=>h,λ_ _ h=>.inl h,λ_ h=>(nomatch h),λ_ h=>(nomatch h),.nil (fg.refl p)⟩
 |cons t r ih=>
  intro p;refine e3a1 (Lk.one ts t p) λtb0 vX qs0 a=>?_;refine e3a1 (ih (jR p t (sg ts p t))) λtb es qs b=>?_;show ∃tb es qs,Lk ts (t::r) p (gW ts (jR p t (sg ts p t)) r) tb es qs;generalize jR p t (sg ts p t)=p1 at a b ⊢;generalize gW ts p1 r=p2 at b ⊢;have er:p1.r=p.r:=by rw[a.e]
  have d9:∀x,sg ts p1 x=sg ts p x:=tD er;have N9:∀x,rt p1 x=rt p x:=λx=>by delta rt;rw[er]
  have ui:p1.tb=tb0:=by rw[a.e]
  have bk:=b.k;have bn:=b.n;rw[ui] at bk bn;refine⟨tb,vX++es,qs0++qs,?_,?_,?_,λl o z=>bk l o (a.k l o z),λl o z=>?_,λx hx=>?_,λe he=>?_,a.h.app b.h⟩
  ·rw[b.e,a.e,<-bt,<-bt]
  ·rw[aT,dB];exact dF b.l1 a.l1
  ·rw[aT,dB];exact dF b.l2 a.l2
  ·rcases bn l o z with w|⟨w1,w2⟩
   ·exact(a.n l o w).imp_right λ⟨w1,w2⟩=>⟨aZ.mp w1▸.head _,w2⟩
   ·exact .inr ⟨.tail _ w1,by rw[w2,d9]⟩
  ·rcases a_.mp hx with rfl|hx
   ·refine e1a2 (a.c x (.head _)) λo w1 w2=>?_;exact⟨o,bk _ _ w1,w2.imp id b8⟩
   ·refine e1a2 (b.c x hx) λo w1 w2=>?_;rw[d9] at w1;rw[N9,N9] at w2;exact⟨o,w1,w2.imp id aX⟩
  ·rcases bx.mp he with he|he
   ·refine e2a3 (a.q e he) λx o w1 w2 w3=>?_;exact⟨x,o,w1,aZ.mp w2▸.head _,bk _ _ w3⟩
   ·refine e2a3 (b.q e he) λx o w1 w2 w3=>?_;exact⟨x,o,w1,.tail _ w2,by rw[<-d9];exact w3⟩
structure Wd(ts:List Tm)(K C:List Nat)(U0:Nat->List Nat):Prop where
 nd:K.Nodup
 lt:∀t∈K,t<18/\t≠0
 sub:∀t∈C,t∈K
 tm:∀t∈C,tm ts t=aa (aF ts t)
 cd:∀t∈C,(aF ts t).data=iv (hd (aF ts t))
 ar:∀t∈C,(aF ts t).args.length<=2/\∀a∈(aF ts t).args,a∈K
 u1:∀t∈C,∀a∈(aF ts t).args,t∈U0 a
 u2:∀a t,t∈U0 a->t∈C
 u3:∀a t,t∈U0 a->a∈(aF ts t).args
 ub:∀l:List Nat,l.Nodup->(∀x∈l,x∈K)->(l.flatMap U0).length<=180
structure Wf(ts:List Tm)(K C:List Nat)(U0:Nat->List Nat)(N:Nat->Prop)(p:PS):Prop where
 adw:∀t,p.r t≠ao↔t∈K
 rr:∀t s,p.r t=aa s->p.r s=aa s
 mm:∀s,p.r s=aa s->∃l,p.m s=aa l/\l.Nodup/\(∀t,t∈l↔p.r t=aa s)/\p.u s=aa (l.flatMap U0)/\p.l 2 s=aa []/\p.l 3 s=aa []
 vv:∀s,p.r s=aa s->∃x,p.v s=aa x/\(x≠0->p.r x=aa s/\N x)/\∀t,N t->p.r t=aa s->x≠0
 tb:∀l o,p.tb l=aa o->o∈C/\l=sg ts p o
 path:∃T:Nat->Nat,∀x s,p.r x=aa s->∃ch,bX p.up x ch (T s)
 adK:∀x y w,p.up x=aa (y,w)->p.r x≠ao/\p.r x=p.r y
 adS:∀x y,p.up x=aa (y,ao)->x∈C/\y∈C/\sg ts p x=sg ts p y
section
variable {ts:List Tm}{K C:List Nat}{U0:Nat->List Nat}{N:Nat->Prop}{p:PS}
theorem Cu{ch:Ch}{x top:Nat}(he:∀x y w,p.up x=aa (y,w)->p.r x≠ao/\p.r x=p.r y):∀{ch:Ch} {x:Nat},bX p.up x ch top->∀z∈cG ch top,p.r z=p.r x:=by
 intro ch;induction ch with
 |nil=>intro x h z hz;exact by simp [cG] at hz;rw[hz,h.1]
 |cons e r ih=>
  intro x h z hz;simp only [cG,bW,qr,a_] at hz;rw[h.1];rcases hz with rfl|hz
  ·rfl
  ·rw[ih h.2.2 z hz];exact(he _ _ _ h.2.1).2.symm
theorem Le(p:PS):∀{l l':List Nat},l.map (rt p)=l'.map (rt p)->(∀a∈l,p.r a≠ao)->(∀a∈l',p.r a≠ao)->∀q∈l.zip l',p.r q.1≠ao/\p.r q.1=p.r q.2:=by
 intro l;induction l with
 |nil=>intro _ _ _ _ q hq;exact by exact zE hq
 |cons a l ih=>
  intro z19';cases z19' with
  |nil=>intro h _ _ _ _;exact by cases h
  |cons a' l'=>
   intro h k k' q hq;simp only [bW,HD] at h;rcases a_.mp hq with rfl|hq
   ·exact⟨k a (.head _),by rw[dS (k a (.head _)),dS (k' a' (.head _)),h.1]⟩
   ·exact ih h.2 (λx hx=>k x (.tail _ hx)) (λx hx=>k' x (.tail _ hx)) q hq
theorem yX{top:Nat}(w:Wd ts K C U0)(f:Wf ts K C U0 N p){ch:Ch}{x:Nat}(hx:x∈K)(h:bX p.up x ch top):ch.length<100/\(∀e∈ch,e.1<18/\e.2.1<18)/\(ch.map (·.1)).Nodup:=by
 have n:=vA h;have k:∀z∈cG ch top,z<18:=λz hz=>(w.lt z ((f.adw z).mp (by rw[Cu (ch:=ch) (x:=0) f.adK h z hz];exact(f.adw x).mpr hx))).1;have:=g_ 18 _ n k;have hl:(cG ch top).length=ch.length+1:=by simp [cG]
 refine⟨aR (w8 (hl▸this)) (by decide),λe he=>⟨k _ (bx.mpr (.inl (bz.mpr ⟨e,he,rfl⟩))),k _ (KW h e he)⟩,?_⟩;unfold cG at n;rw[fW] at n;exact n.1
theorem Wf.aeo(w:Wd ts K C U0)(f:Wf ts K C U0 N p):MD ts p:=by
 refine⟨λx y hx wL=>?_,λx hx=>(w.lt x ((f.adw x).mp hx)).1,λx y k h=>?_,λx y h=>?_⟩
 ·refine e1a1 f.path λT hT=>?_;refine e1a1 (hT x _ (dS hx)) λcx px=>?_;refine e1a1 (hT y (rt p x) (by rw[<-wL];exact dS hx)) λcy py=>?_;exact⟨cx,cy,_,px,py,(yX w f ((f.adw x).mp hx) px).1,(yX w f ((f.adw y).mp (wL▸hx)) py).1⟩
 ·refine aC (f.adK x y k h) λh1 h2=>?_;exact⟨h1,h2▸h1⟩
 ·refine be (f.adS x y h) λh1 h2 h3=>?_;unfold sg f8 at h3;injection h3 with _ h3
  exact⟨_,_,w.tm x h1,w.tm y h2,(w.ar x h1).1,(w.ar y h2).1,Le p h3 (λa ha=>(f.adw a).mpr ((w.ar x h1).2 a ha)) (λa ha=>(f.adw a).mpr ((w.ar y h2).2 a ha))⟩
theorem Vb{up N':Up}{top:Nat}:∀{ch:Ch} {x:Nat},bX up x ch top->(∀z∈cG ch top,N' z=up z)->bX N' x ch top:=by
 intro ch;induction ch with
 |nil=>intro x h k;exact⟨h.1,(k top (by simp [cG])).trans h.2⟩
 |cons e r ih=>intro x h k;exact⟨h.1,(k e.1 (.head _)).trans h.2.1,ih h.2.2 λz hz=>k z (.tail _ hz)⟩
theorem WC{up1 z6:Up}{l t:Nat}{cs:Ch}{e:Nat×bE}(h2:z6 l=aa e)(hs:bX z6 e.1 cs t):∀{c:Ch} {z:Nat},bX up1 z c l->(∀z,z≠l->z6 z=up1 z)->bX z6 z (c++(l,e)::cs) t:=by
 intro c;induction c with
 |nil=>intro z h k;exact⟨h.1,h2,hs⟩
 |cons f r ih=>
  intro z h k;have n:=vA h;refine⟨h.1,?_,ih h.2.2 k⟩
  rewrite [k f.1 (λq=>?_)];exact h.2.1
  simp [cG,q] at n
theorem RG{up:Up}{r:Nat->Option Nat}{T:Nat->Nat}{l s a b:Nat}{k:bE}{ch:Ch}(hT:∀x s,r x=aa s->∃ch,bX up x ch (T s))(he:∀x y w,up x=aa (y,w)->r x≠ao/\r x=r y)(hl:r l=aa a)(hs:r s=aa b)(d_:a≠b)(hc:bX up l ch (T a)):
  ∀x s',(if r x=aa a then aa b else r x)=aa s'->∃c,bX (upd (eP (ez up ch) ch) l (aa (s,k))) x c (T s'):=by
 have N_:∀{c:Ch} {x t:Nat},bX up x c t->∀z∈cG c t,r z=r x:=λ{c x t} h=>Cu (p:={r:=r,v:=λ_=>ao,up:=up,tb:=λ_=>ao,l:=λ_ _=>ao,q:=[],tr:=[],ms:=[],cl:=ao,lv:=0}) (ch:=c) (x:=0) he h;refine be (tq hc) λs1 s2 s3=>?_;have hb:=EM hc;generalize hu1:eP (ez up ch) ch=up1 at s1 s2 s3 hb;have keep:∀z,r z≠aa a->upd up1 l (aa (s,k)) z=up z:=λz hz=>by have:z∉cG ch (T a):=λq=>hz ((N_ hc z q).trans hl);rw[gV (λq=>this (by rw[q];exact DX hc)),s3 z this]
 have old:∀x s',r x=aa s'->s'≠a->∃c,bX (upd up1 l (aa (s,k))) x c (T s'):=λx s' hx bF=>by refine e1a1 (hT x s' hx) λc q=>?_;exact⟨c,Vb q λz hz=>keep z (by rw[N_ q z hz,hx];intro w;injection w with w;exact bF w)⟩
 intro x s' hx;by_cases q:r x=aa a
 ·rw[if_pos q] at hx;injection hx with hx;subst hx
  refine e1a1 (old s b hs (eJ d_)) λcs Fk=>?_;have on:∀z∈cG ch (T a),∃c,bX (upd up1 l (aa (s,k))) z c (T b):=λz hz=>by
   have FB:z∈cG (jO ch) l:=by
    rw[<-yW hb];simp only [cG,bx,bz,aZ] at hz;rcases hz with ⟨e,he,rfl⟩|rfl
    ·exact .tail _ (bz.mpr ⟨(e.2.1,e.1,e.2.2),xT.mpr he,rfl⟩)
    ·exact .head _
   refine e2a2 (BE hb z FB) λc1 c2 _ q2=>?_;exact⟨_,WC (e:=(s,k)) (ip _ _ _) Fk q2 λz hz=>gV hz⟩
  refine e1a1 (hT x a q) λc dq=>?_
  revert x
  induction c with
  |nil=>intro x q dq;rw[dq.1];exact on _ (by simp [cG])
  |cons e c ih=>
   intro x q dq;by_cases w:x∈cG ch (T a)
   ·exact on x w
   ·refine e1a1 (ih e.2.1 (by rw[<-(he _ _ _ dq.2.1).2,<-dq.1];exact q) dq.2.2) λc2 h2=>?_;refine⟨e::c2,dq.1,?_,h2⟩;rw[<-dq.1,gV (λz=>w (by rw[z];exact DX hc)),s3 x w,dq.1];exact dq.2.1
 ·rw[if_neg q] at hx;exact old x s' hx (λw=>q (w▸hx))
end
theorem xU{α β:Type}[DecidableEq α]{f:α->β}{k:α}{v:β}(e:f k=v):upd f k v=f:=by funext x;delta upd;split <;> simp_all
theorem EG{p:PS}{k t:Nat}{l:Option (List Nat)}(e:p.l k t=l):p.sl k t l=p:=by
 have:upd p.l k (upd (p.l k) t l)=p.l:=by rw[xU e];exact xU rfl
 show {p with l:=_}=p;rw[this]
noncomputable def nO(p:PS)(l r:Nat)(k:bE)(ch:Ch)(top:Nat):PS:=({p with up:=eP (ez p.up ch) ch}:PS).su l (aa (r,k)) |>.adE (V.tup [.str 154,iv l,iv top])
noncomputable def y7(p2:PS)(a b:Nat)(ml ul:List Nat)(vb:Nat)(done:List Nat):PS:=
 {p2 with tr:=p2.tr++[V.tup [.str 140,iv a,iv b,V.tup [iv ml.length,iv ul.length,iv 0,iv 0],iv vb]],r:=λt=>if t∈done then aa b else p2.r t}
noncomputable def vq(p2:PS)(a b:Nat)(ms us ml ul:List Nat)(vb:Nat):PS:=((y7 p2 a b ml ul vb ms).sl 0 b (aa (ml++ms))).sl 1 b (aa (ul++us))
noncomputable def kI(p2:PS)(a b:Nat)(ms us ml ul:List Nat)(va vb:Nat):PS:=(vq p2 a b ms us ml ul vb).sv b (if vb=0 then va else vb)
noncomputable def jn(ts:List Tm)(p:PS)(l r:Nat)(k:bE)(ch:Ch)(top:Nat)(a b:Nat)(ms us ml ul:List Nat)(va vb:Nat):PS:=gW ts (kI (gN ts (nO p l r k ch top) us) a b ms us ml ul va vb) us
def yS(ts:List Tm)(p:PS)(Q:List (Nat×Nat×bE))(t:Nat):Prop:=∃o,p.tb (sg ts p t)=aa o/\(rt p t=rt p o\/(t,o,ao)∈Q)
noncomputable def fO(K:List Nat)(p:PS):Nat:=(K.filter λt=>decide (p.r t=aa t)).length
theorem H9{K:List Nat}{P P':Nat->Bool}{a:Nat}(n:K.Nodup)(ha:a∈K)(h1:P a=ah)(h2:P' a=au)(h3:∀t,t≠a->P' t=P t):(K.filter P').length+1=(K.filter P).length:=by
 induction K with
 |nil=>exact zE ha
 |cons x K ih=>
  rw[dK] at n;by_cases q:x=a
  ·subst q;have:K.filter P'=K.filter P:=ac0 λt ht=>h3 t λz=>n.1 (z▸ht);rw[ss,ss,h1,h2,this];simp
  ·have ha:a∈K:=by rcases a_.mp ha with h|h;exact absurd h.symm q;exact h
   have:=ih n.2 ha;rw[ss,ss,h3 x q];split
   ·simp only [e_];exact congrArg qg (ih n.2 ha)
   ·exact this
section
variable {ts:List Tm}{K C:List Nat}{U0:Nat->List Nat}{N:Nat->Prop}{p:PS}
theorem CW{p p':PS}{g:Nat->Nat}{T:Tm}{f:Nat}(h:∀a∈T.args,rt p' a=g (rt p a)):f8 p' f T=f::(T.args.map (rt p)).map g:=by delta f8;rw[iE];congr 1;exact ma h
theorem Jz{p p':PS}{g:Nat->Nat}{t o:Nat}(w:Wd ts K C U0)(ht:t∈C)(ho:o∈C)(h:∀x∈K,rt p' x=g (rt p x))(e:sg ts p t=sg ts p o):sg ts p' t=sg ts p' o:=by delta sg at e ⊢;rw[CW (p:=p) (g:=g) λa ha=>h a ((w.ar t ht).2 a ha),CW (p:=p) (g:=g) λa ha=>h a ((w.ar o ho).2 a ha)];delta f8 at e;injection e with e1 e2;rw[e1,e2]
structure JR(ts:List Tm)(K C:List Nat)(U0:Nat->List Nat)(N:Nat->Prop)(p p':PS)(a b:Nat)(es:List V)(qs:List (Nat×Nat×bE)):Prop where
 wf:Wf ts K C U0 N p'
 r:∀t,p'.r t=if p.r t=aa a then aa b else p.r t
 tr:p'.tr=p.tr++es
 q:p'.q=p.q++qs
 ms:p'.ms=p.ms
 le:es.length<=362
 lq:qs.length<=180
 h:dZ es p p'
 k:∀e∈qs,∃t o,e=(t,o,ao)/\t∈C/\o∈C/\sg ts p' t=sg ts p' o
 ad4:∀Q,(∀t∈C,yS ts p Q t)->∀t∈C,yS ts p' (Q++qs) t
 n:fO K p'+1=fO K p
structure C6(K:List Nat)(U0:Nat->List Nat)(p:PS)(s:Nat)(l:List Nat):Prop where
 nd:l.Nodup
 m:∀t,t∈l↔p.r t=aa s
 K:∀t∈l,t∈K
 n:l.length<=18
 u:(l.flatMap U0).length<=180
 e0:p.m s=aa l
 e1:p.u s=aa (l.flatMap U0)
 e2:p.l 2 s=aa []
 e3:p.l 3 s=aa []
theorem Wf.cls(w:Wd ts K C U0)(f:Wf ts K C U0 N p){t s:Nat}(e:p.r t=aa s):∃l,C6 K U0 p s l:=by refine e1a6 (f.mm s (f.rr t s e)) λl m1 m2 m3 m4 m5 m6=>?_;have lK:∀t∈l,t∈K:=λt ht=>(f.adw t).mp (by rw[(m3 t).mp ht];exact gH _);exact⟨l,m2,m3,lK,g_ 18 l m2 λx hx=>(w.lt x (lK x hx)).1,w.ub l m2 lK,m1,m4,m5,m6⟩
theorem Z7(w:Wd ts K C U0)(f:Wf ts K C U0 N p){l r a b top va vb:Nat}{k:bE}{ch:Ch}{ms ml:List Nat}(ha:p.r l=aa a)(hb:p.r r=aa b)(d_:a≠b)(hk:k=ao->l∈C/\r∈C/\sg ts p l=sg ts p r)(hc:bX p.up l ch top)
  (M:C6 K U0 p a ms) (L:C6 K U0 p b ml) (h5:p.v a=aa va) (h6:p.v b=aa vb):∃es qs,JR ts K C U0 N p (jn ts p l r k ch top a b ms (ms.flatMap U0) ml (ml.flatMap U0) va vb) a b es qs/\(jn ts p l r k ch top a b ms (ms.flatMap U0) ml (ml.flatMap U0) va vb).cl=p.cl/\(jn ts p l r k ch top a b ms (ms.flatMap U0) ml (ml.flatMap U0) va vb).lv=p.lv:=by
 have z7:=f.rr l a ha;have wM:=f.rr r b hb;have aK:a∈K:=(f.adw a).mp (by rw[z7];exact gH _);have bK:b∈K:=(f.adw b).mp (by rw[wM];exact gH _);have lK:l∈K:=(f.adw l).mp (by rw[ha];exact gH _);have m8:∀t∈ms.flatMap U0,t∈C:=λt ht=>by refine e1a2 (gI.mp ht) λx _ q=>?_;exact w.u2 x t q
 have wN:∀t∈ms.flatMap U0,t<18:=λt ht=>(w.lt t (w.sub t (m8 t ht))).1;have cl1:=yX w f lK hc;have iN:∀{x y:Nat},x≠y->aa x≠aa y:=λh z=>h (cP z);refine e2a4 (JB ts (ms.flatMap U0) (nO p l r k ch top) wN (λl o z=>(f.tb l o z).2)) λOa z8 t1 t2 t3 t4=>?_;delta jn;generalize gN ts (nO p l r k ch top) (ms.flatMap U0)=p2 at t1 t4;have F6:p2.r=p.r:=by rw[t1];rfl
 have iC:p2.l=p.l:=by rw[t1];rfl
 have wO:p2.v=p.v:=by rw[t1];rfl
 have Ob:p2.tb=Oa:=by rw[t1]
 have e2up:p2.up=upd (eP (ez p.up ch) ch) l (aa (r,k)):=by rw[t1];rfl
 refine e3a1 (C7 ts (ms.flatMap U0) (kI p2 a b ms (ms.flatMap U0) ml (ml.flatMap U0) va vb)) λOc z9 qs Z=>?_;generalize gW ts (kI p2 a b ms (ms.flatMap U0) ml (ml.flatMap U0) va vb) (ms.flatMap U0)=p4 at Z;have r3:(kI p2 a b ms (ms.flatMap U0) ml (ml.flatMap U0) va vb).r=p4.r:=by rw[Z.e]
 have r4:∀t,p4.r t=if p.r t=aa a then aa b else p.r t:=λt=>by
  rw[<-r3];show(if t∈ms then aa b else p2.r t)=_;rw[F6];by_cases q:p.r t=aa a
  ·rw[if_pos ((M.m t).mpr q),if_pos q]
  ·rw[if_neg (λz=>q ((M.m t).mp z)),if_neg q]
 have ry:∀{t},p.r t=aa a->p4.r t=aa b:=λh=>(r4 _).trans (if_pos h);have rn:∀{t},p.r t≠aa a->p4.r t=p.r t:=λh=>(r4 _).trans (if_neg h);have wP:∀t,sg ts (kI p2 a b ms (ms.flatMap U0) ml (ml.flatMap U0) va vb) t=sg ts p4 t:=λt=>(tD r3.symm t).symm;have Od:∀t,rt (kI p2 a b ms (ms.flatMap U0) ml (ml.flatMap U0) va vb) t=rt p4 t:=λt=>by delta rt;rw[r3]
 have F7:p4.tb=Oc:=by rw[Z.e]
 have Oe:p4.up=upd (eP (ez p.up ch) ch) l (aa (r,k)):=by rw[Z.e];exact e2up
 have qb:∀j t,p4.l j t=if j=1/\t=b then aa (ml.flatMap U0++ms.flatMap U0) else if j=0/\t=b then aa (ml++ms) else p.l j t:=λj t=>by rw[Z.e];show(vq p2 a b ms (ms.flatMap U0) ml (ml.flatMap U0) vb).l j t=_;delta vq;rw[hH,hH];show(if _ then _ else if _ then _ else p2.l j t)=_;rw[iC]
 have ev:p4.v=upd p.v b (aa (if vb=0 then va else vb)):=by rw[Z.e];show upd p2.v b _=_;rw[wO]
 let g:Nat->Nat:=λx=>if x=a then b else x
 have uj:∀x∈K,rt p4 x=g (rt p x):=λx hx=>by
  have:=dS ((f.adw x).mpr hx);show(p4.r x).getD 0=if rt p x=a then b else rt p x
  by_cases q:rt p x=a
  ·rw[if_pos q,ry (this.trans (congrArg aa q))];rfl
  ·rw[if_neg q,rn (λz=>q (cP (this.symm.trans z))),this];rfl
 have same:∀t∈C,t∉ms.flatMap U0->sg ts p4 t=sg ts p t:=λt ht hn=>by delta sg;rw[CW (p:=p) (g:=g) λx hx=>uj x ((w.ar t ht).2 x hx)];delta f8;rw[iE];refine congrArg _ (ma λx hx=>?_);show(if rt p x=a then b else rt p x)=rt p x;refine if_neg λq=>hn ?_;have xK:=(w.ar t ht).2 x hx;exact gI.mpr ⟨x,(M.m x).mpr (by rw[dS ((f.adw x).mpr xK),q]),w.u1 t ht x hx⟩
 have Of:∀l o,p2.tb l=aa o->p.tb l=aa o/\o∉ms.flatMap U0:=λl o z=>(t3 l o).mp (Ob▸z);have z_:∀x,p.r x≠ao->p4.r x≠ao:=λx hx=>by rw[r4];split;exact gH _;exact hx
 have lk:∀z,z∈cG ch top->p.r z=aa a:=λz hz=>(Cu (ch:=ch) (x:=0) f.adK hc z hz).trans ha;have fin:∀{x y},x∈C->y∈C->sg ts p x=sg ts p y->x∈C/\y∈C/\sg ts p4 x=sg ts p4 y:=λhx hy e=>⟨hx,hy,Jz w hx hy uj e⟩;refine be (tq hc) λu1 u2 u3=>?_;have adK:∀{x y k'},p4.up x=aa (y,k')->(x=l/\y=r/\k'=k)\/(∃e∈ch,x=e.2.1/\y=e.1/\k'=e.2.2)\/p.up x=aa (y,k'):=λ{x y k'} z=>by
  rw[Oe] at z;by_cases q:x=l
  ·rw[q,ip] at z;injection z with z;injection z with z1 z2;exact .inl ⟨q,z1.symm,z2.symm⟩
  ·rw[gV q] at z;by_cases q':x∈cG ch top
   ·rw[<-yW hc] at q'
    (refine e1a2 (bz.mp ((a_.mp q').resolve_left q)) λe he dA=>?_;cases dA)
    rw[u1 e he] at z;injection z with z;injection z with z1 z2;exact .inr (.inl ⟨e,he,rfl,z1.symm,z2.symm⟩)
   ·rw[u3 x q'] at z;exact .inr (.inr z)
 have root:∀{s},p4.r s=aa s->s=b\/(s≠a/\s≠b/\p.r s=aa s):=λ{s} z=>by
  by_cases q:p.r s=aa a
  ·exact .inl (cP (z.symm.trans (ry q)))
  ·rw[rn q] at z;by_cases sb:s=b;exact .inl sb;exact .inr ⟨λw=>q (w▸z),sb,z⟩
 refine e1a1 f.path λT hT=>?_;have eT:T a=top:=by refine e1a1 (hT l a ha) λch0 uh=>?_;exact(J8 uh hc).2
 refine⟨[V.tup [.str 154,iv l,iv top]]++z8++[V.tup [.str 140,iv a,iv b,V.tup [iv ml.length,iv (ml.flatMap U0).length,iv 0,iv 0],iv vb]]++z9,qs,
  ⟨⟨λt=>?_,λt s z=>?_,λs z=>?_,λs z=>?_,λl' o z=>?_,⟨T,λx s z=>?_⟩,λx y k' z=>?_,λx y z=>?_⟩,r4,?_,?_,?_,?_,aI Z.l2 M.u,?_,λe he=>?_,λQ hQ t ht=>?_,?_⟩,by rw[Z.e];show p2.cl=_;rw[t1];rfl,by rw[Z.e];show p2.lv=_;rw[t1];rfl⟩
 ·rw[<-f.adw t];exact⟨λz q=>z (by rw[rn (by rw[q];exact λz=>nomatch z),q]),z_ t⟩
 ·by_cases q:p.r t=aa a
  ·rw[<-cP ((ry q).symm.trans z),rn (by rw[wM];exact iN (eJ d_)),wM]
  ·rw[rn q] at z;rw[rn (by rw[f.rr t s z];exact λw=>q (z.trans w)),f.rr t s z]
 ·rcases root z with rfl|⟨sa,sb,z⟩
  ·refine⟨ml++ms,by rw[PS.m,qb,if_neg (λz=>absurd z.1 (by decide))];exact if_pos ⟨rfl,rfl⟩,?_,λt=>?_,?_,?_,?_⟩
   ·rw[fW];exact⟨L.nd,M.nd,λx hx y hy=>by rintro rfl;exact iN d_ (((M.m x).mp hy).symm.trans ((L.m x).mp hx))⟩
   ·rw[bx,L.m,M.m];by_cases q:p.r t=aa a
    ·rw[ry q];exact⟨λ_=>rfl,λ_=>.inr q⟩
    ·rw[rn q];exact⟨λz=>z.resolve_right q,.inl⟩
   ·rw[PS.u,qb,qu];exact if_pos ⟨rfl,rfl⟩
   ·rw[qb,if_neg (λz=>absurd z.1 (by decide)),if_neg (λz=>absurd z.1 (by decide))];exact L.e2
   ·rw[qb,if_neg (λz=>absurd z.1 (by decide)),if_neg (λz=>absurd z.1 (by decide))];exact L.e3
  ·refine e1a6 (f.mm s z) λl0 k1 k2 k3 k4 k5 k6=>?_;have e:∀j,p4.l j s=p.l j s:=λj=>by rw[qb,if_neg λz=>sb z.2,if_neg λz=>sb z.2]
   refine⟨l0,(e 0).trans k1,k2,λt=>?_,(e 1).trans k4,(e 2).trans k5,(e 3).trans k6⟩;rw[k3];by_cases q:p.r t=aa a
   ·rw[ry q,q];exact⟨λw=>absurd w (iN (eJ sa)),λw=>absurd w (iN (eJ sb))⟩
   ·rw[rn q]
 ·rw[ev];rcases root z with rfl|⟨sa,sb,z⟩
  ·refine e1a3 (f.vv a z7) λx k1 k2 k3=>?_;rw[<-cP (h5.symm.trans k1)] at k2 k3;refine e1a3 (f.vv s wM) λy j1 j2 j3=>?_;rw[<-cP (h6.symm.trans j1)] at j2 j3;refine⟨_,ip _ _ _,?_,λt ht z=>?_⟩
   ·split
    ·exact λhx=>(k2 hx).imp_left ry
    ·rename_i hv;exact λ_=>(j2 hv).imp_left λq1=>(rn (by rw[q1];exact iN (eJ d_))).trans q1
   ·by_cases q:p.r t=aa a
    ·have:=k3 t ht q;split <;> assumption
    ·rw[rn q] at z;have:=j3 t ht z;rw[if_neg this];exact this
  ·refine e1a3 (f.vv s z) λx k1 k2 k3=>?_;refine⟨x,by rw[gV sb];exact k1,λhx=>(k2 hx).imp_left λq1=>(rn (by rw[q1];exact iN sa)).trans q1,λt ht z=>?_⟩;by_cases q:p.r t=aa a
   ·exact absurd (z.symm.trans (ry q)) (iN sb)
   ·rw[rn q] at z;exact k3 t ht z
 ·rw[F7] at z;rcases Z.n l' o z with q|⟨q1,q2⟩
  ·refine aC (Of l' o q) λq1 q2=>?_;refine aC (f.tb l' o q1) λc1 c2=>?_;exact⟨c1,by rw[same o c1 q2];exact c2⟩
  ·exact⟨m8 o q1,by rw[q2,wP]⟩
 ·rw[r4] at z;rw[Oe];exact RG hT f.adK ha hb d_ (eT▸hc) x s z
 ·rcases adK z with ⟨rfl,rfl,_⟩|⟨e,he,rfl,rfl,_⟩|z
  ·exact⟨z_ _ (by rw[ha];exact gH _),by rw[ry ha,rn (by rw[hb];exact iN (eJ d_)),hb]⟩
  ·have i1:=lk _ (KW hc e he);have i2:=lk e.1 (b8 (bz.mpr ⟨e,he,rfl⟩));exact⟨z_ _ (by rw[i1];exact gH _),by rw[ry i1,ry i2]⟩
  ·refine aC (f.adK x y k' z) λc1 c2=>?_;exact⟨z_ x c1,by rw[r4,r4,c2]⟩
 ·rcases adK z with ⟨rfl,rfl,z2⟩|⟨e,he,rfl,rfl,z2⟩|z
  ·refine be (hk z2.symm) λc1 c2 c3=>?_;exact fin c1 c2 c3
  ·refine be (f.adS e.1 e.2.1 (by rw[tG hc e he,z2])) λc1 c2 c3=>?_;exact fin c2 c1 c3.symm
  ·refine be (f.adS x y z) λc1 c2 c3=>?_;exact fin c1 c2 c3
 ·rw[Z.e];show(p2.tr++_)++z9=_;rw[t1];show((p.tr++_)++z8)++_++z9=_;rw[bt p.tr,bt p.tr,bt p.tr]
 ·rw[Z.e];show p2.q++qs=_;rw[t1];rfl
 ·rw[Z.e];show p2.ms=_;rw[t1];rfl
 ·simp only [aT,e_,wZ];exact dF (dw (dF (bQ 1) (aI t2 M.u))) (aI Z.l1 M.u)
 ·refine dZ.app (dZ.snoc (q:=p2) (dZ.app (dZ.snoc (es:=[]) (.nil (fg.refl p)) (.adK (s:=r) (k:=k) hc cl1.2.1 (w.lt l lK).1) (q'':=nO p l r k ch top) ⟨rfl,rfl,rfl,rfl,rfl⟩) t4) (.join (v':=if vb=0 then va else vb) (ms:=ms) (us:=ms.flatMap U0) (ml:=ml) (ul:=ml.flatMap U0) (by rw[PS.m,iC];exact M.e0) (by rw[PS.u,iC];exact M.e1) (by rw[PS.m,iC];exact L.e0) (by rw[PS.u,iC];exact L.e1) (by rw[iC];exact L.e2) (by rw[iC];exact L.e3) (by rw[wO];exact h6) (λt=>by rw[F6];exact M.m t) d_ (λt ht=>(w.lt t (M.K t ht)).1) (w.lt b bK).1 ?_ ?_) (q'':=kI p2 a b ms (ms.flatMap U0) ml (ml.flatMap U0) va vb) ⟨rfl,rfl,rfl,rfl,rfl⟩) Z.h
  ·exact aR (dF M.n L.n) (by decide)
  ·exact aR (dF M.u L.u) (by decide)
 ·refine e2a3 (Z.q e he) λt o q1 q2 q3=>?_;refine⟨t,o,q1,m8 t q2,?_⟩;rcases Z.n _ o q3 with q|⟨q4,q5⟩
  ·refine aC (Of _ o q) λc1 c2=>?_;refine aC (f.tb _ o c1) λd1 d2=>?_;exact⟨d1,by rw[<-wP t,d2,same o d1 c2]⟩
  ·exact⟨m8 o q4,by rw[<-wP,q5,wP]⟩
 ·by_cases q:t∈ms.flatMap U0
  ·refine e1a2 (Z.c t q) λo c1 c2=>?_;refine⟨o,by rw[F7,<-wP];exact c1,?_⟩;rw[Od,Od] at c2;exact c2.imp id aX
  ·refine e1a2 (hQ t ht) λo c1 c2=>?_;have oC:=(f.tb _ o c1).1;have ou:o∉ms.flatMap U0:=λz=>q (by
    have e:=(f.tb _ o c1).2;unfold sg f8 at e;injection e with _ e
    refine e1a2 (gI.mp z) λx x1 x2=>?_;have x3:a∈(aF ts o).args.map (rt p):=bz.mpr ⟨x,w.u3 x o x2,by delta rt;rw[(M.m x).mp x1];rfl⟩;rw[<-e] at x3;refine e1a2 (bz.mp x3) λy y1 y2=>?_;exact gI.mpr ⟨y,(M.m y).mpr (by rw[dS ((f.adw y).mpr ((w.ar t ht).2 y y1)),y2]),w.u1 t ht y y1⟩)
   refine⟨o,by rw[F7,same t ht q];exact Z.k _ _ (Ob▸(t3 _ o).mpr ⟨c1,ou⟩),?_⟩;exact c2.imp (λz=>by rw[uj t (w.sub t ht),uj o (w.sub o oC),z]) b8
 ·refine H9 w.nd aK (decide_eq_true z7) (decide_eq_false (by rw[ry z7];exact iN (eJ d_))) λt ht=>decide_eq_decide.mpr ?_;by_cases q:p.r t=aa a
  ·rw[ry q,q];exact⟨λz=>absurd (((cP z).symm▸q:p.r b=aa a).symm.trans wM) (iN d_),λz=>absurd (cP z).symm ht⟩
  ·rw[rn q]
end
theorem Y8(ts:List Tm)(t:Nat):∀(ms:List Nat) (p:PS),gN ts p (ms++[t])=mD (gN ts p ms) t (sg ts (gN ts p ms) t):=by
 intro ms;induction ms with
 |nil=>intro p;exact rfl
 |cons x r ih=>intro p;exact ih _
theorem U'(ts:List Tm)(t:Nat):∀(ms:List Nat) (p:PS),gW ts p (ms++[t])=jR (gW ts p ms) t (sg ts (gW ts p ms) t):=by
 intro ms;induction ms with
 |nil=>intro p;exact rfl
 |cons x r ih=>intro p;exact ih _
theorem mJ{P Q:Prop}[Decidable P][Decidable Q]{α:Type}{a b:α}(h:P↔Q):(if P then a else b)=if Q then a else b:=by
 by_cases z:Q
 ·rw[if_pos z,if_pos (h.mpr z)]
 ·rw[if_neg z,if_neg λw=>z (h.mp w)]
def Nc(N:Nat->Prop)(p:PS):Prop:=∀t t',N t->N t'->p.r t≠ao->p.r t=p.r t'->t=t'
def Jc(N:Nat->Prop)(p p':PS):Prop:=(p'.cl=p.cl/\p'.lv=p.lv/\(Nc N p->Nc N p'))\/(p'.cl≠ao/\p'.lv=p.ms.length/\∃t t',t≠t'/\N t/\N t'/\p'.r t=p'.r t'/\p'.r t≠ao)
def Ab(p:PS)(x y a b:Nat):Prop:=a=rt p x/\b=rt p y\/a=rt p y/\b=rt p x
section
variable {c b:Nat->Nat}{n m k t s ad:Nat}{ts:List Tm}{K C:List Nat}{U0:Nat->List Nat}{N:Nat->Prop}{p p':PS}{h:Hp}{Q:PV}{Qu:Hp->Prop}{X:Hp->Prop}{R:aM}{a b':Nat}{es:List V}{qs:List (Nat×Nat×bE)}
theorem LV.cr(V:LV c b p R h k t ad):CR c b p R h:=e1a3 V λS x A _=>⟨S,x,A⟩
theorem aao(V:LV c b p R h k t ad)(ht:m<18)(q:∀h',LV c b (p.sr m s) R h' k t ad->Qu h'):dY (.ref (c 52)) (iv m) (iv s) Qu h:=
 e1a3 V λS x A e=>f6 x 1 rfl (A.r.ko m) A.r.lim λh' x=>q h' ⟨{S with root:=bB S.root (iv m) (iv s)},x,{A with r:=(A.r.put ht (iv s)).adP (s_ m (aa s))},e⟩
theorem H4(V:LV c b p R h k t ad)(ht:m<18)(q:∀h',LV c b (p.sr m s) R h' k t ad->Qu h'):db (.ref (c 0)) 52 (λo h=>dY o (iv m) (iv s) Qu h) h:=cL V.cr rfl (λ_ _=>rfl) (aao V ht q)
theorem Nc.keep(hr:∀t,p'.r t=if p.r t=aa a then aa b' else p.r t)(h:(∀t,N t->p.r t≠aa a)\/(∀t,N t->p.r t≠aa b'))(n:Nc N p):Nc N p':=by
 intro t t' ht gb h1 h2;rw[hr] at h1;rw[hr,hr] at h2;refine n t t' ht gb (λz=>by rw[z] at h1;exact h1 rfl) ?_;by_cases q:p.r t=aa a <;> by_cases q':p.r t'=aa a
 ·rw[q,q']
 ·rw[if_pos q,if_neg q'] at h2;exact h.elim (λh=>absurd q (h t ht)) λh=>absurd h2.symm (h t' gb)
 ·rw[if_neg q,if_pos q'] at h2;exact h.elim (λh=>absurd q' (h t' gb)) λh=>absurd h2 (h t ht)
 ·rw[if_neg q,if_neg q'] at h2;exact h2
theorem Wf.same(f:Wf ts K C U0 N p)(e1:p'.r=p.r)(e2:p'.v=p.v)(e3:p'.up=p.up)(e4:p'.tb=p.tb)(e5:p'.l=p.l):Wf ts K C U0 N p':=by
 have s:∀t,sg ts p' t=sg ts p t:=tD e1;refine⟨e1▸f.adw,e1▸f.rr,λs hs=>?_,λs hs=>?_,λl o z=>?_,?_,λx y w z=>?_,λx y z=>?_⟩
 ·rw[PS.m,PS.u,e5,e1];exact f.mm s (e1▸hs)
 ·rw[e2,e1];exact f.vv s (e1▸hs)
 ·rw[s];exact f.tb l o (e4▸z)
 ·rw[e3,e1];exact f.path
 ·rw[e1];exact f.adK x y w (e3▸z)
 ·rw[s,s];exact f.adS x y (e3▸z)
theorem JR.aep(j:JR ts K C U0 N p p' a b' es qs)(cl:Option (List V))(lv:Nat):JR ts K C U0 N p {p' with cl:=cl,lv:=lv} a b' es qs:=
 {j with wf:=j.wf.same rfl rfl rfl rfl rfl,h:=j.h.same ⟨rfl,rfl,rfl,rfl,rfl⟩}
theorem Zj(ts:List Tm):∀(l:List Nat) (p:PS),(gN ts p l).r=p.r/\(gN ts p l).tr.length<=p.tr.length+l.length:=by
 intro l;induction l with
 |nil=>intro p;exact⟨rfl,bQ _⟩
 |cons t l ih=>
  intro p;refine aC (ih (mD p t (sg ts p t))) λa b=>?_;have:(mD p t (sg ts p t)).r=p.r/\(mD p t (sg ts p t)).tr.length<=p.tr.length+1:=by
   by_cases q:p.tb (sg ts p t)=aa t
   ·rw[BX q];exact⟨rfl,jD aT⟩
   ·rw[zp q];exact⟨rfl,gZ _⟩
  refine⟨a.trans this.1,aI b ?_⟩;rw[e_,dB l.length,<-hZ];exact fC this.2 _
theorem H6(Z:LV c b p R h k t ad)(hk:k<4)(e:p.l k t=aa [])(g:h.get n=aa (.list []))(q:∀h',CR c b p R h'->Q .none h'):qT ad (.ref n) Q h:=
 C3 (l':=[]) Z hk e g (by decide) (by decide) λh' C=>q h' (EG e▸C)
theorem WZ(e:p.v t=aa s):p.sv t s=p:=by show {p with v:=upd p.v t (aa s)}=p;rw[xU e]
theorem XD{p2:PS}{a d t vb:Nat}{ml ul d1:List Nat}:y7 p2 a d ml ul vb (d1++[t])=(y7 p2 a d ml ul vb d1).sr t d:=by
 have:(λt'=>if t'∈d1++[t] then aa d else p2.r t')=upd (λt'=>if t'∈d1 then aa d else p2.r t') t (aa d):=by
  funext t';delta upd;by_cases q:t'=t
  ·rw[if_pos (by rw[q];exact aX (.head _)),if_pos q]
  ·rw[if_neg q];exact mJ (by rw[bx,aZ];exact⟨λz=>z.resolve_right q,.inl⟩)
 show {p2 with tr:=_,r:=λt'=>if t'∈d1++[t] then aa d else p2.r t'}={p2 with tr:=_,r:=upd _ t (aa d)};rw[this];rfl
theorem VH{l r:Nat}{k:bE}(C0:CR c b p R h)(hb:∀q∈bd fT b ts,q∈R)(w:Wd ts K C U0)(f:Wf ts K C U0 N p)(hl:l∈K)(hr:r∈K)(qc:rt p l≠rt p r)(hk:k=ao->l∈C/\r∈C/\sg ts p l=sg ts p r)
  (jC:p.tr.length<100000) (lq:p.q.length<100000) (q:∀h' p' a b' es qs,CR c b p' R h'->Ab p l r a b'->JR ts K C U0 N p p' a b' es qs->Jc N p p'->Q .none h'):Cl 1047 [.ref (c 0),iv l,iv r,wv k] Q X h:=by
 have ha:=dS ((f.adw l).mpr hl);have kX:=dS ((f.adw r).mpr hr);refine e1a1 (f.cls w ha) λm1 M1=>?_;refine e1a1 (f.cls w kX) λm2 M2=>?_;refine ba (cL C0 rfl (λ_ _=>rfl) (iO C0 ha (C8 0 (by decide) C0 M1.e0 (cL C0 rfl (λ_ _=>rfl) (iO C0 kX (C8 0 (by decide) C0 M2.e0
  (Jg [15,138,139,141] (λa:Nat×Nat=>[.ref (c 0),iv a.1,iv a.2,wv k]) (λa h'=>CR c b p R h'/\(a=(l,r)\/a=(r,l))) (λz ξ h i=>?_)
   λ_ tail _=>dx (λ_=>tail (r,l) _ _ rfl ⟨C0,.inr rfl⟩) λ_=>tail (l,r) _ _ rfl ⟨C0,.inl rfl⟩)))))))
 have C0:=i.1;obtain ⟨hl,hr,qc,hk,d_⟩:z.1∈K/\z.2∈K/\rt p z.1≠rt p z.2/\(k=ao->z.1∈C/\z.2∈C/\sg ts p z.1=sg ts p z.2)/\Ab p l r (rt p z.1) (rt p z.2):=by
  rcases i.2 with rfl|rfl
  ·exact⟨hl,hr,qc,hk,.inl ⟨rfl,rfl⟩⟩
  ·exact⟨hr,hl,eJ qc,λe=>⟨(hk e).2.1,(hk e).1,(hk e).2.2.symm⟩,.inr ⟨rfl,rfl⟩⟩
 clear ha kX M1 M2 i;have ha:=dS ((f.adw z.1).mpr hl);have kX:=dS ((f.adw z.2).mpr hr);generalize rt p z.1=a at ha qc d_;generalize rt p z.2=d at kX qc d_;refine e1a1 (f.cls w ha) λms M=>?_;refine e1a1 (f.cls w kX) λml L=>?_;refine e1a3 (f.vv a (f.rr _ _ ha)) λva v1 v2 v3=>?_;refine e1a3 (f.vv d (f.rr _ _ kX)) λvb u1 u2 u3=>?_;refine e1a1 f.path λT hT=>?_;refine e1a1 (hT z.1 a ha) λch F8=>?_;refine be (yX w f hl F8) λc1 c2 c3=>?_;refine e2a3 (Z7 w f ha kX qc hk F8 M L v1 u1) λes qs j jc jl=>?_;have m8:∀t∈ms.flatMap U0,t∈C:=λt ht=>by refine e1a2 (gI.mp ht) λx _ q=>?_;exact w.u2 x t q
 have wN:∀t∈ms.flatMap U0,t<18:=λt ht=>(w.lt t (w.sub t (m8 t ht))).1;unfold jn at j jc jl;generalize hus:ms.flatMap U0=us at j jc jl m8 wN;have uk:us.length<=180:=hus▸M.u;have Mu:p.l 1 a=aa us:=hus▸M.e1;generalize hul:ml.flatMap U0=ul at j jc jl;have Lu:p.l 1 d=aa ul:=hul▸L.e1;refine iO C0 ha (iO C0 kX (cS C0 (λ_ _=>rfl) rfl (Ug C0 F8 c3 c2 (w.lt _ hl).1 (bY jC (by decide)) λh C0=>
  jT 1 (by decide) C0 Mu λad Z=>Ez (Z.g (by decide) Mu) ?_ (cZ C0 λam h C0=>bT (C0.ix 0 rfl) (cb [15,148,144,149] rfl rfl (λdone h=>CR c b (gN ts (nO p z.1 z.2 k ch (T a)) done) ((am,.list (us.map iv))::R) h) (λ_ _ C=>bM (C.ix 0 rfl)) C0 ?_ λξ h C0=>?_)))))
 ·rw[aP];exact aR uk (by decide)
 ·intro d1 t r1 e1 ξ h C1 J hJ;have m9:=m8 t (by rw[e1];exact aX (.head _));refine aC (Zj ts d1 (nO p z.1 z.2 k ch (T a))) λadE tr2=>?_;refine cS C1 (λ_ _=>rfl) rfl (ZO C1 (λq hq=>.tail _ (hb q hq)) (w.tm t m9) (w.cd t m9) (λx hx=>by rw[adE];exact(f.adw x).mpr ((w.ar t m9).2 x hx)) (aR (w.ar t m9).1 (by decide)) (aR tr2 ?_) λh C1=>hJ _ _ (by rw[Y8];exact C1));have ld:d1.length<=us.length:=by rw[e1,aT];exact b_ _ _
  rw[show(nO p z.1 z.2 k ch (T a)).tr.length=p.tr.length+1 from aT];exact aR (dF (dw (bP jC)) (aI ld uk)) (by decide)
 refine e2a4 (JB ts us (nO p z.1 z.2 k ch (T a)) wN (λl o z=>(f.tb l o z).2)) λOa z8 t1 t2 t3 _=>?_;generalize gN ts (nO p z.1 z.2 k ch (T a)) us=p2 at t1 C0 j jc jl;have F6:p2.r=p.r:=by rw[t1];rfl
 have iC:p2.l=p.l:=by rw[t1];rfl
 have wO:p2.v=p.v:=by rw[t1];rfl
 have l2:p2.tr.length<=p.tr.length+1+180:=by rw[t1];show((p.tr++[_])++z8).length<=_;rw[aT,aT];exact ds (aI t2 uk) _
 have msK:∀t∈ms,t<18:=λt ht=>(w.lt t (M.K t ht)).1;have lt:∀{n:Nat},n<=300->n<aG:=λh=>aR h (by decide);have La:p2.l 0 a=aa ms:=by rw[iC];exact M.e0
 have L0:p2.l 0 d=aa ml:=by rw[iC];exact L.e0
 have L1:p2.l 1 d=aa ul:=by rw[iC];exact Lu
 have L2:p2.l 2 d=aa []:=by rw[iC];exact L.e2
 have L3:p2.l 3 d=aa []:=by rw[iC];exact L.e3
 have Vd:p2.v d=aa vb:=by rw[wO];exact u1
 refine cL C0 rfl (λ_ _=>rfl) (C0.ktr rfl (cS C0 (λ_ _=>rfl) rfl (Ws C0 (t:=d) L0 L1 L2 L3 (CZ C0 Vd (Ki C0 (aR l2 (aR (fC (dw (bP jC)) 180) (by decide))) λh C0=>
  jT 0 (by decide) C0 La λad Z=>bT (Z.g (by decide) La) (cb [15,148,144,149] rfl rfl
   (λdone h=>LV c b (y7 p2 a d ml ul vb done) ((am,.list (us.map iv))::R) h 0 a ad)
   (λ_ _ Z=>bM (Z.g (by decide) La)) Z ?_ λξ h Z=>?_))))))
 ·intro d1 t r1 e1 ξ h Z J hJ;refine H4 Z (msK t (by rw[e1];exact aX (.head _))) λh Z=>hJ _ _ ?_;rw[XD];exact Z
 have C0:=Z.cr;clear Z;have d18:d<18:=(w.lt d ((f.adw d).mp (by rw[f.rr _ _ kX];exact gH _))).1;have Og:p2.l 1 a=aa us:=by rw[iC];exact Mu
 have F9:p2.l 2 a=aa []:=by rw[iC];exact M.e2
 have Oh:p2.l 3 a=aa []:=by rw[iC];exact M.e3
 have Va:p2.v a=aa va:=by rw[wO];exact v1
 refine jT 0 (by decide) C0 L0 λF_ Z1=>Z1.kd (by decide) L0 rfl (jT 0 (by decide) C0 La λGa Z2=>C3 Z1 (by decide) L0 (Z2.g (by decide) La) (lt (aI L.n (by decide))) (lt (aI M.n (by decide))) λh C0=>
  jT 1 (by decide) C0 L1 λF_ Z1=>Z1.kd (by decide) L1 rfl (jT 1 (by decide) C0 Og λGa Z2=>C3 Z1 (by decide) L1 (Z2.g (by decide) Og) (lt (aI (hul▸L.u) (by decide))) (lt (aI uk (by decide))) λh C0=>
  jT 2 (by decide) C0 L2 λF_ Z1=>Z1.kd (by decide) L2 rfl (jT 2 (by decide) C0 F9 λGa Z2=>H6 Z1 (by decide) L2 (Z2.g (by decide) F9) λh C0=>
  jT 3 (by decide) C0 L3 λF_ Z1=>Z1.kd (by decide) L3 rfl (jT 3 (by decide) C0 Oh λGa Z2=>H6 Z1 (by decide) L3 (Z2.g (by decide) Oh) λh C0=>?_))))
 have C0:CR c b (vq p2 a d ms us ml ul vb) ((am,.list (us.map iv))::R) h:=C0;have p3v:vb≠0->kI p2 a d ms us ml ul va vb=vq p2 a d ms us ml ul vb:=λh=>by delta kI;rw[if_neg h];exact WZ Vd
 refine CZ C0 Va (CZ C0 Vd (ff (b:=0) (Jg [15,148,144,149,104,105] (λ_:Unit=>[.ref (c 0),iv a,iv d,.ref am,iv va,iv vb]) (λ_ h'=>CR c b (kI p2 a d ms us ml ul va vb) ((am,.list (us.map iv))::R) h') (λ_ ξ h C0=>?_)
  λ_ tail _=>dx (λz=>ze C0 d18 λh C0=>tail () _ _ rfl (by delta kI;rw[if_pos z];exact C0)) λz=>tail () _ _ rfl (by rw[p3v z];exact C0))))
 generalize hp3:kI p2 a d ms us ml ul va vb=p3 at C0 j jc jl;refine e3a1 (C7 ts us p3) λOc z9 qs4 Z=>?_;have Oi:∀l o,p3.tb l=aa o->o∈C/\o∉us:=λl o z=>by
  have z:p2.tb l=aa o:=by rw[<-hp3] at z;exact z
  rw[t1] at z;refine aC ((t3 l o).mp z) λz1 z2=>?_;exact⟨(f.tb l o z1).1,z2⟩
 have l3:p3.tr.length<=p.tr.length+182/\p3.q.length=p.q.length:=by rw[<-hp3];refine⟨?_,by show p2.q.length=_;rw[t1];rfl⟩;show(p2.tr++_).length<=_;rw[aT];exact dw l2
 have r3:∀x∈K,p3.r x≠ao:=λx hx=>by rw[show p3.r=(gW ts p3 us).r by rw[Z.e]];exact(j.wf.adw x).mpr hx
 refine bT (C0.ix 0 rfl) (cb [15,148,144,104,105] rfl rfl (λdone h=>CR c b (gW ts p3 done) ((am,.list (us.map iv))::R) h) (λ_ _ C=>bM (C.ix 0 rfl)) C0 ?_ λξ h C0=>?_)
 ·intro d1 t r1 e1 ξ h C1 J hJ;have Gb:t∈us:=by rw[e1];exact aX (.head _)
  have m9:=m8 t Gb;refine e3a1 (C7 ts d1 p3) λOj es5 qs5 Y=>?_;have er:(gW ts p3 d1).r=p3.r:=by rw[Y.e]
  have ui:(gW ts p3 d1).tb=Oj:=by rw[Y.e]
  have ld:d1.length<=us.length:=by rw[e1,aT];exact b_ _ _
  have dC:∀l o,Oj l=aa o->o∈C:=λl o z=>(Y.n l o z).elim (λz=>(Oi l o z).1) λz=>m8 o (by rw[e1];exact b8 z.1);refine cS C1 (λ_ _=>rfl) rfl (K9 C1 (λq hq=>.tail _ (hb q hq)) (w.tm t m9) (w.cd t m9) (λx hx=>by rw[er];exact r3 x ((w.ar t m9).2 x hx)) (aR (w.ar t m9).1 (by decide)) (wN t Gb) (by rw[er];exact r3 t (w.sub t m9)) (λl o z=>by rw[er];exact r3 o (w.sub o (dC l o (ui▸z)))) (λz l z'=>?_) ?_ ?_ λh C1=>hJ _ _ (by rw[U'];exact C1))
  ·rcases Y.n l t (ui▸z') with z'|⟨_,z2⟩
   ·exact(Oi l t z').2 Gb
   ·rw[z2,show sg ts p3 t=sg ts (gW ts p3 d1) t from(tD er t).symm] at z';exact absurd (z.symm.trans z') (by exact λz=>nomatch z)
  ·rw[Y.e];show(p3.tr++es5).length <_;rw[aT];exact aR (dF (aI l3.1 (fC (bP jC) 182)) (aI Y.l1 (aI ld uk))) (by decide)
  ·rw[Y.e];show(p3.q++qs5).length <_;rw[aT];exact aR (dF (aI (jD l3.2) (bP lq)) (aI Y.l2 (aI ld uk))) (by decide)
 have qb:(gW ts p3 us).l=p3.l:=by rw[Z.e]
 have P2:(gW ts p3 us).l 2 a=aa []:=by rw[qb,<-hp3];exact F9
 have P3:(gW ts p3 us).l 3 d=aa []:=by rw[qb,<-hp3];exact L3
 generalize gW ts p3 us=p4 at C0 j jc jl P2 P3;have quiet:va=0\/vb=0->Jc N p p4:=λhv=>.inl ⟨jc,jl,Nc.keep j.r (hv.imp (λhv t ht z=>v3 t ht z hv) λhv t ht z=>u3 t ht z hv)⟩;have Ol:∀{Q':PV} {X':Hp->Prop},Q' .none h->Cl 1051 [.ref (c 0),iv a] Q' X' h:=λq=>VU C0 P2 q;have done:va=0\/vb=0->∀{X':Hp->Prop} {Q':PV},(Q .none h->Q' .none h)->Cl 1061 [.ref (c 0),iv d] Q' X' h:=λhv {X' Q'} k=>TJ C0 P3 (k (q _ _ _ _ _ _ C0.drop d_ j (quiet hv)));refine jo (ij (λh1=>jo (ij (λh2=>?_) λh2=>cS C0 (λ_ _=>rfl) rfl (Ol (cS C0 (λ_ _=>rfl) rfl (done (.inr h2) λz=>z))))) λh1=>pq h1 (cS C0 (λ_ _=>rfl) rfl (Ol (cS C0 (λ_ _=>rfl) rfl (done (.inl h1) λz=>z)))));refine aC (v2 h1) λi1 i2=>?_;refine aC (u2 h2) λi3 i4=>?_;have Aa:p4.r va=aa d:=by rw[j.r,if_pos i1]
 have Om:p4.r vb=aa d:=by rw[j.r,i3,if_neg (λz=>qc (cP z).symm)]
 refine cS C0 (λ_ _=>rfl) rfl (UR C0 (λq hq=>.tail _ (hb q hq)) (j.wf.aeo w) (by rw[Aa];exact gH _) (Aa.trans Om.symm) λh ad xs C0 lx=>cS C0 (λ_ _=>rfl) rfl (TC C0 lx λh C0=>q _ _ _ _ _ _ C0.drop d_ (j.aep _ _) (.inr ⟨gH _,congrArg _ j.ms,va,vb,λe=>qc (cP (i1.symm.trans (e▸i3))),i2,i4,Aa.trans Om.symm,by show p4.r va≠ao;rw[Aa];exact gH _⟩)))
end
structure Iz(ts:List Tm)(C:List Nat)(E:Nat->Nat->Prop):Prop where
 aed:∀a,E a a
 sym:∀a b,E a b->E b a
 tr:∀a b c,E a b->E b c->E a c
 cg:∀s t,s∈C->t∈C->hd (aF ts s)=hd (aF ts t)->(aF ts s).args.length=(aF ts t).args.length->(∀q∈(aF ts s).args.zip (aF ts t).args,E q.1 q.2)->E s t
def Cg(ts:List Tm)(C:List Nat)(M:List (Nat×Nat))(a b:Nat):Prop:=∀E,Iz ts C E->(∀q∈M,E q.1 q.2)->E a b
structure Kl(ts:List Tm)(K C:List Nat)(U0:Nat->List Nat)(N:Nat->Prop)(M:List (Nat×Nat))(Pn:List (Nat×Nat×bE))(p:PS):Prop where
 wf:Wf ts K C U0 N p
 snd:∀a b,p.r a≠ao->p.r a=p.r b->Cg ts C M a b
 pn:∀e∈Pn,e.1∈K/\e.2.1∈K/\Cg ts C M e.1 e.2.1/\(e.2.2=ao->e.1∈C/\e.2.1∈C/\sg ts p e.1=sg ts p e.2.1)
 ad4:∀t∈C,yS ts p Pn t
 mg:∀q∈M,p.r q.1=p.r q.2\/∃k,(q.1,q.2,k)∈Pn
theorem Cg.adT(ts:List Tm)(C:List Nat)(M:List (Nat×Nat)):Iz ts C (Cg ts C M):=
 ⟨λa E h _=>h.aed a,λa b x E h k=>h.sym a b (x E h k),λa b c x y E h k=>h.tr a b c (x E h k) (y E h k),λs t hs ht e1 e2 z E h k=>h.cg s t hs ht e1 e2 λq hq=>z q hq E h k⟩
theorem KK(p:PS):∀{l l':List Nat},l.length=l'.length->(∀q∈l.zip l',rt p q.1=rt p q.2)->l.map (rt p)=l'.map (rt p):=by
 intro l;induction l with
 |nil=>
  intro z20';cases z20' with
  |nil=>intro _ _;exact rfl
  |cons _ _=>intro h _;exact by cases h
 |cons a l ih=>
  intro z21';cases z21' with
  |nil=>intro h _;exact by cases h
  |cons b l'=>intro h k;exact by rw[bW,bW,k (a,b) (.head _),ih (by simpa using h) λq hq=>k q (.tail _ hq)]
theorem VA(w:Wd ts K C U0)(f:Wf ts K C U0 N p)(hs:∀a b,p.r a≠ao->p.r a=p.r b->Cg ts C M a b)(h1:s∈C)(h2:t∈C)(e:sg ts p s=sg ts p t):Cg ts C M s t:=by
 delta sg f8 at e;injection e with e1 e2
 have k1:∀a∈(aF ts s).args,p.r a≠ao:=λa ha=>(f.adw a).mpr ((w.ar s h1).2 a ha);have k2:∀a∈(aF ts t).args,p.r a≠ao:=λa ha=>(f.adw a).mpr ((w.ar t h2).2 a ha);exact(Cg.adT ts C M).cg s t h1 h2 e1 (by have:=congrArg o_ e2;simpa using this) λq hq=>by refine aC (Le p e2 k1 k2 q hq) λz1 z2=>?_;exact hs _ _ z1 z2
theorem Kl.skip(w:Wd ts K C U0)(x:Kl ts K C U0 N M ((l,r,k)::Pn) p)(e:rt p l=rt p r):Kl ts K C U0 N M Pn p:=by
 obtain ⟨a1,a2,a3,a4,a5⟩:=x;refine be (a3 _ (.head _)) λb1 b2 _=>?_;have er:p.r l=p.r r:=by rw[dS ((a1.adw l).mpr b1),dS ((a1.adw r).mpr b2),e]
 refine⟨a1,a2,λe he=>a3 e (.tail _ he),λt ht=>?_,λq hq=>?_⟩
 ·refine e1a2 (a4 t ht) λo c1 c2=>?_;refine⟨o,c1,?_⟩;rcases c2 with c2|c2
  ·exact .inl c2
  ·rcases a_.mp c2 with c2|c2
   ·injection c2 with c2 c3;injection c3 with c3 c4;subst c2 c3;exact .inl e
   ·exact .inr c2
 ·rcases a5 q hq with c|⟨k',c⟩
  ·exact .inl c
  ·rcases a_.mp c with c|c
   ·injection c with c2 c3;injection c3 with c3 c4;left;rw[c2,c3];exact er
   ·exact .inr ⟨k',c⟩
theorem Kl.join(w:Wd ts K C U0)(x:Kl ts K C U0 N M ((l,r,k)::Pn) p)(d_:Ab p l r a b)(j:JR ts K C U0 N p p' a b es qs):Kl ts K C U0 N M (Pn++qs) p':=by
 have f:=x.wf;refine f9 (x.pn _ (.head _)) λb1 b2 b3 _=>?_;have hr:=j.r;have el:=dS ((f.adw l).mpr b1);have er:=dS ((f.adw r).mpr b2);have ne:∀{x y:Nat},p.r x=aa y->p.r x≠ao:=λe=>by rw[e];exact gH _
 have I:=Cg.adT ts C M;have On:∀x y,p.r x=aa a->p.r y=aa b->Cg ts C M x y:=λu v hu hv=>by
  rcases d_ with ⟨rfl,rfl⟩|⟨rfl,rfl⟩
  ·exact I.tr _ _ _ (x.snd u l (ne hu) (hu.trans el.symm)) (I.tr _ _ _ b3 (x.snd r v (ne er) (er.trans hv.symm)))
  ·exact I.tr _ _ _ (x.snd u r (ne hu) (hu.trans er.symm)) (I.tr _ _ _ (I.sym _ _ b3) (x.snd l v (ne el) (el.trans hv.symm)))
 have Oo:∀x y,p'.r x≠ao->p'.r x=p'.r y->Cg ts C M x y:=λu v hu rO=>by
  rw[hr] at hu;rw[hr,hr] at rO;by_cases q:p.r u=aa a <;> by_cases q':p.r v=aa a
  ·exact x.snd u v (ne q) (q.trans q'.symm)
  ·rw[if_pos q,if_neg q'] at rO;exact On u v q rO.symm
  ·rw[if_neg q,if_pos q'] at rO;exact I.sym _ _ (On v u q' rO)
  ·rw[if_neg q] at hu;rw[if_neg q,if_neg q'] at rO;exact x.snd u v hu rO
 have lr:p'.r l=p'.r r:=by
  rw[hr,hr,el,er];rcases d_ with ⟨rfl,rfl⟩|⟨rfl,rfl⟩
  ·rw[if_pos rfl];split <;> rfl
  ·by_cases q:rt p l=rt p r
   ·rw[q]
   ·rw[if_neg λz=>q (cP z),if_pos rfl]
 have abl:∀x y,p.r x=p.r y->p'.r x=p'.r y:=λx y e=>by rw[hr,hr,e]
 have uj:∀x∈K,rt p' x=(if rt p x=a then b else rt p x):=λu hu=>by
  have:=dS ((f.adw u).mpr hu);show(p'.r u).getD 0=_;rw[hr,this];by_cases q:rt p u=a
  ·rw[if_pos (by rw[q]),if_pos q];rfl
  ·rw[if_neg λz=>q (cP z),if_neg q];rfl
 refine⟨j.wf,Oo,λe he=>?_,λt ht=>?_,λq hq=>?_⟩
 ·rcases bx.mp he with he|he
  ·refine f9 (x.pn e (.tail _ he)) λc1 c2 c3 c4=>?_;exact⟨c1,c2,c3,λz=>by refine be (c4 z) λd1 d2 d3=>?_;exact⟨d1,d2,Jz (g:=λx=>if x=a then b else x) w d1 d2 uj d3⟩⟩
  ·(refine e2a4 (j.k e he) λt o dA c1 c2 c3=>?_;cases dA)
   exact⟨w.sub t c1,w.sub o c2,VA w j.wf Oo c1 c2 c3,λ_=>⟨c1,c2,c3⟩⟩
 ·refine e1a2 (j.ad4 _ x.ad4 t ht) λo c1 c2=>?_;refine⟨o,c1,?_⟩;rcases c2 with c2|c2
  ·exact .inl c2
  ·rcases a_.mp c2 with c2|c2
   ·injection c2 with c2 c3;injection c3 with c3 c4;left;delta rt;rw[c2,c3,lr]
   ·exact .inr c2
 ·rcases x.mg q hq with c|⟨k',c⟩
  ·exact .inl (abl _ _ c)
  ·rcases a_.mp c with c|c
   ·injection c with c2 c3;injection c3 with c3 c4;left;rw[c2,c3];exact lr
   ·exact .inr ⟨k',b8 c⟩
theorem Kl.full(w:Wd ts K C U0)(x:Kl ts K C U0 N M [] p)(ha:a∈K)(hb:b∈K):p.r a=p.r b↔Cg ts C M a b:=by
 obtain ⟨a1,a2,a3,a4,a5⟩:=x;refine⟨a2 a b ((a1.adw a).mpr ha),λz=>?_⟩;refine z (λx y=>p.r x=p.r y) ⟨λ_=>rfl,λ_ _ e=>e.symm,λ_ _ _ e e'=>e.trans e',λs t hs ht e1 e2 e3=>?_⟩ λq hq=>(a5 q hq).elim id λyy=>e1a1 yy λ_ z=>by exact zE z
 have e4:sg ts p s=sg ts p t:=by delta sg f8;rw[e1,KK p e2 λq hq=>by delta rt;rw[e3 q hq]]
 refine e1a2 (a4 s hs) λo c1 c2=>?_;refine e1a2 (a4 t ht) λo' d1 d2=>?_;rw[e4,d1] at c1;injection c1 with c1;subst c1
 have k1:=dS ((a1.adw s).mpr (w.sub s hs));have k2:=dS ((a1.adw t).mpr (w.sub t ht));rcases c2 with c2|c2
 ·rcases d2 with d2|d2
  ·rw[k1,k2,c2,d2]
  ·exact zE d2
 ·exact zE c2
structure CE(ts:List Tm)(K C:List Nat)(U0:Nat->List Nat)(N:Nat->Prop)(M:List (Nat×Nat))(p p':PS):Prop where
 wf:Wf ts K C U0 N p'
 q:p'.q=[]
 ms:p'.ms=p.ms
 ext:∃es,p'.tr=p.tr++es/\dZ es p p'
 tl:p'.tr.length+362*fO K p'<=p.tr.length+362*fO K p
 cl:(p'.cl=ao/\Kl ts K C U0 N M [] p'/\Nc N p')\/(p'.cl≠ao/\p'.lv=p.ms.length/\∃t t',t≠t'/\N t/\N t'/\Cg ts C M t t')
structure CI(ts:List Tm)(K C:List Nat)(U0:Nat->List Nat)(N:Nat->Prop)(M:List (Nat×Nat))(p:PS)(c b:Nat->Nat)(R:aM)(a:PS×Nat×List (Nat×Nat×bE))(h:Hp):Prop where
 cr:CR c b a.1 R h
 e:∃d,a.1.q=d++a.2.2/\d.length=a.2.1
 wf:Wf ts K C U0 N a.1
 ms:a.1.ms=p.ms
 ext:∃es,a.1.tr=p.tr++es/\dZ es p a.1
 tl:a.1.tr.length+362*fO K a.1<=p.tr.length+362*fO K p
 ql:a.1.q.length+180*fO K a.1<=p.q.length+180*fO K p
 cl:(a.1.cl=ao/\Kl ts K C U0 N M a.2.2 a.1/\Nc N a.1)\/(a.1.cl≠ao/\a.1.lv=p.ms.length/\∃t t',t≠t'/\N t/\N t'/\Cg ts C M t t')
theorem Kl.q0(f:Kl ts K C U0 N M Pn p)(q:List (Nat×Nat×bE)):Kl ts K C U0 N M Pn {p with q:=q}:=⟨f.wf.same rfl rfl rfl rfl rfl,f.snd,f.pn,f.ad4,f.mg⟩
theorem CI.fin(i:CI ts K C U0 N M p c b R (p1,n,bO) h)(hr:p1.cl=ao->bO=[]):CE ts K C U0 N M p {p1 with q:=[]}:=
 ⟨i.wf.same rfl rfl rfl rfl rfl,rfl,i.ms,e1a2 i.ext λes e1 e2=>⟨es,e1,e2.same ⟨rfl,rfl,rfl,rfl,rfl⟩⟩,i.tl,i.cl.imp_left λq=>⟨q.1,(hr q.1▸q.2.1).q0 [],q.2.2⟩⟩
theorem CI.next(w:Wd ts K C U0)(i:CI ts K C U0 N M p c b R (p1,n,(l,r,k)::bO) h)(C':CR c b p2 R h')(c1:p1.cl=ao)(c2:Kl ts K C U0 N M ((l,r,k)::bO) p1)(c3:Nc N p1)(d_:Ab p1 l r a d)(j:JR ts K C U0 N p1 p2 a d es qs)(jc:Jc N p1 p2):CI ts K C U0 N M p c b R (p2,n+1,bO++qs) h':=by
 have hC:=c2.join w d_ j;have jn:=j.n;have jl:=j.le;have jq:=j.lq;have it:=i.tl;have iq:=i.ql;refine⟨C',?_,j.wf,j.ms.trans i.ms,?_,?_,?_,?_⟩
 ·refine e1a2 i.e λd e1 e2=>?_;exact⟨d++[(l,r,k)],by rw[j.q,e1,bt,bt];rfl,by rw[aT,e2];rfl⟩
 ·refine e1a2 i.ext λe e1 e2=>?_;exact⟨e++es,by rw[j.tr,e1,bt],e2.app j.h⟩
 ·show p2.tr.length+_<=_;rw[j.tr,aT];exact KZ jn jl it
 ·show p2.q.length+_<=_;rw[j.q,aT];exact KZ jn jq iq
 ·rcases jc with ⟨d1,_,d2⟩|⟨d1,d2,t,t',d3,d4,d5,d6,d7⟩
  ·exact .inl ⟨d1.trans c1,hC,d2 c3⟩
  ·exact .inr ⟨d1,d2.trans (congrArg _ i.ms),t,t',d3,d4,d5,hC.snd t t' d7 d6⟩
theorem Sy(C0:CR c b p R h)(hb:∀q∈bd fT b ts,q∈R)(w:Wd ts K C U0)(f:Kl ts K C U0 N M p.q p)(hn:Nc N p)(oq:p.cl=ao)(jC:p.tr.length+362*fO K p<100000)(lq:p.q.length+180*fO K p<100000)
  (q:∀h' p',CR c b p' R h'->CE ts K C U0 N M p p'->Q .none h'):Cl 1046 [.ref (c 0)] Q X h:=by
 refine ba (mM [15] rfl rfl [137] (λa:PS×Nat×List (Nat×Nat×bE)=>[iv a.2.1]) (CI ts K C U0 N M p c b R) (λa=>181*fO K a.1+a.2.2.length) (p,0,p.q) rfl
  ⟨C0,⟨[],rfl,rfl⟩,f.wf,rfl,⟨[],(cq _).symm,.nil (fg.refl p)⟩,bQ _,bQ _,.inl ⟨oq,f,hn⟩⟩ λa ξ h i J hJ=>?_)
 obtain ⟨p1,n,bO⟩:=a;refine e1a2 i.e λdn e1 e2=>?_;have e1:p1.q=dn++bO:=e1;have e2:dn.length=n:=e2;have Oq:(p1.q.map qv).length=n+bO.length:=by rw[aP,e1,aT,e2]
 have fin:∀{h},CR c b p1 R h->(p1.cl=ao->bO=[])->∀n' h',CR c b p1 ((n',.list [])::R) h'->lY (.ref (c 0)) 112 (.ref n') (λh=>Q .none h) h':=λC hr n' h' C'=>EO C' λh C=>q h _ C (i.fin hr);cases bO with
 |nil=>refine tF i.cr λn' g _=>mR g Oq (lO (by show ¬((n:Int)<((n+0:Nat):Int));exact HE _) (lO (by exact HE _) (cZ i.cr (fin i.cr λ_=>rfl))))
 |cons e bO=>
  obtain ⟨l,r,k⟩:=e;refine tF i.cr λn' g _=>mR g Oq (mK (gC.mpr (qf (gw _))) (zd i.cr ⟨λc1=>?_,λn1 xs c1 _ _=>cZ i.cr (fin i.cr λz=>by exact zB (c1.symm.trans z))⟩));refine be (i.cl.resolve_right λz=>z.1 c1) λ_ c2 c3=>?_;refine f9 (c2.pn _ (.head _)) λb1 b2 b3 b4=>?_;have r1:=dS ((i.wf.adw l).mpr b1);have r2:=dS ((i.wf.adw r).mpr b2);have it:=i.tl;have iq:=i.ql;refine tF i.cr λn' g _=>cz (v:=qv (l,r,k)) g (lQ ?_) (iO i.cr r1 (iO i.cr r2 (jo (ij (λy=>cS i.cr (λ_ _=>rfl) rfl (VH i.cr hb w i.wf b1 b2 y b4 ?_ ?_ λh p2 a d es qs C d_ j jc=>hJ (p2,n+1,bO++qs) _ _ ?_ rfl (i.next w C c1 c2 c3 d_ j jc)))
   λy=>hJ (p1,n+1,bO) _ _ (jY _) rfl ⟨i.cr,⟨dn++[(l,r,k)],by rw[bt];exact e1,by rw[aT,e2];rfl⟩,i.wf,i.ms,i.ext,i.tl,i.ql,.inl ⟨c1,c2.skip w y,c3⟩⟩))))
  ·rw[qq,e1,nA (jD e2),e2,qx];rfl
  ·exact aR (aI (b_ _ _) it) jC
  ·exact aR (aI (b_ _ _) iq) lq
  ·show 181*fO K p2+(bO++qs).length <181*fO K p1+(bO.length+1);rw[aT];exact WM j.n j.lq
section
variable {c b:Nat->Nat}{t n:Nat}{ts:List Tm}{K C:List Nat}{U0:Nat->List Nat}{N:Nat->Prop}{M:List (Nat×Nat)}{p:PS}{h:Hp}{Q:PV}{Qt:Bool->Hp->Prop}{X:Hp->Prop}{R:aM}
theorem Uj(e:p.q=[]):{p with q:=[]}=p:=by rw[<-e]
theorem uR(C:CR c b p R h)(e:p.r t≠ao)(q:Qt au h):bZ .notin (iv t) (.ref (c 52)) Qt h:=MF C (by rw[Option.isSome_iff_ne_none.mpr e];exact q)
theorem Bs(C:CR c b p R h)(hq:p.q=[])(q:∀h',CR c b p R h'->Q .none h'):Cl 1046 [.ref (c 0)] Q X h:=
 ba (mM [15] rfl rfl [137] (λ_:Unit=>[iv 0]) (λ_ h=>CR c b p R h) (λ_=>0) () rfl C λ_ ξ h C J hJ=>tF C λn g _=>mR (k:=0) (xs:=p.q.map qv) g (by rw[hq];rfl) (cZ C λn h C=>EO C λh C=>q h (Uj hq▸C)))
theorem LK(C:CR c b p R h)(ht:p.r t≠ao)(hq:p.q=[])(q:∀h',CR c b p R h'->Q .none h'):Cl 1041 [.ref (c 0),iv t] Q X h:=
 ba (cZ C λas h C=>mM [15,53] rfl rfl [] (λ_=>[]) (λa h=>CR c b p ((as,.list (bif a then [iv t] else []))::R) h) Bool.toNat ah rfl C λa ξ h=>by
  cases a
  ·exact λC J hJ=>eO (C.ix 0 rfl) (cS C (λ_ _=>rfl) rfl (Bs C.drop hq q))
  ·exact λC J hJ=>eO (C.ix 0 rfl) (cz (v:=iv t) (C.ix 0 rfl) rfl (cZ C λam h C=>cL C rfl (λ_ _=>rfl) (uR C ht (eO (C.ix 0 rfl) (C.kl [_] rfl (xA (xs:=[]) [_] C λh C=>
    cL C rfl (λ_ _=>rfl) (uR C ht (hJ au _ _ Nat.zero_lt_one rfl C.drop)))))))))
theorem Cg.mono{M':List (Nat×Nat)}(hm:∀q∈M,q∈M'){x y:Nat}(z:Cg ts C M x y):Cg ts C M' x y:=λE h k=>z E h λq hq=>k q (hm q hq)
theorem Kl.add(f:Kl ts K C U0 N M [] p)(q0:p.q=[]){x y:Nat}(k:Nat)(hx:x∈K)(hy:y∈K):Kl ts K C U0 N (M++[(x,y)]) (p.q++[(x,y,aa k)]) {p with q:=p.q++[(x,y,aa k)]}:=
 ⟨f.wf.same rfl rfl rfl rfl rfl,λu v h1 h2=>(f.snd u v h1 h2).mono λq hq=>b8 hq,λe he=>by
  rw[q0] at he;rw[aZ.mp he];exact⟨hx,hy,λE h k=>k (x,y) (aX (.head _)),λz=>nomatch z⟩,λt ht=>
  e1a2 (f.ad4 t ht) λo c1 c2=>⟨o,c1,c2.imp id λz=>nomatch z⟩,λq h=>(bx.mp h).elim (λhq=>.inl ((f.mg q hq).elim id λyy=>e1a1 yy λ_ z=>nomatch z)) λhq=>.inr ⟨aa k,by rw[aZ.mp hq];exact aX (.head _)⟩⟩
theorem RH{s t k:Nat}(C0:CR c b p R h)(hb:∀q∈bd fT b ts,q∈R)(w:Wd ts K C U0)(f:Kl ts K C U0 N M [] p)(hn:Nc N p)(oq:p.cl=ao)(hq:p.q=[])(hx:s∈K)(hy:t∈K)(jC:p.tr.length+362*fO K p<100000)(ln:fO K p<100)
  (q:∀h' p',CR c b p' R h'->CE ts K C U0 N (M++[(s,t)]) p p'->Q .none h'):Cl 1045 [.ref (c 0),iv s,iv t,iv k] Q X h:=by
 have hA:=f.add hq k hx hy;have l1:(p.q++[(s,t,aa k)]).length+180*fO K p<100000:=by rw[hq];exact aR (ds (h_ 180 (bP ln)) 1) (by decide)
 have ro:=(f.wf.adw s).mpr hx;have rt:=(f.wf.adw t).mpr hy;refine ba (cS C0 (λ_ _=>rfl) rfl (LK C0 ro hq λh C=>cS C (λ_ _=>rfl) rfl (LK C rt hq λh C=>
  tF C λn g g'=>cN g rfl (g' (s,t,aa k) (by rw[hq];decide) _ λh C=>cS C (λ_ _=>rfl) rfl (Sy C hb w hA hn oq jC l1 λh p' C j=>q h p' C ?_)))))
 refine e1a2 j.ext λes j1 j2=>?_;exact⟨j.wf,j.q,j.ms,⟨es,j1,dZ.app (es:=[]) (q:={p with q:=p.q++[(s,t,aa k)]}) (.nil ⟨rfl,rfl,rfl,rfl,rfl⟩) j2⟩,j.tl,j.cl⟩
end
def SM(p p':PS):Prop:=p'.q=p.q/\p'.tr=p.tr/\p'.ms=p.ms/\p'.cl=p.cl/\p'.lv=p.lv
theorem zh{α β:Type}[DecidableEq α]{f:α->β}{k:α}{a v:β}(e:f k=v):upd (upd f k a) k v=f:=by
 funext z;delta upd;by_cases q:z=k
 ·rw[if_pos q,q,e]
 ·rw[if_neg q,if_neg q]
noncomputable def yz(p:PS)(d:List Nat)(s:Nat):PS:={p with r:=λt=>if t∈d then aa s else p.r t}
section
variable {c b:Nat->Nat}{t n k s ad:Nat}{p p':PS}{h:Hp}{Q:PV}{Qu X:Hp->Prop}{R:aM}{l l':List Nat}
theorem Sn{d:List Nat}:yz p (d++[t]) s=(yz p d s).sr t s:=by
 have:(λt'=>if t'∈d++[t] then aa s else p.r t')=upd (λt'=>if t'∈d then aa s else p.r t') t (aa s):=by
  funext t';delta upd;by_cases q:t'=t
  ·rw[if_pos (by rw[q];exact aX (.head _)),if_pos q]
  ·rw[if_neg q];exact mJ (by rw[bx,aZ];exact⟨λz=>z.resolve_right q,.inl⟩)
 exact congrArg (λr=>{p with r:=r}) this
theorem xI(k:Nat)(hk:k<4)(C:CR c b p R h)(e:p.l k t=aa (l++l'))(ht:t<18)(hl:(l++l').length <aG)(q:∀h',CR c b (p.sl k t (aa l)) R h'->Qu h'):
  db (.ref (c 0)) (lf k) (λv h=>eY v (iv t) (λw h=>qK w (l.length:Int) (List.take (Int.toNat l.length)) (λv h=>db (.ref (c 0)) (lf k) (λo h=>dY o (iv t) v Qu h) h) h) h) h:=
 jT k hk C e λad V=>⟨_,V.g hk e,nk _,by rw[aP];exact hl,cZ C λn h C=>vc k hk (l:=l) (by rw[bA] at C;rw[show((l.map iv++l'.map iv).take (Int.toNat (l.length:Int)))=l.map iv from Qr (by rw[aP];rfl)] at C;exact C) ht q⟩
theorem Uc{s l v:Nat}{ms us ml ul:List Nat}(C:CR c b p R h)(h1:p.m s=aa ms)(h3:p.m l=aa (ml++ms))(h4:p.u l=aa (ul++us))(h5:p.l 2 l=aa [])(h6:p.l 3 l=aa [])(hs:s≠l)(hm:∀t∈ms,t<18)(hl:l<18)(lm:(ml++ms).length <aG)(lu:(ul++us).length <aG)
  (q:∀h',CR c b (yz (((p.sl 0 l (aa ml)).sl 1 l (aa ul)).sv l v) ms s) R h'->Q .none h'):
  Cl 1067 [.ref (c 0),iv s,iv l,V.tup [iv ml.length,iv ul.length,iv 0,iv 0],iv v] Q X h:=by
 have k1:(p.sl 0 l (aa ml)).l 1 l=aa (ul++us):=h4;have k2:((p.sl 0 l (aa ml)).sl 1 l (aa ul)).l 2 l=aa ([]++[]):=h5;have k3:((p.sl 0 l (aa ml)).sl 1 l (aa ul)).l 3 l=aa ([]++[]):=h6;have k5:((p.sl 0 l (aa ml)).sl 1 l (aa ul)).sl 2 l (aa [])=(p.sl 0 l (aa ml)).sl 1 l (aa ul):=EG h5;have k6:((p.sl 0 l (aa ml)).sl 1 l (aa ul)).sl 3 l (aa [])=(p.sl 0 l (aa ml)).sl 1 l (aa ul):=EG h6;have k4:(((p.sl 0 l (aa ml)).sl 1 l (aa ul)).sv l v).l 0 s=aa ms:=by show((p.sl 0 l (aa ml)).sl 1 l (aa ul)).l 0 s=aa ms;rw[hH,if_neg λz=>Nat.zero_ne_one z.1,hH,if_neg λz=>hs z.2];exact h1
 refine ba (xI 0 (by decide) C h3 hl lm λh C=>xI 1 (by decide) C k1 hl lu λh C=>xI 2 (by decide) C k2 hl (by decide) λh C=>xI 3 (by decide) (k5▸C) k3 hl (by decide) λh C=>ze (k6▸C) hl λh C=>
  jT 0 (by decide) C k4 λad Z=>bT (Z.g (by decide) k4) (cb [15,148] rfl rfl (λd h=>LV c b (yz (((p.sl 0 l (aa ml)).sl 1 l (aa ul)).sv l v) d s) R h 0 s ad) (λd h Z=>bM (Z.g (by decide) k4)) Z
   (λd t r e ξ h Z J hJ=>H4 Z (hm t (by rw[e];exact aX (.head _))) λh Z=>hJ _ _ (by rw[Sn];exact Z)) λξ h Z=>q h Z.cr))
theorem Vo{q:PS}{x y x' y':Option (List Nat)}{l:Nat}(e0:q.l 0 l=x)(e1:q.l 1 l=y)(e:p.l=((q.sl 0 l x').sl 1 l y').l):((p.sl 0 l x).sl 1 l y).l=q.l:=funext λj=>funext λs=>by
 rw[hH,hH,e,hH,hH];by_cases A:j=1/\s=l
 ·rw[if_pos A,A.1,A.2,e1]
 ·by_cases B:j=0/\s=l
  ·rw[if_neg A,if_pos B,B.1,B.2,e0]
  ·rw[if_neg A,if_neg B,if_neg A,if_neg B]
theorem aaa{q:PS}{x y:Option (List Nat)}{l:Nat}(e:p.l=((q.sl 0 l x).sl 1 l y).l):p.l 0 l=x/\p.l 1 l=y/\∀k s,¬(k=0/\s=l)->¬(k=1/\s=l)->p.l k s=q.l k s:=by rw[e];exact⟨(hH 0 l).trans ((if_neg λz=>nomatch z.1).trans ((hH 0 l).trans (if_pos ⟨rfl,rfl⟩))),(hH 1 l).trans (if_pos ⟨rfl,rfl⟩),λk s A B=>(hH k s).trans ((if_neg B).trans ((hH k s).trans (if_neg A)))⟩
theorem Se{e:V}{q0 q1:PS}{va vb:V}(C:CR c b p R h)(pr:rh e q0 q1)(sm:fg q1 p)(q:∀h' p',CR c b p' R h'->fg q0 p'->SM p p'->Q .none h'):Cl 1065 [.ref (c 0),e,va,vb] Q X h:=by
 refine iX sm λa1 a2 a3 a4 a5=>?_;cases pr with
 | @tab0 _ l t h0=>exact ba (jg (jg (Ml (t:=t) C (by rw[a4];exact ip _ _ _) λh C=>q _ _ C ⟨a1,a2,a3,(congrArg (upd · l ao) a4).trans (zh h0),a5⟩ ⟨rfl,rfl,rfl,rfl,rfl⟩)))
 | @tabT _ l t h0 ht h1=>
  have k0:p.tb l=ao:=by rw[a4];exact ip _ _ _
  have k1:∀l',p.tb l'≠aa t:=λl' z=>by
   have z:upd q0.tb l ao l'=aa t:=(congrFun a4 l').symm.trans z;by_cases e:l'=l
   ·rw[e,ip] at z;exact zA z
   ·exact e (h1 l' ((gV e).symm.trans z))
  exact ba (jg (jg (H_ C ht k0 k1 λh C=>q _ _ C ⟨a1,a2,a3,(congrArg (upd · l (aa t)) a4).trans (zh h0),a5⟩ ⟨rfl,rfl,rfl,rfl,rfl⟩)))
 | @adK _ l s top k ch h0 h1 h2=>
  have e1:upd p.up l ao=eP (ez q0.up ch) ch:=(congrArg (upd · l ao) a3).trans (zh (tq h0).2.1);have e2:=EM h0;have nd:((jO ch).map (·.1)).Nodup:=by have:=vA e2;unfold cG at this;rw[fW] at this;exact this.1
  exact ba (jg (jg (jg (jg (MP (e:=(s,k)) C (by rw[a3];exact ip _ _ _) λh C=>cS C (λ_ _=>rfl) rfl (KS C (by show bX (upd p.up l ao) _ _ _;rw[e1];exact e2) nd (λe he=>(h1 _ (xT.mp he)).symm) λh C=>
   q _ _ C ⟨a1,a2,(by show eP (ez (upd p.up l ao) _) _=_;rw[e1];exact ZB h0),a4,a5⟩ ⟨rfl,rfl,rfl,rfl,rfl⟩))))))
 | @join _ s l v v' ms us ml ul h1 h2 h3 h4 h5 h6 h7 hr hs hm hl lm lu=>
  refine be (aaa (q:=q0) a5) λb1 b2 b3=>?_;refine ba (jg (jg (jg (cS C (λ_ _=>rfl) rfl (Uc (ms:=ms) (us:=us) (ml:=ml) (ul:=ul) C ((b3 0 s (λz=>hs z.2) λz=>hs z.2).trans h1) b1 b2 ((b3 2 l (λz=>nomatch z.1) λz=>nomatch z.1).trans h5) ((b3 3 l (λz=>nomatch z.1) λz=>nomatch z.1).trans h6) hs hm hl ?_ ?_ λh C=>
   q _ _ C ⟨funext λz=>?_,(congrArg (upd · l (aa v)) a2).trans (zh h7),a3,a4,Vo (q:=q0) h3 h4 a5⟩ ⟨rfl,rfl,rfl,rfl,rfl⟩)))))
  ·rw[aT];exact bY (dB _ _▸lm) (by decide)
  ·rw[aT];exact bY (dB _ _▸lu) (by decide)
  ·show(if z∈ms then aa s else p.r z)=q0.r z;rw[a1];show(if z∈ms then aa s else if z∈ms then aa l else q0.r z)=q0.r z;by_cases e:z∈ms
   ·rw[if_pos e,(hr z).mp e]
   ·rw[if_neg e,if_neg e]
end
theorem kG{A:Type}(ls:List Nat)(vals:A->List V)(J:A->Hp->Prop)(j:∀a ξ h',J a h'->vS I r (bf ls (vals a) ξ) Q h')
  (q:∀K':PX,(∀a aO h',Mine.lk ls aO=aa (vals a)->J a h'->K' .next aO h')->(∀v aO h',Q (.ret v) aO h'->K' (.ret v) aO h')->vS I s ρ K' h):vS I (.q s r) ρ Q h:=
 q (nx (vS I r) Q) (λa aO h' e i=>by show vS I r aO Q h';rw[<-q7 (qW e)];exact j a aO h' i) λ_ _ _ z=>z
theorem dZ.last(h:dZ es p q):(es=[]/\fg p q)\/∃d9 e q1 q2,es=d9++[e]/\dZ d9 p q1/\rh e q1 q2/\fg q2 q:=by
 cases h with
 |nil s=>exact .inl ⟨rfl,s⟩
 |snoc h x y=>exact .inr ⟨_,_,_,_,rfl,h,x,y⟩
theorem CR.trg(C:CR c b p R h):h.get (c 109)=aa (.list p.tr):=e1a2 C λ_ x _=>x.ix 5 rfl
theorem X5(C:CR c b p R h)(q:K (iv p.lv) h):db (.ref (c 0)) 110 K h:=e1a2 C λ_ x _=>cX (x.ix 0 rfl) rfl rfl q
theorem Ll(C:CR c b p R h)(q:K (iv p.tr.length) h):db (.ref (c 0)) 109 (λv h=>pM v K h) h:=cL C rfl (λ_ _=>rfl) (eO C.trg q)
structure PI(c b:Nat->Nat)(p0 p:PS)(tr0:List V)(ms0:List Nat)(R:aM)(a:PS×List V)(h:Hp):Prop where
 cr:CR c b a.1 R h
 tr:a.1.tr=tr0++a.2
 hi:dZ a.2 p0 a.1
 ms:a.1.ms=ms0
 q:a.1.q=[]
 cl:a.1.cl=p.cl
 lv:a.1.lv=p.lv
theorem Vn(C0:CR c b p R h)(Gc:p.ms=ms0++[tr0.length])(Gf:p.tr=tr0++es)(hh:dZ es p0 p)(hq:p.q=[])(oq:p.cl=ao\/ms0.length<p.lv)(lm:ms0.length<1000)
  (q:∀h' p',CR c b p' R h'->fg p0 p'->p'.tr=tr0->p'.ms=ms0->p'.q=[]->p'.cl=ao->Q .none h'):Cl 1064 [.ref (c 0),.int 1] Q X h:=by
 have e0:p.ms.map iv=ms0.map iv++[iv tr0.length]:=by rw[Gc,bA];rfl
 have e1:((p.ms.map iv).length:Int)-1=(ms0.map iv).length:=by rw[e0,aT];exact Qs (ms0.map iv).length 1
 have e2:iR (p.ms.map iv) (((p.ms.map iv).length:Int)-1)=aa (iv tr0.length):=by rw[e1];refine lQ ?_;rw[e0,nA (bQ _),qx];rfl
 have e3:(p.ms.map iv).take (((p.ms.map iv).length:Int)-1).toNat=ms0.map iv:=by rw[e1,e0];exact Qr rfl
 have e4:0<=((p.ms.map iv).length:Int)-1:=by rw[e1];exact nk _
 have e5:(p.ms.map iv).length <aG:=by rw[e0,aT,aP];exact c9 (ac1 lm) (by decide)
 refine ba (rg C0 λn g _=>rg C0 λn' g' _=>eO g' (cz g e2 (rg C0 λn g _=>rg C0 λn' g' _=>eO g' ⟨_,g,e4,e5,cZ C0 λn h C=>RO (l:=ms0) (e3▸C) λh C=>
  cZ C λae h C=>cZ C λaw h C=>mM [15,137,175,174] rfl rfl [] (λ_=>[]) (PI c b p0 p tr0 ms0 ((aw,.list [])::(ae,.list [])::R)) (λa=>a.2.length) ({p with ms:=ms0},es) rfl
   ⟨C,Gf,hh.same ⟨rfl,rfl,rfl,rfl,rfl⟩,rfl,hq,rfl,rfl⟩ λa ξ h i J hJ=>?_⟩)))
 obtain ⟨p1,d9⟩:=a;rcases i.hi.last with ⟨f1,f2⟩|⟨Gg,e,q1,q2,f1,f2,f3,f4⟩
 ·have f1:d9=[]:=f1;have it:p1.tr=tr0:=i.tr.trans (by rw[show(p1,d9).2=[] from f1,cq]);refine Ll i.cr (lO (by rw[it];exact HE _) (cZ i.cr λn h C=>EO C λh C=>kG [15,175,174] (λ_:Unit=>[.ref (c 0),.ref ae,.ref aw]) (λ_ h=>CR c b {p1 with q:=[],cl:=ao} ((aw,.list [])::(ae,.list [])::R) h)
   (λ_ ξ h C=>aaC C λn g=>bT g ⟨bM g,cZ C λn h C=>Zo C λh C=>⟨_,C.ix 1 rfl,Int.le_refl _,by decide,cZ C λn h C=>bT (C.ix 0 rfl) ⟨bM (C.ix 0 rfl),cS C (λ_ _=>rfl) rfl (Bs C rfl λh C=>
    ⟨_,C.ix 1 rfl,Int.le_refl _,by decide,cZ C λn h C=>bT (C.ix 0 rfl) ⟨bM (C.ix 0 rfl),q h _ C.drop.drop.drop.drop f2 it i.ms rfl rfl⟩⟩)⟩⟩⟩)
   λK' tail _=>zd C ⟨λc1=>tail () _ _ rfl (c1▸C),λn xs c1 g _=>rg C λn g _=>eO g (X5 C (mK ?_ (Yz C λh C=>tail () _ _ rfl C)))⟩))
  rw[aP];show((p1.ms.length:Nat):Int)<(p1.lv:Int);rw[i.ms,i.lv];exact gC.mpr (oq.resolve_left λz=>by have:=i.cl.symm.trans c1;exact zA (z.symm.trans this))
 ·have it:p1.tr=tr0++Gg++[e]:=i.tr.trans (by rw[f1,bt]);refine Ll i.cr (mK ?_ (cS i.cr (λ_ _=>rfl) rfl (cL i.cr rfl (λ_ _=>rfl) (i.cr.ktr rfl (Z_ i.cr it λh C=>Se C f3 f4 λh p2 C s4 r5=>
   hJ (p2,Gg) _ _ ?_ rfl ⟨C,r5.2.1,f2.same s4,r5.2.2.1.trans i.ms,r5.1.trans i.q,r5.2.2.2.1.trans i.cl,r5.2.2.2.2.trans i.lv⟩)))))
  ·rw[it,aT,aT];exact gC.mpr (HF (b_ _ _))
  ·show Gg.length<d9.length;rw[show d9=_ from f1,aT];exact jY _
structure Gd(ts:List Tm)(K C:List Nat)(U0:Nat->List Nat)(N:Nat->Prop)(M:List (Nat×Nat))(p:PS):Prop where
 cl:Kl ts K C U0 N M [] p
 nc:Nc N p
 no:p.cl=ao
 q:p.q=[]
 b:p.tr.length+362*fO K p<=20000
 ms:p.ms.length<=M.length
theorem Kl.same(s:fg p p')(x:Kl ts K C U0 N M [] p):Kl ts K C U0 N M [] p':=by
 refine iX s λa1 a2 a3 a4 a5=>?_;refine⟨x.wf.same a1 a2 a3 a4 a5,λa b=>?_,λ_ z=>(nomatch z),λt ht=>?_,λq hq=>?_⟩
 ·rw[a1];exact x.snd a b
 ·refine e1a2 (x.ad4 t ht) λo c1 c2=>?_;exact⟨o,by rw[a4,tD a1];exact c1,by delta rt at c2 ⊢;rw[a1];exact c2⟩
 ·rw[a1];exact x.mg q hq
theorem XT(C0:CR c b p R h)(hb:∀q∈bd fT b ts,q∈R)(w:Wd ts K C U0)(g:Gd ts K C U0 N M p)(hM:M.length<500)(ln:fO K p<100)(hs:s∈K)(ht:t∈K)
  (q1:∀h' p',CR c b p' R h'->Gd ts K C U0 N (M++[(s,t)]) p'->Q (.bool ah) h')
  (q2:∀h' p',CR c b p' R h'->Gd ts K C U0 N M p'->(∃x y,x≠y/\N x/\N y/\Cg ts C (M++[(s,t)]) x y)->Q (.bool au) h'):
  Cl 244 [.ref (c 0),iv s,iv t,iv k] Q X h:=by
 have lm:p.ms.length<1000:=aR g.ms (bY hM (by decide));have lt:p.tr.length+362*fO K p<100000:=aR g.b (by decide);have sm:fg p {p with ms:=p.ms++[p.tr.length]}:=⟨rfl,rfl,rfl,rfl,rfl⟩;refine ba (cS C0 (λ_ _=>rfl) rfl (Wh C0 (bY lm (by decide)) λh C=>cS C (λ_ _=>rfl) rfl (RH C hb w (g.cl.same sm) g.nc g.no g.q hs ht lt ln λh p1 C j=>cS C (λ_ _=>rfl) rfl (Xf C λv h' e hv=>?_))));have C:=C.ext e;have l1:p1.ms.length=p.ms.length+1:=(congrArg _ j.ms).trans aT;rcases j.cl with ⟨k1,k2,k3⟩|⟨k1,k2,n1,n2,k3,k4,k5,k6⟩
 ·rw[hv.mpr k1];refine q1 _ _ C ⟨k2,k3,k1,j.q,aI j.tl g.b,?_⟩;rw[l1,aT];exact dw g.ms
 ·have:v.adz=au:=by cases v <;> first|rfl|exact absurd (hv.mp rfl) k1
  refine e1a2 j.ext λes j4 j4'=>?_;show br v.adz _ _;rw[this];refine cS C (λ_ _=>rfl) rfl (Vn (p0:=p) (ms0:=p.ms) (tr0:=p.tr) (es:=es) C j.ms j4 (dZ.app (es:=[]) (q:={p with ms:=p.ms++[p.tr.length]}) (.nil sm) j4') j.q (.inr (by rw[k2,aT];exact jY _)) lm λh p2 C s4 e1 e2 e3 e4=>
   q2 _ _ C ⟨g.cl.same s4,?_,e4,e3,?_,by rw[e2];exact g.ms⟩ ⟨n1,n2,k3,k4,k5,k6⟩)
  ·delta Nc;rw[s4.1];exact g.nc
  ·rw[e1];delta fO;rw[s4.1];exact g.b
structure eD(ts:List Tm)(t:Nat):Prop where
 tm:tm ts t=aa (aF ts t)
 ar:(aF ts t).args.length<=2
 lt:t<18/\t≠0
 op:((aF ts t).op=61/\(aF ts t).data=iv (hd (aF ts t)))\/((aF ts t).op=195/\(aF ts t).args=[])
noncomputable abbrev ar(ts:List Tm)(t:Nat):List Nat:=(aF ts t).args
noncomputable def bj{α:Type}(E:List Nat)(g:Nat->α)(t:Nat):Option α:=if t∈E then aa (g t) else ao
noncomputable def us(ts:List Tm)(E:List Nat)(t:Nat):List Nat:=E.flatMap λc=>mh ((ar ts c).count t) c
noncomputable def va(ts:List Tm)(t:Nat):Nat:=if(aF ts t).op=195 then t else 0
noncomputable def nc(ts:List Tm)(E:List Nat):Nat:=(E.filter λc=>decide (ar ts c≠[])).length
def Ij(ts:List Tm)(E:List Nat)(t:Nat):Prop:=∀o∈E,ar ts o≠[]->hd (aF ts o)=hd (aF ts t)->ar ts o=ar ts t->False
structure dy(ts:List Tm)(E:List Nat)(p:PS):Prop where
 ok:∀t∈E,eD ts t/\∀a∈ar ts t,a∈E
 nd:E.Nodup
 r:p.r=bj E id
 m:p.l 0=bj E λt=>[t]
 u:p.l 1=bj E (us ts E)
 a:p.l 2=bj E λ_=>[]
 w:p.l 3=bj E λ_=>[]
 v:p.v=bj E (va ts)
 up:∀x,p.up x=ao
 tb:∀l o,p.tb l=aa o↔o∈E/\ar ts o≠[]/\l=hd (aF ts o)::ar ts o
 q:p.q=[]
 tr:p.tr.length<=2*E.length
 ms:p.ms=[]
 cl:p.cl=ao
noncomputable def xM(p:PS)(t x:Nat):PS:=(((((p.sr t t).sl 0 t (aa [t])).sl 1 t (aa [])).sl 2 t (aa [])).sl 3 t (aa [])).sv t x
noncomputable def pA(p:PS)(t:Nat)(d:List Nat):PS:={p with l:=upd p.l 1 λs=>(p.l 1 s).map (·++mh (d.count s) t)}
section
variable {c b:Nat->Nat}{s t k n:Nat}{ts:List Tm}{E:List Nat}{p p':PS}{h:Hp}{Q:PV}{X:Hp->Prop}{R:aM}
theorem eF{α:Type}{g:Nat->α}(e:t∈E):bj E g t=aa (g t):=if_pos e
theorem mI{α:Type}{g:Nat->α}:upd (bj E g) t (aa (g t))=bj (E++[t]) g:=funext λs=>by
 delta upd bj;by_cases q:s=t
 ·rw[if_pos q,if_pos (by rw[q];exact aX (.head _)),q]
 ·rw[if_neg q];exact mJ (by rw[bx,aZ];exact⟨.inl,λz=>z.resolve_right q⟩)
theorem sH:s∈us ts E t↔s∈E/\t∈ar ts s:=by
 delta us;rw[gI];exact⟨λyy=>e1a2 yy λc h1 h2=>by rw[ac2] at h2;refine aC h2 λh2 h3=>?_;rw[h3];exact⟨h1,ac3.mp (Nat.pos_of_ne_zero h2)⟩,
  λyy=>aC yy λh1 h2=>⟨s,h1,by rw[ac2];exact⟨A5 (ac3.mpr h2),rfl⟩⟩⟩
theorem LA(E:List Nat)(ok:∀t∈E,(ar ts t).length<=2):(us ts E t).length<=2*nc ts E:=by
 induction E with
 |nil=>exact bQ _
 |cons c E ih=>
  have ih:=ih λt ht=>ok t (.tail _ ht);unfold us nc at ih ⊢;rw[xn,aT,ac4,ss];by_cases z:ar ts c=[]
  ·rw[if_neg (by rw[z];decide),z];exact(nb _).symm▸ih
  ·rw[if_pos (decide_eq_true z),e_,GJ,dB];exact dF ih (aI ac5 (ok c (.head _)))
theorem aax:pA p t []=p:=by
 have:(λs=>(p.l 1 s).map (·++mh (([]:List Nat).count s) t))=p.l 1:=funext λs=>by show(p.l 1 s).map (·++[])=_;cases p.l 1 s with|none=>rfl|some l=>exact congrArg aa (cq l)
 delta pA;rw[this,xU rfl]
theorem WE{d u:List Nat}{a:Nat}(e:p.l 1 a=aa u):(pA p t d).sl 1 a (aa (u++mh (d.count a) t++[t]))=pA p t (d++[a]):=by
 have:upd (λs=>(p.l 1 s).map (·++mh (d.count s) t)) a (aa (u++mh (d.count a) t++[t]))= λs=>(p.l 1 s).map (·++mh ((d++[a]).count s) t):=funext λs=>by
  delta upd;by_cases z:s=a
  ·rw[z,if_pos rfl,e,ac6,List.count_singleton_self,List.replicate_succ'];exact congrArg aa (bt _ _ _)
  ·rw[if_neg z,ac6,List.count_eq_zero (a:=s) (l:=[a]) |>.mpr λw=>z (aZ.mp w)];rfl
 show {p with l:=upd (upd p.l 1 _) 1 (upd (λs=>(p.l 1 s).map (·++mh (d.count s) t)) a _)}={p with l:=upd p.l 1 _};have u2:∀f g:LF,upd (upd p.l 1 f) 1 g=upd p.l 1 g:=λf g=>funext λj=>by delta upd;split <;> rfl
 rw[this,u2]
theorem QP(ok:eD ts t):(if(aF ts t).op=61 then(aF ts t).args else [])=ar ts t:=by
 rcases ok.op with ⟨h,_⟩|⟨h,h'⟩
 ·rw[if_pos h]
 ·rw[show ar ts t=[] from h',h'];split <;> rfl
theorem Ih(C:CR c b p R h)(hb:∀q∈bd fT b ts,q∈R)(ok:eD ts t)(q:Q (V.tup ((ar ts t).map iv)) h):Cl 1040 [.ref (c 0),iv t] Q X h:=TF C hb ok.tm (by rw[QP ok];exact q)
theorem dy.sub(I:dy ts E p)(ht:t∉E):us ts E t=[]:=HG.mpr λs hs=>ht ((I.ok s (sH.mp hs).1).2 t (sH.mp hs).2)
theorem dy.add(I:dy ts E p)(ht:t∉E)(ok:eD ts t)(ha:∀a∈ar ts t,a∈E)(hr:p'.r=(xM p t (va ts t)).r)(hl:p'.l=(pA (xM p t (va ts t)) t (ar ts t)).l)(hv:p'.v=(xM p t (va ts t)).v)(hup:p'.up=p.up)
  (htb:p'.tb=if ar ts t=[] then p.tb else upd p.tb (hd (aF ts t)::ar ts t) (aa t)) (hi:Ij ts E t) (hq:p'.q=p.q) (Gf:p'.tr.length<=p.tr.length+2) (Gc:p'.ms=p.ms) (oq:p'.cl=p.cl):dy ts (E++[t]) p':=by
 refine⟨λs hs=>?_,?_,?_,?_,?_,?_,?_,?_,λx=>by rw[hup];exact I.up x,λl o=>?_,hq.trans I.q,by rw[aT];exact aI Gf (fC I.tr 2),Gc.trans I.ms,oq.trans I.cl⟩
 ·rcases bx.mp hs with hs|hs
  ·exact⟨(I.ok s hs).1,λa h=>b8 ((I.ok s hs).2 a h)⟩
  ·rw[aZ.mp hs];exact⟨ok,λa h=>b8 (ha a h)⟩
 ·rw[fW];exact⟨I.nd,dK.mpr ⟨fF,jG⟩,λx hx y hy e=>ht (by rw[<-aZ.mp hy,<-e];exact hx)⟩
 ·rw[hr,<-mI,<-I.r];rfl
 ·rw[hl,<-mI,<-I.m];rfl
 ·rw[hl];show(λs=>(upd (p.l 1) t (aa []) s).map (·++mh ((ar ts t).count s) t))=_;rw[I.u]
  funext s
  have e:us ts (E++[t]) s=us ts E s++mh ((ar ts t).count s) t:=by delta us;rw[qu,xn,Bj,cq]
  delta upd bj;by_cases q:s=t
  ·rw[if_pos q,if_pos (by rw[q];exact aX (.head _)),e,q,I.sub ht];rfl
  ·rw[if_neg q];by_cases w:s∈E
   ·rw[if_pos w,if_pos (b8 w),e];rfl
   ·rw[if_neg w,if_neg λz=>(bx.mp z).elim w λz=>q (aZ.mp z)];rfl
 ·rw[hl,<-mI,<-I.a];rfl
 ·rw[hl,<-mI,<-I.w];rfl
 ·rw[hv,<-mI,<-I.v];rfl
 ·rw[htb];by_cases z:ar ts t=[]
  ·rw[if_pos z,I.tb,bx,aZ];exact⟨λh=>⟨.inl h.1,h.2⟩,λyy=>aC yy λh1 h2=>⟨h1.resolve_right λw=>h2.1 (by rw[w];exact z),h2⟩⟩
  ·rw[if_neg z];delta upd;by_cases y:l=hd (aF ts t)::ar ts t
   ·rw[if_pos y];refine⟨λw=>by rw[<-cP w];exact⟨aX (.head _),z,y⟩,λyy=>be yy λh1 h2 h3=>(bx.mp h1).elim (λh1=>?_) λh1=>by rw[aZ.mp h1]⟩;rw[y] at h3;injection h3 with h3 h4;exact(hi o h1 h2 h3.symm h4.symm).elim
   ·rw[if_neg y,I.tb,bx,aZ];exact⟨λh=>⟨.inl h.1,h.2⟩,λyy=>aC yy λh1 h2=>⟨h1.resolve_right λw=>y (by rw[<-w];exact h2.2),h2⟩⟩
theorem YY{A B:Prop}(ok:eD ts t)(x:va ts t=t->A)(y:va ts t=0->B):br (decide (V.str (aF ts t).op∈[V.str 195,V.str 258,V.str 21,V.str 18])) A B:=by
 delta va at x y;rcases ok.op with ⟨z,_⟩|⟨z,_⟩
 ·rw[z] at y ⊢;exact y rfl
 ·rw[z] at x ⊢;exact x rfl
theorem YX{v:V}{xs:List V}{Qt:Bool->Hp->Prop}(d:v.data fk=ah)(a:gJ xs=ah)(q:Qt (decide (v∈xs)) h):bZ .inn v (V.tup xs) Qt h:=by show oE (V.tup xs).adG _ _;rw[uO,lU];exact⟨d,a,q⟩
end
section
variable {α:Type}{g:α->V}{L:List α}{tup:Bool}{xs:List Nat}{tc te:TE}{s:Option (Nat×O)}{dH:Env}{h:Hp}{K:List V->Hp->Prop}
theorem uV(f:α->V)(hs:je s h)(step:∀x∈L,∀acc (J:List V->Hp->Prop),J (acc++[f x]) h->js tup xs (g x) dH (λf_=>tc f_ (lL λb h=>br b (te f_ (λv h=>J (acc++[v]) h) h) (J acc h)) h) h)
  (fin:K (L.map f) h):mx tup xs tc te dH s K (L.map g) [] h:=yv (λx=>aa (f x)) hs step (by rw[acU];exact fin)
theorem iJ(f:α->V)(c:α->Prop)[DecidablePred c](hs:je s h)(step:∀x∈L,∀acc (J:List V->Hp->Prop),(c x->J (acc++[f x]) h)->(¬c x->J acc h)->js tup xs (g x) dH (λf_=>tc f_ (lL λb h=>br b (te f_ (λv h=>J (acc++[v]) h) h) (J acc h)) h) h)
  (fin:K ((L.filter λx=>decide (c x)).map f) h):mx tup xs tc te dH s K (L.map g) [] h:=by
 refine yv (λx=>if c x then aa (f x) else ao) hs (λx hx acc J q=>step x hx acc J (λz=>?_) λz=>?_) ?_
 ·rw[if_pos z] at q;exact q
 ·rw[if_neg z] at q;exact cq acc▸q
 ·have:∀l:List α,l.filterMap (λx=>if c x then aa (f x) else ao)=(l.filter λx=>decide (c x)).map f:=λl=>by
   induction l with
   |nil=>rfl
   |cons x l ih=>
    rw[o0,ss];by_cases z:c x
    ·rw[if_pos z,if_pos (decide_eq_true z),bW,ih]
    ·rw[if_neg z,if_neg (by rw[decide_eq_false z];exact k7),ih]
  rw[this];exact fin
end
section
variable {c b:Nat->Nat}{s t k n:Nat}{ts:List Tm}{E:List Nat}{p p':PS}{h:Hp}{Q:PV}{X:Hp->Prop}{R:aM}
theorem dy.adB(I:dy ts E p):E.length<=18:=g_ 18 _ I.nd λx hx=>(I.ok x hx).1.lt.1
theorem dy.rE(I:dy ts E p){a:Nat}(e:a∈E):p.r a=aa a:=by rw[I.r];exact eF e
theorem SY(C0:CR c b p R h)(hb:∀q∈bd fT b ts,q∈R)(I:dy ts E p)(ht:t∉E)(ok:eD ts t)(ha:∀a∈ar ts t,a∈E)(hi:Ij ts E t)
  (q:∀h' p',CR c b p' R h'->dy ts (E++[t]) p'->Q .none h'):Cl 1042 [.ref (c 0),iv t] Q X h:=by
 have adB:=ok.lt.1;have Gh:∀a∈E,a≠t:=λa hx z=>by rw[z] at hx;exact ht hx
 have tl:p.tr.length<=36:=aI I.tr (h_ 2 I.adB);generalize ep:xM p t (va ts t)=p1;have rE:∀a∈ar ts t,p1.r a=aa a:=λa hx=>by rw[<-ep];show upd p.r t (aa t) a=_;rw[gV (Gh a (ha a hx))];exact I.rE (ha a hx)
 have rT:p1.r t≠ao:=by rw[<-ep];show upd p.r t (aa t) t≠ao;rw[ip];exact gH _
 have uE:∀a∈ar ts t,p1.l 1 a=aa (us ts E a):=λa hx=>by rw[<-ep];show upd (p.l 1) t (aa []) a=_;rw[gV (Gh a (ha a hx)),I.u];exact eF (ha a hx)
 have e1:p1.tb=p.tb/\p1.tr=p.tr/\p1.q=[]/\p1.up=p.up/\p1.ms=p.ms/\p1.cl=p.cl:=by rw[<-ep];exact⟨rfl,rfl,I.q,rfl,rfl,rfl⟩
 refine RY e1 λui etr eq eup ems ecl=>?_;refine ba (aaB C0 adB λh C=>cZ C λn h C=>vc 0 (by decide) (l:=[t]) C adB λh C=>cZ C λn h C=>vc 1 (by decide) (l:=[]) C adB λh C=>cZ C λn h C=>vc 2 (by decide) (l:=[]) C adB λh C=>cZ C λn h C=>vc 3 (by decide) (l:=[]) C adB λh C=>
  kG [15,42] (λ_:Unit=>[.ref (c 0),iv t]) (λ_ h=>CR c b p1 R h) (λ_ ξ h C=>?_) λK' tail _=>sF C ((C.bh hb).k rfl rfl (tE (C.bh hb) ok.tm (YX (xs:=[V.str 195,V.str 258,V.str 21,V.str 18]) rfl rfl (YY ok
   (λz=>ze C adB λh C=>tail () _ _ rfl (by rw[<-ep,z];exact C)) λz=>ze (s:=0) C adB λh C=>tail () _ _ rfl (by rw[<-ep,z];exact C))))))
 refine cS C (λ_ _=>rfl) rfl (Ih C hb ok (n6 (uV (λa=>iv a) cY (λa hx acc J q=>iO C (rE a hx) q) ?_)));refine cZ C λn h C=>bT (C.ix 0 rfl) (cb [15,42,128] rfl rfl (λd h=>CR c b (pA p1 t d) ((n,.list ((ar ts t).map iv))::R) h) (λ_ _ C=>bM (C.ix 0 rfl)) (aax.symm▸C) (λd a r e ξ h C J hJ=>?_) λξ h C=>?_)
 ·have hx:a∈ar ts t:=by rw[e];exact aX (.head _)
  have ue:(pA p1 t d).l 1 a=aa (us ts E a++mh (d.count a) t):=by show(p1.l 1 a).map _=_;rw[uE a hx];rfl
  have ul:(us ts E a++mh (d.count a) t).length <aG:=by have l1:=LA (t:=a) E λt ht=>(I.ok t ht).1.ar;have l2:nc ts E<=18:=aI (jM _ _) I.adB;have l3:d.count a<=2:=aI ac5 (aI (show d.length<=(ar ts t).length by rw[e,aT];exact b_ _ _) ok.ar);rw[aT,ac4];exact aR (dF (aI l1 (h_ 2 l2)) l3) (by decide)
  exact jT 1 (by decide) C ue λad V=>V.kd (by decide) ue rfl (XE V (by decide) ue ul λh C=>hJ _ _ (by rw[<-WE (uE a hx)];exact C))
 generalize ep2:pA p1 t (ar ts t)=p2 at C;have f1:p2.r=p1.r/\p2.tb=p.tb/\p2.tr=p.tr/\p2.q=[]:=by rw[<-ep2];exact⟨rfl,ui,etr,eq⟩
 refine f9 f1 λfr wQ Ac fq=>?_;have add:∀p',p'.r=p2.r->p'.l=p2.l->p'.v=p2.v->p'.up=p2.up->p'.tb=(if ar ts t=[] then p.tb else upd p.tb (hd (aF ts t)::ar ts t) (aa t))->p'.q=p2.q->p'.tr.length<=p.tr.length+2->p'.ms=p2.ms->p'.cl=p2.cl->dy ts (E++[t]) p':=
  λp' a1 a2 a3 a4 a5 a6 a7 a8 a9=>by rw[<-ep2,<-ep] at a1 a2 a3 a4 a6 a8 a9;exact I.add ht ok ha a1 a2 a3 a4 a5 hi a6 a7 a8 a9
 refine xH C (by rw[Ac];exact aR tl (by decide)) λh C=>eO (C.ix 0 rfl) (dx (λz=>?_) λz=>q _ _ C.drop ?_)
 ·rw[aP] at z;have bF:ar ts t≠[]:=λw=>by rw[w] at z;exact HE _ z
  have ed:(aF ts t).data=iv (hd (aF ts t)):=ok.op.elim (·.2) λw=>absurd w.2 bF;generalize (V.str 126).adA ((iv t).adA ((V.ref n).adA V.adt))=v at C;have es:f8 (p2.adE v) (hd (aF ts t)) (aF ts t)=hd (aF ts t)::ar ts t:=by delta f8;exact congrArg _ ((ma λa hx=>by show(p2.r a).getD 0=a;rw[fr,rE a hx];rfl).trans (ac7 _))
  have nt:∀l,p2.tb l≠aa t:=λl w=>by rw[wQ] at w;exact ht ((I.tb l t).mp w).1
  have tn:(p2.adE v).tb (hd (aF ts t)::ar ts t)=ao:=by
   show p2.tb _=ao;rw[wQ];cases w:p.tb (hd (aF ts t)::ar ts t) with
   |none=>rfl
   |some o=>refine be ((I.tb _ o).mp w) λw1 w2 w3=>?_;injection w3 with w3 w4;exact(hi o w1 w2 w3.symm w4.symm).elim
  refine cS C (λ_ _=>rfl) rfl (K9 C (λq hq=>.tail _ (hb q hq)) ok.tm ed (λa hx=>by show p2.r a≠ao;rw[fr,rE a hx];exact gH _) (aR ok.ar (by decide)) adB (by show p2.r t≠ao;rw[fr];exact rT) (λl o w=>?_) (λ_ l=>nt l) ?_ ?_ λh C=>?_)
  ·have w:p2.tb l=aa o:=w;rw[wQ] at w;have oE:=((I.tb l o).mp w).1;show p2.r o≠ao;rw[fr,<-ep];show upd p.r t (aa t) o≠ao;rw[gV (Gh o oE),I.rE oE];exact gH _
  ·show(p2.tr++[v]).length <aG;rw[Ac,aT];exact aR (dw tl) (by decide)
  ·show p2.q.length<aG;rw[fq];decide
  ·rw[es,B1 tn] at C;refine q _ _ C.drop (add _ rfl rfl rfl rfl ?_ rfl ?_ rfl rfl)
   ·rw[if_neg bF,<-wQ];rfl
   ·show((p2.tr++[v])++[_]).length<=_;rw[Ac,aT,aT];exact bQ _
 ·have bF:ar ts t=[]:=na.mp (HH λw=>z (by rw[aP];exact o9.mpr w));refine add _ rfl rfl rfl rfl ?_ rfl ?_ rfl rfl
  ·rw[if_pos bF,<-wQ];rfl
  ·show(p2.tr++[_]).length<=_;rw[Ac,aT];exact gZ _
end
theorem Q4{l:List Nat}{x:Nat}:iR ((l++[x]).map iv) (-1)=aa (iv x):=by
 have e:(((l++[x]).map iv).length:Int)+ -1=(l.length:Int):=by rw[aP,aT];exact Qs (l.length:Int) 1
 delta iR;rw[if_neg (by decide),e,if_pos (nk _),bA];show(l.map iv++[iv x])[l.length]? =_;rw[nA (by rw[aP];exact bQ _),aP,qx];rfl
theorem zl{α:Type}{l l':List α}{a a':α}(e:l++[a]=l'++[a']):l=l'/\a=a':=by refine aC (List.append_inj' e rfl) λh1 h2=>?_;injection h2 with h2;exact⟨h1,h2⟩
theorem D7{α:Type}(l:List α):l=[]\/∃l' y,l=l'++[y]:=(List.eq_nil_or_concat l).imp_right λ⟨l',y,z⟩=>⟨l',y,z.trans (List.concat_eq_append ..)⟩
def Iv(ts:List Tm)(E:List Nat)(t n:Nat)(E1 wt:List Nat):Prop:=(∀x,x∈E->x∈E1)/\(∀x,x∈E1->x∈E\/x∈ar ts t\/x=t)/\
 ((n=0/\wt=[]/\t∈E1)\/(t∉E1/\∃mi,wt=[t]++mi/\(∀x∈mi,x∈ar ts t/\ar ts x=[]/\eD ts x)/\((n=10/\mi=[]/\E1=E)\/(n=mi.length+1/\∀a∈ar ts t,a∈E1\/a∈mi))))
structure AI(c b:Nat->Nat)(ts:List Tm)(E:List Nat)(t as:Nat)(R:aM)(a:Nat×PS×List Nat×List Nat)(h:Hp):Prop where
 cr:CR c b a.2.1 ((as,.list (a.2.2.2.map iv))::R) h
 ini:dy ts a.2.2.1 a.2.1
 iv:Iv ts E t a.1 a.2.2.1 a.2.2.2
section
variable {c b:Nat->Nat}{s t k n here:Nat}{ts:List Tm}{E E1 E2 wt:List Nat}{p p':PS}{h:Hp}{Q:PV}{X:Hp->Prop}{R:aM}
theorem Iv.pop(v:Iv ts E t n E1 (wt++[here]))(bF:ar ts t≠[])(he:∀x,x∈E2↔x∈E1\/x=here):∃m,m<n/\Iv ts E t m E2 wt:=by
 refine be v λe1 e2 v=>?_;have mY:∀x,x∈E->x∈E2:=λx hx=>(he x).mpr (.inl (e1 x hx))
 (refine aC (v.resolve_left λz=>nomatch Bk.mp z.2.1) λwR aD=>?_;refine e1a3 aD λmi ew um st=>?_)
 rcases D7 mi with z|⟨Gi,y,z⟩
 ·rw[z] at ew;refine aC (zl (l':=[]) ew) λz1 z2=>?_;exact⟨0,by rcases st with ⟨z,_⟩|⟨z,_⟩ <;> rw[z] <;> exact gw _,mY,λx hx=>((he x).mp hx).elim (e2 x) λh=>.inr (.inr (h.trans z2)),.inl ⟨rfl,z1,(he _).mpr (.inr z2.symm)⟩⟩
 ·rw[z,<-bt] at ew;refine aC (zl ew) λz1 z2=>?_;have hy:here∈mi:=by rw[z,z2];exact aX (.head _)
  refine be (um here hy) λy1 y2 y3=>?_;have oo:t∉E2:=λw=>((he t).mp w).elim wR λw=>by rw[<-w] at y2;exact bF y2
  refine aC (st.resolve_left λw=>by rw[w.2.1] at hy;exact zE hy) λw1 w2=>?_;refine⟨Gi.length+1,by rw[w1,z,aT];exact jY _,mY,λx hx=>((he x).mp hx).elim (e2 x) λh=>.inr (.inl (h▸y1)),.inr ⟨oo,Gi,z1,λx hx=>um x (by rw[z];exact b8 hx),.inr ⟨rfl,λa ha=>?_⟩⟩⟩;rcases w2 a ha with w|w
  ·exact .inl ((he a).mpr (.inl w))
  ·rw[z] at w;exact(bx.mp w).elim .inr λw=>.inl ((he a).mpr (.inr ((aZ.mp w).trans z2.symm)))
theorem Iv.psh(v:Iv ts E t n E1 (wt++[here]))(hn:¬∀a∈ar ts here,a∈E1)(bF:ar ts t≠[])(ok:eD ts t)(ha:∀a∈ar ts t,a∈E\/eD ts a/\ar ts a=[]){ms:List Nat}(hm:∀a,a∈ms↔a∈ar ts here/\a∉E1)(lm:ms.length<=(ar ts here).length):wt=[]/\ms.length<=2/\ms.length+1<n/\Iv ts E t (ms.length+1) E1 (wt++[here]++ms):=by
 refine be v λe1 e2 v=>?_
 (refine aC (v.resolve_left λz=>nomatch Bk.mp z.2.1) λwR aD=>?_;refine e1a3 aD λmi ew um st=>?_)
 rcases D7 mi with z|⟨Gi,y,z⟩
 ·rw[z] at ew;refine aC (zl (l':=[]) ew) λz1 z2=>?_;rw[z2] at hn lm hm;refine be (st.resolve_right λw=>hn λa ha=>(w.2 a ha).resolve_right λx=>by rw[z] at x;exact zE x) λw1 _ w3=>?_;have l2:=aI lm ok.ar;refine⟨z1,l2,by rw[w1];exact aR (dw l2) (by decide),e1,e2,.inr ⟨wR,ms,by rw[ew];rfl,λx hx=>?_,.inr ⟨rfl,λa ha=>(Qv (a∈E1)).imp_right λw=>(hm a).mpr ⟨ha,w⟩⟩⟩⟩;refine aC ((hm x).mp hx) λx1 x2=>?_;refine aC ((ha x x1).resolve_left λw=>x2 (w3▸w)) λx3 x4=>?_;exact⟨x1,x4,x3⟩
 ·rw[z,<-bt] at ew;refine aC (zl ew) λz1 z2=>?_;have y2:=(um here (by rw[z,z2];exact aX (.head _))).2.1;exact absurd (λa hx=>by rw[y2] at hx;exact zE hx) hn
theorem Iv.ok(v:Iv ts E t n E1 (wt++[here]))(ok:eD ts t)(bF:ar ts t≠[])(ha:∀a∈ar ts t,a∈E\/eD ts a/\ar ts a=[])(hi:Ij ts E t):eD ts here/\Ij ts E1 here:=by
 refine be v λe1 e2 v=>?_
 (refine aC (v.resolve_left λz=>nomatch Bk.mp z.2.1) λwR aD=>?_;refine e1a3 aD λmi ew um st=>?_)
 have:here∈[t]++mi:=by rw[<-ew];exact aX (.head _)
 rcases bx.mp this with z|z
 ·rw[aZ.mp z];exact⟨ok,λo ho h1 h2 h3=>(e2 o ho).elim (λw=>hi o w h1 h2 h3) λw=>w.elim (λw=>(ha o w).elim (λw=>hi o w h1 h2 h3) λw=>h1 w.2) λw=>wR (w▸ho)⟩
 ·refine be (um here z) λ_ z1 z2=>?_;exact⟨z2,λo ho h1 h2 h3=>h1 (h3.trans z1)⟩
theorem Ci{Qt:Bool->Hp->Prop}(C:CR c b p R h)(e:p.r t=ao)(q:Qt ah h):bZ .notin (iv t) (.ref (c 52)) Qt h:=MF C (by rw[e];exact q)
theorem SP(C0:CR c b p R h)(hb:∀q∈bd fT b ts,q∈R)(I:dy ts E p)(ht:t∉E)(ok:eD ts t)(bF:ar ts t≠[])(ha:∀a∈ar ts t,a∈E\/eD ts a/\ar ts a=[])(hi:Ij ts E t)
  (q:∀h' p' E',CR c b p' R h'->dy ts E' p'->(∀x,x∈E'↔x∈E\/x∈ar ts t\/x=t)->Q .none h'):Cl 1041 [.ref (c 0),iv t] Q X h:=by
 have i0:Iv ts E t 10 E ([]++[t]):=⟨λ_ h=>h,λ_ h=>.inl h,.inr ⟨ht,[],rfl,λ_ h=>(nomatch h),.inl ⟨rfl,rfl,rfl⟩⟩⟩;refine ba (cZ C0 λas h C=>mM [15,53] rfl rfl [] (λ_=>[]) (AI c b ts E t as R) (·.1) (10,p,E,[t]) rfl ⟨C,I,i0⟩ λa ξ h i J hJ=>?_);obtain ⟨n,p1,E1,wt⟩:=a;obtain ⟨C,I,v⟩:=i;have C:CR c b p1 ((as,.list (wt.map iv))::R) h:=C;have v:Iv ts E t n E1 wt:=v;rcases D7 wt with z|⟨wt,here,z⟩
 ·rw[z] at C v;have hE:t∈E1:=v.2.2.elim (·.2.2) λyy=>aC yy λ_ aD=>e1a2 aD λmi w _=>nomatch w;exact eO (C.ix 0 rfl) (cS C (λ_ _=>rfl) rfl (Bs C.drop I.q λh C=>q h p1 E1 C I λx=>⟨v.2.1 x,λw=>w.elim (v.1 x) λw=>w.elim ((I.ok t hE).2 x) λw=>w▸hE⟩))
 ·rw[z] at C v;refine aC (v.ok ok bF ha hi) λog hij=>?_;have I:dy ts E1 p1:=I;have l0:0<((wt++[here]).map iv).length:=by rw[bA,aT];exact gw _
  have rE:∀{x},x∈E1->p1.r x≠ao:=λhx=>by rw[I.rE hx];exact gH _
  have rN:∀{x},x∉E1->p1.r x=ao:=λhx=>by rw[I.r];exact if_neg hx
  refine eO (C.ix 0 rfl) (mK (o9.mpr l0) (cz (v:=iv here) (C.ix 0 rfl) Q4 (cZ C λam h C=>
   kG [15,53,125,124] (λa:Nat×List Nat=>[.ref (c 0),.ref as,iv here,.ref a.1]) (λa h=>CR c b p1 ((a.1,.list (a.2.map iv))::(as,.list ((wt++[here]).map iv))::R) h/\(∀x,x∈a.2↔x∈ar ts here/\x∉E1)/\a.2.length<=(ar ts here).length)
    (λa ξ h i=>?_) λK' tail _=>?_)))
  ·refine be i λC hm lm=>?_;obtain ⟨n1,ms⟩:=a;have C:CR c b p1 ((n1,.list (ms.map iv))::(as,.list ((wt++[here]).map iv))::R) h:=C;have hm:∀x,x∈ms↔x∈ar ts here/\x∉E1:=hm;have lm:ms.length<=(ar ts here).length:=lm;by_cases w:ms=[]
   ·have w1:∀a∈ar ts here,a∈E1:=λa ha=>qh λz=>by have:=(hm a).mpr ⟨ha,z⟩;rw[w] at this;exact zE this
    rw[w,bA] at C;by_cases z:here∈E1
    ·refine e1a2 (v.pop bF λx=>⟨.inl,λw=>w.elim id λw=>w▸z⟩) λm m1 m2=>?_;exact eO (C.ix 0 rfl) (C.kl [_] rfl (xA (xs:=wt.map iv) [_] C λh C=>cL C rfl (λ_ _=>rfl) (uR C (rE z) (hJ (m,p1,E1,wt) _ _ m1 rfl ⟨C.drop,I,m2⟩))))
    ·refine e1a2 (v.pop (E2:=E1++[here]) bF λx=>by rw[bx,aZ]) λm m1 m2=>?_;exact eO (C.ix 0 rfl) (C.kl [_] rfl (xA (xs:=wt.map iv) [_] C λh C=>cL C rfl (λ_ _=>rfl) (Ci C (rN z) (cS C (λ_ _=>rfl) rfl (SY C (λq hq=>.tail _ (.tail _ (hb q hq))) I z og w1 hij λh p2 C I2=>hJ (m,p2,E1++[here],wt) _ _ m1 rfl ⟨C.drop,I2,m2⟩)))))
   ·refine e1a1 (Bl _ w) λx hx=>?_;refine f9 (v.psh (λz=>((hm x).mp hx).2 (z x ((hm x).mp hx).1)) bF ok ha hm lm) λw0 w1 w2 w3=>?_;have l1:0<(ms.map iv).length:=by rw[aP];exact List.length_pos_of_mem hx
    exact eO (C.ix 0 rfl) (mK (o9.mpr l1) (C.kl [_] rfl (I0 [_] C (C.ix 0 rfl) (by rw[w0];exact show 1<aG by decide) (by rw[aP];exact aR w1 (by decide)) λh C=>hJ (ms.length+1,p1,E1,wt++[here]++ms) _ _ w2 rfl ⟨by rw[<-bA] at C;exact C.drop,I,w3⟩)))
  ·by_cases z:here∈E1
   ·exact cL C rfl (λ_ _=>rfl) (uR C (rE z) (tail (am,[]) _ _ rfl ⟨C,λx=>⟨λw=>(nomatch w),λw=>absurd ((I.ok here z).2 x w.1) w.2⟩,g0 _⟩))
   ·exact cL C rfl (λ_ _=>rfl) (Ci C (rN z) (cS C (λ_ _=>rfl) rfl (Ih C (λq hq=>.tail _ (.tail _ (hb q hq))) og (n6 (iJ (λa=>iv a) (λa=>a∉E1) cY
     (λa hx acc J j1 j2=>cL C rfl (λ_ _=>rfl) ((Qv (a∈E1)).elim (λz=>uR C (rE z) (j2 λw=>w z)) λz=>Ci C (rN z) (j1 z)))
     (cZ C λn h C=>tail (n,(ar ts here).filter λa=>decide (a∉E1)) _ _ rfl ⟨C.sub (.cons₂ _ (.cons _ (.refl _))),λx=>by rw[cW,decide_eq_true_iff],jM _ _⟩))))))
end
section
variable {ts:List Tm}{E C:List Nat}{p:PS}{t s:Nat}
theorem dy.r1(I:dy ts E p)(h:p.r t=aa s):t∈E/\s=t:=by
 rw[I.r] at h;delta bj at h;split at h
 ·rename_i z;exact⟨z,(cP h).symm⟩
 ·exact zA h
theorem dy.sg(I:dy ts E p)(ht:t∈E):sg ts p t=hd (aF ts t)::ar ts t:=by exact congrArg _ ((ma λa hx=>by show(p.r a).getD 0=a;rw[I.rE ((I.ok t ht).2 a hx)];rfl).trans (ac7 _))
theorem dy.wd(I:dy ts E p)(hC:∀t,t∈C↔t∈E/\ar ts t≠[])(hn:nc ts E<=5):Wd ts E C (us ts E):=by
 have ok:∀{t},t∈C->eD ts t:=λh=>(I.ok _ ((hC _).mp h).1).1;refine⟨I.nd,λt ht=>(I.ok t ht).1.lt,λt ht=>((hC t).mp ht).1,λt ht=>(ok ht).tm,λt ht=>(ok ht).op.elim (·.2) λz=>absurd z.2 ((hC t).mp ht).2,λt ht=>⟨(ok ht).ar,(I.ok t ((hC t).mp ht).1).2⟩,λt ht a ha=>sH.mpr ⟨((hC t).mp ht).1,ha⟩,λa t ht=>(hC t).mpr ⟨(sH.mp ht).1,λz=>by have:=(sH.mp ht).2;rw[z] at this;exact zE this⟩,λa t ht=>(sH.mp ht).2,λl rG hl=>?_⟩;have key:∀l:List Nat,(l.flatMap (us ts E)).length<=10*l.length:=by
  intro l;induction l with
  |nil=>exact bQ _
  |cons x l ih=>rw[xn,aT,e_,GJ,dB];exact dF ih (aI (LA E λt ht=>(I.ok t ht).1.ar) (h_ 2 hn))
 exact aI (key l) (h_ 10 (g_ 18 l rG λx hx=>(I.ok x (hl x hx)).1.lt.1))
theorem dy.gd(I:dy ts E p)(hC:∀t,t∈C↔t∈E/\ar ts t≠[]):Gd ts E C (us ts E) (λt=>t∈E/\(aF ts t).op=195) [] p:=by
 have same:∀{a b:Nat},p.r a≠ao->p.r a=p.r b->a=b:=λh1 h2=>by have ha:=dS h1;exact(I.r1 ha).2.symm.trans (I.r1 (h2.symm.trans ha)).2
 refine⟨⟨⟨λt=>?_,λt s h=>?_,λs h=>?_,λs h=>?_,λl o h=>?_,⟨λx=>x,λx s h=>?_⟩,λx y w h=>(by rw[I.up] at h;exact zA h),λx y h=>(by rw[I.up] at h;exact zA h)⟩,λa b h1 h2=>?_,λ_ z=>(nomatch z),λt ht=>?_,λ_ z=>(nomatch z)⟩,λt t' _ _ h3 h4=>same h3 h4,I.cl,I.q,?_,by rw[I.ms];exact bQ _⟩
 ·exact⟨λz=>(I.r1 (dS z)).1,λz=>by rw[I.rE z];exact gH _⟩
 ·(refine aC (I.r1 h) λh1 bq=>?_;cases bq);exact h
 ·have hs:=(I.r1 h).1;refine⟨[s],by rw[PS.m,I.m];exact eF hs,dK.mpr ⟨fF,jG⟩,λt=>?_,?_,by rw[I.a];exact eF hs,by rw[I.w];exact eF hs⟩
  ·rw[aZ];exact⟨λz=>by rw[z];exact h,λz=>(I.r1 z).2.symm⟩
  ·rw[PS.u,I.u,xn,Bj,cq];exact eF hs
 ·have hs:=(I.r1 h).1;refine⟨va ts s,by rw[I.v];exact eF hs,λz=>?_,λt ht hr=>?_⟩
  ·refine⟨?_,?_⟩ <;> unfold va at * <;> split at z <;> rename_i w
   ·rw[if_pos w];exact h
   ·exact absurd rfl z
   ·rw[if_pos w];exact⟨hs,w⟩
   ·exact absurd rfl z
  ·(refine aC (I.r1 hr) λh1 bq=>?_;cases bq)
   delta va;rw[if_pos ht.2];exact(I.ok _ hs).1.lt.2
 ·refine be ((I.tb l o).mp h) λh1 h2 h3=>?_;exact⟨(hC o).mpr ⟨h1,h2⟩,by rw[I.sg h1];exact h3⟩
 ·(refine aC (I.r1 h) λh1 bq=>?_;cases bq)
  exact⟨[],rfl,I.up _⟩
 ·rw[same h1 h2];exact(Cg.adT ts C []).aed b
 ·refine aC ((hC t).mp ht) λh1 h2=>?_;exact⟨t,by rw[I.sg h1];exact(I.tb _ _).mpr ⟨h1,h2,rfl⟩,.inl rfl⟩
 ·have l1:fO E p<=18:=aI (jM _ _) I.adB;exact aI (dF (aI I.tr (h_ 2 I.adB)) (h_ 362 l1)) (by decide)
end
section
variable {h:Hp}{Q:PV}{xs ys:List V}{a b:Nat}
theorem yB(q:Q (.int xs.length) h):pM (V.tup xs) Q h:=by show oE (V.tup xs).adG _ _;rw[uO,lU];exact q
theorem KG(l:xs.length<aG)(q:Q (V.tup xs) h):yp (V.tup xs) Q h:=by show oE (V.tup xs).adG _ _;rw[uO];exact⟨by rw[lU];rfl,q⟩
theorem zn:n7 (a:Int) b=((min a b:Nat):Int):=by delta n7;split <;> rename_i h;exact congrArg _ (xg (bP (gC.mp h))).symm;exact congrArg _ (o7 (uw λz=>h (gC.mpr z))).symm
theorem xx:nN (a:Int) b=((max a b:Nat):Int):=by delta nN;split <;> rename_i h;exact congrArg _ (qy (bP (gC.mp h))).symm;exact congrArg _ (Bm (uw λz=>h (gC.mpr z))).symm
theorem DZ{K:Hp->Option (Nat×O)->List V->Prop}{l l':List Nat}(q:K h ao ((l.zip l').map λp=>V.tup [iv p.1,iv p.2])):DK (V.tup (l.map iv)) K (V.tup (l'.map iv)) h:=by delta DK tT;rw[lU,lU];show K h ao (((l.map iv).zip (l'.map iv)).map _);rw[acZ,iE];exact q
end
noncomputable def fH(s t:Nat):Tm:=⟨59,[min s t,max s t],0,iv 0⟩
section
variable {b:Nat->Nat}{s t n f:Nat}{ts:List Tm}{h:Hp}{Q:PV}{X:Hp->Prop}{T:Tm}{R:aM}{v:V}
theorem St.bh(x:St h (bd fT b ts++R)):BH b ts h:=λp hp=>x.at_ p (b8 hp)
theorem ZY(x:BH b ts h)(hs:s<4)(q:Q (iv 0) h):Cl 1003 [.ref (b 0),iv s] Q X h:=by have e:[iv 0,iv 0,iv 0,iv 0][s]? =aa (iv 0):=vK (P:=λs=>[iv 0,iv 0,iv 0,iv 0][s]? =aa (iv 0)) rfl rfl rfl rfl s hs;exact ba (cX (x.g 0 rfl) rfl rfl (cz (x.g 2 rfl) (lQ e) q))
theorem Eb{α:Type}{l:List α}{g:α->V}{n:Nat}{x:α}(e:l[n]? =aa x):iR (l.map g) (n:Int)=aa (g x):=lQ (by rw[qq,e];rfl)
theorem T2{l:List Nat}(x:BH b ts h)(e:rv[f]? =aa l)(q:Q (V.tup (l.map iv)) h):Cl 1005 [.ref (b 0),iv f] Q X h:=
 ba (cX (x.g 0 rfl) rfl rfl (cz (x.g 4 rfl) (Eb e) q))
theorem Kb(x:BH b ts h)(e:tm ts t=aa T)(es:T.sort=s)(q:Q .none h):Cl 1012 [.ref (b 0),iv t,iv s,v] Q X h:=
 ba (cX (x.g 0 rfl) rfl rfl (cz (x.g 8 rfl) (rp e) (jo (pq es q))))
theorem Yy(x:St h (bd fT b ts++R))(hl:ts.length<1000)(q:∀h',St h' (bd fT b (gf ts (fH s t)).2++R)->Q (iv (gf ts (fH s t)).1) h'):Cl 1011 [.ref (b 0),.str 59,V.tup [.int (n7 s t),.int (nN s t)],iv 0,iv 0] Q X h:=by rw[zn,xx];exact pN (t:=fH s t) x rfl hl q
theorem IL{T':Tm}(x:St h (bd fT b ts++R))(e:tm ts s=aa T)(e':tm ts t=aa T')(es:T'.sort=T.sort)(bF:s≠t)(hl:ts.length<1000)(q:∀h',St h' (bd fT b (gf ts (fH s t)).2++R)->Q (iv (gf ts (fH s t)).1) h'):
  Cl 1016 [.ref (b 0),iv s,iv t] Q X h:=
 ba (cI (x.ix 0 rfl) rfl rfl (cX (x.ix 0 rfl) rfl rfl (cz (x.ix 8 rfl) (rp e) (Kb x.bh e' es (ff (lO bF (cI (x.ix 0 rfl) rfl rfl (Yy x hl q))))))))
theorem RR{l so:List Nat}{r:Nat}(x:St h (bd fT b ts++R))(ef:rv[f]? =aa so)(er:vG[f]? =aa r)(ha:l.map (λt=>(tm ts t).map (·.sort))=so.map aa)(hl:ts.length<1000)(q:∀h',St h' (bd fT b (gf ts ⟨61,l,r,iv f⟩).2++R)->Q (iv (gf ts ⟨61,l,r,iv f⟩).1) h'):
  Cl 1017 [.ref (b 0),iv f,V.tup (l.map iv)] Q X h:=by
 have e1:l.length=so.length:=by have:=congrArg o_ ha;rw[aP,aP] at this;exact this
 have hf:f<11:=(i8.mp ef).1;obtain ⟨nm,hnm⟩:∃nm,fT.fn[f]? =aa nm:=⟨_,oF (show f<fT.fn.length from hf)⟩;have e2:(((l.map iv).length:Nat):Int)=((so.map iv).length:Nat):=by rw[aP,aP,e1]
 have e3:(l.map iv).length <aG:=by rw[aP,e1];have:=cQ.mp (show rv.all (λl=>decide (l.length<aG))=ah from rfl) so (AF ef);exact of_decide_eq_true this
 have st:∀{p d r},l.zip so=d++p::r->∃T,tm ts p.1=aa T/\T.sort=p.2:=λ{p d r} e=>by
  have hp:p∈l.zip so:=by rw[e];exact aX (.head _)
  have:(l.zip so).map (λp=>(tm ts p.1).map (·.sort))=(l.zip so).map λp=>aa p.2:=by
   have k:∀{l so:List Nat},l.map (λt=>(tm ts t).map (·.sort))=so.map aa->(l.zip so).map (λp=>(tm ts p.1).map (·.sort))=(l.zip so).map λp=>aa p.2:=λ{l}=>by
    induction l with
    |nil=>exact λ_=>rfl
    |cons t l ih=>
     intro so e;cases so with
     |nil=>rfl
     |cons s so=>injection e with e1 e2;show _::_=_::_;exact congr (congrArg List.cons e1) (ih e2)
   exact k ha
  exact iD.mp (List.map_eq_map_iff.mp this p hp)
 refine ba (cX (x.ix 0 rfl) rfl rfl (cz (x.ix 4 rfl) (Eb ef) (yB (yB (Ce (pq e2 (DZ (cb [15,41,51] rfl rfl (λ_ h'=>h'=h) (λ_ _ _=>cY) rfl (λd p r e ξ h' i J hJ=>?_) λξ h' i=>?_))))))))
 ·refine e1a2 (st e) λT g1 g2=>?_;rw[i];exact cI (x.ix 0 rfl) rfl rfl (cX (x.ix 0 rfl) rfl rfl (cz (x.ix 3 rfl) (lQ hnm) (Kb x.bh g1 g2 (hJ _ _ rfl))))
 ·rw[i];exact cI (x.ix 0 rfl) rfl rfl (KG e3 (cX (x.ix 0 rfl) rfl rfl (cz (x.ix 5 rfl) (Eb er) (pN (t:=⟨61,l,r,iv f⟩) x rfl hl q))))
theorem L7{l so:List Nat}{r k:Nat}{ts':List Tm}(x:St h (bd fT b ts++R))(ef:rv[f]? =aa so)(er:vG[f]? =aa r)(ha:l.map (λt=>(tm ts t).map (·.sort))=so.map aa)(hl:ts.length<1000)(e:gf ts ⟨61,l,r,iv f⟩=(k,ts'))(q:∀h',St h' (bd fT b ts'++R)->Q (iv k) h'):
  Cl 1017 [.ref (b 0),iv f,V.tup (l.map iv)] Q X h:=RR x ef er ha hl (by rw[e];exact q)
end
noncomputable abbrev SL:=List (Nat×Bool)
noncomputable abbrev sv(e:Nat×Bool):V:=V.tup [iv e.1,.bool e.2]
theorem v_b{b:Bool}{A B:Prop}(x:b=ah->A)(y:b=au->B):br b A B:=by cases b;exact y rfl;exact x rfl
noncomputable def Op(ts:List Tm)(t:Nat)(D:List Nat):List Nat->SL->Prop
 |A,[]=>t∈D\/t∈A
 |A,e::r=>(e.2=ah->∀a∈ar ts e.1,a∈D\/a∈A)/\Op ts t D (e.1::A) r
noncomputable def jm(wt:Nat->Nat):SL->Nat
 |[]=>0
 |e::r=>(if e.2 then 1 else wt e.1)+jm wt r
noncomputable def push(D dn:List Nat):SL:=(dn.filter λa=>decide (a∉D)).reverse.map λa=>(a,au)
section
variable {ts:List Tm}{t a u:Nat}{D D' dn ms:List Nat}{wt:Nat->Nat}
theorem Op.mono:∀{s:SL} {A A':List Nat},(∀a,a∈D\/a∈A->a∈D'\/a∈A')->Op ts t D A s->Op ts t D' A' s:=by
 intro s;induction s with
 |nil=>intro _ _ h o;exact h t o
 |cons e r ih=>
  intro A A' h o;exact⟨λz a ha=>h a (o.1 z a ha),ih (λa ha=>by rw[a_] at ha ⊢;exact ha.elim (λw=>(h a (.inl w)).imp_right .inr) λw=>w.elim (λw=>.inr (.inl w)) λw=>(h a (.inr w)).imp_right .inr) o.2⟩
theorem Op.push{s:SL}{A':List Nat}(o:Op ts t D A' s):∀{ms A:List Nat},(∀a,a∈A'->a∈A\/a∈ms)->Op ts t D A (ms.map (λa=>(a,au))++s):=by
 intro ms;induction ms with
 |nil=>intro A h;exact Op.mono (λa=>Or.imp_right λw=>(h a w).resolve_right fF) o
 |cons m ms ih=>
  intro A h;exact⟨λz=>(nomatch z),ih λa ha=>by rw[a_];exact(h a ha).elim (λw=>.inl (.inr w)) λw=>(a_.mp w).elim (λw=>.inl (.inl w)) .inr⟩
theorem Dn(l:List Nat):push D l.reverse=(l.filter λa=>decide (a∉D)).map λa=>(a,au):=by unfold Mine.push;rw[List.filter_reverse,List.reverse_reverse]
theorem XG(h:a∈D):push D (dn++[a])=push D dn:=by unfold Mine.push;rw[HI,GL (by rw[decide_eq_true_iff];exact λz=>z h)];rw[ac8,cq]
theorem UK(h:a∉D):push D (dn++[a])=(a,au)::push D dn:=by unfold Mine.push;rw[HI,AA (p:=λa=>decide (a∉D)) (decide_eq_true h),ac8,List.reverse_append];rfl
theorem BU{e:Nat×Bool}{s:SL}:(e::s).reverse.map sv=s.reverse.map sv++[sv e]:=by rw[Au,bA];rfl
theorem Xd(s:SL):∀(l:List Nat),jm wt (((l.filter λa=>decide (a∉D)).map λa=>(a,au))++s)<=(l.map wt).sum+jm wt s:=by
 intro l;induction l with
 |nil=>exact jD (nb _).symm
 |cons a l n8=>
  have ih:=n8;rw[bW,Qw,ss,hZ];split
  ·exact ds ih _
  ·exact aI ih (A_ _ _)
theorem US:∀{s:SL},(∀e∈s,1<=wt e.1)->s.length<=jm wt s:=by
 intro s;induction s with
 |nil=>intro _;exact bQ _
 |cons e s ih=>
  intro k;rw[e_,dB];refine dF ?_ (ih λx hx=>k x (.tail _ hx));split
  ·exact bQ _
  ·exact k e (.head _)
end
structure BI(ts:List Tm)(K':Nat->Prop)(wt:Nat->Nat)(as ad af:Nat)(L:aM)(t:Nat)(a:SL×List Nat)(h:Hp):Prop where
 x:∃dd,St h ((as,.list (a.1.reverse.map sv))::(ad,.dict dd)::(af,.list (a.2.map iv))::L)/\DI dd (bj a.2 λ_=>.bool ah)
 le:jm wt a.1<1000
 ks:∀e∈a.1,K' e.1
 cl:∀u∈a.2,K' u/\∀a'∈ar ts u,a'∈a.2
 op:Op ts t a.2 [] a.1
 nd:a.2.Nodup
section
variable {b:Nat->Nat}{t n k:Nat}{ts:List Tm}{h:Hp}{Q:PV}{X:Hp->Prop}{L:aM}{dd:List (V×V)}{E:List Nat}{gg:Nat->V}{Qt:Bool->Hp->Prop}
theorem D_(g:h.get n=aa (.dict dd))(D:DI dd (bj E gg))(x:k∈E->Qt ah h)(y:k∉E->Qt au h):bZ .inn (iv k) (.ref n) Qt h:=
 Ct g (D.ko k) (by
  rw[D.g];by_cases z:k∈E
  ·rw[show bj E gg k=_ from if_pos z];exact x z
  ·rw[show bj E gg k=_ from if_neg z];exact y z)
theorem B7(g:h.get n=aa (.dict dd))(D:DI dd (bj E gg))(x:k∉E->Qt ah h)(y:k∈E->Qt au h):bZ .notin (iv k) (.ref n) Qt h:=
 qQ g (D.ko k) (by
  rw[D.g];by_cases z:k∈E
  ·rw[show bj E gg k=_ from if_pos z];exact y z
  ·rw[show bj E gg k=_ from if_neg z];exact x z)
theorem St.bh'{L1:aM}(x:St h (L1++L))(hb:∀q∈bd fT b ts,q∈L):BH b ts h:=λq hq=>x.at_ q (aX (hb q hq))
theorem Vc{K:Hp->Option (Nat×O)->List V->Prop}{l:List Nat}(q:K h ao (l.reverse.map iv)):Df K (V.tup (l.map iv)) h:=by delta Df;rw[lU];show K h ao (l.map iv).reverse;rw[<-acm];exact q
theorem Sp(x0:St h L)(hb:∀q∈bd fT b ts,q∈L){K':Nat->Prop}{wt:Nat->Nat}(hK:K' t)(hk:∀t,K' t->eD ts t/\∀a∈ar ts t,K' a)(Os:∀t,K' t->1+((ar ts t).map wt).sum <wt t)(ht:wt t<1000)
  (q:∀(h':Hp) (n:Nat) (l:List Nat),St h' ((n,.list (l.map iv))::L)->t∈l->(∀u∈l,K' u/\∀a∈ar ts u,a∈l)->l.length<1000->Q (.ref n) h'):Cl 1014 [.ref (b 0),iv t] Q X h:=by
 have B0:BH b ts h:=λq hq=>x0.at_ q (hb q hq);have Ot:∀{u},K' u->1<=wt u:=λhu=>bP (aR (b_ _ _) (Os _ hu));have lm:∀{m},m<1000->m<aG:=λh=>bY h (by decide);refine ba (cI (B0.g 0 rfl) rfl rfl (ba (qZ x0 λaf h x=>qZ x λad h x=>(cb (L:=[t]) (g:=λt=>iv t) [15,47,55] rfl rfl
  (λd h=>(d=[]->St h ((ad,.dict [])::(af,.list [])::L))/\(d≠[]->∃l:List Nat,St h ((af,.list (l.map iv))::L)/\t∈l/\(∀u∈l,K' u/\∀a∈ar ts u,a∈l)/\l.length<1000)) (λ_ _ _=>cY) ⟨λ_=>x,λz=>absurd rfl z⟩
  (λp t' r e ξ h i J hJ=>?_) λξ h i=>?_))))
 ·obtain ⟨ep,et⟩:p=[]/\t'=t:=by
   cases p with
   |nil=>injection e with e1;exact⟨rfl,e1.symm⟩
   |cons _ p=>cases p <;> cases e
  rw[et];rw[ep] at hJ;refine qZ (i.1 ep) λas h x=>mM [15,55,47,53] rfl rfl [] (λ_=>[]) (BI ts K' wt as ad af L t) (λa=>jm wt a.1) ([(t,au)],[]) rfl
   ⟨⟨[],x,jG,λ_ w=>(nomatch w),λ_=>rfl⟩,ht,λe he=>by rw[aZ.mp he];exact hK,λ_ w=>(nomatch w),⟨λz=>(nomatch z),.inr (.head _)⟩,jG⟩ λa ξ h i K hK=>?_
  obtain ⟨s,D⟩:=a;have lD:D.length<1000:=aR (g_ 18 D i.nd λu hu=>(hk u (i.cl u hu).1).1.lt.1) (by decide);have lD':(D.map iv).length <aG:=by rw[aP];exact lm lD
  refine e1a2 i.x λdd x e6=>?_;cases s with
  |nil=>exact eO (x.ix 0 rfl) (hJ _ _ ⟨λz=>(nomatch z),λ_=>⟨D,x.sub (.cons _ (.cons _ (.refl _))),i.op.resolve_right fF,i.cl,lD⟩⟩)
  |cons e r=>
   obtain ⟨u,o⟩:=e;have x:St h ((as,.list ((⟨u,o⟩::r).reverse.map sv))::(ad,.dict dd)::(af,.list (D.map iv))::L):=x;have e6:DI dd (bj D λ_=>.bool ah):=e6;have ks:∀e∈(u,o)::r,K' e.1:=i.ks;have op:Op ts t D [] ((u,o)::r):=i.op;have le:jm wt ((u,o)::r)<1000:=i.le;have cl:∀u∈D,K' u/\∀a'∈ar ts u,a'∈D:=i.cl;have nd:D.Nodup:=i.nd;have hu:K' u:=ks _ (.head _);refine aC (hk u hu) λuo hua=>?_;have ls:((u,o)::r).length<=jm wt ((u,o)::r):=US λe he=>Ot (ks e he);have lr:jm wt r<jm wt ((u,o)::r):=Nat.lt_add_of_pos_left (show 0<if o=ah then 1 else wt u by split;exact Nat.one_pos;exact Ot hu);rw[BU] at x;have l0:0<(r.reverse.map sv++[sv (u,o)]).length:=by rw[aT];exact gw _
   have dn:∀{D'},u∈D'->(∀a,a∈D->a∈D')->Op ts t D' [] r:=λhD hs=>op.2.mono λa w=>.inl (w.elim (hs a) λw=>aZ.mp w▸hD);refine eO (x.ix 0 rfl) (mK (o9.mpr l0) (cN (x.ix 0 rfl) rfl (J0 x 0 rfl λh x=>D_ (x.ix 1 rfl) e6
    (λz=>hK (r,D) _ _ lr rfl ⟨⟨dd,x,e6⟩,bY lr le,λe he=>ks e (.tail _ he),cl,dn z λ_ h=>h,nd⟩) λz=>v_b (λeo=>?_) λeo=>?_)))
   ·rw[show o=ah from eo] at op;have lu:∀a∈ar ts u,a∈D:=λa ha=>(op.1 rfl a ha).resolve_right fF;refine f6 x 1 rfl (e6.ko u) e6.lim λh x=>cN (x.ix 2 rfl) rfl (iw x 2 rfl lD' λh x=>hK (r,D++[u]) _ _ lr rfl ⟨⟨_,by rw[bA (l₁:=D)];exact x,by rw[<-mI];exact e6.put uo.lt.1 _⟩,bY lr le,λe he=>ks e (.tail _ he),λw hw=>?_,dn (aX (.head _)) λa h=>b8 h,?_⟩)
    ·rcases bx.mp hw with hw|hw
     ·exact⟨(cl w hw).1,λa ha=>b8 ((cl w hw).2 a ha)⟩
     ·rw[aZ.mp hw];exact⟨hu,λa ha=>b8 (lu a ha)⟩
    ·rw[fW];exact⟨nd,dK.mpr ⟨fF,jG⟩,λa ha b hb e=>z (by rw[<-aZ.mp hb,<-e];exact ha)⟩
   ·rw[show o=au from eo] at op;have ew:jm wt (push D (ar ts u).reverse++(u,ah)::r)<jm wt ((u,o)::r):=by rw[Dn,show o=au from eo];refine aR (Xd _ _) ?_;show _+(1+jm wt r)<wt u+jm wt r;rw[<-hZ,dB _ 1];exact HJ (Os u hu) _
    have lr':(r.reverse.map sv).length <aG:=by rw[aP,qn];exact lm (c9 (jY _) (bP (aR ls le)))
    refine cN (x.ix 0 rfl) rfl (iw x 0 rfl lr' λh x=>cX ((St.bh' (L1:=[_,_,_]) x hb).g 0 rfl) rfl rfl (cz ((St.bh' (L1:=[_,_,_]) x hb).g 7 rfl) (rp uo.tm) (Vc (cb [15,55,53] rfl rfl (λdn h=>St h ((as,.list ((push D dn++(u,ah)::r).reverse.map sv))::(ad,.dict dd)::(af,.list (D.map iv))::L)) (λ_ _ _=>cY) ?_ (λdn a rs e ξ h x J hJ=>?_) λξ h x=>hK (_,D) _ _ ew rfl ⟨⟨dd,x,e6⟩,bY ew le,?_,cl,?_,nd⟩))))
    ·show St _ ((as,.list (((u,ah)::r).reverse.map sv))::_);rw[BU];exact x
    ·refine B7 (x.ix 1 rfl) e6 (λz=>cN (x.ix 0 rfl) rfl (iw x 0 rfl ?_ λh x=>hJ _ _ (by rw[UK z,qr,BU];exact x))) λz=>hJ _ _ (by rw[XG z];exact x);have:=(congrArg o_ e).symm.trans qn;rw[aT,e_] at this;have l2:(push D dn).length<=dn.length:=by unfold Mine.push;rw[aP,qn];exact jM _ _
     have l3:dn.length<2:=c9 (c9 (qf (gw _)) (jD this)) uo.ar;rw[aP,qn,aT];exact aR (dF (aI l2 (bP l3)) (bP (aR ls le))) (by decide)
    ·intro e he;rw[show(push D (ar ts u).reverse++(u,ah)::r,D).1=push D (ar ts u).reverse++(u,ah)::r from rfl,Dn] at he;rcases bx.mp he with he|he
     ·refine e1a2 (bz.mp he) λa ha e1=>?_;rw[<-e1];exact hua a (cW.mp ha).1
     ·rcases a_.mp he with he|he
      ·rw[he];exact hu
      ·exact ks e (.tail _ he)
    ·show Op ts t D [] (push D (ar ts u).reverse++(u,ah)::r);rw[Dn];have hm:∀a∈ar ts u,a∈D\/a∈(ar ts u).filter λa=>decide (a∉D):=λa ha=>(Qv (a∈D)).imp_right λz=>cW.mpr ⟨ha,decide_eq_true z⟩;exact Op.push (s:=(u,ah)::r) (A':=(ar ts u).filter λa=>decide (a∉D)) ⟨λ_=>hm,op.2.mono λa w=>w.imp_right λw=>by rw[aZ.mp w];exact .head _⟩ λa=>.inr
 ·refine e1a4 (i.2 (λz=>nomatch z)) λl x h1 h2 h3=>?_;exact q _ _ l x h1 h2 h3
end
structure DS where
 ca:Nat
 cs:List Nat
 r:Nat
 e:Nat
noncomputable def eH(z u:Nat)(S:DS):aM:=[(z,.dict [(.str 182,.ref S.ca),(.str 183,iv S.r),(.str 156,iv u),(.str 184,iv S.e)]),(S.ca,.list (S.cs.map iv))]
def SD(z u:Nat)(L:aM)(h:Hp):Prop:=∃S:DS,S.cs.length<=24/\St h (eH z u S++L)
theorem jh:∀l:List Nat,gJ (l.map iv)=ah:=by
 intro l;induction l with
 |nil=>exact rfl
 |cons x l ih=>exact ih
theorem ym(e:h.get a=aa (.list xs))(e':h.get b=aa (.list ys))(k:gJ xs=ah)(k':gJ ys=ah)(q:Qt (!decide (xs=ys)) h):bZ .ne (.ref a) (.ref b) Qt h:=
 .inr (.inl ⟨a,b,rfl,rfl,xs,e,ys,e',k,k',q⟩)
theorem Ep(e:h.get a=aa (.list xs))(e':h.get b=aa (.list ys))(k:gJ xs=ah)(k':gJ ys=ah)(q:Qt (decide (xs=ys)) h):bZ .eq (.ref a) (.ref b) Qt h:=
 .inr (.inl ⟨a,b,rfl,rfl,xs,e,ys,e',k,k',q⟩)
theorem vo(hy:0<y)(q:Q (iv (x % y)) h):pW .mod (iv x) (iv y) Q h:=
 ⟨o9.mpr hy,by rw[Int.fmod_eq_emod_of_nonneg _ (nk _),<-Int.natCast_emod];exact q⟩
theorem Dg(hy:0<y)(Gj:y<1073741824)(q:Q (iv (x / y)) h):pW .fdiv (iv x) (iv y) Q h:=
 ⟨o9.mpr hy,gC.mpr Gj,by rw[Int.fdiv_eq_ediv_of_nonneg _ (nk _),<-Int.natCast_ediv];exact q⟩
theorem zm(hx:x<2147483648)(hy:y<2147483648)(q:Q (iv (x*y)) h):pW .mul (iv x) (iv y) Q h:=
 ⟨decide_eq_true hx,decide_eq_true hy,q⟩
theorem Dt(x:SD z u L h)(hm:0<m)(ox:m<1073741824)(hu:u<1000000)(q:∀h' k,SD z (u+1) L h'->k<m->Q (iv k) h'):Cl 190 [.ref z,iv m] Q X h:=by
 refine e1a2 x λS hc x=>?_;refine ba (eX (x.ix 0 rfl) rfl rfl (f6 x 0 rfl rfl (show 4<aG by decide) λh x=>kG [187,188] (λ_:Unit=>[.ref z,iv m]) (λ_ h=>SD z (u+1) L h) (λ_ ξ h x=>?_)
  λK' tail _=>eX (x.ix 0 rfl) rfl rfl (B_ (dx (λhr=>eX (x.ix 0 rfl) rfl rfl (qZ x λn h x=>?_)) λhr=>lO hr (tail () _ _ rfl ⟨S,hc,x⟩)))))
 ·refine e1a2 x λS hc x=>?_;have hu:u+1<1000001:=ac1 hu;generalize u+1=u at q x hu;refine eX (x.ix 0 rfl) rfl rfl (dx (λhr=>eX (x.ix 0 rfl) rfl rfl (vo hm (eX (x.ix 0 rfl) rfl rfl (Dg hm ox (f6 x 0 rfl rfl (show 4<aG by decide) λh x=>q _ _ ⟨{S with r:=S.r / m},hc,x⟩ (Qy _ hm)))))) λhr=>?_);have l1:(S.e+1031*u) % 10007<10007:=Qy _ (by decide);refine eX (x.ix 0 rfl) rfl rfl (eX (x.ix 0 rfl) rfl rfl (zm (x:=1031) (by decide) (bY hu (by decide)) (vo (x:=S.e+1031*u) (y:=10007) (by decide) ?_)));generalize (S.e+1031*u) % 10007=k at l1;have l2:=bY l1 (show 10007<2147483648 by decide);exact zm l2 l2 (zm (x:=77) (by decide) l2 (vo (x:=k*k+77*k) (y:=10009) (by decide) (Dg (y:=8) (by decide) (by decide) (vo hm (q _ _ ⟨S,hc,x⟩ (Qy _ hm))))))
 ·obtain ⟨ca,cs,r,e⟩:=S;cases cs with
  |nil=>exact ym (x.ix 2 rfl) (x.ix 0 rfl) rfl rfl (tail () _ _ rfl ⟨_,hc,x.sub (.cons _ (.refl _))⟩)
  |cons c0 cs=>
   have hl:((c0::cs).map iv).length <aG:=by rw[aP];exact aR hc (by decide)
   exact ym (x.ix 2 rfl) (x.ix 0 rfl) (jh _) rfl (eX (x.ix 1 rfl) rfl rfl (cz (v:=iv c0) (x.ix 2 rfl) rfl (f6 x 1 rfl rfl (show 4<aG by decide) λh x=>eX (x.ix 1 rfl) rfl rfl
    ⟨_,x.ix 2 rfl,by decide,hl,qZ x λn h x=>f6 x 2 rfl rfl (show 4<aG by decide) λh x=>tail () _ _ rfl ⟨⟨n,cs,c0,e⟩,w8 hc,(x.sub (.cons₂ _ (.cons _ (.cons₂ _ (.cons _ (.refl _)))))).perm (.swap _ _ _)⟩⟩)))
theorem SD.st(x:SD z u L h):St h L:=e1a2 x λ_ _ x=>x.sub (Qp _ _)
theorem SD.lk(x:SD z u L h):h.lk=ao:=x.st.lk
theorem SD.at(x:SD z u L h)(hq:q∈L):h.get q.1=aa q.2:=x.st.at_ q hq
theorem SD.ix(x:SD z u L h)(i:Nat)(e:L[i]? =aa (n,o)):h.get n=aa o:=x.st.ix i e
theorem SD.sub(x:SD z u L h)(s:L'.Sublist L):SD z u L' h:=e1a2 x λS hc x=>⟨S,hc,x.sub (.append (.refl _) s)⟩
theorem SD.perm(x:SD z u L h)(s:L.Perm L'):SD z u L' h:=e1a2 x λS hc x=>⟨S,hc,x.perm (s.append_left _)⟩
theorem SD.new(x:SD z u L h)(e:h.get n=ao):SD z u ((n,o)::L) (h.put n o):=e1a2 x λS hc x=>⟨S,hc,(x.new e).perm mf.symm⟩
theorem SD.set(x:SD z u L h)(i:Nat)(e:L[i]? =aa (n,o)):SD z u (L.set i (n,o')) (h.put n o'):=e1a2 x λS hc x=>⟨S,hc,x.set (i+2) e o'⟩
theorem SD.drop(x:SD z u (p::L) h):SD z u L h:=x.sub (HB _ _)
theorem yh(x:SD z u L h)(q:∀n h',SD z u ((n,o)::L) h'->Q (.ref n) h'):cj o Q h:=λn e=>q n _ (x.new e)
theorem U6(x:SD z u L h)(i:Nat)(e:L[i]? =aa (n,.list xs))(l:xs.length<aG)(q:∀h',SD z u (L.set i (n,.list (xs++[v]))) h'->Q .none h'):iK n v Q h:=sO (x.ix i e) l x.lk (q _ (x.set i e))
theorem Sc(x:SD z u L h)(i:Nat)(e:L[i]? =aa (n,.dict es))(ko:b7 w es=ah)(l:es.length<aG)(q:∀h',SD z u (L.set i (n,.dict (bB es w v))) h'->Qu h'):dY (.ref n) w v Qu h:=yw (x.ix i e) ko l x.lk (q _ (x.set i e))
theorem l_any(x:SD z u L h)(ha:(a,.list xs)∈L)(h0:xs≠[])(ox:xs.length<1073741824)(hu:u<1000000)(q:∀h' v,SD z (u+1) L h'->v∈xs->Q v h'):Cl 191 [.ref z,.ref a] Q X h:=
 ba (eO (x.at ha) (Dt x (m:=xs.length) (List.length_pos_iff.mpr h0) ox hu λh k x hk=>cz (x.at ha) (lQ (oF hk)) (q _ _ x (GF hk))))
theorem I4(x:SD z u L h)(ha:(a,.list (l.map iv))∈L)(h0:l≠[])(ox:l.length<1073741824)(hu:u<1000000)(q:∀h' k,SD z (u+1) L h'->k∈l->Q (iv k) h'):Cl 191 [.ref z,.ref a] Q X h:=
 l_any x ha (λz=>h0 (pg.mp z)) (by rw[aP];exact ox) hu λh' v x hv=>by refine e1a2 (bz.mp hv) λk h1 h2=>?_;rw[<-h2];exact q h' k x h1
theorem SD.use(x:SD z u (A++L) h):∃M,St h (A++(L++M))/\∀A' L' h',St h' (A'++(L'++M))->SD z u (A'++L') h':=by refine e1a2 x λS hc x=>?_;exact⟨eH z u S,by rw[<-bt];exact x.perm Bo,λA' L' h' y=>⟨S,hc,by rw[<-bt] at y;exact y.perm Bo⟩⟩
section
variable {h:Hp}{Q:PV}{X:Hp->Prop}{n a:Nat}
theorem Ko:∀l:List Nat,kr (l.map iv)=aa (l.map λ(n:Nat)=>(n:Int)):=by
 intro l;induction l with
 |nil=>exact rfl
 |cons n l ih=>exact by show(kr (l.map iv)).map _=_;rw[ih];rfl
theorem Y_:∀l:List Nat,∃k:Nat,(l.map λ(n:Nat)=>(n:Int)).sum=k:=by
 intro l;induction l with
 |nil=>exact⟨0,rfl⟩
 |cons x l ih=>exact e1a1 (ih) λk e=>⟨x+k,by rw[bW,Qw,e];rfl⟩
theorem aav{l:List Nat}(e:h.get n=aa (.list (l.map iv)))(q:∀k,Q (iv k) h):CH (.ref n) Q h:=e1a1 (Y_ l) λk ek=>⟨_,e,_,Ko l,by rw[ek];exact q k⟩
end
section
variable {b:Nat->Nat}{n m nm f r:Nat}{ts:List Tm}{h:Hp}{Q:PV}{X:Hp->Prop}{L R:aM}{F:FT}{l:List Nat}{P:Prop}
noncomputable def F0:FT:=⟨[.str 34,.str 35,.str 36],[iv 0,iv 0,iv 0],[],[],[],[]⟩
noncomputable abbrev F2:FT:={F0 with xf:=[(20,.int 1),(16,.int 2)]}
theorem lb{n:Nat}(e:uu n 60=ah):n<aG:=aR (Bd e) (by decide)
structure It where
 f:Nat
 e:E
 o:Option O
 w:V
noncomputable def It.v(b:Nat->Nat)(p:It):Nat×V:=(p.f,match p.o with
 |some _=>.ref (b p.f)
 |none=>p.w)
noncomputable def It.c(b:Nat->Nat)(p:It):Option (Nat×O):=p.o.map λo=>(b p.f,o)
def It.ev(p:It)(K:PV)(h:Hp):Prop:=match p.o with
 |some o=>cj o K h
 |none=>K p.w h
noncomputable def uN:List It->S->S
 |[],r=>r
 |p::l,r=>.q (.e (.a p.f) (.b .k p.e (.v 15))) (uN l r)
noncomputable def Em(c:Nat)(ρ:Env)(fs:List Nat):List It->Prop
 |[]=>True
 |p::l=>(∀X (K:PV) h,p.ev K h->vE Cl p.e X ρ K h)/\(mU c p.f&&(!fs.elem p.f&&(uu fs.length 60&& !(l.map It.f).elem p.f)))=ah/\Em c ρ (fs++[p.f]) l
theorem aaE{f:Nat}{v:V}:∀{fs:List (Nat×V)},(fs.map (·.1)).elem f=au->jk fs f v=fs++[(f,v)]:=by
 intro fs;induction fs with
 |nil=>intro _;exact rfl
 |cons e r ih=>
  intro h;have n:f∉e.1::r.map (·.1):=λz=>by have:=Qq z;exact zC ((show List.elem f (e.1::r.map (·.1))=au from h).symm.trans this)
  rw[a_,not_or] at n;show(if e.1=f then(e.1,v)::r else e::jk r f v)=_;rw[if_neg (eJ n.1),ih (by cases z:(r.map (·.1)).elem f with|false=>rfl|true=>exact absurd (List.mem_of_elem_eq_true z) n.2)];rfl
theorem Dk{c a:Nat}{r:S}{ρ:Env}{Qx:PX}(e0:ρ 15=aa (.ref a)):∀(l:List It) {fs:List (Nat×V)} {b:Nat->Nat} {L:aM} {h:Hp},Em c ρ (fs.map (·.1)) l->St h ((a,.inst c fs)::L)->
  (∀(b':Nat->Nat) h',(∀f,f∉l.map It.f->b' f=b f)->St h' ((a,.inst c (fs++l.map (It.v b')))::(l.filterMap (It.c b')++L))->vS Cl r ρ Qx h')->vS Cl (uN l r) ρ Qx h:=by
 intro l;induction l with
 |nil=>intro fs b L h _ x q;exact q b h (λ_ _=>rfl) (by rw[ac9,cq];exact x)
 |cons p l ih=>
  intro fs b L h o x q;refine be o λo1 o2 o3=>?_;rw[dE,dE,dE,xo,xo,aP] at o2;refine f9 o2 λp1 p2 p3 p4=>?_;have p5:p.f∉l.map It.f:=λz=>by exact zD ((Qq z).symm.trans p4)
  refine o1 _ _ _ ?_;have set:∀{v h L},St h ((a,.inst c fs)::L)->(∀h',St h' ((a,.inst c (fs++[(p.f,v)]))::L)->vS Cl (uN l r) ρ Qx h')->kB .k (vE Cl (.v 15) (kx (nx (vS Cl (uN l r)) Qx))) ρ (kE (.a p.f) ρ (nx (vS Cl (uN l r)) Qx)) v h:=λx q=>by show oG (ρ 15) _;rw[e0];exact nT x 0 rfl p1 (lb p3) λh x=>q h (by rw[<-aaE p2];exact x)
  have o4:∀v,Em c ρ ((fs++[(p.f,v)]).map λx:Nat×V=>x.1) l:=λv=>by rw[bA];exact o3
  delta It.ev;cases eo:p.o with
  |none=>refine set x λh x=>ih (b:=b) (o4 _) x λb' h' hb x=>q b' h' (λf hf=>hb f λw=>hf (.tail _ w)) ?_;rw[List.filterMap_cons_none (by delta It.c;rw[eo];rfl),bW,ada,show It.v b' p=(p.f,p.w) by delta It.v;rw[eo]];exact x
  |some o=>
   refine qZ x λn h x=>set (x.perm (.swap _ _ _)) λh x=>ih (b:=upd b p.f n) (o4 _) x λb' h' hb x=>q b' h' (λf hf=>?_) ?_
   ·rw[bW,a_,not_or] at hf;exact(hb f hf.2).trans (gV hf.1)
   ·have e:b' p.f=n:=(hb _ p5).trans (ip _ _ _);rw[List.filterMap_cons_some (b:=(n,o)) (by delta It.c;rw[eo,e];rfl),bW,ada,show It.v b' p=(p.f,.ref n) by delta It.v;rw[eo,e]];exact x.perm (.cons _ mf)
theorem TP(x:St h ((n,.inst 209 [])::L))(q:∀(b:Nat->Nat) h',b 0=n->St h' (bd F2 b [⟨21,[],0,iv 0⟩,⟨18,[],0,iv 0⟩]++L)->Q .none h'):Cl 1001 [.ref n] Q X h:=by
 refine ba (Dk (b:=λ_=>n) rfl [⟨33,.u .L (.b .k (.l (V.str 34)) (.b .k (.l (V.str 35)) (.b .k (.l (V.str 36)) (.l .adt)))),aa (.list F0.sn),.none⟩,⟨32,.u .L (.b .k (.l (V.int 0)) (.b .k (.l (V.int 0)) (.b .k (.l (V.int 0)) (.l .adt)))),aa (.list F0.sw),.none⟩,
  ⟨31,.u .L (.l .adt),aa (.list []),.none⟩,⟨30,.u .L (.l .adt),aa (.list []),.none⟩,⟨29,.u .L (.l .adt),aa (.list []),.none⟩,⟨28,.l (.int 0),ao,.int 0⟩,⟨26,.u .L (.b .k (.l (V.str 27)) (.l .adt)),aa (.list [.str 27]),.none⟩,⟨25,.u .L (.b .k (.u .T (.l .adt)) (.l .adt)),aa (.list [.adt]),.none⟩,
  ⟨24,.u .L (.b .k (.g 19) (.l .adt)),aa (.list [iv 0]),.none⟩,⟨23,.u .L (.b .k (.l (V.int 0)) (.l .adt)),aa (.list [iv 0]),.none⟩,⟨22,.u .D (.l .adt),aa (.dict []),.none⟩] ?_ x λb h h1 x=>?_)
 ·exact⟨λ_ _ _ q=>q,rfl,λ_ _ _ q=>q,rfl,λ_ _ _ q=>q,rfl,λ_ _ _ q=>q,rfl,λ_ _ _ q=>q,rfl,λ_ _ _ q=>q,rfl,λ_ _ _ q=>q,rfl,λ_ _ _ q=>q,rfl,λ_ _ _ q=>q,rfl,λ_ _ _ q=>q,rfl,λ_ _ _ q=>q,rfl,trivial⟩
 have en:b 0=n:=h1 0 (by decide);have q:=λh'=>q b h' en;rw[<-en] at x ⊢;have y:St h (bd F0 b []++L):=x;exact cI (y.ix 0 rfl) rfl rfl (pN (F:=F0) (ts:=[]) (R:=L) (t:=⟨21,[],0,iv 0⟩) y rfl (by decide) λh x=>nT x 0 rfl rfl (lb rfl) λh x=>cI (x.ix 0 rfl) rfl rfl (pN (F:={F0 with xf:=[(20,.int 1)]}) (ts:=[⟨21,[],0,iv 0⟩]) (R:=L) (t:=⟨18,[],0,iv 0⟩) x rfl (by decide) λh x=>nT x 0 rfl rfl (lb rfl) λh x=>q h x))
end
section
variable {b:Nat->Nat}{n m nm f r s:Nat}{ts:List Tm}{h:Hp}{Q:PV}{X:Hp->Prop}{L R:aM}{F:FT}{l:List Nat}
theorem Ut(x:St h (bd F2 b ts++L))(q:∀h',St h' (bd {fT with fn:=[],fa:=[],fr:=[]} b ts++L)->Q (iv 3) h'):Cl 1002 [.ref (b 0),.str 208] Q X h:=
 ba (cX (x.ix 0 rfl) rfl rfl (cN (x.ix 1 rfl) rfl (iw x 1 rfl (lb rfl) λh x=>cX (x.ix 0 rfl) rfl rfl (cN (x.ix 2 rfl) rfl (iw x 2 rfl (lb rfl) λh x=>cX (x.ix 0 rfl) rfl rfl (eO (x.ix 1 rfl) (q _ x)))))))
theorem vr(x:St h (bd F b ts++L))(l1:F.fn.length<100)(l2:F.fa.length<100)(l3:F.fr.length<100)(hl:l.length<100)
  (q:∀h',St h' (bd {F with fn:=F.fn++[.str nm],fa:=F.fa++[V.tup (l.map iv)],fr:=F.fr++[iv r]} b ts++L)->Q (iv F.fn.length) h'):Cl 1004 [.ref (b 0),.str nm,V.tup (l.map iv),iv r] Q X h:=by
 have lm:∀{n},n<100->n<aG:=λh=>bY h (by decide);refine ba (cX (x.ix 0 rfl) rfl rfl (cN (x.ix 3 rfl) rfl (iw x 3 rfl (lm l1) λh x=>cX (x.ix 0 rfl) rfl rfl (cN (x.ix 4 rfl) rfl (KG (by rw[aP];exact lm hl) (iw x 4 rfl (lm l2) λh x=>
  cX (x.ix 0 rfl) rfl rfl (cN (x.ix 5 rfl) rfl (iw x 5 rfl (lm l3) λh x=>cX (x.ix 0 rfl) rfl rfl (eO (x.ix 3 rfl) ?_)))))))))
 have e:(((F.fn++[V.str nm]).length:Int)-1)=F.fn.length:=by rw[aT];exact Qs (F.fn.length:Int) 1
 have this:Q (.int (F.fn.length:Int)) h:=q _ x;rw[<-e] at this;exact this
theorem qC(x:St h (bd F b ts++L))(e1:F.xf=fT.xf)(l1:F.fn.length<100)(l2:F.fa.length=F.fn.length)(l3:F.fr.length=F.fn.length)(hl:ts.length<1000){Y:Hp->Prop}
  (q:∀h',St h' (bd {F with fn:=F.fn++[.str nm],fa:=F.fa++[.adt],fr:=F.fr++[iv s]} b (gf ts ⟨61,[],s,iv F.fn.length⟩).2++L)->Q (iv (gf ts ⟨61,[],s,iv F.fn.length⟩).1) h'):
  Cl 1004 [.ref (b 0),.str nm,.adt,iv s] (λv h=>Cl 1017 [.ref (b 0),v,.adt] Q X h) Y h:=by
 refine vr (l:=[]) x l1 (l2▸l1) (l3▸l1) (by decide) λh x=>?_;have a1:(F.fa++[V.adt])[F.fn.length]? =aa .adt:=by rw[<-l2,nA (bQ _),qx];rfl
 have a2:(F.fr++[iv s])[F.fn.length]? =aa (iv s):=by rw[<-l3,nA (bQ _),qx];rfl
 have g1:(dR (y9 b++F.xf) 17).isNone=ah:=by rw[e1];rfl
 refine ba (cX (x.ix 0 rfl) rfl rfl (cz (x.ix 4 rfl) (lQ a1) (Ce ⟨cY,cI (x.ix 0 rfl) g1 rfl ⟨rfl,cX (x.ix 0 rfl) rfl rfl (cz (x.ix 5 rfl) (lQ a2) (pN (t:=⟨61,[],s,iv F.fn.length⟩) x rfl hl q))⟩⟩)))
end
noncomputable def bI:List Tm:=[⟨21,[],0,iv 0⟩,⟨18,[],0,iv 0⟩,⟨61,[],1,iv 4⟩,⟨61,[],1,iv 5⟩,⟨61,[],1,iv 6⟩,⟨61,[],3,iv 7⟩,⟨61,[],3,iv 8⟩,⟨61,[],2,iv 9⟩,⟨61,[],2,iv 10⟩,⟨195,[],1,V.tup [iv 0,iv 1]⟩,⟨195,[],1,V.tup [iv 1,iv 1]⟩,⟨195,[],2,V.tup [iv 1,iv 1]⟩]
noncomputable abbrev iP(ts:List Tm)(t:Nat):Option Nat:=(tm ts t).map (·.sort)
structure mH(cts:List Tm):Prop where
 nd:cts.Nodup
 len:cts.length<=5
 ok:∀i (T:Tm),cts[i]? =aa T->T.op=61/\∃f so,f<=3/\T.data=iv f/\vG[f]? =aa T.sort/\rv[f]? =aa so/\T.args.map (iP (bI++cts.take i))=so.map aa
noncomputable def fu(cts:List Tm):List Nat:=fc 13 cts.length
noncomputable def my(A:Nat->Nat):List (V×V):=[(iv 1,.ref (A 1)),(iv 3,.ref (A 3)),(iv 2,.ref (A 2))]
noncomputable def ju(cl pl hl:Nat)(C:List V)(P:Nat->List Nat)(A:Nat->Nat):aM:=[(cl,.list C),(A 2,.list ((P 2).map iv)),(A 1,.list ((P 1).map iv)),(A 3,.list ((P 3).map iv)),(pl,.dict (my A)),(hl,.list [iv 0,iv 1,iv 2,iv 3])]
noncomputable def P0(s:Nat):List Nat:=if s=1 then [3,4,5,10,11] else if s=2 then [8,9,12] else [6,7]
def S3(s:Nat):Prop:=s=1\/s=2\/s=3
theorem qX{P:Nat->Prop}(a:P 1)(b:P 2)(c:P 3){s:Nat}(h:S3 s):P s:=by rcases h with e|e|e <;> (rw[e];assumption)
structure WS(z:Nat)(b:Nat->Nat)(cl pl hl u:Nat)(cts:List Tm)(P:Nat->List Nat)(A:Nat->Nat)(h:Hp):Prop where
 ok:mH cts
 ps:∀s,S3 s->P s≠[]/\(P s).length<=20+cts.length/\∀t∈P s,iP (bI++cts) t=aa s
 x:SD z u (bd fT b (bI++cts)++ju cl pl hl ((fu cts).map iv) P A) h
structure rf(f:Nat)(so:List Nat)(r:Nat):Prop where
 f3:f<=3
 fa:rv[f]? =aa so
 fr:vG[f]? =aa r
 ne:so≠[]
 l2:so.length<=2
 s3:∀s∈so,S3 s
 r3:r≠0->S3 r
theorem Ig{f:Nat}(h:f<4):∃so r,rf f so r:=
 vK (P:=λf=>∃so r,rf f so r) ⟨[1],1,by decide,rfl,rfl,by decide,by decide,λs h=>.inl (aZ.mp h),λ_=>.inl rfl⟩ ⟨[1],0,by decide,rfl,rfl,by decide,by decide,λs h=>.inl (aZ.mp h),λh=>absurd rfl h⟩
  ⟨[3,1],3,by decide,rfl,rfl,by decide,by decide,λs h=>(a_.mp h).elim (λh=>.inr (.inr h)) λh=>.inl (aZ.mp h),λ_=>.inr (.inr rfl)⟩ ⟨[2],2,by decide,rfl,rfl,by decide,by decide,λs h=>.inr (.inl (aZ.mp h)),λ_=>.inr (.inl rfl)⟩ f h
theorem qN{n:Nat}{l:List Nat}:iv n∈l.map iv↔n∈l:=⟨λh=>by refine e1a2 (bz.mp h) λm h1 h2=>?_;rw[<-ji h2];exact h1,λh=>bz.mpr ⟨n,h,rfl⟩⟩
theorem yi{t:Tm}:∀{ts:List Tm} {n k:Nat},adv n ts t=aa k->n<=k/\ts[k-n]? =aa t:=by
 intro ts;induction ts with
 |nil=>intro _ _ h;exact by exact zA h
 |cons x r ih=>
  intro n k h;rw[vH] at h;split at h
  ·rename_i e;rw[<-cP h,qx,e];exact⟨bQ _,rfl⟩
  ·refine aC (ih h) λh1 h2=>?_;refine⟨w8 h1,?_⟩;rw[show k-n=(k-(n+1))+1 by rw[<-Nat.sub_sub,sy (Nat.le_sub_of_add_le (by rw[dB];exact h1))]];exact h2
theorem Jf{t:Tm}:∀{ts:List Tm} {n:Nat},adv n ts t=ao->t∉ts:=by
 intro ts;induction ts with
 |nil=>intro _ _;exact fF
 |cons x r ih=>
  intro n h;rw[vH] at h;split at h
  ·exact zB h
  ·rename_i e;rw[a_,not_or];exact⟨λz=>e z.symm,ih h⟩
theorem nD{ts ts':List Tm}{n:Nat}{T:Tm}(e:tm ts n=aa T):tm (ts++ts') n=aa T:=by
 delta tm at *;split at e
 ·exact zA e
 ·rename_i z;rw[if_neg z,Qz (i8.mp e).1];exact e
theorem Z5{ts ts':List Tm}{n s:Nat}(e:iP ts n=aa s):iP (ts++ts') n=aa s:=by refine e1a2 (iD.mp e) λT h1 h2=>?_;show(tm (ts++ts') n).map _=_;rw[nD h1];exact congrArg aa h2
theorem LQ{cts:List Tm}{i:Nat}:tm (bI++cts) (13+i)=cts[i]?:=by delta tm;rw[if_neg (by rw[dB];exact QA _),show 13+i-1=bI.length+i from congrArg Nat.pred (adb 12 i),nA (b_ _ _),HK]
theorem Ub{cts:List Tm}{T:Tm}(hl:T.args≠[]):(∃k∈fu cts,gf (bI++cts) T=(k,bI++cts))\/(gf (bI++cts) T=(13+cts.length,bI++(cts++[T]))/\T∉cts):=by
 delta gf;cases e:adv 1 (bI++cts) T with
 |some k=>
  refine .inl ⟨k,?_,rfl⟩;refine aC (yi e) λh1 h2=>?_
  (refine e1a1 (Bp h1) λk bq=>?_;cases bq)
  rw[HK] at h2;by_cases z:k<bI.length
  ·rw[Qz z] at h2;exact absurd (of_decide_eq_true (cQ.mp (show bI.all (λT=>decide (T.args=[]))=ah from rfl) _ (AF h2))) hl
  ·(refine e1a1 (Bp (uw z)) λj bq=>?_;cases bq)
   rw[nA (b_ _ _),HK] at h2;have:=(i8.mp h2).1;refine kb.mpr ?_;rw[<-hZ];exact⟨b_ _ _,ut this _⟩
 |none=>refine .inr ⟨?_,λz=>Jf e (bx.mpr (.inr z))⟩;show((bI++cts).length+1,(bI++cts)++[T])=_;rw[aT,bt,show bI.length+cts.length+1=13+cts.length from(adb 12 _).symm]
theorem mH.add{cts:List Tm}{l so:List Nat}{r f:Nat}(w:mH cts)(gr:cts.length<5)(hf:rf f so r)(hs:l.map (iP (bI++cts))=so.map aa)(hn:(⟨61,l,r,iv f⟩:Tm)∉cts):mH (cts++[⟨61,l,r,iv f⟩]):=by
 refine⟨?_,by rw[aT];exact gr,λi T e=>?_⟩
 ·rw[fW];exact⟨w.nd,dK.mpr ⟨fF,jG⟩,λa ha b hb e=>hn (by rw[<-aZ.mp hb,<-e];exact ha)⟩
 ·by_cases z:i<cts.length
  ·rw[Qz z] at e
   (refine aC (w.ok i T e) λh1 aD=>?_;refine e2a5 aD λf' rP h2 h3 h4 h5 h6=>?_)
   exact⟨h1,f',rP,h2,h3,h4,h5,by rw[acW (bP z)];exact h6⟩
  ·(refine e1a1 (Bp (uw z)) λk bq=>?_;cases bq)
   rw[nA (b_ _ _),HK] at e;cases k with
   |zero=>cases zF e;exact⟨rfl,f,so,hf.f3,rfl,hf.fr,hf.fa,by rw[Nat.add_zero,Qr rfl];exact hs⟩
   |succ n=>exact zA e
theorem Su(cts:List Tm)(T:Tm):fu (cts++[T])=fu cts++[13+cts.length]:=by delta fu;rw[aT,List.length_singleton,adc,QB]
section
variable {z u cl pl hl s n:Nat}{h h':Hp}{A:Nat->Nat}{C:List V}{P:Nat->List Nat}{B:aM}{l:List Nat}{Q:PV}{Qt:Bool->Hp->Prop}
theorem Ku(h:S3 s):bC (my A) (iv s)=aa (.ref (A s)):=qX (P:=λs=>bC (my A) (iv s)=aa (.ref (A s))) rfl rfl rfl h
theorem S8(h:S3 s):bB (my A) (iv s) (.ref n)=my (upd A s n):=qX (P:=λs=>bB (my A) (iv s) (.ref n)=my (upd A s n)) rfl rfl rfl h
theorem Mq(h:S3 s):(A s,.list ((P s).map iv))∈ju cl pl hl C P A:=qX (P:=λs=>(A s,O.list ((P s).map iv))∈ju cl pl hl C P A) (iQ 2 rfl) (iQ 1 rfl) (iQ 3 rfl) h
theorem Q9(h:S3 s)(x:SD z u (B++(n,.list (l.map iv))::((ju cl pl hl C P A).set 4 (pl,.dict (my (upd A s n))))) h'):SD z u (B++ju cl pl hl C (upd P s l) (upd A s n)) h':=
 qX (P:=λs=>SD z u (B++(n,.list (l.map iv))::((ju cl pl hl C P A).set 4 (pl,.dict (my (upd A s n))))) h'->SD z u (B++ju cl pl hl C (upd P s l) (upd A s n)) h')
  (λx=>(x.sub (.append (.refl B) (.cons₂ _ (.cons₂ _ (.cons₂ _ (.cons _ (.refl _))))))).perm (.append_left B (.trans (.swap _ _ _) (.cons _ (.swap _ _ _)))))
  (λx=>(x.sub (.append (.refl B) (.cons₂ _ (.cons₂ _ (.cons _ (.refl _)))))).perm (.append_left B (.swap _ _ _)))
  (λx=>(x.sub (.append (.refl B) (.cons₂ _ (.cons₂ _ (.cons₂ _ (.cons₂ _ (.cons _ (.refl _)))))))).perm (.append_left B (.trans (.swap _ _ _) (.cons _ (.trans (.swap _ _ _) (.cons _ (.swap _ _ _))))))) h x
theorem tR{K:Hp->Option (Nat×O)->List V->Prop}{k:Nat}(hk:k<1048576)(q:K h ao ((jE k).map iv)):JC K (iv k) h:=⟨hk,q⟩
theorem ZM{v:V}{xs:List V}(e:h.get n=aa (.list xs))(k:v.data fk=ah)(k':gJ xs=ah)(q:Qt (decide (v∈xs)) h):bZ .inn v (.ref n) Qt h:=.inl ⟨xs,e,k,k',q⟩
theorem xC{v:V}{xs:List V}(e:h.get n=aa (.list xs))(k:v.data fk=ah)(k':gJ xs=ah)(q:Qt (!decide (v∈xs)) h):bZ .notin v (.ref n) Qt h:=.inl ⟨xs,e,k,k',q⟩
end
noncomputable def dW:S->S
 | .q _ r=>r
 |s=>s
noncomputable def Ek:S:=dW (dW (dW (dW (dW (dW (dW (dW (dW IW))))))))
noncomputable def BP:S->S
 | .q s _=>BP s
 | .f _ _ _ b=>b
 |s=>s
structure WI(z:Nat)(b:Nat->Nat)(cl pl hl:Nat)(n:Nat)(cts:List Tm)(P:Nat->List Nat)(A:Nat->Nat)(u:Nat)(h:Hp):Prop where
 w:WS z b cl pl hl u cts P A h
 l1:cts.length<=n
 l2:n=0\/cts≠[]
 l3:u<=1+3*n
theorem SD.bh(x:SD z u (bd fT b ts++L) h):BH b ts h:=x.st.bh
theorem V9(i:WI z b cl pl hl n cts P A u h)(hn:n<5)(q:∀aO h' cts P A u,WI z b cl pl hl (n+1) cts P A u h'->K .next aO h'):
  vS Cl (BP (dW Ek)) (bf [193] [w] (bf [63,66,192,65,187] [.ref (b 0),.ref hl,.ref pl,.ref cl,.ref z] ξ)) K h:=by
 obtain ⟨⟨w1,w2,x⟩,i1,i2,i3⟩:=i;have hu:u<=16:=aI i3 (ds (h_ 3 (bP hn)) 1);have lm:∀{m},m<100->m<aG:=λh=>bY h (by decide);have lu:∀{k},k<=2->u+1+k<1000000:=λhk=>aR (dF (dw hu) hk) (by decide);refine cz (x.ix 16 rfl) rfl (cz (x.ix 16 rfl) rfl (cz (x.ix 16 rfl) rfl (cz (x.ix 16 rfl) rfl (cz (x.ix 16 rfl) rfl (cz (x.ix 16 rfl) rfl (cz (x.ix 16 rfl) rfl (yh x λhd h x=>I4 (l:=[0,0,0,1,2,2,3]) x (.head _) (λz=>nomatch z) (by decide) (aR hu (by decide)) λh f x hf=>?_)))))));have hf:f<4:=of_decide_eq_true (cQ.mp (show [0,0,0,1,2,2,3].all (λf=>decide (f<4))=ah from rfl) f hf);have x:=x.drop;refine e2a1 (Ig hf) λso r F=>?_;refine cI (x.ix 0 rfl) rfl rfl (cI (x.ix 0 rfl) rfl rfl (T2 x.bh F.fa (n6 (DH (λp acc h=>∃l1,acc=l1.map iv/\l1.map (iP (bI++cts))=p.map aa/\SD z (u+1+p.length) (bd fT b (bI++cts)++ju cl pl hl ((fu cts).map iv) P A) h) (λ_ _ _ _=>cY) ⟨[],rfl,rfl,x⟩
  (λp s rs e acc h i J hJ=>?_) λacc h i=>?_))))
 ·refine e1a3 i λl1 e1 e2 x=>?_;have hs:=F.s3 s (by rw[e];exact aX (.head _));refine be (w2 s hs) λp1 p2 p3=>?_;have lp:p.length<=2:=aI (by rw[e,aT];exact b_ _ _) F.l2;exact eX (x.ix 15 rfl) rfl (Ku hs) (I4 x (aX (Mq hs)) p1 (aR (aI p2 (ds w1.len 20)) (by decide)) (lu lp) λh t x ht=>hJ _ _ ⟨l1++[t],by rw[e1,bA];rfl,by rw[bA,bA,e2];exact congrArg _ (congrArg (·::[]) (p3 t ht)),by rw[aT];exact x⟩)
 refine e1a3 i λl1 e1 e2 x=>?_;rw[e1];have ll:l1.length=so.length:=by have:=congrArg o_ e2;rw[aP,aP] at this;exact this
 have lne:l1≠[]:=λz=>F.ne (na.mp (by rw[<-ll,z];rfl));have lt:(bI++cts).length <1000:=by rw[aT];exact aR (ds w1.len _) (by decide)
 have l3:u+1+so.length<=1+3*(n+1):=aI (dF (dw i3) F.l2) (by exact bQ _);refine yh x λac h x=>EB (x.ix 0 rfl) (by rw[aP,ll];exact aR F.l2 (by decide)) ?_;refine e1a2 (SD.use x.drop) λM y k=>?_;rcases Ub (cts:=cts) (T:=⟨61,l1,r,iv f⟩) lne with ⟨n1,m1,m2⟩|⟨m1,m2⟩
 ·refine L7 y F.fa F.fr e2 lt m2 λh y=>?_;have x:=k _ _ _ y;exact xC (x.ix 11 rfl) rfl (jh _) (pq (qN.mpr m1) (q _ _ cts P A _ ⟨⟨w1,w2,x⟩,iH i1,(.inr λz=>by rw[z] at m1;exact zE m1),l3⟩))
 ·refine L7 y F.fa F.fr e2 lt m1 λh y=>?_;have x:=k _ _ _ y;clear y k;have Ou:mH (cts++[⟨61,l1,r,iv f⟩]):=w1.add (aR i1 hn) F e2 m2;have et:tm (bI++(cts++[⟨61,l1,r,iv f⟩])) (13+cts.length)=aa ⟨61,l1,r,iv f⟩:=by rw[LQ,nA (bQ _),qx];rfl
  have lc:(cts++[(⟨61,l1,r,iv f⟩:Tm)]).length=cts.length+1:=aT;have qd:∀s,S3 s->P s≠[]/\(P s).length<=20+cts.length/\∀t∈P s,iP (bI++(cts++[⟨61,l1,r,iv f⟩])) t=aa s:=λs hs=>⟨(w2 s hs).1,(w2 s hs).2.1,λt ht=>by rw[<-bt];exact Z5 ((w2 s hs).2.2 t ht)⟩;have cs:(fu cts).map iv++[iv (13+cts.length)]=(fu (cts++[⟨61,l1,r,iv f⟩])).map iv:=by rw[Su,bA];rfl
  generalize cts++[(⟨61,l1,r,iv f⟩:Tm)]=oy at Ou et lc qd cs x;have nm:iv (13+cts.length)∉(fu cts).map iv:=λz=>qk _ (kb.mp (qN.mp z)).2;have lcl:((fu cts).map iv).length <aG:=by rw[aP];delta fu;rw[xp];exact aR w1.len (by decide)
  have fin:∀{P' A' u' aO h'},(∀s,S3 s->P' s≠[]/\(P' s).length<=20+oy.length/\∀t∈P' s,iP (bI++oy) t=aa s)->u'<=1+3*(n+1)->SD z u' (bd fT b (bI++oy)++ju cl pl hl ((fu oy).map iv) P' A') h'->K .next aO h':=λa1 a2 a3=>
   q _ _ oy _ _ _ ⟨⟨Ou,a1,a3⟩,by rw[lc];exact dw i1,(.inr λz=>by rw[z] at lc;cases lc),a2⟩
  refine xC (x.ix 11 rfl) rfl (jh _) (Ja nm (cN (x.ix 11 rfl) rfl (U6 x 11 rfl lcl λh x=>?_)));rw[cs] at x;have x:SD z (u+1+so.length) (bd fT b (bI++oy)++ju cl pl hl ((fu oy).map iv) P A) h:=x;refine cI (x.ix 0 rfl) rfl rfl (ky x.bh et (jo (b:=0) (ij (λhr=>?_) λhr=>fin (λs hs=>⟨(qd s hs).1,by rw[lc];exact iH (qd s hs).2.1,(qd s hs).2.2⟩) l3 x)));have hr:=F.r3 hr;refine be (qd r hr) λp1 p2 p3=>?_;have lp:((P r).map iv).length <aG:=by rw[aP];exact aR (aI p2 (ds w1.len 20)) (by decide)
  refine cI (x.ix 0 rfl) rfl rfl (ky x.bh et (eX (x.ix 15 rfl) rfl (Ku hr) (yh x λn1 h x=>tQ (x.at (.tail _ (aX (Mq hr)))) (x.ix 0 rfl) lp (lb rfl) (yh x λn2 h x=>?_))));have x:=x.sub (.cons₂ _ (.cons _ (.refl _)));refine cI (x.ix 1 rfl) rfl rfl (ky (SD.bh x.drop) et (Sc x 16 rfl rfl (lb rfl) λh x=>fin (λs hs=>?_) l3 (Q9 hr (P:=P) (A:=A) (l:=P r++[13+cts.length]) (n:=n2) ?_)))
  ·delta upd;by_cases e:s=r
   ·rw[if_pos e,e,lc,aT];refine⟨λz=>(nomatch (Bk.mp z).2),dw p2,λt ht=>(bx.mp ht).elim (p3 t) λht=>?_⟩;rw[aZ.mp ht,iP,et];rfl
   ·rw[if_neg e,lc];exact⟨(qd s hs).1,iH (qd s hs).2.1,(qd s hs).2.2⟩
  ·rw[bA,<-S8 hr];exact x.perm (mf (a:=(n2,.list ((P r).map iv++[iv (13+cts.length)]))) (l₁:=bd fT b (bI++oy)) (l₂:=(ju cl pl hl ((fu oy).map iv) P A).set 4 (pl,.dict (bB (my A) (iv r) (.ref n2))))).symm
noncomputable def FD(k:Nat):FT:=⟨fT.sn,fT.sw,fT.fn.take k,fT.fa.take k,fT.fr.take k,fT.xf⟩
theorem aaj(x:SD z 0 (bd fT b bI++ju cl pl hl [] P0 A) h)(q:∀h' pv cts u,u<=16->mH cts->cts≠[]->SD z u (bd fT b (bI++cts)++[(cl,.list ((fu cts).map iv))]) h'->Q (V.tup [.ref (b 0),.ref cl,pv]) h'):
  vS Cl (dW Ek) (bf [63,66,192,65,187] [.ref (b 0),.ref hl,.ref pl,.ref cl,.ref z] ξ) (fq Q X) h:=by
 have p0:∀s,S3 s->P0 s≠[]/\(P0 s).length<=20+0/\∀t∈P0 s,iP (bI++[]) t=aa s:=λs=>qX (P:=λs=>P0 s≠[]/\(P0 s).length<=20+0/\∀t∈P0 s,iP (bI++[]) t=aa s) ⟨λz=>(nomatch z),by decide,λt ht=>of_decide_eq_true (cQ.mp (show(P0 1).all (λt=>decide (iP (bI++[]) t=aa 1))=ah from rfl) t ht)⟩ ⟨λz=>(nomatch z),by decide,λt ht=>of_decide_eq_true (cQ.mp (show(P0 2).all (λt=>decide (iP (bI++[]) t=aa 2))=ah from rfl) t ht)⟩ ⟨λz=>(nomatch z),by decide,λt ht=>of_decide_eq_true (cQ.mp (show(P0 3).all (λt=>decide (iP (bI++[]) t=aa 3))=ah from rfl) t ht)⟩;refine Dt (m:=5) x (by decide) (by decide) (by decide) λh m x hm=>?_;have l1:3+m / 2<=5:=ds (nz (Nat.div_lt_of_lt_mul (show m<2*3 from bY hm (by decide)))) 3;refine Dg (y:=2) (by decide) (by decide) (tR (k:=3+m / 2) (aR l1 (by decide)) (cb [63,66,192,65,187] rfl rfl (λp h=>∃cts P A u,WI z b cl pl hl p.length cts P A u h) (λ_ _ _=>cY) ⟨[],P0,A,1,⟨⟨.nil,by decide,λi T e=>by cases i <;> exact zA e⟩,p0,x⟩,bQ _,.inl rfl,by decide⟩
  (λp n r e ξ h i J hJ=>?_) λξ h i=>?_))
 ·refine e4a1 i λcts P A u i=>?_;have:=congrArg o_ e;rw[nj,aT,e_] at this;exact V9 i (c9 (qf (gw _)) (aI (jD this.symm) l1)) λaO h' cts P A u i=>hJ _ _ ⟨cts,P,A,u,by rw[aT];exact i⟩
 ·refine e4a1 i λcts P A u i=>?_;rw[nj] at i;exact q _ _ cts u (aI i.l3 (ds (h_ 3 l1) 1)) i.w.ok (i.l2.resolve_left λz=>by rw[dB] at z;cases z) (i.w.x.sub (.append (.refl _) (.cons₂ _ (HC _))))
theorem kK(x:St h (bd F b ts++R))(q:∀n h',St h' (bd F b ts++(n,o)::R)->Q (.ref n) h'):cj o Q h:=qZ x λn h x=>q n h (x.perm mf.symm)
theorem Xp(e:Mine.lk [63,66,192,65,187] ρ=aa [.ref (b 0),.ref hl,.ref pl,.ref cl,.ref z])(x:SD z 0 (bd fT b bI++ju cl pl hl [] P0 A) h)(q:∀h' pv cts u,u<=16->mH cts->cts≠[]->SD z u (bd fT b (bI++cts)++[(cl,.list ((fu cts).map iv))]) h'->Q (V.tup [.ref (b 0),.ref cl,pv]) h'):vS Cl (dW Ek) ρ (fq Q X) h:=by rw[<-q7 (qW e)];exact aaj x q
noncomputable def fP(k m:Nat)(b:Nat->Nat):aM:=bd (FD k) b (bI.take m)
theorem QT(x:SD z 0 [] h)(q:∀(b:Nat->Nat) h' cl pv cts u,u<=16->mH cts->cts≠[]->SD z u (bd fT b (bI++cts)++[(cl,.list ((fu cts).map iv))]) h'->Q (V.tup [.ref (b 0),.ref cl,pv]) h'):Cl 210 [.ref z] Q X h:=by
 refine e1a2 x λS hc x=>?_;refine ba λn e=>TP (x.new e) λb h en x=>?_;subst en;have q:=q b;refine cI (x.ix 0 rfl) rfl rfl (Ut x λh (x:St h (fP 0 2 b++(eH z 0 S++[])))=>cI (x.ix 0 rfl) rfl rfl (vr (F:=FD 0) (l:=[1]) (r:=1) x (by decide) (by decide) (by decide) (by decide) λh (x:St h (fP 1 2 b++(eH z 0 S++[])))=>cI (x.ix 0 rfl) rfl rfl (vr (F:=FD 1) (l:=[1]) (r:=0) x (by decide) (by decide) (by decide) (by decide) λh (x:St h (fP 2 2 b++(eH z 0 S++[])))=>
  kK (F:=FD 2) x λn1 h x=>cI (x.ix 0 rfl) rfl rfl (vr (F:=FD 2) (l:=[3,1]) (r:=3) x (by decide) (by decide) (by decide) (by decide) λh (x:St h (fP 3 2 b++(n1,O.list [iv 0,iv 1])::(eH z 0 S++[])))=>cI (x.ix 0 rfl) rfl rfl (vr (F:=FD 3) (l:=[2]) (r:=2) x (by decide) (by decide) (by decide) (by decide) λh (x:St h (fP 4 2 b++(n1,O.list [iv 0,iv 1])::(eH z 0 S++[])))=>
  kK (F:=FD 4) x λn2 h x=>tQ (x.ix 12 rfl) (x.ix 11 rfl) (lb rfl) (lb rfl) (kK (F:=FD 4) x λhl h x=>?_))))))
 have x:St h (fP 4 2 b++(hl,O.list [iv 0,iv 1,iv 2,iv 3])::(eH z 0 S++[])):=x.sub (.append (.refl _) (.cons₂ _ (.cons _ (.cons _ (.refl _)))));obtain ⟨R,eR⟩:∃R,R=(hl,O.list [iv 0,iv 1,iv 2,iv 3])::(eH z 0 S++[]):=⟨_,rfl⟩;rw[<-eR] at x;refine⟨cY,cI (x.ix 0 rfl) rfl rfl (cI (x.ix 0 rfl) rfl rfl (qC (F:=FD 4) x rfl (by decide) rfl rfl (by decide) λh (x:St h (fP 5 3 b++R))=>⟨cY,cI (x.ix 0 rfl) rfl rfl (cI (x.ix 0 rfl) rfl rfl (qC (F:=FD 5) x rfl (by decide) rfl rfl (by decide) λh (x:St h (fP 6 4 b++R))=>
  ⟨cY,cI (x.ix 0 rfl) rfl rfl (cI (x.ix 0 rfl) rfl rfl (qC (F:=FD 6) x rfl (by decide) rfl rfl (by decide) λh (x:St h (fP 7 5 b++R))=>⟨cY,kK (F:=FD 7) x λa0 h x=>kK (F:=FD 7) x λpl h (x:St h (fP 7 5 b++(pl,O.dict [(iv 1,.ref a0)])::(a0,O.list [iv 3,iv 4,iv 5])::R))=>
  ⟨cY,cI (x.ix 0 rfl) rfl rfl (cI (x.ix 0 rfl) rfl rfl (qC (F:=FD 7) x rfl (by decide) rfl rfl (by decide) λh (x:St h (fP 8 6 b++(pl,O.dict [(iv 1,.ref a0)])::(a0,O.list [iv 3,iv 4,iv 5])::R))=>⟨cY,cI (x.ix 0 rfl) rfl rfl (cI (x.ix 0 rfl) rfl rfl (qC (F:=FD 8) x rfl (by decide) rfl rfl (by decide) λh (x:St h (fP 9 7 b++(pl,O.dict [(iv 1,.ref a0)])::(a0,O.list [iv 3,iv 4,iv 5])::R))=>
  ⟨cY,kK (F:=FD 9) x λa3 h x=>f6 x 12 rfl rfl (lb rfl) λh (x:St h (fP 9 7 b++(a3,O.list [iv 6,iv 7])::(pl,O.dict [(iv 1,.ref a0),(iv 3,.ref a3)])::(a0,O.list [iv 3,iv 4,iv 5])::R))=>?_⟩))⟩))⟩⟩))⟩))⟩))⟩
 obtain ⟨R1,Ov⟩:∃R1,R1=(a0,O.list [iv 3,iv 4,iv 5])::R:=⟨_,rfl⟩;rw[<-Ov] at x;refine⟨cY,cI (x.ix 0 rfl) rfl rfl (cI (x.ix 0 rfl) rfl rfl (qC (F:=FD 9) x rfl (by decide) rfl rfl (by decide) λh (x:St h (fP 10 8 b++(a3,O.list [iv 6,iv 7])::(pl,O.dict [(iv 1,.ref a0),(iv 3,.ref a3)])::R1))=>⟨cY,cI (x.ix 0 rfl) rfl rfl (cI (x.ix 0 rfl) rfl rfl (qC (F:=FD 10) x rfl (by decide) rfl rfl (by decide) λh (x:St h (fP 11 9 b++(a3,O.list [iv 6,iv 7])::(pl,O.dict [(iv 1,.ref a0),(iv 3,.ref a3)])::R1))=>
  ⟨cY,kK (F:=FD 11) x λa4 h x=>f6 x 13 rfl rfl (lb rfl) λh (x:St h (fP 11 9 b++(a4,O.list [iv 8,iv 9])::(a3,O.list [iv 6,iv 7])::(pl,O.dict [(iv 1,.ref a0),(iv 3,.ref a3),(iv 2,.ref a4)])::R1))=>?_⟩))⟩))⟩
 rw[Ov] at x;refine eX (x.ix 13 rfl) rfl rfl (cI (x.ix 0 rfl) rfl rfl (pN (F:=FD 11) (t:=⟨195,[],1,V.tup [iv 0,iv 1]⟩) x rfl (by decide) λh (x:St h (fP 11 10 b++(a4,O.list [iv 8,iv 9])::(a3,O.list [iv 6,iv 7])::(pl,O.dict [(iv 1,.ref a0),(iv 3,.ref a3),(iv 2,.ref a4)])::(a0,O.list [iv 3,iv 4,iv 5])::R))=>
  cI (x.ix 0 rfl) rfl rfl (pN (F:=FD 11) (t:=⟨195,[],1,V.tup [iv 1,iv 1]⟩) x rfl (by decide) λh (x:St h (fP 11 11 b++(a4,O.list [iv 8,iv 9])::(a3,O.list [iv 6,iv 7])::(pl,O.dict [(iv 1,.ref a0),(iv 3,.ref a3),(iv 2,.ref a4)])::(a0,O.list [iv 3,iv 4,iv 5])::R))=>
  kK (F:=FD 11) x λn3 h x=>tQ (x.ix 15 rfl) (x.ix 11 rfl) (lb rfl) (lb rfl) (kK (F:=FD 11) x λa1 h x=>f6 x 15 rfl rfl (lb rfl) λh x=>?_))))
 have x:St h (fP 11 11 b++(a1,O.list [iv 3,iv 4,iv 5,iv 10,iv 11])::(a4,O.list [iv 8,iv 9])::(a3,O.list [iv 6,iv 7])::(pl,O.dict [(iv 1,.ref a1),(iv 3,.ref a3),(iv 2,.ref a4)])::R):=x.sub (.append (.refl (fP 11 11 b)) (.cons₂ _ (.cons _ (.cons₂ _ (.cons₂ _ (.cons₂ _ (.cons _ (.refl _))))))));refine eX (x.ix 14 rfl) rfl rfl (cI (x.ix 0 rfl) rfl rfl (pN (F:=FD 11) (t:=⟨195,[],2,V.tup [iv 1,iv 1]⟩) x rfl (by decide) λh (x:St h (fP 11 12 b++(a1,O.list [iv 3,iv 4,iv 5,iv 10,iv 11])::(a4,O.list [iv 8,iv 9])::(a3,O.list [iv 6,iv 7])::(pl,O.dict [(iv 1,.ref a1),(iv 3,.ref a3),(iv 2,.ref a4)])::R))=>
  kK (F:=FD 11) x λn3 h x=>tQ (x.ix 13 rfl) (x.ix 11 rfl) (lb rfl) (lb rfl) (kK (F:=FD 11) x λa2 h x=>f6 x 16 rfl rfl (lb rfl) λh x=>kK (F:=FD 11) (ts:=bI) x λcl h x=>?_)))
 have x:St h (bd fT b bI++(cl,O.list [])::(a2,O.list [iv 8,iv 9,iv 12])::(a1,O.list [iv 3,iv 4,iv 5,iv 10,iv 11])::(a3,O.list [iv 6,iv 7])::(pl,O.dict [(iv 1,.ref a1),(iv 3,.ref a3),(iv 2,.ref a2)])::R):=x.sub (.append (.refl (bd fT b bI)) (.cons₂ _ (.cons₂ _ (.cons _ (.cons₂ _ (.cons _ (.refl _)))))));rw[eR] at x;exact Xp (Q:=Q) (X:=X) (ρ:=bf [65] [.ref cl] (bf [192] [.ref pl] (bf [66] [.ref hl] (bf [66] [.ref n1] (bf [198] [iv 3] (bf [63] [.ref (b 0)] (bf [187] [.ref z] Env.nil))))))) (A:=λs=>if s=1 then a1 else if s=2 then a2 else a3) rfl ⟨S,hc,by rw[cq] at x;exact(x.perm (Bo (l₁:=bd fT b bI++ju cl pl hl [] P0 λs=>if s=1 then a1 else if s=2 then a2 else a3) (l₂:=eH z 0 S)):)⟩ (λh' pv cts u=>q h' cl pv cts u)
structure SX where
 wl:List Nat
 sl:List Nat
 hl:List Nat
 adu:List Nat
 rw:Nat->List Nat
 T:List (V×V)
structure SC where
 W:List (V×V)
 S:List (V×V)
 C:List (V×V)
 A:Nat->Nat
noncomputable def tH(s b:Nat->Nat):List (Nat×V):=[(63,.ref (b 0)),(68,.ref (s 68)),(67,.ref (s 67)),(66,.ref (s 66)),(65,.ref (s 65)),(64,.ref (s 64))]
noncomputable def eL(A:Nat->Nat)(rw:Nat->List Nat)(l:List Nat):aM:=l.map λf=>(A f,.list ((rw f).map iv))
noncomputable def ku(s b:Nat->Nat)(D:SC)(X:SX)(L:aM):aM:=[(s 0,.inst 253 (tH s b)),(s 68,.dict D.W),(s 67,.dict D.S),(s 66,.list (X.hl.map iv)),(s 65,.dict D.C),(s 64,.dict X.T)]++(L++eL D.A X.rw X.adu)
structure SA(D:SC)(X:SX):Prop where
 w:DI D.W (bj X.wl λ_=>.bool ah)
 s:DI D.S (bj X.sl λ_=>.bool ah)
 c:DI D.C (bj X.adu λf=>.ref (D.A f))
 nd:X.adu.Nodup
def SR(s b:Nat->Nat)(X:SX)(L:aM)(h:Hp):Prop:=∃D,St h (ku s b D X L)/\SA D X
theorem IH(q:Qt (!decide (a=b)) h):bZ .ne (.str a) (.str b) Qt h:=.inl ⟨rfl,rfl,(Kx▸q:)⟩
theorem SR.k(x:SR s b X L h)(g:(dR (tH s b) m).isNone=ah)(e:iM 253 m=aa f)(q:Q (.fn f) h):gh (.ref (s 0)) m Q h:=e1a2 x λ_ x _=>cI (x.ix 0 rfl) g e q
theorem SR.adx(x:SR s b X L h)(p:mU 253 f=ah)(e:dR (tH s b) f=aa v)(q:K v h):db (.ref (s 0)) f K h:=e1a2 x λ_ x _=>cX (x.ix 0 rfl) p e q
theorem SR.at(x:SR s b X L h)(hq:q∈L):h.get q.1=aa q.2:=e1a2 x λ_ x _=>x.at_ q (aX (b8 hq))
theorem SR.ix(x:SR s b X L h)(i:Nat)(e:L[i]? =aa (n,o)):h.get n=aa o:=x.at (iQ i e)
theorem SR.bh(x:SR s b X L h)(hb:∀q∈bd fT b ts,q∈L):BH b ts h:=λq hq=>x.at (hb q hq)
theorem SR.sub(x:SR s b X L h)(e:L'.Sublist L):SR s b X L' h:=e1a2 x λD x A=>⟨D,x.sub (.append (.refl _) (.append e (.refl _))),A⟩
theorem RV(x:SR s b X L h)(q:∀n h',SR s b X ((n,o)::L) h'->K (.ref n) h'):cj o K h:=λn e=>e1a2 x λD x A=>q n _ ⟨D,(x.new e).mid (X:=[_,_,_,_,_,_]),A⟩
theorem IJ(x:SR s b X L h)(ha:a<18)(q:∀h',SR s b {X with sl:=X.sl++[a]} L h'->Qu h'):dY (.ref (s 67)) (iv a) (.bool ah) Qu h:=
 e1a2 x λD x A=>f6 x 2 rfl (A.s.ko a) A.s.lim λh' x=>q h' ⟨{D with S:=bB D.S (iv a) (.bool ah)},x,{A with s:=by rw[<-mI];exact A.s.put ha _}⟩
theorem aad(x:SR s b X L h)(ha:a<18)(q:∀h',SR s b {X with wl:=X.wl++[a]} L h'->Qu h'):dY (.ref (s 68)) (iv a) (.bool ah) Qu h:=
 e1a2 x λD x A=>f6 x 1 rfl (A.w.ko a) A.w.lim λh' x=>q h' ⟨{D with W:=bB D.W (iv a) (.bool ah)},x,{A with w:=by rw[<-mI];exact A.w.put ha _}⟩
theorem QO(x:SR s b X L h)(k:a∈X.wl->Qt ah h)(k':a∉X.wl->Qt au h):bZ .inn (iv a) (.ref (s 68)) Qt h:=e1a2 x λ_ x A=>D_ (x.ix 1 rfl) A.w k k'
theorem UB(x:SR s b X L h)(n:a∉X.wl)(k:Qt au h):bZ .inn (iv a) (.ref (s 68)) Qt h:=QO x (λz=>absurd z n) λ_=>k
theorem TV(x:SR s b X L h)(k:a∉X.wl->Qt ah h)(k':a∈X.wl->Qt au h):bZ .notin (iv a) (.ref (s 68)) Qt h:=e1a2 x λ_ x A=>B7 (x.ix 1 rfl) A.w k k'
theorem Yt(x:SR s b X L h)(k:a∈X.sl->Qt ah h)(k':a∉X.sl->Qt au h):bZ .inn (iv a) (.ref (s 67)) Qt h:=e1a2 x λ_ x A=>D_ (x.ix 2 rfl) A.s k k'
theorem aaK(x:SR s b X L h)(k:a∉X.adu->Qt ah h)(k':a∈X.adu->Qt au h):bZ .notin (iv a) (.ref (s 65)) Qt h:=e1a2 x λ_ x A=>B7 (x.ix 4 rfl) A.c k k'
theorem Zp(x:SR s b X L h)(l:X.hl.length<100)(q:∀h',SR s b {X with hl:=X.hl++[f]} L h'->K .none h'):gh (.ref (s 66)) 0 (λk h=>zc Cl Y k (.ref (s 66)) K (.adA (iv f) .adt) h) h:=
 e1a2 x λD x A=>cN (x.ix 3 rfl) rfl (iw x 3 rfl (by rw[aP];exact bY l (by decide)) λh' x=>q h' ⟨D,by rw[show X.hl.map iv++[iv f]=(X.hl++[f]).map iv by rw[bA];rfl] at x;exact x,{A with}⟩)
theorem IQ:eL A rw (l++l')=eL A rw l++eL A rw l':=bA
theorem DJ(e:∀f∈l,A' f=A f/\r' f=r f):eL A' r' l=eL A r l:=ma λf hf=>by rw[(e f hf).1,(e f hf).2]
theorem Vi(x:SR s b X ((n,.list [])::L) h)(hf:f<18)(hn:f∉X.adu)(q:∀h',SR s b {X with adu:=X.adu++[f],rw:=upd X.rw f []} L h'->Qu h'):dY (.ref (s 65)) (iv f) (.ref n) Qu h:=by
 refine e1a2 x λD x A=>?_;have ne:∀g∈X.adu,g≠f:=λg hg e=>hn (e▸hg);refine f6 x 4 rfl (A.c.ko f) A.c.lim λh' x=>q h' ⟨{D with C:=bB D.C (iv f) (.ref n),A:=upd D.A f n},?_,{A with c:=?_,nd:=?_}⟩
 ·show St h' ([_,_,_,_,(s 65,.dict (bB D.C (iv f) (.ref n))),_]++(L++eL (upd D.A f n) (upd X.rw f []) (X.adu++[f])));rw[IQ,DJ λg hg=>⟨gV (ne g hg),gV (ne g hg)⟩,show eL (upd D.A f n) (upd X.rw f []) [f]=[(n,.list [])] by show [(upd D.A f n f,O.list ((upd X.rw f [] f).map iv))]=_;rw[ip,ip];rfl,<-bt L];exact x.perm (.append_left [_,_,_,_,_,_] (acT _ _).symm)
 ·have:(bj (X.adu++[f]) λg=>V.ref (upd D.A f n g))=upd (bj X.adu λg=>.ref (D.A g)) f (aa (.ref n)):=funext λg=>by
   rw[<-mI];delta upd;by_cases e:g=f
   ·rw[if_pos e,if_pos e];exact congrArg aa (congrArg V.ref (if_pos rfl))
   ·rw[if_neg e,if_neg e];delta bj;split
    ·exact congrArg aa (congrArg V.ref (if_neg e))
    ·rfl
  rw[this];exact A.c.put hf _
 ·rw[fW];exact⟨A.nd,dK.mpr ⟨fF,jG⟩,λg hg g' wS e=>ne g hg (e.trans (aZ.mp wS))⟩
theorem Zw(x:SR s b X L h)(hf:f∈X.adu)(q:∀ad,h.get ad=aa (.list ((X.rw f).map iv))->(∀e (Q:PV),(X.rw f).length <aG->(∀h',SR s b {X with rw:=upd X.rw f (X.rw f++[e])} L h'->Q .none h')->iK ad (iv e) Q h)->K (.ref ad) h):eY (.ref (s 65)) (iv f) K h:=by
 refine e1a2 x λD x A=>?_;refine e2a1 (acP hf) λl1 l2 e=>?_;have nd:=A.nd;rw[e,fW,dK] at nd;have n1:∀g∈l1,g≠f:=λg hg=>nd.2.2 g hg f (.head _);have n2:∀g∈l2,g≠f:=λg hg z=>nd.2.1.1 (z▸hg);have er:∀rw,eL D.A rw X.adu=eL D.A rw l1++(D.A f,.list ((rw f).map iv))::eL D.A rw l2:=λrw=>by rw[e,IQ];rfl
 have y:=x;unfold ku at y;rw[er,<-bt,<-bt] at y;have g:h.get (D.A f)=aa (.list ((X.rw f).map iv)):=y.get (aX (.head _));refine eX (x.ix 4 rfl) (A.c.ko f) (by rw[A.c.g];exact eF hf) (q _ g λe Q l k=>sO g (by rw[aP];exact l) x.lk (k _ ⟨D,?_,{A with}⟩));have eu:({X with rw:=upd X.rw f (X.rw f++[e])}:SX).rw f=X.rw f++[e]:=ip _ _ _;delta ku;rw[er,<-bt,<-bt,DJ λg hg=>⟨rfl,gV (n1 g hg)⟩,DJ λg hg=>⟨rfl,gV (n2 g hg)⟩,eu,bA];exact y.upd _
def gK(ts:List Tm)(t:Nat):Prop:=(aF ts t).sort=1\/(aF ts t).sort=2
noncomputable instance(ts:List Tm)(t:Nat):Decidable (gK ts t):=inferInstanceAs (Decidable (_\/_))
def cM(ts:List Tm)(C:List Nat)(t:Nat):Prop:=t∈C\/∃c∈C,t∈ar ts c
noncomputable abbrev row(ts:List Tm)(C:List Nat)(f:Nat):List Nat:=C.filter λc=>decide (hd (aF ts c)=f)
noncomputable abbrev vals(ts:List Tm)(l:List Nat):List Nat:=l.filter λa=>decide (gK ts a)
structure ik(ts:List Tm)(C:List Nat)(wk:Nat->Prop)(X:SX):Prop where
 w:∀t,t∈X.wl↔wk t
 s:∀t,t∈X.sl↔cM ts C t/\gK ts t
 h1:X.hl=X.adu
 h2:∀f,f∈X.adu↔∃c∈C,hd (aF ts c)=f
 c:∀f∈X.adu,X.rw f=row ts C f
 t:X.T=[]
section
variable {s b:Nat->Nat}{X:SX}{L:aM}{h:Hp}{Q:PV}{Y:Hp->Prop}{a f n t:Nat}{ts:List Tm}{C p:List Nat}{wk:Nat->Prop}
theorem SR.adD(x:SR s b X L h):X.adu.length<=18:=e1a2 x λ_ _ A=>g_ 18 _ A.nd λf hf=>A.c.lt (eF hf)
theorem LY(x:SR s b X L h)(B:BH b ts h)(e:tm ts t=aa (aF ts t))(hs:(aF ts t).sort <4)(q1:gK ts t->Q (.bool ah) h)(q0:¬gK ts t->Q (.bool au) h):Cl 1019 [.ref (s 0),iv t] Q Y h:=
 ba (x.adx rfl rfl (B.k rfl rfl (ky B e (ff (b:=1) (dx (λz=>mK z (q1 (.inl z))) λz=>ff (b:=2) (dx (λz=>q1 (.inr z)) λz'=>x.adx rfl rfl (B.k rfl rfl (ZY B hs (q0 λw=>w.elim z z')))))))))
theorem yK{α:Type}{c:α->Prop}[DecidablePred c]{p:List α}{a:α}(e:c a):(p++[a]).filter (λx=>decide (c x))=p.filter (λx=>decide (c x))++[a]:=by rw[HI];exact congrArg _ (AA (decide_eq_true e))
theorem uQ{α:Type}{c:α->Prop}[DecidablePred c]{p:List α}{a:α}(e:¬c a):(p++[a]).filter (λx=>decide (c x))=p.filter (λx=>decide (c x)):=by rw[HI];exact(congrArg _ (GL (by rw[decide_eq_false e];exact k7))).trans (cq _)
theorem LS(e:gK ts a):vals ts (p++[a])=vals ts p++[a]:=yK e
theorem IT(e:¬gK ts a):vals ts (p++[a])=vals ts p:=uQ e
noncomputable abbrev SX.sh(X:SX)(l:List Nat):SX:={X with sl:=X.sl++l}
theorem Dm{x:Nat}:cM ts (C++[t]) x↔cM ts C x\/x=t\/x∈ar ts t:=by
 delta cM;rw[bx,aZ];constructor
 ·rintro ((h|h)|⟨c,h1,h2⟩)
  ·exact .inl (.inl h)
  ·exact .inr (.inl h)
  ·rcases bx.mp h1 with h1|h1
   ·exact .inl (.inr ⟨c,h1,h2⟩)
   ·rw[aZ.mp h1] at h2;exact .inr (.inr h2)
 ·rintro ((h|⟨c,h1,h2⟩)|h|h)
  ·exact .inl (.inl h)
  ·exact .inr ⟨c,b8 h1,h2⟩
  ·exact .inl (.inr h)
  ·exact .inr ⟨t,aX (.head _),h⟩
structure Ee(ts:List Tm)(C:List Nat)(X X1:SX)(f:Nat):Prop where
 wl:X1.wl=X.wl
 sl:X1.sl=X.sl
 T:X1.T=X.T
 h1:X1.hl=X1.adu
 h2:∀g,g∈X1.adu↔g∈X.adu\/g=f
 c:∀g∈X1.adu,X1.rw g=row ts C g
theorem Ee.add(O:ik ts C wk X){X1:SX}(P:Ee ts C X X1 (hd (aF ts t))):ik ts (C++[t]) wk ({X1 with rw:=upd X1.rw (hd (aF ts t)) (X1.rw (hd (aF ts t))++[t])}.sh (vals ts (ar ts t++[t]))):=by
 refine⟨λu=>by rw[<-O.w u,<-P.wl],λu=>?_,P.h1,λg=>?_,λg hg=>?_,P.T.trans O.t⟩
 ·show u∈X1.sl++_↔_;rw[bx,P.sl,O.s,Dm,cW,decide_eq_true_iff,bx,aZ,<-or_and_right,or_comm (a:=u=t)]
 ·show g∈X1.adu↔_;rw[P.h2,O.h2];constructor
  ·rintro (⟨c,h1,h2⟩|h)
   ·exact⟨c,b8 h1,h2⟩
   ·exact⟨t,aX (.head _),h.symm⟩
  ·rintro ⟨c,h1,h2⟩;rcases bx.mp h1 with h1|h1
   ·exact .inl ⟨c,h1,h2⟩
   ·rw[aZ.mp h1] at h2;exact .inr h2.symm
 ·show upd X1.rw _ _ g=_;have hg:g∈X1.adu:=hg;delta upd;by_cases z:g=hd (aF ts t)
  ·rw[if_pos z,row,yK (c:=λc=>hd (aF ts c)=g) z.symm,<-z,P.c g hg]
  ·rw[if_neg z,row,uQ (c:=λc=>hd (aF ts c)=g) (eJ z),P.c g hg]
theorem YM(x0:SR s b X L h)(hb:∀q∈bd fT b ts,q∈L)(O:ik ts C wk X)(ok:eD ts t)(ho:(aF ts t).op=61)(bF:ar ts t≠[])(hf:hd (aF ts t)<18)(hs:∀a,a=t\/a∈ar ts t->tm ts a=aa (aF ts a)/\(aF ts a).sort <4/\a<18)(Gk:C.length<100)
  (q:∀h' X',SR s b X' L h'->ik ts (C++[t]) wk X'->Q .none h'):Cl 1021 [.ref (s 0),iv t] Q Y h:=by
 have B:=x0.bh hb;have ed:(aF ts t).data=iv (hd (aF ts t)):=ok.op.elim (·.2) λw=>absurd w.2 bF;have l0:((ar ts t).map iv).length≠0:=by rw[aP];exact λz=>bF (na.mp z)
 generalize zS:hd (aF ts t)=f at hf ed;refine ba (x0.adx rfl rfl (B.k rfl rfl (tE B ok.tm (IH (pq ho (x0.adx rfl rfl (B.k rfl rfl (il B ok.tm (yB (ff (b:=0) (lO l0 (x0.adx rfl rfl (B.k rfl rfl (u8 B ok.tm ?_))))))))))))));rw[ed];refine kG [15,54,77,78] (λ_:SX=>[.ref (s 0),iv t,V.tup ((ar ts t).map iv),iv f]) (λX1 h=>SR s b X1 L h/\Ee ts C X X1 f) (λX1 ξ h i=>?_) λK' tail _=>x0.adx rfl rfl (aaK x0 (λhn=>x0.adx rfl rfl (Zp x0 (by rw[O.h1];exact aR x0.adD (by decide)) λh x=>
  RV x λn h x=>x.adx rfl rfl (Vi x hf hn λh x=>tail _ _ _ rfl ⟨x,rfl,rfl,rfl,congrArg (·++[f]) O.h1,λg=>by rw[bx,aZ],λg hg=>?_⟩)))
  λjy=>tail X _ _ rfl ⟨x0,rfl,rfl,rfl,O.h1,λg=>⟨.inl,λw=>w.elim id λw=>w▸jy⟩,O.c⟩)
 ·refine aC i λx P=>?_;have Ad:=(P.h2 f).mpr (.inr rfl);have lr:(X1.rw f).length <aG:=by rw[P.c f Ad];exact aR (jM _ _) (bY Gk (by decide))
  rw[<-zS] at P;have q:=λh' x=>q h' _ x (P.add O);rw[zS] at q;refine x.adx rfl rfl (Zw x Ad λad g k=>cN g rfl (k t _ lr λh x=>?_));generalize ({X1 with rw:=upd X1.rw f (X1.rw f++[t])}:SX)=X2 at x q;refine n6 (cb [15,54] rfl rfl (λp h=>SR s b (X2.sh (vals ts p)) L h) (λ_ _ _=>cY) (by rw[show X2.sh (vals ts [])=X2 by show {X2 with sl:=X2.sl++[]}=X2;rw[cq]];exact x) (λp a r e ξ h x J hJ=>?_) λξ h x=>?_)
  ·have ha:=hs a (.inr (by rw[e];exact aX (.head _)));exact x.k rfl rfl (LY x (x.bh hb) ha.1 ha.2.1 (λv=>x.adx rfl rfl (IJ x ha.2.2 λh x=>hJ _ _ (by rw[LS v];rw[bt] at x;exact x))) λv=>hJ _ _ (by rw[IT v];exact x))
  ·have ha:=hs t (.inl rfl);exact x.k rfl rfl (LY x (x.bh hb) ha.1 ha.2.1 (λv=>x.adx rfl rfl (IJ x ha.2.2 λh x=>q _ (by rw[LS v];rw[bt] at x;exact x))) λv=>q _ (by rw[IT v];exact x))
 ·rw[bx,aZ] at hg;show upd X.rw f [] g=_;delta upd;split
  ·rename_i z;exact(si.mpr λc hc w=>hn ((O.h2 f).mpr ⟨c,hc,z▸of_decide_eq_true w⟩)).symm
  ·exact O.c g (hg.resolve_right ‹_›)
end
structure J1(ts:List Tm)(wk:Nat->Prop)(wt:Nat->Nat)(t:Nat):Prop where
 cl:∀u,wk u->eD ts u/\∀a∈ar ts u,wk a
 nt:¬wk t
 ok:eD ts t
 op:(aF ts t).op=61
 ne:ar ts t≠[]
 hf:hd (aF ts t)<18
 ar:∀a∈ar ts t,a≠t/\eD ts a/\(wk a\/ar ts a=[])
 so:∀a,a=t\/a∈Mine.ar ts t->(aF ts a).sort <4
 wq:∀u,u=t\/u∈Mine.ar ts t\/wk u->1+((Mine.ar ts u).map wt).sum <wt u
 wl:wt t<1000
section
variable {s b:Nat->Nat}{X:SX}{L:aM}{h:Hp}{Q:PV}{Y:Hp->Prop}{a f n t:Nat}{o:O}{ts:List Tm}{C p:List Nat}{wk Ow:Nat->Prop}
theorem ik.congr(O:ik ts C wk X)(e:∀u,wk u↔Ow u):ik ts C Ow X:={O with w:=λt=>(O.w t).trans (e t)}
theorem ZH(x:SR s b X L h)(hb:∀q∈bd fT b ts,q∈L)(ok:eD ts t)(bF:ar ts t=[])(q:Q .none h):Cl 1021 [.ref (s 0),iv t] Q Y h:=by
 have B:=x.bh hb;have l0:((ar ts t).map iv).length=0:=by rw[bF];rfl
 exact ba (x.adx rfl rfl (B.k rfl rfl (tE B ok.tm (IH (ij (λ_=>q) λ_=>x.adx rfl rfl (B.k rfl rfl (il B ok.tm (yB (ff (b:=0) (mK l0 q))))))))))
theorem SR.st(x:SR s b X L h):∃M,St h (L++M)/\∀L' h',St h' (L'++M)->SR s b X L' h':=by
 refine e1a2 x λD x A=>?_;have e:∀L,ku s b D X L=(ku s b D X []).take 6++(L++eL D.A X.rw X.adu):=λ_=>rfl;have p:∀L:aM,((ku s b D X []).take 6++(L++eL D.A X.rw X.adu)).Perm (L++(eL D.A X.rw X.adu++(ku s b D X []).take 6)):=λL=>by rw[<-bt L];exact Bo
 exact⟨_,x.perm (p L),λL' h' y=>⟨D,y.perm (p L').symm,A⟩⟩
theorem VK{wt:Nat->Nat}(x0:SR s b X L h)(hb:∀q∈bd fT b ts,q∈L)(O:ik ts C wk X)(K:J1 ts wk wt t)(Gk:C.length<100)
  (q:∀h' X',SR s b X' L h'->ik ts (C++[t]) (λu=>wk u\/u=t\/u∈ar ts t) X'->Q .none h'):Cl 1020 [.ref (s 0),iv t] Q Y h:=by
 have hk:∀u,(u=t\/u∈ar ts t\/wk u)->eD ts u/\∀a∈ar ts u,a=t\/a∈ar ts t\/wk a:=λu hu=>hu.elim (λe=>by rw[e];exact⟨K.ok,λa ha=>.inr (.inl ha)⟩) λhu=>hu.elim (λhu=>
  ⟨(K.ar u hu).2.1,λa ha=>(K.ar u hu).2.2.elim (λk=>.inr (.inr ((K.cl u k).2 a ha))) λk=>by rw[k] at ha;exact zE ha⟩) λhu=>⟨(K.cl u hu).1,λa ha=>.inr (.inr ((K.cl u hu).2 a ha))⟩
 have hsa:∀a,a=t\/a∈ar ts t->tm ts a=aa (aF ts a)/\(aF ts a).sort <4/\a<18:=λa ha=>have k:=(hk a (ha.imp_right .inl)).1;⟨k.tm,K.so a ha,k.lt.1⟩;refine e1a2 x0.st λM y kf=>?_;refine ba (x0.adx rfl rfl (UB x0 (λz=>K.nt ((O.w t).mp z)) (x0.adx rfl rfl ((x0.bh hb).k rfl rfl (Sp y (λq hq=>b8 (hb q hq)) (K':=λu=>u=t\/u∈ar ts t\/wk u) (wt:=wt) (.inl rfl) hk K.wq K.wl λh n l y ht hl ll=>?_)))));have x:=kf ((n,.list (l.map iv))::L) _ y;clear y kf;refine bT (x.ix 0 rfl) (cb [15] rfl rfl (λp h=>∃X',SR s b X' ((n,.list (l.map iv))::L) h/\ik ts (if t∈p then C++[t] else C) (λu=>wk u\/u∈p) X') (λp h i=>e1a2 i λ_ x _=>bM (x.ix 0 rfl)) ⟨X,x,O.congr λu=>⟨.inl,λw=>w.resolve_right fF⟩⟩ (λp u r e ξ h i J hJ=>?_) λξ h i=>?_)
 ·refine e1a2 i λX' x O=>?_;have hu:=(hl u (by rw[e];exact aX (.head _))).1;have uo:=(hk u hu).1;refine x.adx rfl rfl (TV x (λz=>?_) λz=>?_)
  ·rw[O.w] at z;refine x.adx rfl rfl (aad x uo.lt.1 λh x=>?_);have O2:ik ts (if t∈p then C++[t] else C) (λa=>wk a\/a∈p++[u]) {X' with wl:=X'.wl++[u]}:={O with w:=λa=>by rw[bx,O.w,bx,or_assoc]};by_cases uq:u=t
   ·rw[uq] at O2 z x;rw[if_neg λw=>z (.inr w)] at O2;rw[uq];exact x.k rfl rfl (YM x (λq hq=>.tail _ (hb q hq)) O2 K.ok K.op K.ne K.hf hsa Gk λh X2 x O3=>hJ _ _ ⟨X2,x,by rw[if_pos (by rw[uq];exact aX (.head _)),uq];exact O3⟩)
   ·have leaf:ar ts u=[]:=hu.elim (λhu=>absurd hu uq) λhu=>hu.elim (λhu=>(K.ar u hu).2.2.resolve_left λw=>z (.inl w)) λhu=>absurd (.inl hu) z;refine x.k rfl rfl (ZH x (λq hq=>.tail _ (hb q hq)) uo leaf (hJ _ _ ⟨_,x,?_⟩));rw[show(if t∈p++[u] then C++[t] else C)=if t∈p then C++[t] else C from mJ (by rw[bx,aZ];exact⟨λw=>w.resolve_right λw=>uq w.symm,.inl⟩)];exact O2
  ·rw[O.w] at z;refine hJ _ _ ⟨X',x,?_⟩;rw[show(if t∈p++[u] then C++[t] else C)=if t∈p then C++[t] else C from mJ (by rw[bx,aZ];exact⟨λw=>w.elim id λw=>z.elim (λz=>absurd (w▸z) K.nt) λz=>w▸z,.inl⟩)];exact O.congr λa=>by rw[bx,aZ];exact⟨λw=>w.imp_right .inl,λw=>w.elim .inl λw=>w.elim .inr λw=>w▸z⟩
 ·refine e1a2 i λX' x O=>?_;rw[if_pos ht] at O;exact q h X' (x.sub (HB _ _)) (O.congr λu=>⟨λw=>w.elim .inl λw=>(hl u w).1.elim (λw=>.inr (.inl w)) λw=>w.elim (λw=>.inr (.inr w)) .inl,λw=>w.elim .inl λw=>.inr (w.elim (λw=>w▸ht) ((hl t ht).2 u))⟩)
end
structure Wr(ts:List Tm)(C:List Nat):Prop where
 cn:∃n,n<=5/\C=fc 13 n
 lf:∀t,3<=t->t<13->tm ts t=tm bI t
 cl:∀t∈C,tm ts t=aa (aF ts t)/\(aF ts t).op=61/\∃f so,rf f so (aF ts t).sort/\(aF ts t).data=iv f/\(ar ts t).map (λa=>(aF ts a).sort)=so/\∀a∈ar ts t,3<=a/\a<t
 inj:∀c∈C,∀c'∈C,hd (aF ts c)=hd (aF ts c')->ar ts c=ar ts c'->c=c'
def Lf(T:Tm):Prop:=T.args=[]/\S3 T.sort/\(T.op=61/\(∃f,T.data=iv f)\/T.op=195/\∃k,T.data=V.tup [iv k,iv 1])
theorem Lg:∀t,3<=t->t<13->∃T,tm bI t=aa T/\Lf T:=by have c:∀{k s},S3 s->Lf ⟨61,[],s,iv k⟩:=λh=>⟨rfl,h,.inl ⟨rfl,_,rfl⟩⟩;have d:∀{k s},S3 s->Lf ⟨195,[],s,V.tup [iv k,iv 1]⟩:=λh=>⟨rfl,h,.inr ⟨rfl,_,rfl⟩⟩;have k:∀t∈fc 3 10,∃T,tm bI t=aa T/\Lf T:=j_.mpr ⟨⟨_,rfl,c (.inl rfl)⟩,j_.mpr ⟨⟨_,rfl,c (.inl rfl)⟩,j_.mpr ⟨⟨_,rfl,c (.inl rfl)⟩,j_.mpr ⟨⟨_,rfl,c (.inr (.inr rfl))⟩,j_.mpr ⟨⟨_,rfl,c (.inr (.inr rfl))⟩,j_.mpr ⟨⟨_,rfl,c (.inr (.inl rfl))⟩,j_.mpr ⟨⟨_,rfl,c (.inr (.inl rfl))⟩,j_.mpr ⟨⟨_,rfl,d (.inl rfl)⟩,j_.mpr ⟨⟨_,rfl,d (.inl rfl)⟩,j_.mpr ⟨⟨_,rfl,d (.inr (.inl rfl))⟩,(λ_ h=>nomatch h)⟩⟩⟩⟩⟩⟩⟩⟩⟩⟩;exact λt h1 h2=>k t (kb.mpr ⟨h1,h2⟩)
theorem mS(e:T.data=iv f):hd T=f:=by delta hd;rw[e];rfl
theorem rf.uniq(a:rf f so r)(b:rf f rP r'):so=rP/\r=r':=⟨cP (a.fa.symm.trans b.fa),cP (a.fr.symm.trans b.fr)⟩
theorem mP(e:tm ts n=aa T):aF ts n=T:=by delta aF;rw[e];rfl
theorem Kg(e:tm ts n=aa T):aF (ts++es) n=aF ts n:=by rw[mP (nD e),mP e]
theorem Wr.leaf(w:Wr ts C)(h1:3<=t)(h2:t<13):tm ts t=aa (aF ts t)/\Lf (aF ts t):=by refine e1a2 (Lg t h1 h2) λT hT l=>?_;have e:=(w.lf t h1 h2).trans hT;rw[mP e];exact⟨e,l⟩
theorem Wr.lt(w:Wr ts C)(ht:t∈C):13<=t/\t<18:=by refine e1a2 w.cn λn hn hC=>?_;rw[hC] at ht;have:=kb.mp ht;exact⟨this.1,c9 this.2 (ds hn 13)⟩
theorem Wr.arg(w:Wr ts C)(ht:t∈C)(ha:a∈ar ts t):(3<=a/\a<13)\/a∈C/\a<t:=by
 refine e1a2 w.cn λn hn hC=>?_
 (refine be (w.cl t ht) λ_ _ aD=>?_;refine e2a4 aD λf so h1 h2 h3 h4=>?_)
 refine aC (h4 a ha) λh5 h6=>?_;rw[hC] at ht ⊢;have:=(kb.mp ht).2;exact(Nat.lt_or_ge a 13).imp (⟨h5,·⟩) λz=>⟨kb.mpr ⟨z,bY h6 this⟩,h6⟩
theorem Wr.call(w:Wr ts C)(ht:t∈C):eD ts t/\ar ts t≠[]/\hd (aF ts t)<4/\(aF ts t).sort <4:=by
 (refine be (w.cl t ht) λh0 Gl aD=>?_;refine e2a4 aD λf so F h2 h3 h4=>?_)
 have lt:=w.lt ht;have hl:(ar ts t).length=so.length:=by rw[<-h3,aP]
 refine⟨⟨h0,by show(ar ts t).length<=2;rw[hl];exact F.l2,⟨lt.2,λz=>by rw[z] at lt;exact absurd lt.1 (by decide)⟩,.inl ⟨Gl,by rw[mS h2];exact h2⟩⟩,λz=>F.ne (na.mp (by rw[<-hl,z];rfl)),by rw[mS h2];exact HF F.f3,?_⟩;by_cases z:(aF ts t).sort=0
 ·rw[z];decide
 ·exact qX (P:=(· <4)) (by decide) (by decide) (by decide) (F.r3 z)
theorem Wr.aei(w:Wr ts C)(h1:3<=t)(h2:t<13):eD ts t:=by refine f9 (w.leaf h1 h2) λa b c d=>?_;exact⟨a,by rw[b];exact g0 _,⟨bY h2 (by decide),λz=>by rw[z] at h1;cases h1⟩,d.imp (λ⟨d,f,e⟩=>⟨d,by rw[mS e];exact e⟩) λd=>⟨d.1,b⟩⟩
theorem Wr.grow(w:Wr ts C):Wr (ts++es) C:=by
 have e:∀{t},t∈C->aF (ts++es) t=aF ts t:=λht=>Kg (w.cl _ ht).1;have e2:∀{t},3<=t->t<13->tm (ts++es) t=tm ts t:=λh1 h2=>by rw[(w.leaf h1 h2).1];exact nD (w.leaf h1 h2).1
 refine⟨w.cn,λt h1 h2=>(e2 h1 h2).trans (w.lf t h1 h2),λt ht=>?_,λc hc c' dq=>by rw[ar,ar,e hc,e dq];exact w.inj c hc c' dq⟩
 (refine be (w.cl t ht) λh0 Gl aD=>?_;refine e2a4 aD λf so h1 h2 h3 h4=>?_)
 rw[ar,e ht];refine⟨nD h0,Gl,f,so,h1,h2,(ma λa ha=>?_).trans h3,h4⟩;rcases w.arg ht ha with ⟨a1,a2⟩|⟨a1,a2⟩
 ·delta aF;rw[e2 a1 a2]
 ·rw[e a1]
section
variable {ts es cts:List Tm}{C:List Nat}{t:Nat}
theorem Cy(ht:t∈fu cts):∃i T,t=13+i/\cts[i]? =aa T/\tm (bI++cts) t=aa T:=by
 refine aC (kb.mp ht) λh1 h2=>?_
 (refine e1a1 (Bp h1) λi bq=>?_;cases bq)
 have hi:=Nat.lt_of_add_lt_add_left h2;exact⟨i,cts[i],rfl,oF hi,LQ.trans (oF hi)⟩
theorem R7{n:Nat}{T:Tm}(e:tm ts n=aa T):n<=ts.length:=by
 delta tm at e;split at e
 ·exact zA e
 ·exact Nat.le_of_pred_lt (i8.mp e).1
theorem aau{n s:Nat}{T:Tm}(e:tm (bI++cts) n=aa T)(h:S3 T.sort):3<=n:=by
 match n,e with
 |0,e=>exact zA e
 |1,e=>cases zF e;exact absurd h λz=>z.elim (λz=>nomatch z) λz=>z.elim (λz=>nomatch z) λz=>nomatch z
 |2,e=>cases zF e;exact absurd h λz=>z.elim (λz=>nomatch z) λz=>z.elim (λz=>nomatch z) λz=>nomatch z
 |n+3,_=>exact A_ 3 n
theorem mH.wr(w:mH cts):Wr (bI++cts) (fu cts):=by
 refine⟨⟨_,w.len,rfl⟩,λt h1 h2=>?_,λt ht=>?_,λc hc c' dq h1 h2=>?_⟩
 ·refine e1a2 (Lg t h1 h2) λT hT _=>?_;rw[nD hT,hT]
 ·refine e2a3 (Cy ht) λi T e0 e1 e2=>?_
  (refine aC (w.ok i T e1) λk1 aD=>?_;refine e2a5 aD λf so k2 k3 k4 k5 k6=>?_)
  refine e2a1 (Ig (HF k2)) λrP r' F=>?_;have q1:=cP (F.fa.symm.trans k5);have q2:=cP (F.fr.symm.trans k4);rw[q1,q2] at F;have args:∀a∈T.args,∃T',tm (bI++cts.take i) a=aa T'/\tm (bI++cts) a=aa T'/\T'.sort∈so:=λa ha=>by
   have:iP (bI++cts.take i) a∈so.map aa:=by rw[<-k6];exact bz.mpr ⟨a,ha,rfl⟩
   refine e1a2 (bz.mp this) λs hs e=>?_;refine e1a2 (iD.mp e.symm) λT' h1 h2=>?_;have h3:=nD (ts':=cts.drop i) h1;rw[bt,Qn] at h3;exact⟨T',h1,h3,h2▸hs⟩
  rw[ar,mP e2];refine⟨e2,k1,f,so,F,k3,?_,λa ha=>?_⟩
  ·refine(List.map_inj_right λ_ _ h=>cP h).mp (Eq.trans ?_ k6);rw[iE];refine ma λa ha=>?_;refine e1a3 (args a ha) λT' h1 h2 _=>?_;show aa (aF (bI++cts) a).sort=(tm _ a).map _;rw[mP h2,h1];rfl
  ·refine e1a3 (args a ha) λT' h1 h2 h3=>?_;refine⟨aau (s:=0) h2 (F.s3 _ h3),?_⟩;have:=R7 h1;rw[aT,show bI.length=12 from rfl] at this;rw[e0];exact aR (aI this (ds (acX i cts) 12)) (HJ (by decide) i)
 ·refine e2a3 (Cy hc) λi T e0 e1 e2=>?_;refine e2a3 (Cy dq) λi' T' e0' mY zw=>?_;rw[mP e2,mP zw] at h1;rw[ar,ar,mP e2,mP zw] at h2
  (refine aC (w.ok i T e1) λk1 aD=>?_;refine e2a5 aD λf so k2 k3 k4 k5 k6=>?_)
  (refine aC (w.ok i' T' mY) λk1' aD=>?_;refine e2a5 aD λf' rP k2' Gm Ox k5' k6'=>?_)
  rw[mS k3,mS Gm] at h1;rw[<-h1] at Gm Ox;have:T=T':=by obtain ⟨a,b,c,d⟩:=T;obtain ⟨a',b',c',d'⟩:=T';have q:=cP (k4.symm.trans Ox);rw[show a=a' from k1.trans k1'.symm,show b=b' from h2,show c=c' from q,show d=d' from k3.trans Gm.symm]
  rw[<-this] at mY;rw[e0,e0',(List.getElem?_inj (i8.mp e1).1 w.nd).mp (e1.trans mY.symm)]
end
section
variable {b:Nat->Nat}{n:Nat}{h:Hp}{Q:PV}{Y:Hp->Prop}{L:aM}
noncomputable def X0:SX:=⟨[],[],[],[],λ_=>[],[]⟩
theorem y_{α:Type}{g:α->V}:DI [] (λt=>(ao:Option α).map g):=⟨.nil,λ_ h=>(nomatch h),λ_=>rfl⟩
theorem Es{g:Nat->V}:DI [] (bj [] g):=⟨.nil,λ_ h=>(nomatch h),λt=>(if_neg fF).symm⟩
theorem ZP(x:St h ((n,.inst 253 [])::L))(q:∀(s:Nat->Nat) h',s 0=n->SR s b X0 L h'->Q .none h'):Cl 1018 [.ref n,.ref (b 0)] Q Y h:=by
 refine ba (Dk (r:=.n) (Qx:=fq Q Y) (ρ:=bf [15,63] [.ref n,.ref (b 0)] Env.nil) (b:=λ_=>n) rfl [⟨63,.v 63,ao,.ref (b 0)⟩,⟨68,.u .D (.l .adt),aa (.dict []),.none⟩,⟨67,.u .D (.l .adt),aa (.dict []),.none⟩,⟨66,.u .L (.l .adt),aa (.list []),.none⟩,⟨65,.u .D (.l .adt),aa (.dict []),.none⟩,⟨64,.u .D (.l .adt),aa (.dict []),.none⟩] ?_ x λs h h1 x=>?_)
 ·exact⟨λ_ _ _ q=>q,rfl,λ_ _ _ q=>q,rfl,λ_ _ _ q=>q,rfl,λ_ _ _ q=>q,rfl,λ_ _ _ q=>q,rfl,λ_ _ _ q=>q,rfl,trivial⟩
 ·have e:s 0=n:=h1 0 (by show 0∉[63,68,67,66,65,64];decide);rw[<-e] at x;exact q s h e ⟨⟨[],[],[],λ_=>0⟩,by show St h ([_,_,_,_,_,_]++(L++[]));rw[cq];exact x,⟨Es,Es,Es,.nil⟩⟩
noncomputable def p0:PS:=⟨λ_=>ao,λ_=>ao,λ_=>ao,λ_=>ao,λ_ _=>ao,[],[],[],ao,0⟩
theorem ZG{ts:List Tm}:dy ts [] p0:=by have e:∀{α:Type} {g:Nat->α},(λ_=>ao)=bj [] g:=λ{α g}=>funext λt=>(if_neg fF).symm;exact⟨λ_ h=>(nomatch h),.nil,e,e,e,e,e,e,λ_=>rfl,λl o=>⟨λh=>(nomatch h),λh=>(nomatch h.1)⟩,rfl,g0 _,rfl,rfl⟩
noncomputable def LN(b0:Nat):List It:=[⟨63,.v 63,ao,.ref b0⟩,⟨52,.u .D (.l .adt),aa (.dict []),.none⟩,⟨120,.u .D (.l .adt),aa (.dict []),.none⟩,⟨119,.u .D (.l .adt),aa (.dict []),.none⟩,⟨89,.u .D (.l .adt),aa (.dict []),.none⟩,⟨118,.u .D (.l .adt),aa (.dict []),.none⟩,⟨117,.u .D (.l .adt),aa (.dict []),.none⟩,
 ⟨116,.u .D (.l .adt),aa (.dict []),.none⟩,⟨115,.u .D (.l .adt),aa (.dict []),.none⟩,⟨114,.u .D (.l .adt),aa (.dict []),.none⟩,⟨64,.u .D (.l .adt),aa (.dict []),.none⟩,⟨113,.u .L (.l .adt),aa (.list []),.none⟩,⟨112,.u .L (.l .adt),aa (.list []),.none⟩,⟨111,.l .none,ao,.none⟩,⟨110,.l (.int 0),ao,.int 0⟩,⟨109,.u .L (.l .adt),aa (.list []),.none⟩,⟨108,.u .L (.l .adt),aa (.list []),.none⟩]
set_option maxHeartbeats 4000000 in
theorem Zg(x:St h ((n,.inst 254 [])::L))(q:∀(c:Nat->Nat) h',c 0=n->CR c b p0 L h'->Q .none h'):Cl 1034 [.ref n,.ref (b 0)] Q Y h:=by
 refine ba (Dk (r:=.n) (Qx:=fq Q Y) (ρ:=bf [15,63] [.ref n,.ref (b 0)] Env.nil) (b:=λ_=>n) rfl (LN (b 0)) ?_ x λc h h1 x=>?_)
 ·exact⟨λ_ _ _ q=>q,rfl,λ_ _ _ q=>q,rfl,λ_ _ _ q=>q,rfl,λ_ _ _ q=>q,rfl,λ_ _ _ q=>q,rfl,λ_ _ _ q=>q,rfl,λ_ _ _ q=>q,rfl,λ_ _ _ q=>q,rfl,λ_ _ _ q=>q,rfl,λ_ _ _ q=>q,rfl,λ_ _ _ q=>q,rfl,λ_ _ _ q=>q,rfl,λ_ _ _ q=>q,rfl,λ_ _ _ q=>q,rfl,λ_ _ _ q=>q,rfl,λ_ _ _ q=>q,rfl,λ_ _ _ q=>q,rfl,trivial⟩
 ·have e:c 0=n:=h1 0 (by show 0∉[63,52,120,119,89,118,117,116,115,114,64,113,112,111,110,109,108];decide);rw[<-e] at x;refine q c h e ⟨⟨[],[],[],[],λ_=>[],λ_ _=>ao,c 113,c 112,c 108,0⟩,?_,⟨y_,y_,y_,⟨.nil,.nil,λ_ h=>(nomatch h),λ_=>rfl⟩,λk _=>⟨y_,λ_=>rfl⟩,λxs e=>(nomatch e)⟩⟩;have p:(jE 15).Perm [0,1,4,7,8,13,11,12,14,2,3,5,6,9,10]:=by decide
  have x:St h ((jE 15).map (λi=>((c 0,O.inst 254 (q9 c b ⟨[],[],[],[],λ_=>[],λ_ _=>ao,c 113,c 112,c 108,0⟩ p0))::(LN (b 0)).filterMap (It.c c)).getD i (0,.list []))++L):=x;have x:=x.perm (.append_right L (p.map _));show St h ([_,_,_,_,_,_,_,_,_,_,_,_,_]++(L++([]++[])));rw[cq,cq];exact x.sub (.append (.cons₂ _ (.cons₂ _ (.cons₂ _ (.cons₂ _ (.cons₂ _ (.cons₂ _ (.cons₂ _ (.cons₂ _ (.cons₂ _ (.cons₂ _ (.cons₂ _ (.cons₂ _ (.cons₂ _ (HC _)))))))))))))) (.refl L))
end
def LR(z u:Nat)(c b s:Nat->Nat)(p:PS)(X:SX)(ts:List Tm)(R:aM)(h:Hp):Prop:=∃(D:DS) (E:SC),D.cs.length<=24/\SA E X/\CR c b p (eH z u D++(bd fT b ts++ku s b E X R)) h
section
variable {z u n m:Nat}{c b s:Nat->Nat}{h h':Hp}{Q:PV}{Qu Y:Hp->Prop}{R R' A B:aM}{ts:List Tm}{p:PS}{X:SX}{o o':O}
theorem LR.cr(x:LR z u c b s p X ts R h):∃F:aM->aM,CR c b p (F R) h/\(∀R,∀q∈bd fT b ts,q∈F R)/\(∀R,∀q∈R,q∈F R)/\∀p' R' h',CR c b p' (F R') h'->LR z u c b s p' X ts R' h':=by refine e2a3 x λD E hc A x=>?_;exact⟨λR=>eH z u D++(bd fT b ts++ku s b E X R),x,λR q hq=>aX (b8 hq),λR q hq=>aX (aX (aX (b8 hq))),λp' R' h' y=>⟨D,E,hc,A,y⟩⟩
noncomputable def lI(s b:Nat->Nat)(E:SC)(X:SX):aM:=(ku s b E X []).take 6
noncomputable def nf(c b s:Nat->Nat)(S:CS)(p:PS)(z u:Nat)(D:DS)(ts:List Tm)(E:SC)(X:SX)(R:aM):aM:=gi c b S p++(eH z u D++(bd fT b ts++(lI s b E X++(R++(eL E.A X.rw X.adu++(eM (dQ S p)++gk S p))))))
theorem DN{S:CS}{D:DS}{E:SC}:cells c b S p (eH z u D++(bd fT b ts++ku s b E X R))=nf c b s S p z u D ts E X R:=by show gi c b S p++((eH z u D++(bd fT b ts++(lI s b E X++(R++eL E.A X.rw X.adu))))++(eM (dQ S p)++gk S p))=_;delta nf;rw[bt,bt,bt,bt]
theorem LR.of{S:CS}{D:DS}{E:SC}(hc:D.cs.length<=24)(a:SA E X)(A:qU S p)(x:St h (nf c b s S p z u D ts E X R)):LR z u c b s p X ts R h:=⟨D,E,hc,a,S,DN▸x,A⟩
theorem LR.nf(x:LR z u c b s p X ts R h):∃S D E,D.cs.length<=24/\SA E X/\qU S p/\St h (Mine.nf c b s S p z u D ts E X R):=e2a3 x λD E hc a aD=>e1a2 aD λS x A=>⟨S,D,E,hc,a,A,DN▸x⟩
theorem mv(A B C:aM):(A++(B++C)).Perm (B++(A++C)):=List.perm_append_comm_assoc A B C
theorem LR.sd(x:LR z u c b s p X ts R h):∃F:aM->aM,SD z u (F R) h/\(∀R,∀q∈R,q∈F R)/\∀u' R' h',SD z u' (F R') h'->LR z u' c b s p X ts R' h':=by refine e3a4 x.nf λS D E hc a A x=>?_;exact⟨λR=>gi c b S p++(bd fT b ts++(lI s b E X++(R++(eL E.A X.rw X.adu++(eM (dQ S p)++gk S p))))),⟨D,hc,x.perm (mv _ _ _)⟩,λR q hq=>aX (aX (aX (b8 hq))),λu' R' h' yy=>e1a2 yy λD' dq y=>.of dq a A (y.perm (mv _ _ _))⟩
theorem LR.bk(x:LR z u c b s p X ts R h):∃F:aM->aM,St h (bd fT b ts++F R)/\∀ts' R' h',St h' (bd fT b ts'++F R')->LR z u c b s p X ts' R' h':=by
 refine e3a4 x.nf λS D E hc a A x=>?_;have q:∀ts R,(Mine.nf c b s S p z u D ts E X R).Perm (bd fT b ts++((gi c b S p++eH z u D)++(lI s b E X++(R++(eL E.A X.rw X.adu++(eM (dQ S p)++gk S p)))))):=λts R=>by unfold Mine.nf;rw[<-bt];exact mv _ _ _
 exact⟨_,x.perm (q ts R),λts' R' h' y=>.of hc a A (y.perm (q ts' R').symm)⟩
theorem LR.sh(x:LR z u c b s p X ts R h):∃F:aM->aM,SR s b X (F R) h/\(∀R,∀q∈bd fT b ts,q∈F R)/\(∀R,∀q∈R,q∈F R)/\∀X' R' h',SR s b X' (F R') h'->LR z u c b s p X' ts R' h':=by
 refine e3a4 x.nf λS D E hc a A x=>?_;have q:∀E X R,(Mine.nf c b s S p z u D ts E X R).Perm (ku s b E X ((gi c b S p++(eH z u D++bd fT b ts))++(R++(eM (dQ S p)++gk S p)))):=λE X R=>by
  show _root_.List.Perm _ (lI s b E X++(((gi c b S p++(eH z u D++bd fT b ts))++(R++(eM (dQ S p)++gk S p)))++eL E.A X.rw X.adu));unfold Mine.nf;generalize eM (dQ S p)++gk S p=T;generalize eL E.A X.rw X.adu=W;generalize lI s b E X=K;have e:gi c b S p++(eH z u D++(bd fT b ts++(K++(R++(W++T)))))=(gi c b S p++(eH z u D++bd fT b ts))++(K++(R++(W++T))):=by rw[bt,bt]
  rw[e];refine(mv _ _ _).trans (.append_left _ ?_);generalize gi c b S p++(eH z u D++bd fT b ts)=P;rw[bt P,bt R];exact .append_left _ (.append_left _ Bo)
 exact⟨_,⟨E,x.perm (q E X R),a⟩,λR q hq=>b8 (aX (aX hq)),λR q hq=>aX (b8 hq),λX' R' h' yy=>e1a2 yy λE' y a'=>.of hc a' A (y.perm (q E' X' R').symm)⟩
end
section
variable {z u n m:Nat}{c b s:Nat->Nat}{h h':Hp}{Q K:PV}{Qu Y:Hp->Prop}{R R' A B:aM}{ts:List Tm}{p:PS}{X:SX}{o o':O}{xs:List V}{v w:V}{es:List (V×V)}
theorem Iw{S:CS}{D:DS}{E:SC}:∃M,∀R,(Mine.nf c b s S p z u D ts E X R).Perm (R++M):=⟨(gi c b S p++(eH z u D++(bd fT b ts++lI s b E X)))++(eL E.A X.rw X.adu++(eM (dQ S p)++gk S p)),λR=>by
 unfold Mine.nf;have e:gi c b S p++(eH z u D++(bd fT b ts++(lI s b E X++(R++(eL E.A X.rw X.adu++(eM (dQ S p)++gk S p))))))=(gi c b S p++(eH z u D++(bd fT b ts++lI s b E X)))++(R++(eL E.A X.rw X.adu++(eM (dQ S p)++gk S p))):=by rw[bt,bt,bt]
 rw[e];exact mv _ _ _⟩
theorem LR.loc(x:LR z u c b s p X ts R h):∃M,St h (R++M)/\∀R' h',St h' (R'++M)->LR z u c b s p X ts R' h':=by refine e3a4 x.nf λS D E hc a A x=>?_;refine e1a1 (Iw (c:=c) (b:=b) (s:=s) (p:=p) (z:=z) (u:=u) (ts:=ts) (X:=X) (S:=S) (D:=D) (E:=E)) λM q=>?_;exact⟨M,x.perm (q R),λR' h' y=>.of hc a A (y.perm (q R').symm)⟩
theorem LR.at(x:LR z u c b s p X ts R h){q:Nat×O}(e:q∈R):h.get q.1=aa q.2:=e1a2 x.loc λ_ y _=>y.at_ q (b8 e)
theorem LR.new(x:LR z u c b s p X ts R h)(e:h.get n=ao):LR z u c b s p X ts ((n,o)::R) (h.put n o):=e1a2 x.loc λ_ y k=>k _ _ (y.new e)
theorem LR.sub(x:LR z u c b s p X ts R h)(e:R'.Sublist R):LR z u c b s p X ts R' h:=e1a2 x.loc λ_ y k=>k _ _ (y.sub (e.append (.refl _)))
theorem LR.perm(x:LR z u c b s p X ts R h)(e:R.Perm R'):LR z u c b s p X ts R' h:=e1a2 x.loc λ_ y k=>k _ _ (y.perm (e.append_right _))
theorem LR.bh(x:LR z u c b s p X ts R h):BH b ts h:=e1a2 x.bk λ_ y _=>y.bh
theorem fe(x:LR z u c b s p X ts R h)(q:∀n h',LR z u c b s p X ts ((n,o)::R) h'->K (.ref n) h'):cj o K h:=λn e=>q n _ (x.new e)
theorem LR.draw(x:LR z u c b s p X ts R h)(hm:0<m)(ox:m<1073741824)(hu:u<1000000)(q:∀h' k,LR z (u+1) c b s p X ts R h'->k<m->Q (iv k) h'):Cl 190 [.ref z,iv m] Q Y h:=by refine e1a3 x.sd λF y _ k=>?_;exact Dt y hm ox hu λh' j y hj=>q h' j (k _ _ _ y) hj
theorem LR.any{a:Nat}(x:LR z u c b s p X ts R h)(ha:(a,.list xs)∈R)(h0:xs≠[])(ox:xs.length<1073741824)(hu:u<1000000)(q:∀h' v,LR z (u+1) c b s p X ts R h'->v∈xs->Q v h'):Cl 191 [.ref z,.ref a] Q Y h:=by refine e1a3 x.sd λF y i k=>?_;exact Mine.l_any y (i _ _ ha) h0 ox hu λh' v y hv=>q h' v (k _ _ _ y) hv
end
section
variable {ts:List Tm}{C:List Nat}{n k t:Nat}
noncomputable def qV(t:Nat):Nat:=3 ^ (t-12+1)
theorem V4{w:Nat->Nat}{m:Nat}:∀{l:List Nat},(∀a∈l,w a<=m)->(l.map w).sum<=l.length*m:=by
 intro l;induction l with
 |nil=>intro _;exact g0 _
 |cons x l ih=>intro h;rw[bW,Qw,e_,HL,dB];exact dF (ih λa ha=>h a (.tail _ ha)) (h x (.head _))
theorem Q6{l:List Nat}(h:∀a∈l,a<t)(hl:l.length<=2)(ht:13<=t):1+(l.map qV).sum <qV t:=by
 (refine e1a1 (Bp ht) λj bq=>?_;cases bq)
 have e:13+j-12=j+1:=by rw[dB,Nat.add_sub_assoc (by decide)]
 have m:∀a∈l,qV a<=3 ^ (j+1):=λa ha=>by have:=h a ha;exact ade (by decide) (dw (adf (nz (c9 this (jD (dB 13 _))))))
 have p:1<3 ^ (j+1):=adg (QA j) (by decide);delta qV;rw[e,Nat.pow_succ 3 (j+1),Nat.mul_comm,show 3*3 ^ (j+1)=3 ^ (j+1)+2*3 ^ (j+1) from(HL 2 _).trans (dB _ _)];exact xq p (aI (V4 m) (nB _ hl))
end
theorem Wr.mem(hC:C=fc 13 n)(h1:13<=t)(h2:t<13+n):t∈C:=by rw[hC];exact kb.mpr ⟨h1,h2⟩
theorem u9(w:Wr ts C)(hC:C=fc 13 n)(hk:k<=n)(h:cM ts (fc 13 k) t):eD ts t/\(∀a∈ar ts t,cM ts (fc 13 k) a)/\t<13+k/\(t∈C\/(3<=t/\t<13)):=by
 have call:∀{t},t∈fc 13 k->eD ts t/\(∀a∈ar ts t,cM ts (fc 13 k) a)/\t<13+k/\(t∈C\/(3<=t/\t<13)):=λ{t} h=>by refine aC (kb.mp h) λh1 h2=>?_;have hc:=Wr.mem hC h1 (c9 h2 (ds hk 13));exact⟨(w.call hc).1,λa ha=>.inr ⟨t,h,ha⟩,h2,.inl hc⟩
 rcases h with h|⟨c,h1,h2⟩
 ·exact call h
 ·have hc:=kb.mp h1;rcases w.arg (Wr.mem hC hc.1 (c9 hc.2 (ds hk 13))) h2 with ⟨a1,a2⟩|⟨a1,a2⟩
  ·exact⟨w.aei a1 a2,(λa ha=>by rw[ar,(w.leaf a1 a2).2.1] at ha;exact nomatch ha),c9 a2 (b_ _ _),.inr ⟨a1,a2⟩⟩
  ·exact call (kb.mpr ⟨(w.lt a1).1,bY a2 hc.2⟩)
theorem Wr.wq(w:Wr ts C)(h:t∈C\/(3<=t/\t<13)):1+((ar ts t).map qV).sum <qV t:=by
 rcases h with h|⟨h1,h2⟩
 ·exact Q6 (λa ha=>(w.arg h ha).elim (λz=>c9 z.2 (w.lt h).1) (·.2)) (w.call h).1.ar (w.lt h).1
 ·rw[ar,(w.leaf h1 h2).2.1];exact adg (QA _) (by decide)
theorem LM(w:Wr ts C)(hC:C=fc 13 n)(hk:k<n):J1 ts (cM ts (fc 13 k)) qV (13+k):=by
 have hm:13+k∈C:=Wr.mem hC (b_ _ _) (ut hk 13);refine f9 (w.call hm) λc1 c2 c3 c4=>?_;have ca:∀a∈ar ts (13+k),(a∈C\/(3<=a/\a<13))/\a<13+k:=λa ha=>(w.arg hm ha).elim (λz=>⟨.inr z,c9 z.2 (b_ _ _)⟩) λz=>⟨.inl z.1,z.2⟩;refine⟨λu hu=>?_,λh=>qk _ (u9 w hC (bP hk) h).2.2.1,c1,(w.cl _ hm).2.1,c2,bY c3 (by decide),λa ha=>?_,λa ha=>?_,λu hu=>?_,?_⟩
 ·have:=u9 w hC (bP hk) hu;exact⟨this.1,this.2.1⟩
 ·refine⟨fE (ca a ha).2,?_⟩;rcases (ca a ha).1 with z|⟨z1,z2⟩
  ·exact⟨(w.call z).1,.inl (.inl (kb.mpr ⟨(w.lt z).1,(ca a ha).2⟩))⟩
  ·exact⟨w.aei z1 z2,.inr (w.leaf z1 z2).2.1⟩
 ·rcases ha with e|ha
  ·rw[e];exact c4
  ·rcases (ca a ha).1 with z|⟨z1,z2⟩
   ·exact(w.call z).2.2.2
   ·exact qX (P:=(· <4)) (by decide) (by decide) (by decide) (w.leaf z1 z2).2.2.1
 ·refine w.wq (hu.elim (λe=>.inl (e▸hm)) λhu=>hu.elim (λhu=>(ca u hu).1) λhu=>(u9 w hC (bP hk) hu).2.2.2)
 ·exact aR (ade (by decide) (show 13+k-12+1<=6 from dw (adf (nz (w.lt hm).2)))) (by decide)
section
variable {z u n k:Nat}{c b s:Nat->Nat}{h:Hp}{Q:PV}{Y:Hp->Prop}{R:aM}{ts:List Tm}{C E:List Nat}{p:PS}{X:SX}
theorem CU:fc 13 k++[13+k]=fc 13 (k+1):=by rw[adc,QB]
theorem YN(w:Wr ts C)(hC:C=fc 13 n)(hn:n<=5)(hk:k<n)(x:LR z u c b s p X ts R h)(O:ik ts (fc 13 k) (cM ts (fc 13 k)) X)
  (q:∀h' X',LR z u c b s p X' ts R h'->ik ts (fc 13 (k+1)) (cM ts (fc 13 (k+1))) X'->Q .none h'):Cl 1020 [.ref (s 0),iv (13+k)] Q Y h:=by
 refine e1a4 x.sh λF y hb _ kf=>?_;refine VK y (hb R) O (LM w hC hk) (by rw[xp];exact c9 hk (aI hn (by decide))) λh X' y O'=>q h X' (kf _ _ _ y) ?_;rw[CU] at O';exact O'.congr λu=>by rw[<-CU,Dm]
theorem UT(w:Wr ts C)(hC:C=fc 13 n)(hk:k<n)(x:LR z u c b s p X ts R h)(I:dy ts E p)(e:∀x,x∈E↔cM ts (fc 13 k) x)
  (q:∀h' p' E',LR z u c b s p' X ts R h'->dy ts E' p'->(∀x,x∈E'↔cM ts (fc 13 (k+1)) x)->Q .none h'):Cl 1041 [.ref (c 0),iv (13+k)] Q Y h:=by
 refine e1a4 x.cr λF y hb _ kf=>?_;have K:=LM w hC hk;have hm:13+k∈C:=Wr.mem hC (b_ _ _) (ut hk 13);refine SP y (hb R) I (λz=>K.nt ((e _).mp z)) K.ok K.ne (λa ha=>(K.ar a ha).2.2.imp (e a).mpr λz=>⟨(K.ar a ha).2.1,z⟩) (λo ho h1 h2 h3=>?_) λh p' E' y I' e'=>q h p' E' (kf _ _ _ y) I' λx=>?_
 ·refine f9 (u9 w hC (bP hk) ((e o).mp ho)) λ_ _ o1 o2=>?_;rcases o2 with o2|⟨o3,o4⟩
  ·exact fE o1 (w.inj o o2 _ hm h2 h3)
  ·exact h1 (w.leaf o3 o4).2.1
 ·rw[e',e,<-CU,Dm,or_comm (a:=x=13+k)]
end
noncomputable def mE(k:Nat):List Nat->List Nat
 |[]=>[k]
 |x::r=>if k<x then k::x::r else x::mE k r
theorem C_:mE k (x::r)=if k<x then k::x::r else x::mE k r:=rfl
noncomputable def mz(l:List Nat):List Nat:=l.foldr mE []
theorem Vg(k:Nat):∀l:List Nat,nF (k:Int) (l.map λ(n:Nat)=>(n:Int))=(mE k l).map λ(n:Nat)=>(n:Int):=by
 intro l;induction l with
 |nil=>exact rfl
 |cons x r ih=>
  show(if(k:Int)<x then _ else _)=(if k<x then _ else _:List Nat).map _;by_cases e:k<x
  ·rw[if_pos e,if_pos (gC.mpr e)];rfl
  ·rw[if_neg e,if_neg λz=>e (gC.mp z),ih];rfl
theorem S1:∀l:List Nat,jj (l.map λ(n:Nat)=>(n:Int))=(mz l).map λ(n:Nat)=>(n:Int):=by
 intro l;induction l with
 |nil=>exact rfl
 |cons x r ih=>exact by show nF _ (jj _)=_;rw[ih,Vg];rfl
theorem JM:∀{l:List Nat},a∈mE k l↔a=k\/a∈l:=by
 intro l;induction l with
 |nil=>exact a_
 |cons x r ih=>
  rw[C_];split
  ·exact a_
  ·rw[a_,ih,a_,or_left_comm]
theorem xy:∀{l:List Nat},a∈mz l↔a∈l:=by
 intro l;induction l with
 |nil=>exact Iff.rfl
 |cons x r ih=>exact by show a∈mE x (mz r)↔_;rw[JM,ih,a_]
theorem Tk:∀{l:List Nat},l.Pairwise (· < ·)->k∉l->(mE k l).Pairwise (· < ·):=by
 intro l;induction l with
 |nil=>intro _ _;exact acY _ _
 |cons x r ih=>
  intro h hk;rw[rU] at h;rw[a_,not_or] at hk;rw[C_];split
  ·rename_i e;exact rU.mpr ⟨λa ha=>(a_.mp ha).elim (λz=>z▸e) λha=>bY e (h.1 a ha),rU.mpr h⟩
  ·rename_i e;exact rU.mpr ⟨λa ha=>(JM.mp ha).elim (λz=>z▸Be (uw e) (eJ hk.1)) (h.1 a),ih h.2 hk.2⟩
theorem BG:∀{l:List Nat},l.Nodup->(mz l).Pairwise (· < ·):=by
 intro l;induction l with
 |nil=>intro _;exact .nil
 |cons x r ih=>intro h;exact by rw[dK] at h;exact Tk (ih h.2) λz=>h.1 (xy.mp z)
theorem Vh:∀{l:List Nat},(mE k l).length=l.length+1:=by
 intro l;induction l with
 |nil=>exact rfl
 |cons x r ih=>exact by rw[C_];split;rfl;rw[e_,ih,e_]
theorem Co:∀{l:List Nat},(mz l).length=l.length:=by
 intro l;induction l with
 |nil=>exact rfl
 |cons x r ih=>exact by show(mE x (mz r)).length=_;rw[Vh,ih,e_]
theorem Jk:∀{l l':List Nat},l.Pairwise (· < ·)->l'.Pairwise (· < ·)->(∀a,a∈l↔a∈l')->l=l':=by
 intro l;induction l with
 |nil=>
  intro z22';cases z22' with
  |nil=>intro _ _ _;exact rfl
  |cons y r=>intro _ _ e;exact nomatch (e y).mpr (.head _)
 |cons x r ih=>
  intro z23';cases z23' with
  |nil=>intro _ _ e;exact nomatch (e x).mp (.head _)
  |cons y r'=>intro h h' e;rw[rU] at h h';have exy:x=y:=(a_.mp ((e x).mp (.head _))).elim id λh1=>(a_.mp ((e y).mpr (.head _))).elim wV λh2=>absurd (h'.1 x h1) (Nat.lt_asymm (h.1 y h2));rw[<-exy] at h' e ⊢;rw[ih h.2 h'.2 λa=>⟨λha=>(a_.mp ((e a).mp (.tail _ ha))).elim (λq=>absurd (q▸h.1 a ha) (qk _)) id,λha=>(a_.mp ((e a).mpr (.tail _ ha))).elim (λq=>absurd (q▸h'.1 a ha) (qk _)) id⟩]
section
variable {s b:Nat->Nat}{n t:Nat}{h:Hp}{Q:PV}{Y:Hp->Prop}{L:aM}{ts:List Tm}{C S S':List Nat}{X:SX}{wk:Nat->Prop}{es:List (V×V)}{E:List Nat}{gg:Nat->V}
theorem Iy{l:List Nat}(hl:l.length<64)(q:cj (.list ((mz l).map iv)) Q h):∃ks,kr (l.map iv)=aa ks/\ks.length<64/\cj (.list ((jj ks).map V.int)) Q h:=
 ⟨_,Ko l,by rw[aP];exact hl,by rw[S1,iE];exact q⟩
theorem L8{l:List Nat}(e:h.get n=aa (.list (l.map iv)))(hl:l.length<64)(q:cj (.list ((mz l).map iv)) Q h):tZ (.ref n) Q h:=.inl ⟨_,e,Iy hl q⟩
theorem DI.keys{f:Nat->Option V}(x:DI es f):∃l:List Nat,es.map (·.1)=l.map iv/\l.Nodup/\(∀t,t∈l↔f t≠ao)/\l.length<=18/\hY es=ah:=by
 have:∀es:List (V×V),(∀e∈es,∃t,t<18/\e.1=iv t)->∃l:List Nat,es.map (·.1)=l.map iv/\hY es=ah:=λes ks=>by
  induction es with
  |nil=>exact⟨[],rfl,rfl⟩
  |cons e es ih=>refine e1a2 (ih λe he=>ks e (.tail _ he)) λl h1 h2=>?_;refine e1a2 (ks e (.head _)) λt _ h3=>?_;exact⟨t::l,by rw[bW,h1,h3];rfl,by show(kk e.1==1&&hY es)=ah;rw[h2,h3];rfl⟩
 refine e1a2 (this es x.ks) λl h1 h2=>?_;have nd:=x.nd;have ln:=x.len;rw[h1] at nd;rw[<-aP (f:=(·.1)),h1,aP] at ln;refine⟨l,h1,(Bf.mp nd).imp λh e=>h (by rw[e]),λt=>?_,ln,h2⟩;rw[<-x.g t,ne_eq,sT,h1,qN,Classical.not_not]
theorem K1(e:h.get n=aa (.dict es))(x:DI es (bj E gg))(q:∀l:List Nat,l.Pairwise (· < ·)->(∀t,t∈l↔t∈E)->l.length<=18->cj (.list (l.map iv)) Q h):tZ (.ref n) Q h:=by refine e1a5 x.keys λl h1 h2 h3 h4 h5=>?_;refine .inr ⟨es,e,h5,h1▸Iy (aR h4 (by decide)) (q _ (BG h2) (λt=>xy.trans ((h3 t).trans ?_)) (by rw[Co];exact h4))⟩;delta bj;exact⟨λz=>qh λw=>z (if_neg w),λz=>by rw[if_pos z];exact gH _⟩
structure iL(ts:List Tm)(C S:List Nat):Prop where
 lt:S.Pairwise (· < ·)
 len:S.length<=18
 m:∀t,t∈S↔cM ts C t/\gK ts t
theorem iL.uniq(x:iL ts C S)(y:iL ts C S'):S=S':=Jk x.lt y.lt λa=>(x.m a).trans (y.m a).symm
theorem IC(x:SR s b X L h)(hs:∀t,t∈X.sl↔cM ts C t/\gK ts t)(hS:iL ts C S)(q:cj (.list (S.map iv)) Q h):Cl 1023 [.ref (s 0)] Q Y h:=
 ba (x.adx rfl rfl (e1a2 x λ_ y A=>K1 (y.ix 2 rfl) A.s λl h1 h2 h3=>iL.uniq (S:=l) ⟨h1,h3,λt=>(h2 t).trans (hs t)⟩ hS▸q))
theorem Io(x:SR s b X L h)(q1:t∈X.sl->Q (.bool ah) h)(q0:t∉X.sl->Q (.bool au) h):Cl 1022 [.ref (s 0),iv t] Q Y h:=ba (x.adx rfl rfl (Yt x q1 q0))
end
theorem I_(B:BH b ts h)(e:tm ts t=aa (aF ts t))(q1:gK ts t->Q (.bool ah) h)(q0:¬gK ts t->Q (.bool au) h):Cl 211 [.ref (b 0),iv t] Q Y h:=
 ba (B.k rfl rfl (ky B e (ff (b:=1) (dx (λz=>by
  have:=q1 (.inl z);rw[<-decide_eq_true z] at this;exact this) λz=>B.k rfl rfl (ky B e (ff (b:=2) (by
  by_cases y:(aF ts t).sort=2
  ·have:=q1 (.inr y);rw[<-decide_eq_true y] at this;exact this
  ·have:=q0 λw=>w.elim z y;rw[<-decide_eq_false y] at this;exact this)))))))
structure U18(ts:List Tm)(C:List Nat)(t:Nat):Prop where
 tm:tm ts t=aa (aF ts t)
 lt:t<18
 ge:3<=t
theorem Wr.adU(w:Wr ts C)(h:cM ts C t):U18 ts C t:=by refine e1a2 w.cn λn hn hC=>?_;rw[hC] at h;refine f9 (u9 w hC (bQ _) h) λa _ _ z=>?_;exact⟨a.tm,a.lt.1,z.elim (λz=>aI (by decide) (w.lt z).1) (·.1)⟩
def Fm(b:Nat->Nat)(ts:List Tm)(P:aM->Hp->Prop):Prop:=∀R h,P R h->BH b ts h/\∃M,St h (R++M)/\∀R' h',St h' (R'++M)->P R' h'
theorem LR.fm{z u:Nat}{c b s:Nat->Nat}{p:PS}{X:SX}{ts:List Tm}:Fm b ts (LR z u c b s p X ts):=λR h x=>⟨x.bh,x.loc⟩
section
variable {b:Nat->Nat}{ts:List Tm}{P:aM->Hp->Prop}{R R' A B:aM}{h:Hp}{n:Nat}{o:O}{K:PV}{Qu:Hp->Prop}{xs:List V}{v w:V}{es:List (V×V)}{q:Nat×O}
theorem Fm.at(F:Fm b ts P)(x:P R h)(e:q∈R):h.get q.1=aa q.2:=aC (F _ _ x) λ_ aD=>e1a2 aD λ_ y _=>y.at_ q (b8 e)
theorem Fm.lk(F:Fm b ts P)(x:P R h):h.lk=ao:=aC (F _ _ x) λ_ aD=>e1a2 aD λ_ y _=>y.lk
theorem Fm.sub(F:Fm b ts P)(x:P R h)(e:R'.Sublist R):P R' h:=aC (F _ _ x) λ_ aD=>e1a2 aD λ_ y k=>k _ _ (y.sub (e.append (.refl _)))
theorem Fm.dr(F:Fm b ts P)(x:P (q::R) h):P R h:=F.sub x (.cons _ (.refl _))
theorem cH(F:Fm b ts P)(x:P R h)(q:∀n h',P ((n,o)::R) h'->K (.ref n) h'):cj o K h:=λn e=>aC (F _ _ x) λ_ aD=>e1a2 aD λ_ y k=>q n _ (k _ _ (y.new e))
theorem uZ(A:aM)(F:Fm b ts P)(x:P (A++(n,o)::B) h)(o':O):P (A++(n,o')::B) (h.put n o'):=by
 (refine aC (F _ _ x) λ_ aD=>?_;refine e1a2 aD λM y k=>?_)
 rw[bt] at y;exact k _ _ (by rw[bt];exact y.upd o')
theorem uP(A:aM)(F:Fm b ts P)(x:P (A++(n,.list xs)::B) h)(l:xs.length<aG)(q:∀h',P (A++(n,.list (xs++[v]))::B) h'->K .none h'):iK n v K h:=sO (F.at x (q:=(n,.list xs)) (aX (.head _))) l (F.lk x) (q _ (uZ A F x _))
theorem q8(F:Fm b ts P)(x:P ((n,.list xs)::B) h)(l:xs.length<aG)(q:∀h',P ((n,.list (xs++[v]))::B) h'->K .none h'):iK n v K h:=uP [] F x l q
theorem tI(A:aM)(F:Fm b ts P)(x:P (A++(n,.dict es)::B) h)(ko:b7 w es=ah)(l:es.length<aG)(q:∀h',P (A++(n,.dict (bB es w v))::B) h'->Qu h'):dY (.ref n) w v Qu h:=yw (F.at x (q:=(n,.dict es)) (aX (.head _))) ko l (F.lk x) (q _ (uZ A F x _))
theorem VJ(F:Fm b ts P)(x:P ((n,.dict es)::B) h)(ko:b7 w es=ah)(l:es.length<aG)(q:∀h',P ((n,.dict (bB es w v))::B) h'->Qu h'):dY (.ref n) w v Qu h:=tI [] F x ko l q
end
noncomputable def items(ts:List Tm)(C:List Nat):List Nat:=C.flatMap λc=>ar ts c++[c]
noncomputable def lR(V:Nat->Prop)[DecidablePred V](K:List Nat)(t:Nat):List Nat:=if V t/\t∉K then K++[t] else K
noncomputable abbrev pT(V:Nat->Prop)[DecidablePred V](l:List Nat):List Nat:=l.foldl (lR V) []
section
variable {b:Nat->Nat}{ts:List Tm}{P:aM->Hp->Prop}{R:aM}{h:Hp}{n cl t:Nat}{Q:PV}{Y:Hp->Prop}{C p:List Nat}{G:Nat->Prop}[DecidablePred G]
theorem Jv{K:List Nat}(e:G t)(e':t∉K):lR G K t=K++[t]:=if_pos ⟨e,e'⟩
theorem XX{K:List Nat}(e:¬G t\/t∈K):lR G K t=K:=if_neg λz=>e.elim (absurd z.1) λe=>z.2 e
theorem T1(l:List Nat):pT G (l++[t])=lR G (pT G l) t:=List.foldl_append
theorem X7(l:List Nat):∀K:List Nat,K.Nodup->(∀t∈K,G t)->(l.foldl (lR G) K).Nodup/\∀t,t∈l.foldl (lR G) K↔t∈K\/t∈l/\G t:=by
 induction l with
 |nil=>exact λK k _=>⟨k,λt=>⟨.inl,λz=>z.elim id λz=>nomatch z.1⟩⟩
 |cons a l ih=>
  intro K k g;show(l.foldl (lR G) (lR G K a)).Nodup/\∀t,t∈l.foldl (lR G) (lR G K a)↔_;by_cases e:G a/\a∉K
  ·rw[Jv e.1 e.2];have:=ih (K++[a]) (fW.mpr ⟨k,dK.mpr ⟨fF,jG⟩,λx hx y hy z=>e.2 (by rw[aZ.mp hy] at z;exact z▸hx)⟩) λt ht=>(bx.mp ht).elim (g t) λz=>aZ.mp z▸e.1;refine⟨this.1,λt=>?_⟩;rw[this.2,bx,aZ,a_,or_and_right,or_assoc];exact or_congr_right (or_congr_left ⟨λz=>⟨z,z▸e.1⟩,(·.1)⟩)
  ·rw[show lR G K a=_ from if_neg e];have:=ih K k g;refine⟨this.1,λt=>?_⟩;rw[this.2,a_,or_and_right];refine⟨λz=>z.imp_right .inr,λz=>z.elim .inl λz=>z.elim (λz=>.inl ?_) .inr⟩;exact qh λy=>e (z.1▸⟨z.2,y⟩)
theorem sM(l:List Nat):(pT G l).Nodup/\∀t,t∈pT G l↔t∈l/\G t:=(X7 l [] jG λ_ z=>nomatch z).imp_right λh t=>(h t).trans ⟨λz=>z.elim (λz=>nomatch z) id,.inr⟩
theorem tY:t∈items ts C↔cM ts C t:=by
 delta items cM;rw[gI];constructor
 ·rintro ⟨c,hc,ht⟩;rw[bx,aZ] at ht;exact ht.elim (λz=>.inr ⟨c,hc,z⟩) λz=>.inl (z▸hc)
 ·rintro (z|⟨c,hc,z⟩)
  ·exact⟨t,z,aX (.head _)⟩
  ·exact⟨c,hc,b8 z⟩
theorem Kc(e:E)(w:Wr ts C)(F:Fm b ts P)(hC:(cl,.list (C.map iv))∈R)(x:P ((n,.list [])::R) h){Q:PX}(G:Nat->Prop)[DecidablePred G]
  (ht:∀(K:List Nat) t h ξ (X:Hp->Prop) (Qb:Bool->Hp->Prop),cM ts C t->P ((n,.list (K.map iv))::R) h->(G t->t∉K->Qb ah h)->(¬G t\/t∈K->Qb au h)->vE Cl e X (bf [69] [iv t] (bf [63,47] [.ref (b 0),.ref n] ξ)) (lL Qb) h)
  (q:∀ξ h,P ((n,.list ((pT G (items ts C)).map iv))::R) h->Q .next (bf [63,47] [.ref (b 0),.ref n] ξ) h):
  ke (.ref cl) (kF au [90] [90,69] (vS Cl (.q (.f au [69] (.b (.a .add) (.m (.v 63) 44 (.b .k (.v 90) (.l .adt))) (.u .T (.b .k (.v 90) (.l .adt)))) (.q (.i e (.q (.e .x (.m (.v 47) 0 (.b .k (.v 69) (.l .adt)))) .n) .n) .n)) .n)) (bf [47] [.ref n] (bf [63,65] [.ref (b 0),.ref cl] Env.nil)) Q h) h:=by
 have hU:∀l:List Nat,(∀t∈l,cM ts C t)->(pT G l).length <aG:=λl hl=>aR (g_ 18 _ (sM l).1 λt ht=>(w.adU (hl t (((sM l).2 t).mp ht).1)).lt) (by decide);refine bT (F.at x (.tail _ hC)) (cb [63,47] rfl rfl (λp h=>P ((n,.list ((pT G (items ts p)).map iv))::R) h) (λp h x=>bM (F.at x (.tail _ hC))) x (λp c r e ξ h x J hJ=>?_) q);have hc:c∈C:=by rw[e];exact aX (.head _)
 have B:=(F _ _ x).1;have ei:items ts (p++[c])=items ts p++(ar ts c++[c]):=by delta items;rw[qu,uL]
 refine B.k rfl rfl (il B (w.cl c hc).1 (I1 (ys:=[iv c]) (by rw[aP];exact aR (w.call hc).1.ar (by decide)) (show 1<aG by decide) ?_));rw[show(ar ts c).map iv++[iv c]=(ar ts c++[c]).map iv by rw[bA];rfl];refine n6 (cb [63,47] rfl rfl (λl h=>P ((n,.list ((pT G (items ts p++l)).map iv))::R) h) (λ_ _ _=>cY) (by rw[cq];exact x) (λl t r' e' ξ h x J' eI=>?_) λξ h x=>hJ _ _ (by rw[ei];exact x));have hu:∀a∈ar ts c++[c],cM ts C a:=λa ha=>(bx.mp ha).elim (λz=>.inr ⟨c,hc,z⟩) λz=>.inl (aZ.mp z▸hc);rw[e'] at hu;have ll:=hU (items ts p++l) λa ha=>(bx.mp ha).elim (λz=>(tY.mp z).imp (λz=>by rw[e];exact b8 z) λ⟨d,z,y⟩=>⟨d,by rw[e];exact b8 z,y⟩) λz=>hu a (b8 z);rw[<-bt,T1] at eI;refine ht _ t h ξ _ _ (hu t (aX (.head _))) x (λg n=>?_) λz=>eI _ _ (by rw[XX z];exact x);rw[Jv g n,bA] at eI;exact cN (F.at x (.head _)) rfl (q8 F x (by rw[aP];exact ll) λh x=>eI _ _ x)
end
section
variable {b:Nat->Nat}{ts:List Tm}{P:aM->Hp->Prop}{R:aM}{h:Hp}{n cl kn t:Nat}{Q:PV}{Y:Hp->Prop}{C K:List Nat}
theorem D3{Qt:Bool->Hp->Prop}(e:h.get n=aa (.list (K.map iv)))(q1:t∉K->Qt ah h)(q0:t∈K->Qt au h):bZ .notin (iv t) (.ref n) Qt h:=
 xC e rfl (jh _) (by
  by_cases z:t∈K
  ·rw[decide_eq_true (qN.mpr z)];exact q0 z
  ·rw[decide_eq_false λy=>z (qN.mp y)];exact q1 z)
structure Kn(ts:List Tm)(C K:List Nat):Prop where
 w:Wr ts C
 k:∀t,t∈K↔cM ts C t
 nd:K.Nodup
 ne:C≠[]
theorem UX(w:Wr ts C)(ne:C≠[])(F:Fm b ts P)(x:P R h)(hC:(cl,.list (C.map iv))∈R)(q:∀h' n K,P ((n,.list (K.map iv))::R) h'->Kn ts C K->Q (.ref n) h'):Cl 213 [.ref (b 0),.ref cl] Q Y h:=
 ba (cH F x λn h x=>Kc _ w F hC x (λ_=>True) (λK t h ξ X Qb _ x q1 q0=>D3 (F.at x (.head _)) (q1 trivial) λz=>q0 (.inr z)) λξ h x=>
  q h n _ x ⟨w,λt=>((sM _).2 t).trans ((and_iff_left trivial).trans tY),(sM _).1,ne⟩)
theorem ZZ{S:List Nat}(w:Wr ts C)(hS:iL ts C S)(F:Fm b ts P)(x:P R h)(hC:(cl,.list (C.map iv))∈R)(q:∀h' n,P ((n,.list (S.map iv))::R) h'->Q (.ref n) h'):Cl 212 [.ref (b 0),.ref cl] Q Y h:=
 ba (cH F x λn h x=>Kc _ w F hC x (gK ts) (λK t h ξ X Qb u x q1 q0=>I_ (F _ _ x).1 (w.adU u).tm (λz=>D3 (F.at x (.head _)) (q1 z) λz=>q0 (.inr z)) λz=>q0 (.inl z)) λξ h x=>by
  have k:=sM (G:=gK ts) (items ts C);have l:=g_ 18 _ k.1 λt ht=>(w.adU (tY.mp ((k.2 t).mp ht).1)).lt;exact L8 (F.at x (.head _)) (aR l (by decide)) (cH F x λm h x=>q h m (by rw[iL.uniq (S:=mz _) ⟨BG k.1,by rw[Co];exact l,λt=>xy.trans ((k.2 t).trans (and_congr_left' tY))⟩ hS] at x;exact F.sub x (.cons₂ _ (.cons _ (.refl _))))))
theorem Wr.aeq(w:Wr ts C):∃S,iL ts C S:=by have k:=sM (G:=gK ts) (items ts C);exact⟨_,BG k.1,by rw[Co];exact g_ 18 _ k.1 λt ht=>(w.adU (tY.mp ((k.2 t).mp ht).1)).lt,λt=>xy.trans ((k.2 t).trans (and_congr_left' tY))⟩
end
def vm(ts:List Tm)(lb:Nat->Nat)(x:Nat×Nat):Prop:=x.1<x.2/\hd (aF ts x.1)=hd (aF ts x.2)/\(ar ts x.1).map lb=(ar ts x.2).map lb
noncomputable instance(ts:List Tm)(lb:Nat->Nat)(x:Nat×Nat):Decidable (vm ts lb x):=inferInstanceAs (Decidable (_/\_/\_))
noncomputable abbrev qL(ts:List Tm)(lb:Nat->Nat)(l:List (Nat×Nat)):List (Nat×Nat):=l.filter λx=>decide (vm ts lb x)
noncomputable def ig(p C:List Nat):List (Nat×Nat):=p.flatMap λc=>C.map (qz c)
noncomputable abbrev tu(ts:List Tm)(C:List Nat)(lb:Nat->Nat)(M:List (Nat×Nat)):List (Nat×Nat):=M++qL ts lb (ig C C)
section
variable {b:Nat->Nat}{ts:List Tm}{P:aM->Hp->Prop}{R:aM}{h:Hp}{n m cl kn mg l w t c:Nat}{Q:PV}{Y:Hp->Prop}{C K:List Nat}{lb:Nat->Nat}{es:List (V×V)}{M:List (Nat×Nat)}{ρ:Env}
theorem Ta{p:List Nat}:ig (p++[c]) C=ig p C++C.map (qz c):=by delta ig;rw[qu,uL]
theorem WQ:∀{p:List Nat},(ig p C).length=p.length*C.length:=by
 intro p;induction p with
 |nil=>exact(Nat.zero_mul _).symm
 |cons c p ih=>exact by delta ig;rw[xn,aT,aP,e_,HL,dB];exact congrArg (· +_) ih
theorem JI{p:List Nat}{x:Nat×Nat}:x∈ig p C↔x.1∈p/\x.2∈C:=by delta ig;rw[gI];exact⟨λyy=>e1a2 yy λa h1 h2=>by refine e1a2 (bz.mp h2) λy h3 h4=>?_;rw[<-h4];exact⟨h1,h3⟩,λyy=>aC yy λh1 h2=>⟨x.1,h1,bz.mpr ⟨x.2,h2,rfl⟩⟩⟩
theorem Wr.adV(w:Wr ts C):C.length<=5:=by refine e1a2 w.cn λn hn e=>?_;rw[e,xp];exact hn
theorem vp{gg:Nat->V}(g:h.get l=aa (.dict es))(D:DI es (bj K gg))(ht:t∈K)(q:Q (gg t) h):eY (.ref l) (iv t) Q h:=eX g (D.ko t) (by rw[D.g];exact eF ht) q
theorem Cm(w:Wr ts C)(hc:c∈C)(B:BH b ts h)(q:Q (iv (hd (aF ts c))) h):Cl 1009 [.ref (b 0),iv c] Q Y h:=by
 (refine be (w.cl c hc) λe _ aD=>?_;refine e2a3 aD λf so _ d _=>?_)
 rw[mS d,<-d] at q;exact u8 B e q
theorem Vv{as bs:List Nat}{Qt:Bool->Hp->Prop}(e:h.get n=aa (.list (as.map iv)))(e':h.get m=aa (.list (bs.map iv)))(q1:as=bs->Qt ah h)(q0:as≠bs->Qt au h):bZ .eq (.ref n) (.ref m) Qt h:=
 Ep e e' (jh _) (jh _) (by
  by_cases z:as=bs
  ·rw[decide_eq_true (congrArg _ z)];exact q1 z
  ·rw[decide_eq_false λy=>z (xW y)];exact q0 z)
theorem IB{as:List Nat}(e:ρ 216=aa (.ref l))(g:h.get l=aa (.dict es))(D:DI es (bj K λt=>iv (lb t)))(hK:∀a∈as,a∈K)(q:cj (.list ((as.map lb).map iv)) Q h):kC au [69] (vE Cl (.l (.bool ah)) nX) (vE Cl (.b .i (.v 216) (.v 69)) nX) ρ Q (V.tup (as.map iv)) h:=by
 refine n6 (yv (λa=>aa (iv (lb a))) cY (λa ha acc J hJ=>?_) ?_)
 ·show oG (ρ 216) _;rw[e];exact vp (gg:=λt=>iv (lb t)) g D (hK a ha) hJ
 ·rw[show as.filterMap (λa=>aa (iv (lb a)))=(as.map lb).map iv by rw[iE];exact congrFun List.filterMap_eq_map as];exact q
theorem YQ(w0:Wr ts C)(F:Fm b ts P)(hC:(cl,.list (C.map iv))∈R)(hl:(l,.dict es)∈R)(D:DI es (bj K λt=>iv (lb t)))(hK:∀t,cM ts C t->t∈K)(lM:M.length<1000)(x:P ((w,.list (M.map pv))::R) h){Q:PX}
  (q:∀ξ h,P ((w,.list ((tu ts C lb M).map pv))::R) h->Q .next (bf [63,65,214,215,216,219] [.ref (b 0),.ref cl,.ref kn,.ref mg,.ref l,.ref w] ξ) h) (e0:lk [63,65,214,215,216,219] ρ=aa [.ref (b 0),.ref cl,.ref kn,.ref mg,.ref l,.ref w]):
  ke (.ref cl) (kF au [90] [90,93,108] (vS Cl (.q (.f au [93] (.v 65) (.q (.i (.A (.b (.c .lt) (.v 90) (.v 93)) (.b (.c .eq) (.m (.v 63) 46 (.b .k (.v 90) (.l .adt))) (.m (.v 63) 46 (.b .k (.v 93) (.l .adt))))) (.q (.e (.s au [108]) (.C (.C (.b .i (.v 216) (.v 69)) au [69] (.m (.v 63) 44 (.b .k (.v 122) (.l .adt))) (.l (V.bool ah))) au [122] (.u .T (.b .k (.v 90) (.b .k (.v 93) (.l .adt)))) (.l (V.bool ah)))) (.q (.i (.b (.c .eq) (.b .i (.v 108) (.l (V.int 0))) (.b .i (.v 108) (.l (V.int 1)))) (.q (.e .x (.m (.v 219) 0 (.b .k (.u .T (.b .k (.v 90) (.b .k (.v 93) (.l .adt)))) (.l .adt)))) .n) .n) .n)) .n) .n)) .n)) ρ Q h) h:=by
 have hA:∀c∈C,∀a∈ar ts c,a∈K:=λc hc a ha=>hK a (.inr ⟨c,hc,ha⟩);refine bT (F.at x (.tail _ hC)) (cb [63,65,214,215,216,219] e0 rfl (λp h=>P ((w,.list ((M++qL ts lb (ig p C)).map pv))::R) h) (λp h x=>bM (F.at x (.tail _ hC))) (by rw[show M++qL ts lb (ig [] C)=M from cq _];exact x) (λp c r e ξ h x J hJ=>?_) q);have hc:c∈C:=by rw[e];exact aX (.head _)
 have lp:p.length<5:=c9 (by rw[e,aT];exact qf (gw _)) w0.adV;refine bT (F.at x (.tail _ hC)) (cb [63,65,214,215,216,219,90] rfl rfl (λi h=>P ((w,.list ((M++qL ts lb (ig p C++i.map (qz c))).map pv))::R) h) (λp h x=>bM (F.at x (.tail _ hC))) (by rw[ac9,cq];exact x) (λi t r' e' ξ h x J' eI=>?_) λξ h x=>hJ _ _ (by rw[Ta];exact x));have ht:t∈C:=by rw[e'];exact aX (.head _)
 have B:=(F _ _ x).1;rw[show ig p C++(i++[t]).map (qz c)=ig p C++i.map (qz c)++[(c,t)] by rw[bA,<-bt];rfl] at eI;have skip:¬vm ts lb (c,t)->∀ρ,J' ρ h:=λz ρ=>eI ρ _ (by rw[show qL ts lb (ig p C++i.map (qz c)++[(c,t)])=_ from uQ z];exact x);refine dx (λz1=>B.k rfl rfl (Cm w0 hc B (B.k rfl rfl (Cm w0 ht B (ff (dx (λz2=>?_) λz2=>skip (λz=>z2 z.2.1) _)))))) λz1=>lO z1 (skip (λz=>z1 (gC.mpr z.1)) _);refine⟨cY,B.k rfl rfl (il B (w0.cl c hc).1 (IB rfl (F.at x (.tail _ hl)) D (hA c hc) (cH F x λm1 h x=>⟨cY,?_⟩)))⟩;have B:=(F _ _ x).1;refine B.k rfl rfl (il B (w0.cl t ht).1 (IB rfl (F.at x (.tail _ (.tail _ hl))) D (hA t ht) (cH F x λm2 h x=>⟨cY,cH F x λm3 h x=>?_⟩)));refine cz (F.at x (.head _)) rfl (cz (F.at x (.head _)) rfl (Vv (F.at x (.tail _ (.tail _ (.head _)))) (F.at x (.tail _ (.head _))) (λz3=>?_) λz3=>?_))
 ·have x:=F.dr (F.dr (F.dr x));rw[show qL ts lb (ig p C++i.map (qz c)++[(c,t)])=_ from yK (c:=vm ts lb) ⟨gC.mp z1,z2,z3⟩,<-bt,bA] at eI;refine cN (F.at x (.head _)) rfl (q8 F x ?_ λh x=>eI _ _ x);rw[aP,aT];refine aR (ds (jM _ _) _) ?_;rw[aT,WQ,aP];have li:i.length<=C.length:=by rw[e',aT];exact b_ _ _
  have lC:=w0.adV;have:=Nat.mul_le_mul (bP lp) lC;exact c9 (xq lM (dF this (aI li lC))) (by decide)
 ·exact eI _ _ (by rw[show qL ts lb (ig p C++i.map (qz c)++[(c,t)])=_ from uQ λz=>z3 z.2.2];exact F.dr (F.dr (F.dr x)))
end
section
variable {ts:List Tm}{h:Hp}{n m l:Nat}{Q:PV}{C K:List Nat}{lb:Nat->Nat}{es:List (V×V)}{M:List (Nat×Nat)}{f:Nat->Option V}{v:V}
theorem Vp(g:Nat->V):∀K:List Nat,vf (K.map λt=>V.tup [iv t,g t])=aa (K.map λt=>(iv t,g t)):=by
 intro K;induction K with
 |nil=>exact rfl
 |cons t K ih=>show oM (_::·) (vf (K.map λt=>V.tup [iv t,g t]))=_;rw[ih];rfl
theorem XF(g:Nat->V):∀(K:List Nat) {es:List (V×V)} {f:Nat->Option V},DI es f->(∀t∈K,t<18)->DI (kq es (K.map λt=>(iv t,g t))) (λt=>if t∈K then aa (g t) else f t):=by
 intro K;induction K with
 |nil=>intro es f D _;exact D
 |cons x K ih=>
  intro es f D h;have:=ih (D.put (h x (.head _)) (g x)) λt ht=>h t (.tail _ ht)
  rewrite [show(λt=>if t∈x::K then aa (g t) else f t)= λt=>if t∈K then aa (g t) else upd f x (aa (g x)) t from funext λt=>?_]
  ·exact this
  ·by_cases z:t∈K
   ·rw[if_pos z,if_pos (.tail _ z)]
   ·rw[if_neg z];delta upd;by_cases e:t=x
    ·rw[if_pos e,if_pos (by rw[e];exact .head _),e]
    ·rw[if_neg e,if_neg λw=>(a_.mp w).elim e z]
theorem L6{g:Nat->V}(e:h.get n=aa (.list (K.map λt=>V.tup [iv t,g t])))(hK:∀t∈K,t<18)(lK:K.length<=18)(q:∀es,DI es (bj K g)->cj (.dict es) Q h):Bx (.ref n) Q h:=
 ⟨_,e,_,Vp g K,by rw[aP];exact aR lK (by decide),by delta hY;rw[adh];exact cQ.mpr λt _=>rfl,q _ (XF g K ⟨.nil,λ_ h=>(nomatch h),λ_=>rfl⟩ hK)⟩
theorem x9{xs:List V}{Qt:Bool->Hp->Prop}(e:h.get n=aa (.list xs))(e':h.get m=aa (.list []))(k:gJ xs=ah)(q1:xs=[]->Qt ah h)(q0:xs≠[]->Qt au h):bZ .eq (.ref n) (.ref m) Qt h:=
 Ep e e' k rfl (by
  by_cases z:xs=[]
  ·rw[decide_eq_true z];exact q1 z
  ·rw[decide_eq_false z];exact q0 z)
theorem Sx{a b:Nat}(e:h.get n=aa (.list [iv a,iv b]))(q:∀lo hi,(lo=a/\hi=b\/lo=b/\hi=a)->cj (.list [iv lo,iv hi]) Q h):tZ (.ref n) Q h:=
 L8 (l:=[a,b]) e (show 2<64 by decide) (by
  rw[show mz [a,b]=if a<b then [a,b] else [b,a] from rfl];split
  ·exact q _ _ (.inl ⟨rfl,rfl⟩)
  ·exact q _ _ (.inr ⟨rfl,rfl⟩))
theorem hG(g:h.get l=aa (.dict es))(D:DI es f){t:Nat}(e:f t=aa v)(q:Q v h):eY (.ref l) (iv t) Q h:=eX g (D.ko t) ((D.g t).trans e) q
theorem sU:∀l:List (Nat×Nat),gJ (l.map pv)=ah:=by
 intro l;induction l with
 |nil=>exact rfl
 |cons _ l ih=>exact ih
theorem aaM(Ae:∀t,cM ts C t->t∈K)(hM:∀x∈M,x.1∈K/\x.2∈K)(snd:∀a∈K,∀b∈K,lb a=lb b->Cg ts C M a b)(cm:∀x∈M,lb x.1=lb x.2)
  (cc:∀x,x.1∈C->x.2∈C->vm ts lb x->lb x.1=lb x.2) (a:Nat) (ha:a∈K) (b:Nat) (hb:b∈K):lb a=lb b↔Cg ts C M a b:=by
 refine⟨snd a ha b hb,λz=>?_⟩;have k:∀{x y},x∈K->y∈K->lb x=lb y->(x∈K/\y∈K/\lb x=lb y)\/x=y:=λa b c=>.inl ⟨a,b,c⟩;have:=z (λx y=>(x∈K/\y∈K/\lb x=lb y)\/x=y) ⟨λ_=>.inr rfl,λx y e=>e.imp (λe=>⟨e.2.1,e.1,e.2.2.symm⟩) wV,λx y z e e'=>e.elim (λe=>e'.elim (λe'=>k e.1 e'.2.1 (e.2.2.trans e'.2.2)) λe'=>.inl (e'▸e)) λe=>e▸e',λs t hs ht e1 e2 e3=>?_⟩ λq hq=>k (hM q hq).1 (hM q hq).2 (cm q hq)
 ·exact this.elim (·.2.2) (congrArg lb)
 ·have key:∀{l l':List Nat},l.length=l'.length->(∀q∈l.zip l',(q.1∈K/\q.2∈K/\lb q.1=lb q.2)\/q.1=q.2)->l.map lb=l'.map lb:=by
   intro l;induction l with
   |nil=>intro l' h _;cases l' with|nil=>rfl|cons _ _=>cases h
   |cons x l ih=>
    intro l' h k;cases l' with
    |nil=>cases h
    |cons y l'=>rw[bW,bW,ih (jZ h) λq hq=>k q (.tail _ hq),(k (x,y) (.head _)).elim (·.2.2) (congrArg lb)]
  have ea:=key e2 e3;exact(QC s t).elim (λh=>k (Ae _ (.inl hs)) (Ae _ (.inl ht)) (cc (s,t) hs ht ⟨h,e1,ea⟩)) λh=>h.elim .inr λh=>k (Ae _ (.inl hs)) (Ae _ (.inl ht)) (cc (t,s) ht hs ⟨h,e1.symm,ea.symm⟩).symm
structure uM(ts:List Tm)(C K:List Nat)(M:List (Nat×Nat))(lb:Nat->Nat)(n:Nat):Prop where
 s:∀a∈K,∀b∈K,lb a=lb b->Cg ts C M a b
 i:∀a∈K,lb a∈K/\lb (lb a)=lb a
 n:n+(K.filter λt=>decide (lb t=t)).length<=K.length
theorem Yn{lo hi n:Nat}{x:Nat×Nat}(nd:K.Nodup)(L:uM ts C K M lb n)(hx:x.1∈K/\x.2∈K/\Cg ts C M x.1 x.2)(hl:lo=lb x.1/\hi=lb x.2\/lo=lb x.2/\hi=lb x.1)(iZ:lb x.1≠lb x.2):uM ts C K M (λt=>if lb t=hi then lo else lb t) (n+1):=by
 have I:=Cg.adT ts C M;refine be hx λx1 x2 x3=>?_;obtain ⟨snd,Af,sn⟩:=L;have i1:=Af _ x1;have i2:=Af _ x2;have x3:Cg ts C M (lb x.1) (lb x.2):=I.tr _ _ _ (snd _ i1.1 _ x1 i1.2) (I.tr _ _ _ x3 (snd _ x2 _ i2.1 i2.2.symm));have LH:(lo∈K/\lb lo=lo)/\(hi∈K/\lb hi=hi)/\Cg ts C M lo hi/\lo≠hi:=by
  rcases hl with ⟨e,e'⟩|⟨e,e'⟩ <;> rw[e,e']
  ·exact⟨i1,i2,x3,iZ⟩
  ·exact⟨i2,i1,I.sym _ _ x3,iZ.symm⟩
 (refine f9 LH λdN bq Oy bF=>?_;refine aC dN λl1 l2=>?_;refine aC bq λl3 l4=>?_)
 refine⟨λa ha b hb e=>?_,λa ha=>?_,?_⟩
 ·by_cases za:lb a=hi <;> by_cases zb:lb b=hi
  ·exact snd a ha b hb (za.trans zb.symm)
  ·rw[if_pos za,if_neg zb] at e;exact I.tr _ _ _ (snd a ha hi l3 (za.trans l4.symm)) (I.tr _ _ _ (I.sym _ _ Oy) (snd lo l1 b hb (l2.trans e)))
  ·rw[if_neg za,if_pos zb] at e;exact I.tr _ _ _ (snd a ha lo l1 (e.trans l2.symm)) (I.tr _ _ _ Oy (snd hi l3 b hb (l4.trans zb.symm)))
  ·rw[if_neg za,if_neg zb] at e;exact snd a ha b hb e
 ·by_cases za:lb a=hi
  ·rw[if_pos za,l2,if_neg bF];exact⟨l1,rfl⟩
  ·rw[if_neg za,(Af a ha).2,if_neg za];exact⟨(Af a ha).1,rfl⟩
 ·have:=H9 nd l3 (P:=λt=>decide (lb t=t)) (P':=λt=>decide ((if lb t=hi then lo else lb t)=t)) (decide_eq_true l4) (decide_eq_false (by rw[if_pos l4];exact bF)) λt ht=>decide_eq_decide.mpr ?_
  ·rw[hZ,dB 1,this];exact sn
  ·by_cases z:lb t=hi
   ·rw[if_pos z];exact⟨λy=>absurd (l2.symm.trans (y▸z)) bF,λy=>absurd (y.symm.trans z) ht⟩
   ·rw[if_neg z]
end
structure CX(ts:List Tm)(C K:List Nat)(M:List (Nat×Nat))(es:List (V×V))(lb:Nat->Nat):Prop where
 D:DI es (bj K λt=>iv (lb t))
 f:∀a∈K,∀b∈K,(lb a=lb b↔Cg ts C M a b)
 r:∀a∈K,lb a∈K
section
variable {b:Nat->Nat}{ts:List Tm}{P:aM->Hp->Prop}{R:aM}{h:Hp}{n cl kn mg t:Nat}{Q:PV}{Y:Hp->Prop}{C K:List Nat}{M:List (Nat×Nat)}
theorem Kn.lt(x:Kn ts C K):∀t∈K,t<18:=λt ht=>(x.w.adU ((x.k t).mp ht)).lt
theorem Kn.len(x:Kn ts C K):K.length<=18:=g_ 18 K x.nd x.lt
theorem Kn.tm(x:Kn ts C K){t:Nat}(ht:t∈K):tm ts t=aa (aF ts t):=(x.w.adU ((x.k t).mp ht)).tm
theorem Tb{lb:Nat->Nat}{n:Nat}(L:uM ts C K M lb n):∀{l l':List Nat},l.map lb=l'.map lb->(∀a∈l,a∈K)->(∀a∈l',a∈K)->∀q∈l.zip l',Cg ts C M q.1 q.2:=by
 intro l;induction l with
 |nil=>intro _ _ _ _ q hq;exact nomatch hq
 |cons a l ih=>
  intro z24';cases z24' with
  |nil=>intro e _ _ _ _;exact nomatch e
  |cons a' l'=>
   intro e h h' q hq;rw[bW,bW] at e;injection e with e1 e2
   rcases a_.mp hq with z|z
   ·rw[z];exact L.s _ (h _ (.head _)) _ (h' _ (.head _)) e1
   ·exact ih e2 (λa ha=>h a (.tail _ ha)) (λa ha=>h' a (.tail _ ha)) q z
theorem T3{lb:Nat->Nat}{n:Nat}(x:Kn ts C K)(hM:∀q∈M,q.1∈K/\q.2∈K)(L:uM ts C K M lb n){y:Nat×Nat}(hy:y∈tu ts C lb M):y.1∈K/\y.2∈K/\Cg ts C M y.1 y.2:=by
 rcases bx.mp hy with hy|hy
 ·exact⟨(hM y hy).1,(hM y hy).2,λE _ k=>k y hy⟩
 ·refine aC (cW.mp hy) λh1 h2=>?_;refine aC (JI.mp h1) λh3 h4=>?_;refine be (of_decide_eq_true h2) λh5 h6 h7=>?_;exact⟨(x.k _).mpr (.inl h3),(x.k _).mpr (.inl h4),(Cg.adT ts C M).cg _ _ h3 h4 h6 (by have:=congrArg o_ h7;rw[aP,aP] at this;exact this) (Tb L h7 (λa ha=>(x.k a).mpr (.inr ⟨_,h3,ha⟩)) λa ha=>(x.k a).mpr (.inr ⟨_,h4,ha⟩))⟩
theorem YK{α:Type}{g g':Nat->α}(e:∀a∈K,g a=g' a):bj K g=bj K g':=funext λa=>by
 delta bj;by_cases z:a∈K
 ·rw[if_pos z,if_pos z,e a z]
 ·rw[if_neg z,if_neg z]
theorem aaH{α:Type}{g g':Nat->α}{v:α}(ht:t∈K)(e:g' t=v)(ne:∀a∈K,a≠t->g' a=g a):upd (bj K g) t (aa v)=bj K g':=funext λa=>by
 delta upd bj;by_cases z:a=t
 ·rw[if_pos z,z,if_pos ht,e]
 ·rw[if_neg z];by_cases y:a∈K
  ·rw[if_pos y,if_pos y,ne a y z]
  ·rw[if_neg y,if_neg y]
theorem DI.cg{es:List (V×V)}{g g':Nat->V}(D:DI es (bj K g))(e:∀a∈K,g a=g' a):DI es (bj K g'):=YK e▸D
theorem DI.pt{es:List (V×V)}{g g':Nat->V}{v:V}(D:DI es (bj K g))(ht:t∈K)(l:t<18)(e:g' t=v)(ne:∀a∈K,a≠t->g' a=g a):DI (bB es (iv t) v) (bj K g'):=aaH ht e ne▸D.put l v
theorem xw(x:Kn ts C K)(F:Fm b ts P)(hC:(cl,.list (C.map iv))∈R)(hK:(kn,.list (K.map iv))∈R)(hg:(mg,.list (M.map pv))∈R)(hM:∀q∈M,q.1∈K/\q.2∈K)(lM:M.length<1000)(y:P R h)
  (q:∀h' l es lb,P ((l,.dict es)::R) h'->CX ts C K M es lb->Q (.ref l) h'):Cl 220 [.ref (b 0),.ref cl,.ref kn,.ref mg] Q Y h:=by
 have lK:=x.len;refine ba ?_;show kC _ _ _ _ _ _ (.ref kn) h;refine(bT (F.at y hK) (uV (λt=>V.tup [iv t,iv t]) (bM (F.at y hK)) (λt _ acc J hJ=>hJ) (cH F y λn h y=>L6 (F.at y (.head _)) x.lt lK λes D=>cH F (F.dr y) λl h y=>?_)));refine mR (F.at y (.tail _ hK)) (aP ..) (zm (x:=2) (y:=K.length) (by decide) (aR lK (by decide)) (tR (k:=2*K.length+2) (aR (fC (h_ 2 lK) 2) (by decide)) ?_));refine cb [63,65,214,215,216] rfl rfl (λp h=>∃es lb,P ((l,.dict es)::R) h/\DI es (bj K λt=>iv (lb t))/\uM ts C K M lb p.length) (λ_ _ _=>cY) ⟨es,id,y,D,λa _ b _ e=>(show a=b from e)▸(Cg.adT ts C M).aed a,λa ha=>⟨ha,rfl⟩,(nb _).symm▸jM _ _⟩ (λp _ r _ ξ h i J hJ=>?_) λξ h i=>?_
 ·refine e2a3 i λes lb y D L=>?_;rw[aT] at hJ;refine Ez (F.at y (.tail _ hg)) (by rw[aP];exact bY lM (by decide)) (cH F y λw h y=>YQ x.w F (.tail _ hC) (.head _) D (λt ht=>(x.k t).mpr ht) lM y (λξ h y=>?_) rfl);have wK:=λz hz=>T3 x hM L (y:=z) hz;show kC _ _ _ _ _ _ (.ref w) h;refine bT (F.at y (.head _)) (iJ pv (λz=>lb z.1≠lb z.2) (bM (F.at y (.head _))) (λz hz acc J q1 q0=>?_) (cH F y λwf h y=>cH F y λem h y=>?_))
  ·have:=wK z hz;exact vp (F.at y (.tail _ (.head _))) D this.1 (vp (F.at y (.tail _ (.head _))) D this.2.1 (jo (ij q1 λz=>q0 λw=>w z)))
  have bF:∀z,z∈(tu ts C lb M).filter (λz=>decide (lb z.1≠lb z.2))↔z∈tu ts C lb M/\lb z.1≠lb z.2:=λz=>by rw[cW,decide_eq_true_iff]
  generalize (tu ts C lb M).filter (λz=>decide (lb z.1≠lb z.2))=W at y bF;refine x9 (F.at y (.tail _ (.head _))) (F.at y (.head _)) (sU _) (λz=>?_) λz=>?_
  ·rw[pg.mp z] at bF;have cm:∀z∈tu ts C lb M,lb z.1=lb z.2:=λz hz=>qh λw=>nomatch (bF z).mpr ⟨hz,w⟩;exact q h l es lb (F.dr (F.dr (F.dr y))) ⟨D,aaM (λt ht=>(x.k t).mpr ht) hM L.s (λz hz=>cm z (b8 hz)) λz h1 h2 h3=>cm z (aX (cW.mpr ⟨JI.mpr ⟨h1,h2⟩,decide_eq_true h3⟩)),λa ha=>(L.i a ha).1⟩
  ·obtain ⟨a,W,rfl⟩:∃a W',W=a::W':=by cases W with|nil=>exact absurd rfl z|cons a W=>exact⟨_,_,rfl⟩
   refine aC ((bF a).mp (.head _)) λha hn=>?_;have ka:=wK a ha;have Dl:=F.at y (.tail _ (.tail _ (.tail _ (.head _))));refine cz (F.at y (.tail _ (.head _))) rfl (vp Dl D ka.1 (cz (F.at y (.tail _ (.head _))) rfl (vp Dl D ka.2.1 (cH F y λd h y=>Sx (a:=lb a.1) (b:=lb a.2) (F.at y (.head _)) λlo hi hl=>cH F y λd' h y=>⟨_,F.at y (.head _),?_⟩))));have S:=Yn x.nd L ka hl hn;have y:P ((l,.dict es)::R) h:=F.dr (F.dr (F.dr (F.dr (F.dr y))));refine bT (F.at y (.tail _ hK)) (cb [63,65,214,215,216,217,218] rfl rfl (λp h=>∃es,P ((l,.dict es)::R) h/\DI es (bj K λt=>iv (if t∈p/\lb t=hi then lo else lb t))) (λ_ _ yy=>e1a2 yy λ_ y _=>bM (F.at y (.tail _ hK))) ⟨es,y,?_⟩ (λp t r e ξ h yy=>e1a2 yy λes y D J' eI=>?_) λξ h yy=>e1a2 yy λes y D=>hJ _ _ ⟨es,_,y,?_,S⟩)
   ·exact D.cg λt _=>congrArg iv (if_neg λz=>nomatch z.1).symm
   ·have ht:t∈K:=by rw[e];exact aX (.head _)
    have tp:t∉p:=λz=>by have:=x.nd;rw[e,fW] at this;exact this.2.2 t z t (.head _) rfl
    refine hG (v:=iv (lb t)) (F.at y (.head _)) D ((eF ht).trans (congrArg (λn=>aa (iv n)) (if_neg λz=>tp z.1))) (ff (dx (λz=>VJ F y (D.ko t) D.lim λh y=>eI _ _ ⟨_,y,?_⟩) λz=>eI _ _ ⟨_,y,?_⟩))
    ·exact D.pt ht (x.lt t ht) (congrArg iv (if_pos ⟨aX (.head _),z⟩)) λa _ ne=>congrArg iv (mJ (and_congr_left' (by rw[bx,aZ];exact⟨λz=>z.resolve_right ne,.inl⟩)))
    ·exact D.cg λa _=>congrArg iv (mJ (by rw[bx,aZ];exact⟨λw=>⟨.inl w.1,w.2⟩,λw=>⟨w.1.resolve_right λy=>z (y▸w.2),w.2⟩⟩))
   ·exact D.cg λa ha=>congrArg iv (mJ (and_iff_right ha))
 ·refine e2a3 i λ_ _ _ _ L=>?_;have:=L.n;rw[nj] at this;exact absurd this (Nat.not_le_of_lt (c9 (HF (abY _ (by decide))) (aI (gZ _) (b_ _ _))))
end
noncomputable abbrev nL(ts:List Tm)(T:List Nat):List Nat:=T.filter λt=>decide ((aF ts t).op=195)
def sW(ts:List Tm)(C K:List Nat)(M:List (Nat×Nat)):Prop:=∃s t,s∈nL ts K/\t∈nL ts K/\s≠t/\Cg ts C M s t
section
variable {b:Nat->Nat}{ts:List Tm}{P:aM->Hp->Prop}{R:aM}{h:Hp}{n m a l kn t:Nat}{Q:PV}{Y:Hp->Prop}{C K T:List Nat}{M:List (Nat×Nat)}{es:List (V×V)}{lb:Nat->Nat}
theorem zi(F:Fm b ts P)(x:P R h)(ha:(a,.list (T.map iv))∈R)(hT:∀t∈T,tm ts t=aa (aF ts t))(q:∀n h',P ((n,.list ((nL ts T).map iv))::R) h'->Q (.ref n) h'):Cl 238 [.ref (b 0),.ref a] Q Y h:=by refine ba ?_;show kC _ _ _ _ _ _ (.ref a) h;have B:=(F _ _ x).1;exact bT (F.at x ha) (iJ iv (λt=>(aF ts t).op=195) (bM (F.at x ha)) (λt ht acc J q1 q0=>B.k rfl rfl (tE B (hT t ht) (jg (dx q1 q0)))) (cH F x q))
theorem pj{xs:List V}{Qt:Bool->Hp->Prop}(e:h.get n=aa (.list xs))(e':h.get m=aa (.list []))(k:gJ xs=ah)(q1:xs≠[]->Qt ah h)(q0:xs=[]->Qt au h):bZ .ne (.ref n) (.ref m) Qt h:=
 ym e e' k rfl (by
  by_cases z:xs=[]
  ·rw[decide_eq_true z];exact q0 z
  ·rw[decide_eq_false z];exact q1 z)
theorem JF(x:Kn ts C K)(F:Fm b ts P)(y:P R h)(hK:(kn,.list (K.map iv))∈R)(hl:(l,.dict es)∈R)(L:CX ts C K M es lb)(q1:∀h',P R h'->sW ts C K M->Q (.bool ah) h')(q0:∀h',P R h'->¬sW ts C K M->Q (.bool au) h'):Cl 245 [.ref (b 0),.ref l,.ref kn] Q Y h:=by
 have kT:=λt ht=>x.tm (t:=t) ht;have nK:∀{t},t∈nL ts K->t∈K:=λh=>(cW.mp h).1;refine ba (zi F y hK kT λn1 h y=>bT (F.at y (.head _)) (cb [63,216,214] rfl rfl (λp h=>P ((n1,.list ((nL ts K).map iv))::R) h/\∀s∈p,∀t∈nL ts K,s≠t->lb t≠lb s) (λ_ _ i=>bM (F.at i.1 (.head _))) ⟨y,λ_ z=>nomatch z⟩ (λp s r e ξ h i J hJ=>?_) λξ h i=>?_))
 ·refine aC i λy i=>?_;have sK:s∈nL ts K:=by rw[e];exact aX (.head _)
  refine zi F y (.tail _ hK) kT λn2 h y=>?_;show kC _ _ _ _ _ _ (.ref n2) h;refine bT (F.at y (.head _)) (iJ iv (λt=>t≠s/\lb t=lb s) (bM (F.at y (.head _))) (λt ht acc J q1 q0=>jo (ij (λz=>hG (F.at y (.tail _ (.tail _ hl))) L.D (eF (nK ht)) (hG (F.at y (.tail _ (.tail _ hl))) L.D (eF (nK sK)) (ff (dx (λz'=>q1 ⟨z,z'⟩) λz'=>q0 λw=>z' w.2)))) λz=>pq z (q0 λw=>w.1 z))) (cH F y λn3 h y=>cH F y λn4 h y=>?_));refine pj (F.at y (.tail _ (.head _))) (F.at y (.head _)) (jh _) (λz=>q1 h (F.dr (F.dr (F.dr (F.dr y)))) ?_) λz=>hJ _ _ ⟨F.dr (F.dr (F.dr y)),λs' c7 t ht ne eq=>?_⟩
  ·refine e1a1 (Bl _ λw=>z (congrArg (QD iv) w)) λt ht=>?_;refine aC (cW.mp ht) λh1 h2=>?_;have h2:=of_decide_eq_true h2;exact⟨t,s,h1,sK,h2.1,(L.f t (nK h1) s (nK sK)).mp h2.2⟩
  ·rcases bx.mp c7 with w|w
   ·exact i s' w t ht ne eq
   ·rw[aZ.mp w] at ne eq;exact si.mp (pg.mp z) t ht (decide_eq_true ⟨ne.symm,eq⟩)
 ·exact q0 h (F.dr i.1) λyy=>e2a4 yy λs t h1 h2 ne c=>i.2 t h2 s h1 ne.symm ((L.f s (nK h1) t (nK h2)).mpr c)
end
noncomputable instance(ts:List Tm)(C K:List Nat)(M:List (Nat×Nat)):Decidable (sW ts C K M):=Classical.propDecidable _
structure Cw(ts:List Tm)(E C K:List Nat)(U0:Nat->List Nat)(M:List (Nat×Nat))(p:PS):Prop where
 e:∀t,t∈E↔t∈K
 l:E.length<=18
 wd:Wd ts E C U0
 g:Gd ts E C U0 (λt=>t∈E/\(aF ts t).op=195) M p
section
variable {z u n m a t:Nat}{c b s:Nat->Nat}{h:Hp}{Q:PV}{Y:Hp->Prop}{R:aM}{ts:List Tm}{C K E l:List Nat}{U0:Nat->List Nat}{M:List (Nat×Nat)}{p:PS}{X:SX}{P:aM->Hp->Prop}{y:Nat×Nat}{es:List (V×V)}{lb:Nat->Nat}{r:Prop}[Decidable r]
theorem Yl{Qt:Bool->Hp->Prop}(e:¬r)(q:Qt au h):bZ .ne (.bool ah) (.bool (!decide r)) Qt h:=.inr (.inr (.inl ⟨ah,_,rfl,rfl,by rw[decide_eq_false e];exact q⟩))
theorem UE{Qt:Bool->Hp->Prop}(e:r)(q:Qt au h):bZ .ne (.bool au) (.bool (!decide r)) Qt h:=.inr (.inr (.inl ⟨au,_,rfl,rfl,by rw[decide_eq_true e];exact q⟩))
theorem Cr(F:Fm b ts P)(x:P R h)(e:(m,.list (M.map pv))∈R)(e':(n,.list [pv y])∈R)(lM:M.length<1000)(q:∀n h',P ((n,.list ((M++[y]).map pv))::R) h'->Q (.ref n) h'):pW .add (.ref m) (.ref n) Q h:=
 tQ (F.at x e) (F.at x e') (by rw[aP];exact bY lM (by decide)) (show 1<aG by decide) (cH F x λn h x=>q n h (by rw[bA];exact x))
theorem LR.aef(x:LR z u c b s p X ts R h)(ha:(a,.list (l.map iv))∈R)(h0:t∈l)(hl:l.length<=18)(hu:u<1000000)(q:∀h' k,LR z (u+1) c b s p X ts R h'->k∈l->Q (iv k) h'):Cl 191 [.ref z,.ref a] Q Y h:=
 x.any ha (λz=>by rw[pg.mp z] at h0;exact zE h0) (by rw[aP];exact aR hl (by decide)) hu λh' v x hv=>by refine e1a2 (bz.mp hv) λk h1 h2=>?_;rw[<-h2];exact q h' k x h1
theorem Cw.no(w:Cw ts E C K U0 M p):¬sW ts C K M:=λyy=>e2a4 yy λs t h1 h2 ne e=>by refine aC (cW.mp h1) λk1 o1=>?_;refine aC (cW.mp h2) λk2 o2=>?_;have e1:=(w.e s).mpr k1;exact ne (w.g.nc s t ⟨e1,of_decide_eq_true o1⟩ ⟨(w.e t).mpr k2,of_decide_eq_true o2⟩ ((w.g.cl.wf.adw s).mpr e1) ((w.g.cl.full w.wd e1 ((w.e t).mpr k2)).mpr e))
theorem LR.merge{x y k:Nat}(l:LR z u c b s p X ts R h)(w:Cw ts E C K U0 M p)(hM:M.length<500)(hx:x∈K)(hy:y∈K)
  (q1:∀h' p',LR z u c b s p' X ts R h'->Cw ts E C K U0 (M++[(x,y)]) p'->Q (.bool ah) h')
  (q2:∀h' p',LR z u c b s p' X ts R h'->Cw ts E C K U0 M p'->sW ts C K (M++[(x,y)])->Q (.bool au) h'):Cl 244 [.ref (c 0),iv x,iv y,iv k] Q Y h:=by
 refine e1a4 l.cr λF d hb _ kf=>?_;refine XT d (hb R) w.wd w.g hM (aR (jM _ _) (aR w.l (by decide))) ((w.e x).mpr hx) ((w.e y).mpr hy) (λh' p' d g=>q1 h' p' (kf _ _ _ d) {w with g:=g}) λh' p' d g e=>q2 h' p' (kf _ _ _ d) {w with g:=g} ?_;refine e2a4 e λs t ne e1 e2 e=>?_;exact⟨s,t,cW.mpr ⟨(w.e s).mp e1.1,decide_eq_true e1.2⟩,cW.mpr ⟨(w.e t).mp e2.1,decide_eq_true e2.2⟩,ne,e⟩
theorem Kn.arg(k:Kn ts C K):∃a∈K,(aF ts a).sort≠0:=by
 refine e1a1 (Bl C k.ne) λc hc=>?_;refine e1a1 (Bl _ (k.w.call hc).2.1) λa ha=>?_
 (refine be (k.w.cl c hc) λ_ _ aD=>?_;refine e2a4 aD λf so F _ h3 _=>?_)
 refine⟨a,(k.k a).mpr (.inr ⟨c,hc,ha⟩),λz=>?_⟩;have:=F.s3 (aF ts a).sort (by rw[<-h3];exact bz.mpr ⟨a,ha,rfl⟩);rw[z] at this;exact this.elim (λz=>nomatch z) λz=>z.elim (λz=>nomatch z) λz=>nomatch z
theorem Xr{kn l:Nat}(x:Kn ts C K)(F:Fm b ts P)(y:P R h)(hK:(kn,.list (K.map iv))∈R)(hl:(l,.dict es)∈R)(L:CX ts C K M es lb)(q:∀h',P R h'->Q (.bool (decide (sW ts C K M))) h'):Cl 245 [.ref (b 0),.ref l,.ref kn] Q Y h:=
 JF x F y hK hl L (λh' y z=>by
  have:=q h' y;rw[decide_eq_true z] at this;exact this) λh' y z=>by
  have:=q h' y;rw[decide_eq_false z] at this;exact this
def qO(ts:List Tm)(K:List Nat)(M:List (Nat×Nat)):Prop:=∀y∈M,y.1∈K/\y.2∈K/\(aF ts y.1).sort=(aF ts y.2).sort
theorem qO.add(x:qO ts K M)(a:y.1∈K)(b:y.2∈K)(e:(aF ts y.1).sort=(aF ts y.2).sort):qO ts K (M++[y]):=λq hq=>(bx.mp hq).elim (x q) λz=>aZ.mp z▸⟨a,b,e⟩
structure Bg(z u0:Nat)(c b s:Nat->Nat)(X:SX)(ts:List Tm)(R:aM)(E C K:List Nat)(U0:Nat->List Nat)(mg k:Nat)(M:List (Nat×Nat))(p:PS)(u:Nat)(h:Hp):Prop where
 bm:M.length<=k
 bu:u<=u0+1+2*k
 x:LR z u c b s p X ts ((mg,.list (M.map pv))::R) h
 w:Cw ts E C K U0 M p
 o:qO ts K M
theorem ZQ{cl kn:Nat}(x:LR z u c b s p X ts R h)(hC:(cl,.list (C.map iv))∈R)(hK:(kn,.list (K.map iv))∈R)(k:Kn ts C K)(w:Cw ts E C K U0 [] p)(hu:u<=1000)
  (q:∀h' mg M p' u',Bg z u c b s X ts R E C K U0 mg 2 M p' u' h'->Q (.ref mg) h'):Cl 247 [.ref z,.ref (b 0),.ref (c 0),.ref cl,.ref kn] Q Y h:=by
 refine ba (fe x λmg h x=>x.draw (m:=3) (by decide) (by decide) (aR hu (by decide)) λh m x hm=>tR (k:=m) (bY hm (by decide)) ?_);refine cb [187,63,225,65,214,215] rfl rfl (λl h=>∃M p u',Bg z u c b s X ts R E C K U0 mg l.length M p u' h) (λ_ _ _=>cY) ⟨[],p,u+1,bQ _,bQ _,x,w,λ_ z=>nomatch z⟩ (λl _ r e ξ h i J hJ=>?_) λξ h i=>?_
 ·refine e3a1 i λM p u' i=>?_;have ll:l.length<3:=c9 (by rw[<-nj (n:=m),e,aT];exact qf (gw _)) (nz (AM hm));rw[aT,show [_].length=1 from rfl] at hJ;obtain ⟨im,iu,x,w,o⟩:=i;have Oz:u'+1<1000000:=aR (dw (aI iu (dF (dw hu) (h_ 2 (bP ll))))) (by decide);show kC _ _ _ _ _ _ (.ref kn) h;refine e1a2 k.arg λa0 a1 a2=>?_;refine bT (x.at (.tail _ hK)) (iJ iv (λt=>(aF ts t).sort≠0) (bM (x.at (.tail _ hK))) (λt ht acc J q1 q0=>x.bh.k rfl rfl (ky x.bh (k.tm ht) (jo (b:=0) (ij q1 λz=>q0 λw=>w z)))) (fe x λn h x=>
   x.aef (.head _) (cW.mpr ⟨a1,decide_eq_true a2⟩) (aI (jM _ _) k.len) (Nat.lt_of_succ_lt Oz) λh a x ha=>?_))
  have Ag:=(cW.mp ha).1;show kC _ _ _ _ _ _ (.ref kn) h;refine bT (x.at (.tail _ (.tail _ hK))) (iJ iv (λt=>(aF ts t).sort=(aF ts a).sort) (bM (x.at (.tail _ (.tail _ hK)))) (λt ht acc J q1 q0=>x.bh.k rfl rfl (ky x.bh (k.tm ht) (x.bh.k rfl rfl (ky x.bh (k.tm Ag) (ff (dx q1 q0)))))) (fe x λn h x=>
   x.aef (.head _) (cW.mpr ⟨Ag,decide_eq_true rfl⟩) (aI (jM _ _) k.len) Oz λh a' x cA=>?_))
  refine aC (cW.mp cA) λOA kY=>?_;have kY:=of_decide_eq_true kY;have x:=x.sub (.cons _ (.cons _ (.refl _)));have lM:M.length<3:=aR im ll;have Gn:u'+1+1<=u+1+2*(l.length+1):=fC iu 2;refine jo (ij (λne=>?_) λ_=>hJ _ _ ⟨M,p,_,iH im,Gn,x,w,o⟩);have F:=LR.fm (z:=z) (u:=u'+1+1) (c:=c) (b:=b) (s:=s) (p:=p) (X:=X) (ts:=ts);have o':=o.add (y:=(a,a')) Ag OA kY.symm;refine cH F x λn1 h x=>Cr F x (.tail _ (.head _)) (.head _) (bY lM (by decide)) λn2 h x=>xw k F (.tail _ (.tail _ (.tail _ hC))) (.tail _ (.tail _ (.tail _ hK))) (.head _) (λy hy=>⟨(o' y hy).1,(o' y hy).2.1⟩) (by rw[aT];exact bY (HJ lM 1) (by decide)) x λh lb es lbf x L=>
   Xr k F x (.tail _ (.tail _ (.tail _ (.tail _ hK)))) (.head _) L λh x=>mR (x.at (.tail _ (.tail _ (.tail _ (.head _))))) (aP ..) (x.merge (k:=1+M.length) w (bY lM (by decide)) Ag OA (λh p x w=>Yl w.no (Ja w.no ?_)) λh p x w tw=>UE tw (pq tw (hJ _ _ ⟨M,p,_,iH im,Gn,x.sub (.cons _ (.cons _ (.cons _ (.refl _)))),w,o⟩)))
  have F:=LR.fm (z:=z) (u:=u'+1+1) (c:=c) (b:=b) (s:=s) (p:=p) (X:=X) (ts:=ts);have x:=x.sub (R':=(mg,.list (M.map pv))::R) (.cons _ (.cons _ (.cons _ (.refl _))));exact cN (x.at (.head _)) rfl (q8 F x (by rw[aP];exact bY lM (by decide)) λh x=>hJ _ _ ⟨M++[(a,a')],p,_,by rw[aT];exact dw im,Gn,by rw[bA];exact x,w,o'⟩)
 ·refine e3a1 i λM p u' i=>?_;rw[nj] at i;exact q h mg M p u' {i with bm:=aI i.bm (nz hm),bu:=aI i.bu (ds (h_ 2 (nz hm)) _)}
end
noncomputable abbrev vv(k:Nat):V:=V.tup [iv k,iv 1]
section
variable {z u n t:Nat}{c b s:Nat->Nat}{h:Hp}{Q:PV}{Y:Hp->Prop}{R B:aM}{ts:List Tm}{C K S:List Nat}{p:PS}{X:SX}{P:aM->Hp->Prop}{es el:List (V×V)}{lb:Nat->Nat}{v w:V}
theorem Xw(F:Fm b ts P)(x:P ((n,.dict es)::B) h)(kt:w.adL=ah)(ko:b7 w es=ah)(l:es.length<aG)(q1:∀v',(∃e∈es,e.2=v')->Q v' h)(q2:∀h',P ((n,.dict (es++[(w,v)]))::B) h'->Q v h'):Dr n [w,v] Q h:=by
 refine⟨es,F.at x (.head _),kt,ko,l,?_⟩;show oE (bC es w) _ _;cases e:bC es w with
 |some v'=>exact q1 v' ⟨_,DU e,rfl⟩
 |none=>exact⟨q_ (F.lk x),q2 _ (uZ [] F x _)⟩
theorem Wi{α:Type}{p:List Nat}{g g':Nat->α}{v:α}(e:g' t=v)(ne:∀a∈p,a≠t->g' a=g a):upd (bj p g) t (aa v)=bj (p++[t]) g':=by
 rw[<-e,<-mI]
 funext a;delta upd bj
 by_cases z:a=t
 ·rw[if_pos z,if_pos z]
 ·rw[if_neg z,if_neg z];by_cases y:a∈p
  ·rw[if_pos y,if_pos y,ne a y z]
  ·rw[if_neg y,if_neg y]
theorem Kn.num(x:Kn ts C K)(ht:t∈K)(ho:(aF ts t).op=195):∃k,(aF ts t).data=vv k:=by
 have nc:∀{t},t∈C->(aF ts t).op≠195:=λh z=>by rw[(x.w.cl _ h).2.1] at z;cases z
 rcases (x.k t).mp ht with h|⟨c,h1,h2⟩
 ·exact absurd ho (nc h)
 ·rcases x.w.arg h1 h2 with ⟨a1,a2⟩|⟨a1,a2⟩
  ·rcases (x.w.leaf a1 a2).2.2.2 with ⟨e,_⟩|⟨_,e⟩
   ·rw[e] at ho;cases ho
   ·exact e
  ·exact absurd ho (nc a1)
structure Bc(kZ:List (V×V))(k:Nat):Prop where
 bk:∀e∈kZ,kk e.1=3/\∃k,e.2=vv k
 bl:kZ.length<=k
structure Vl(z u0:Nat)(c b s:Nat->Nat)(pp:PS)(X:SX)(ts:List Tm)(R:aM)(bc vn:Nat)(p:List Nat)(es kZ:List (V×V))(vl:Nat->Nat)(u:Nat)(h:Hp):Prop where
 bu:u<=u0+1+p.length
 x:LR z u c b s pp X ts ((bc,.dict kZ)::(vn,.dict es)::R) h
 D:DI es (bj p λt=>vv (vl t))
 B:Bc kZ p.length
theorem R8{sn l0:Nat}(k:Kn ts C K)(x:LR z u c b s p X ts R h)(hS:(sn,.list (S.map iv))∈R)(hl:(l0,.dict el)∈R)(D:DI el (bj K λt=>iv (lb t)))(SK:∀t∈S,t∈K)(lS:S.length<=18)(hu:u<=1000)
  (q:∀h' vn es (vl:Nat->Nat) u',u'<=u+19->LR z u' c b s p X ts ((vn,.dict es)::R) h'->DI es (bj S λt=>vv (vl t))->Q (.ref vn) h'):Cl 223 [.ref z,.ref (b 0),.ref sn,.ref l0] Q Y h:=by
 refine ba (fe x λvn h x=>fe x λbc h x=>x.draw (m:=2) (by decide) (by decide) (aR hu (by decide)) λh m x hm=>ff (b:=0) (bT (x.at (.tail _ (.tail _ hS))) ?_));refine cb [187,63,216,47,222,221] rfl rfl (λl h=>∃es kZ vl u',Vl z u c b s p X ts R bc vn l es kZ vl u' h) (λ_ h yy=>e4a1 yy λ_ _ _ _ i=>bM (i.x.at (.tail _ (.tail _ hS)))) ⟨[],[],id,u+1,bQ _,x,⟨.nil,λ_ h=>(nomatch h),λ_=>rfl⟩,λ_ h=>(nomatch h),bQ _⟩ (λl t r e ξ h i J hJ=>?_) λξ h yy=>e4a1 yy λes _ vl u' i=>q h vn es vl u' (aI i.bu (ds lS (u+1))) (i.x.sub (.cons _ (.refl _))) i.D
 (refine e4a1 i λes kZ vl u' aD=>?_;obtain ⟨bu,x,Dv,B⟩:=aD)
 have tK:=SK t (by rw[e];exact aX (.head _));have ll:l.length<18:=c9 (by rw[e,aT];exact qf (gw _)) lS;have bu':u'+1<=u+1+(l.length+1):=dw bu;refine x.draw (m:=3) (by decide) (by decide) (aR (aI bu (dF (dw hu) (bP ll))) (by decide)) λh j x hj=>kG [187,63,216,47,222,221,69,89] (λa:Nat×List (V×V)=>[.ref z,.ref (b 0),.ref l0,.ref vn,.ref bc,.bool (decide (m=0)),iv t,vv a.1]) (λa h=>LR z (u'+1) c b s p X ts ((bc,.dict a.2)::(vn,.dict es)::R) h/\Bc a.2 (l.length+1)) (λa ξ h yy=>aC yy λx B=>?_) λK' tail _=>dx (λ_=>?_) λ_=>tail (j,kZ) _ _ rfl ⟨x,B.bk,iH B.bl⟩
 ·have put:∀k' ρ,dY (.ref vn) (iv t) (vv k') (J ρ) h:=λk' ρ=>tI [_] LR.fm x (Dv.ko t) Dv.lim λh x=>hJ _ _ ⟨_,a.2,upd vl t k',u'+1,by rw[aT];exact bu',x,by rw[<-Wi (v:=vv k') (g:=λt=>vv (vl t)) (g':=λa=>vv (upd vl t k' a)) (congrArg vv (if_pos rfl)) λa _ ne=>congrArg vv (if_neg ne)];exact Dv.put (k.lt t tK) _,by rw[aT];exact B⟩
  refine x.bh.k rfl rfl (tE x.bh (k.tm tK) (jg (dx (λo=>x.bh.k rfl rfl (u8 x.bh (k.tm tK) ?_)) λ_=>put a.1 _)));refine e1a1 (k.num tK o) λk' e=>?_;rw[e];exact put k' _
 ·refine BL (x.at (.head _)) rfl (x.bh.k rfl rfl (ky x.bh (k.tm tK) (hG (x.at (.tail _ (.tail _ hl))) D (eF tK) (Xw LR.fm x rfl ?_ (aR B.bl (bY ll (by decide))) (λv yy=>e1a2 yy λe he hv=>?_) λh x=>tail (j,kZ++[(V.tup [iv (aF ts t).sort,iv (lb t)],vv j)]) _ _ rfl ⟨x,λe he=>(bx.mp he).elim (B.bk e) λz=>?_,by rw[aT];exact dw B.bl⟩))))
  ·show(kZ.all λe=>kk e.1==3)=ah;exact cQ.mpr λe he=>by rw[(B.bk e he).1];rfl
  ·(refine aC (B.bk e he) λ_ aD=>?_;refine e1a1 aD λk' e=>?_)
   rw[<-hv,e];exact tail (k',kZ) _ _ rfl ⟨x,B.bk,iH B.bl⟩
  ·rw[aZ.mp z];exact⟨rfl,j,rfl⟩
end
structure Rd(ts:List Tm)(C K S H:List Nat)(p:PS)(c b s A:Nat->Nat)(P:aM->Hp->Prop):Prop where
 fm:Fm b ts P
 cr:∀{R h},P R h->∃R',CR c b p R' h
 sh:∀{R h},P R h->∃X R',SR s b X R' h/\∀t,t∈X.sl↔cM ts C t/\gK ts t
 hl:∀{R h},P R h->h.get (s 66)=aa (.list (H.map iv))
 rw:∀{R h},P R h->∀{f},f∈H->h.get (A f)=aa (.list ((row ts C f).map iv))/\∀Q:PV,Q (.ref (A f)) h->eY (.ref (s 65)) (iv f) Q h
 hh:∀f,f∈H↔∃c∈C,hd (aF ts c)=f
 k:Kn ts C K
 r:∀t∈K,p.r t=aa (rt p t)/\rt p t∈K
 is:iL ts C S
 hn:H.length<=18
 cg:∀f∈C,∀c∈C,hd (aF ts f)=hd (aF ts c)->(ar ts f).map (rt p)=(ar ts c).map (rt p)->rt p f=rt p c
 so:∀a∈K,∀a'∈K,rt p a=rt p a'->(aF ts a).sort=(aF ts a').sort
noncomputable def lP(p:PS)(S:List Nat)(r:Nat):Option Nat:=S.find? λt=>decide (rt p t=r)
noncomputable def dX(p:PS)(S:List Nat)(t:Nat):Nat:=(lP p S (rt p t)).getD 0
def Vs(S:List Nat)(vl:Nat->Nat)(vn:Nat)(R:aM):Prop:=∃ev,(vn,O.dict ev)∈R/\DI ev (bj S λt=>vv (vl t))
def Ls(p:PS)(S:List Nat)(ln:Nat)(R:aM):Prop:=∃el,(ln,O.dict el)∈R/\DI el λr=>(lP p S r).map iv
section
variable {ts:List Tm}{C K S H:List Nat}{p:PS}{c b s A:Nat->Nat}{P:aM->Hp->Prop}
theorem Vs.tl(v:Vs S vl vn R):Vs S vl vn (o::R):=e1a2 v λe a d=>⟨e,.tail _ a,d⟩
theorem Ls.tl(v:Ls p S ln R):Ls p S ln (o::R):=e1a2 v λe a d=>⟨e,.tail _ a,d⟩
theorem Vs.rd(v:Vs S vl vn R)(F:Fm b ts P)(x:P R h)(ht:t∈S)(q:Q (vv (vl t)) h):eY (.ref vn) (iv t) Q h:=e1a2 v λ_ a d=>hG (F.at x a) d (eF ht) q
theorem lV(ht:t∈S):lP p S (rt p t)=aa (dX p S t)/\dX p S t∈S/\rt p (dX p S t)=rt p t:=by
 delta dX lP;cases e:S.find? λx=>decide (rt p x=rt p t) with
 |none=>exact absurd (decide_eq_true rfl) (adi.mp e t ht)
 |some y=>exact⟨rfl,adj e,of_decide_eq_true (adk e:)⟩
theorem Ls.rd(v:Ls p S ln R)(F:Fm b ts P)(x:P R h)(ht:t∈S)(q:Q (iv (dX p S t)) h):eY (.ref ln) (iv (rt p t)) Q h:=e1a2 v λ_ a d=>hG (F.at x a) d (congrArg (oM iv) (lV ht).1) q
theorem Ke[DecidablePred g]:(l++[t]).find? (λx=>decide (g x))=(l.find? λx=>decide (g x)).or (if g t then aa t else ao):=by
 rw[List.find?_append,uz];by_cases e:g t
 ·rw[decide_eq_true e,if_pos e]
 ·rw[decide_eq_false e,if_neg e];rfl
theorem Ss(e:rt p t=rt p t'):dX p S t=dX p S t':=by delta dX;rw[e]
theorem BC(e:h.get n=aa (.dict es))(D:DI es g)(q1:g t=ao->Qt ah h)(q0:∀v,g t=aa v->Qt au h):bZ .notin (iv t) (.ref n) Qt h:=
 qQ e (D.ko t) (by
  rw[D.g];cases z:g t with
  |none=>exact q1 z
  |some v=>exact q0 v z)
variable (x:Rd ts C K S H p c b s A P)
include x
theorem Rd.sk(ht:t∈S):t∈K:=(x.k.k t).mpr ((x.is.m t).mp ht).1
theorem Rd.ck(y:P R h)(g:∀S p,(dR (q9 c b S p) m).isNone=ah)(e:iM 254 m=aa f)(q:Q (.fn f) h):gh (.ref (c 0)) m Q h:=e1a1 (x.cr y) λ_ z=>cS z g e q
theorem Rd.sm(y:P R h)(g:(dR (tH s b) m).isNone=ah)(e:iM 253 m=aa f)(q:Q (.fn f) h):gh (.ref (s 0)) m Q h:=e2a2 (x.sh y) λ_ _ z _=>z.k g e q
theorem Rd.adx(y:P R h)(a:mU 253 f=ah)(e:dR (tH s b) f=aa v)(q:Q v h):db (.ref (s 0)) f Q h:=e2a2 (x.sh y) λ_ _ z _=>z.adx a e q
theorem Rd.adv(y:P R h)(ht:t∈K)(q:Q (iv (rt p t)) h):Cl 1035 [.ref (c 0),iv t] Q Y h:=e1a1 (x.cr y) λ_ z=>aab z (x.r t ht).1 q
theorem Rd.eq(y:P R h)(ht:t∈K)(gb:t'∈K)(q:Q (.bool (decide (rt p t=rt p t'))) h):Cl 1036 [.ref (c 0),iv t,iv t'] Q Y h:=e1a1 (x.cr y) λ_ z=>YD z (x.r t ht).1 (x.r t' gb).1 q
theorem Rd.aea(y:P R h)(q:∀n h',P ((n,.list (S.map iv))::R) h'->Q (.ref n) h'):Cl 1023 [.ref (s 0)] Q Y h:=e2a2 (x.sh y) λ_ _ z e=>IC z e x.is (cH x.fm y q)
theorem DP(y:P R h)(q:∀h' n es,P ((n,.dict es)::R) h'->(∀R,Ls p S n ((n,.dict es)::R))->Q (.ref n) h'):Cl 1025 [.ref (s 0),.ref (c 0)] Q Y h:=by
 refine ba (cH x.fm y λn h y=>x.sm y rfl rfl (x.aea y λsl h y=>bT (x.fm.at y (.head _)) ?_));refine cb [82,83] rfl rfl (λl h=>∃es,P ((sl,.list (S.map iv))::(n,.dict es)::R) h/\DI es λr=>(lP p l r).map iv) (λ_ _ yy=>e1a2 yy λ_ y _=>bM (x.fm.at y (.head _))) ⟨[],y,.nil,λ_ h=>(nomatch h),λ_=>rfl⟩ (λl t r e ξ h yy=>e1a2 yy λes y D J hJ=>?_) λξ h yy=>e1a2 yy λes y D=>q h n es (x.fm.dr y) λR=>⟨es,.head _,D⟩;have tK:t∈K:=x.sk (by rw[e];exact aX (.head _));have app:∀r,lP p (l++[t]) r=(lP p l r).or (if rt p t=r then aa t else ao):=λr=>Ke (g:=λt=>rt p t=r);refine x.ck y (λ_ _=>rfl) rfl (x.adv y tK (BC (x.fm.at y (.tail _ (.head _))) D (λz=>tI [_] x.fm y (D.ko _) D.lim λh y=>hJ _ _ ⟨_,y,?_⟩) λv z=>hJ _ _ ⟨es,y,?_⟩))
 ·rewrite [show(λr=>(lP p (l++[t]) r).map iv)=upd (λr=>(lP p l r).map iv) (rt p t) (aa (iv t)) from funext λr=>?_]
  ·exact D.put (x.k.lt _ (x.r t tK).2) _
  ·delta upd;rw[app];by_cases e:r=rt p t
   ·rw[if_pos e,e,if_pos rfl,QE.mp z];rfl
   ·rw[if_neg e,if_neg (eJ e),HM]
 ·rewrite [show(λr=>(lP p (l++[t]) r).map iv)= λr=>(lP p l r).map iv from funext λr=>?_]
  ·exact D
  ·rw[app];by_cases e:rt p t=r
   ·refine e1a2 (iD.mp z) λw hw _=>?_;rw[<-e,hw];rfl
   ·rw[if_neg e,HM]
end
noncomputable def fN(p:PS)(S:List Nat)(vl:Nat->Nat)(l:List Nat):List (Nat×Nat):=(l.filter λt=>decide (vl (dX p S t)≠vl t)).map λt=>(dX p S t,t)
section
variable {ts:List Tm}{C K S H:List Nat}{p:PS}{c b s A:Nat->Nat}{P:aM->Hp->Prop}
theorem EJ(e:vv a=vv a'):a=a':=by injection e with e;exact ji e
theorem Jd(q1:a≠a'->Qt ah h)(q0:a=a'->Qt au h):bZ .ne (vv a) (vv a') Qt h:=
 .inl ⟨rfl,rfl,by
  by_cases z:a=a'
  ·rw[decide_eq_true (congrArg vv z)];exact q0 z
  ·rw[decide_eq_false λw=>z (EJ w)];exact q1 z⟩
theorem JG:(fN p S vl l).length<=l.length:=by delta fN;rw[aP];exact jM _ _
theorem I8(x:Rd ts C K S H p c b s A P)(y:P R h)(v:Vs S vl vn R)(q:∀n h',P ((n,.list ((fN p S vl S).map pv))::R) h'->Q (.ref n) h'):Cl 1026 [.ref (s 0),.ref vn,.ref (c 0)] Q Y h:=by
 refine ba (x.sm y rfl rfl (DP x y λh ln el y L=>cH x.fm y λn h y=>x.sm y rfl rfl (x.aea y λsl h y=>bT (x.fm.at y (.head _)) ?_)));refine cb [82,83,79,47] rfl rfl (λl h=>P ((sl,.list (S.map iv))::(n,.list ((fN p S vl l).map pv))::(ln,.dict el)::R) h) (λ_ _ y=>bM (x.fm.at y (.head _))) y (λl t r e ξ h y J hJ=>?_) λξ h y=>q n h (x.fm.sub y (.cons _ (.cons₂ _ (.cons _ (.refl _)))));have tS:t∈S:=by rw[e];exact aX (.head _)
 refine x.ck y (λ_ _=>rfl) rfl (x.adv y (x.sk tS) ((L _).tl.tl.rd x.fm y tS (v.tl.tl.tl.rd x.fm y (lV tS).2.1 (v.tl.tl.tl.rd x.fm y tS (Jd (λz=>cN (x.fm.at y (.tail _ (.head _))) rfl (uP [_] x.fm y ?_ λh y=>hJ _ _ ?_)) λz=>hJ _ _ ?_)))))
 ·rw[aP];exact aR (aI JG (aI (by rw[e,aT];exact b_ _ _) x.is.len)) (by decide)
 ·delta fN;rw[yK (c:=λt=>vl (dX p S t)≠vl t) z,bA,bA];exact y
 ·delta fN;rw[uQ (c:=λt=>vl (dX p S t)≠vl t) (λw=>w z)];exact y
end
noncomputable def ak(ts:List Tm)(p:PS)(S:List Nat)(vl:Nat->Nat)(a:Nat):V:=if a∈S then V.tup [.str 89,iv (aF ts a).sort,vv (vl (dX p S a))] else V.tup [.str 87,iv (rt p a),iv 0]
noncomputable def ck(ts:List Tm)(p:PS)(S:List Nat)(vl:Nat->Nat)(c:Nat):V:=V.tup ((ar ts c).map (ak ts p S vl))
section
variable {ts:List Tm}{C K S H:List Nat}{p:PS}{c b s A:Nat->Nat}{P:aM->Hp->Prop}{R:aM}{h:Hp}{n vn ln t t' f m cc:Nat}{Q:PV}{Y:Hp->Prop}{vl:Nat->Nat}{o:Nat×O}
theorem nE(e:t∈S):ak ts p S vl t=V.tup [.str 89,iv (aF ts t).sort,vv (vl (dX p S t))]:=if_pos e
theorem nQ(e:t∉S):ak ts p S vl t=V.tup [.str 87,iv (rt p t),iv 0]:=if_neg e
theorem Xg(a:Nat):(ak ts p S vl a).data 5=ah:=by delta ak;split <;> rfl
theorem Rp(c:Nat):(ck ts p S vl c).data fk=ah:=BV λx hx=>by refine e1a2 (bz.mp hx) λa _ e=>?_;rw[<-e];exact Xg a
theorem Kf:∀l:List V,kk (V.tup l)=3
 |[]=>rfl
 |_::_=>rfl
theorem Y2{a a':Nat}(e:ak ts p S vl a=ak ts p S vl a')(hr:rt p a≠rt p a'):a∈S/\a'∈S:=by
 by_cases h1:a∈S <;> by_cases h2:a'∈S
 ·exact⟨h1,h2⟩
 ·rw[nE h1,nQ h2] at e;injection e with e;injection e with e;exact nomatch e
 ·rw[nQ h1,nE h2] at e;injection e with e;injection e with e;exact nomatch e
 ·rw[nQ h1,nQ h2] at e;injection e with _ e;injection e with e;exact absurd (ji e) hr
theorem yA{β:Type}{f:Nat->β}:∀{l l':List Nat},l.map f=l'.map f->∀q∈l.zip l',f q.1=f q.2:=by
 intro l;induction l with
 |nil=>intro _ _ q hq;exact nomatch hq
 |cons a l ih=>
  intro z25';cases z25' with
  |nil=>intro e _ _;exact nomatch e
  |cons a' l'=>
   intro e q hq;rw[bW,bW] at e;injection e with e1 e2
   exact(a_.mp hq).elim (λz=>by rw[z];exact e1) (ih e2 q)
variable (x:Rd ts C K S H p c b s A P)
include x
theorem Rd.isS(y:P R h)(q1:t∈S->Q (.bool ah) h)(q0:t∉S->Q (.bool au) h):Cl 1022 [.ref (s 0),iv t] Q Y h:=
 e2a2 (x.sh y) λ_ _ z e=>Io z (λw=>q1 ((x.is.m t).mpr ((e t).mp w))) λw=>q0 λk=>w ((e t).mpr ((x.is.m t).mp k))
theorem QY(y:P R h)(v:Vs S vl vn R)(L:Ls p S ln R)(ht:t∈K)(q:Q (ak ts p S vl t) h):Cl 1027 [.ref (s 0),iv t,.ref vn,.ref ln,.ref (c 0)] Q Y h:=by
 have B:=(x.fm _ _ y).1;refine ba (x.ck y (λ_ _=>rfl) rfl (x.adv y ht (x.sm y rfl rfl (x.isS y (λz=>x.adx y rfl rfl (B.k rfl rfl (ky B (x.k.tm ht) (L.rd x.fm y z (v.rd x.fm y (lV z).2.1 ?_))))) λz=>?_))))
 ·rw[nE z] at q;exact q
 ·rw[nQ z] at q;exact q
theorem Vm(y:P R h)(v:Vs S vl vn R)(L:Ls p S ln R)(hc:cc∈C)(q:∀h',P R h'->Q (ck ts p S vl cc) h'):Cl 1028 [.ref (s 0),iv cc,.ref vn,.ref ln,.ref (c 0)] Q Y h:=by have la:(ar ts cc).length <aG:=aR (x.k.w.call hc).1.ar (by decide);refine ba (cH x.fm y λn h y=>x.adx y rfl rfl ((x.fm _ _ y).1.k rfl rfl (il (x.fm _ _ y).1 (x.k.w.cl cc hc).1 (n6 ?_))));refine cb [15,79,83,82,48] rfl rfl (λl h=>P ((n,.list (l.map (ak ts p S vl)))::R) h) (λ_ _ _=>cY) y (λl t r e ξ h y J hJ=>?_) λξ h y=>EB (x.fm.at y (.head _)) (by rw[aP];exact la) (q h (x.fm.dr y));have e:ar ts cc=l++t::r:=e;refine cN (x.fm.at y (.head _)) rfl (x.sm y rfl rfl (QY x y v.tl L.tl ((x.k.k t).mpr (.inr ⟨cc,hc,by rw[e];exact aX (.head _)⟩)) (q8 x.fm y ?_ λh y=>hJ _ _ (by rw[bA];exact y))));rw[aP];exact aR (by rw[e,aT];exact b_ _ _) la
theorem Rh(y:P R h)(L:Ls p S ln R)(hf:f∈C)(hc:cc∈C)(hh:hd (aF ts f)=hd (aF ts cc))(ek:ck ts p S vl f=ck ts p S vl cc)(hr:rt p f≠rt p cc)
  (q:∀a a' h',P R h'->(a,a')∈(ar ts f).zip (ar ts cc)->a∈S->a'∈S->rt p a≠rt p a'->Q (pv (dX p S a,dX p S a')) h'):Cl 1029 [.ref (s 0),iv f,iv cc,.ref ln,.ref (c 0)] Q Y h:=by
 have em:=sV ek;have B:=(x.fm _ _ y).1;have le:(ar ts f).length=(ar ts cc).length:=by have:=congrArg o_ em;rw[aP,aP] at this;exact this
 refine ba (x.adx y rfl rfl (B.k rfl rfl (il B (x.k.w.cl f hf).1 (x.adx y rfl rfl (B.k rfl rfl (il B (x.k.w.cl cc hc).1 (DZ ?_)))))));refine cb [83,82] rfl rfl (λl h=>P R h/\∀q∈l,rt p q.1=rt p q.2) (λ_ _ _=>cY) ⟨y,λ_ z=>nomatch z⟩ (λl t r e ξ h yy=>aC yy λy k J hJ=>?_) λξ h yy=>aC yy λy k=>absurd (x.cg f hf cc hc hh (KK p le k)) hr;have hz:t∈(ar ts f).zip (ar ts cc):=by rw[e];exact aX (.head _)
 refine aC (Ba (a:=t.1) (b:=t.2) hz) λha cA=>?_;have aK:=(x.k.k t.1).mpr (.inr ⟨f,hf,ha⟩);have qe:=(x.k.k t.2).mpr (.inr ⟨cc,hc,cA⟩);refine x.ck y (λ_ _=>rfl) rfl (x.eq y aK qe (ij (λz=>?_) λz=>hJ _ _ ⟨y,λq hq=>(bx.mp hq).elim (k q) λw=>by rw[aZ.mp w];exact z⟩));refine aC (Y2 (yA em t hz) z) λaS m_=>?_;exact x.ck y (λ_ _=>rfl) rfl (x.adv y aK (L.rd x.fm y aS (x.ck y (λ_ _=>rfl) rfl (x.adv y qe (L.rd x.fm y m_ (q t.1 t.2 h y hz aS m_ z))))))
end
def qE(ts:List Tm)(C S:List Nat)(p:PS)(vl:Nat->Nat)(x:Nat×Nat):Prop:=∃f cc,f∈C/\cc∈C/\hd (aF ts f)=hd (aF ts cc)/\ck ts p S vl f=ck ts p S vl cc/\rt p f≠rt p cc/\∃a a',(a,a')∈(ar ts f).zip (ar ts cc)/\a∈S/\a'∈S/\rt p a≠rt p a'/\x=(dX p S a,dX p S a')
def pL(ts:List Tm)(S:List Nat)(p:PS)(vl:Nat->Nat)(l:List Nat):Prop:=∀f∈l,∀cc∈l,ck ts p S vl f=ck ts p S vl cc->rt p f=rt p cc
noncomputable def yt(ts:List Tm)(S:List Nat)(p:PS)(vl:Nat->Nat)(l:List Nat)(k:V):Option Nat:=l.find? λc=>decide (ck ts p S vl c=k)
structure Cs(ts:List Tm)(C S:List Nat)(p:PS)(vl:Nat->Nat)(P:aM->Hp->Prop)(R:aM)(rn n:Nat)(l:List Nat)(es:List (V×V))(F:List (Nat×Nat))(h:Hp):Prop where
 y:P ((n,.list (F.map pv))::(rn,.dict es)::R) h
 ek:∀e∈es,kk e.1=3
 el:es.length<=l.length
 eg:∀k,bC es k=(yt ts S p vl l k).map iv
 fl:F.length<=l.length
 f1:∀z∈F,qE ts C S p vl z
 f2:F=[]->pL ts S p vl l
section
variable {ts:List Tm}{C K S H:List Nat}{p:PS}{c b s A:Nat->Nat}{P:aM->Hp->Prop}{R:aM}{h:Hp}{n vn ln t t' f m cc g:Nat}{Q:PV}{Y:Hp->Prop}{vl:Nat->Nat}{o:Nat×O}
theorem Rs{es:List (V×V)}{k:V}{Qt:Bool->Hp->Prop}(e:h.get n=aa (.dict es))(ko:b7 k es=ah)(q1:bC es k=ao->Qt ah h)(q0:∀v,bC es k=aa v->Qt au h):bZ .notin k (.ref n) Qt h:=
 qQ e ko (by
  cases z:bC es k with
  |none=>exact q1 z
  |some v=>exact q0 v z)
theorem Mf{l:List Nat}(a:pL ts S p vl l)(k:∀f∈l,ck ts p S vl f=ck ts p S vl t->rt p f=rt p t):pL ts S p vl (l++[t]):=λf hf c hc e=>by
 rw[bx,aZ] at hf hc;rcases hf with hf|hf <;> rcases hc with hc|hc
 ·exact a f hf c hc e
 ·rw[hc] at e ⊢;exact k f hf e
 ·rw[hf] at e ⊢;exact(k c hc e.symm).symm
 ·rw[hf,hc]
theorem IP{l:List Nat}{k:V}:yt ts S p vl (l++[t]) k=(yt ts S p vl l k).or (if ck ts p S vl t=k then aa t else ao):=Ke (g:=λc=>ck ts p S vl c=k)
theorem KH(x:Rd ts C K S H p c b s A P)(y:P R h)(v:Vs S vl vn R)(L:Ls p S ln R)(hg:g∈H)
  (q:∀n h' F,P ((n,.list (F.map pv))::R) h'->(∀z∈F,qE ts C S p vl z)->(F=[]->pL ts S p vl (row ts C g))->F.length<=5->Q (.ref n) h'):Cl 1030 [.ref (s 0),iv g,.ref vn,.ref ln,.ref (c 0)] Q Y h:=by
 have lr:(row ts C g).length<=5:=aI (jM _ _) x.k.w.adV;refine ba (cH x.fm y λrn h y=>cH x.fm y λn h y=>x.adx y rfl rfl ((x.rw y hg).2 _ (bT (x.rw y hg).1 ?_)));refine cb [15,79,83,82,95,47] rfl rfl (λl h=>∃es F,Cs ts C S p vl P R rn n l es F h) (λ_ _ yy=>e2a1 yy λ_ _ i=>bM (x.rw i.y hg).1) ⟨[],[],y,λ_ z=>(nomatch z),bQ _,λ_=>rfl,bQ _,λ_ z=>(nomatch z),λ_ _ z=>nomatch z⟩ (λl cc r e ξ h yy=>e2a1 yy λes F i J hJ=>?_) λξ h yy=>e2a1 yy λes F i=>q n h F (x.fm.sub i.y (.cons₂ _ (.cons _ (.refl _)))) i.f1 i.f2 (aI i.fl lr);have mem:∀{y},y∈l++cc::r->y∈C/\hd (aF ts y)=g:=λhy=>by rw[<-e] at hy;refine aC (cW.mp hy) λa b=>?_;exact⟨a,of_decide_eq_true b⟩
 refine aC (mem (aX (.head _))) λug OB=>?_;have ll:l.length<5:=c9 (by rw[e,aT];exact qf (gw _)) lr;obtain ⟨y,ek,el,eg,fl,f1,f2⟩:=i;refine x.sm y rfl rfl (Vm x y v.tl.tl L.tl.tl ug λh y=>?_);have ko:b7 (ck ts p S vl cc) es=ah:=by delta b7;rw[Rp,Hz];exact cQ.mpr λe he=>by rw[ek e he,show kk (ck ts p S vl cc)=3 from Kf _];rfl
 have le:∀{k},k<=l.length->k<aG:=λh=>aR h (bY ll (by decide));refine Rs (x.fm.at y (.tail _ (.head _))) ko (λz=>tI [_] x.fm y ko (le el) λh y=>hJ _ _ ⟨_,F,y,?_,?_,λk=>?_,by rw[aT];exact iH fl,f1,λw=>Mf (f2 w) λf hf w=>?_⟩) λv z=>?_
 ·rw[rq z];exact λe he=>(bx.mp he).elim (ek e) λy=>by rw[aZ.mp y];exact Kf _
 ·rw[rq z,aT,aT];exact dw el
 ·rw[CN,IP,eg];by_cases e:k=ck ts p S vl cc
  ·rw[eg] at z;rw[if_pos e,e,if_pos rfl,QE.mp z];rfl
  ·rw[if_neg e,if_neg (eJ e),HM]
 ·rw[eg] at z;exact absurd (decide_eq_true w) (adi.mp (QE.mp z) f hf)
 ·have z':=z;rw[eg] at z'
  (refine e1a2 (iD.mp z') λf hf dA=>?_;cases dA)
  have OC:f∈l:=adj hf;have ef:ck ts p S vl f=ck ts p S vl cc:=of_decide_eq_true (adk hf:);refine aC (mem (b8 OC)) λGo OD=>?_;have next:∀{h F'},P ((n,.list (F'.map pv))::(rn,.dict es)::R) h->F'.length<=(l++[cc]).length->(∀z∈F',qE ts C S p vl z)->(F'=[]->pL ts S p vl (l++[cc]))->∀ρ,J ρ h:=λy a1 a2 a3 ρ=>hJ _ _ ⟨es,_,y,ek,by rw[aT];exact iH el,λk=>by
   rw[eg,IP];by_cases e:ck ts p S vl cc=k
   ·rw[<-e,show yt ts S p vl l (ck ts p S vl cc)=aa f from hf];rfl
   ·rw[if_neg e,HM],a1,a2,a3⟩
  have G:=λ{h R'} (y:P (R'::(rn,.dict es)::R) h)=>x.fm.at y (.tail _ (.head _));refine x.ck y (λ_ _=>rfl) rfl (eX (G y) ko z (x.eq y ((x.k.k f).mpr (.inl Go)) ((x.k.k cc).mpr (.inl ug)) (ij (λzr=>x.sm y rfl rfl (eX (G y) ko z (Rh x y L.tl.tl Go ug (OD.trans OB.symm) ef zr λa a' h y k1 k2 k3 k4=>cN (x.fm.at y (.head _)) rfl (q8 x.fm y (by rw[aP];exact le fl) λh y=>next (F':=F++[(dX p S a,dX p S a')]) (by rw[bA];exact y) (by rw[aT,aT];exact dw fl) (λz hz=>(bx.mp hz).elim (f1 z) λw=>⟨f,cc,Go,ug,OD.trans OB.symm,ef,zr,a,a',k1,k2,k3,k4,aZ.mp w⟩) (λw=>absurd w (List.append_ne_nil_of_right_ne_nil _ (List.cons_ne_nil _ _))) _)))) λzr=>next y (by rw[aT];exact iH fl) f1 (λw=>Mf (f2 w) λf' hf' w'=>(f2 w f' hf' f OC (w'.trans ef.symm)).trans zr) _)))
end
def Di(ts:List Tm)(C S:List Nat)(p:PS)(vl:Nat->Nat):Prop:=∀f∈C,∀cc∈C,hd (aF ts f)=hd (aF ts cc)->ck ts p S vl f=ck ts p S vl cc->rt p f=rt p cc
structure IY(ts:List Tm)(C S:List Nat)(p:PS)(vl:Nat->Nat)(F:List (Nat×Nat)):Prop where
 a:fN p S vl S≠[]->F=fN p S vl S
 b:fN p S vl S=[]->(∀y∈F,qE ts C S p vl y)/\(F=[]->Di ts C S p vl)
def Fp(ts:List Tm)(C S:List Nat)(p:PS)(vl:Nat->Nat)(o:Option (Nat×Nat)):Prop:=match o with
 |none=>fN p S vl S=[]/\Di ts C S p vl
 |some y=>y∈fN p S vl S\/fN p S vl S=[]/\qE ts C S p vl y
section
variable {ts:List Tm}{C K S H:List Nat}{p:PS}{c b s A:Nat->Nat}{P:aM->Hp->Prop}{R:aM}{h:Hp}{n vn ln t t' f m cc g:Nat}{vl:Nat->Nat}
theorem Rd.noc(x:Rd ts C K S H p c b s A P)(k:∀g∈H,pL ts S p vl (row ts C g)):Di ts C S p vl:=λf hf cc hc e=>k _ ((x.hh _).mpr ⟨cc,hc,rfl⟩) f (cW.mpr ⟨hf,decide_eq_true e⟩) cc (cW.mpr ⟨hc,decide_eq_true rfl⟩)
variable (x:Rd ts C K S H p c b s A P)(y:P R h)(v:Vs S vl vn R)
include x y v
theorem ME(q:∀h',P R h'->Q .none h'):Cl 1024 [.ref (s 0),.ref vn] Q Y h:=by
 refine e1a2 v λev gv D=>?_;refine ba (x.sm y rfl rfl (x.aea y λsl h y=>bT (x.fm.at y (.head _)) (cb [79] rfl rfl (λl h=>P ((sl,.list (S.map iv))::R) h) (λ_ _ y=>bM (x.fm.at y (.head _))) y (λl t r e ξ h y J hJ=>BC (x.fm.at y (.tail _ gv)) D (λz=>?_) λ_ _=>hJ _ _ y) λξ h y=>q h (x.fm.dr y))));have tS:t∈S:=by rw[e];exact aX (.head _)
 exact zB ((eF tS).symm.trans z)
theorem Vz(q:∀n h' F,P ((n,.list (F.map pv))::R) h'->IY ts C S p vl F->F.length<=100->Q (.ref n) h'):Cl 1031 [.ref (s 0),.ref vn,.ref (c 0)] Q Y h:=by
 refine ba (x.sm y rfl rfl (ME x y v λh y=>x.sm y rfl rfl (I8 x y v λn h y=>mR (x.fm.at y (.head _)) (aP ..) (dx (λz=>q n h _ y ⟨λ_=>rfl,λe=>?_⟩ (aI JG (aI x.is.len (by decide)))) λz=>?_))))
 ·rw[e] at z;exact absurd z (by decide)
 have s0:fN p S vl S=[]:=na.mp (HH λw=>z (o9.mpr w));refine x.sm y rfl rfl (DP x y λh ln el y L=>x.adx y rfl rfl (bT (x.hl y) ?_));refine cb [15,79,83,82,47] rfl rfl (λl h=>∃F,P ((ln,.dict el)::(n,.list (F.map pv))::R) h/\F.length<=5*l.length/\(∀z∈F,qE ts C S p vl z)/\(F=[]->∀g∈l,pL ts S p vl (row ts C g))) (λ_ _ yy=>e1a2 yy λ_ y _=>bM (x.hl y)) ⟨[],by rw[s0] at y;exact y,bQ _,λ_ z=>(nomatch z),λ_ _ z=>nomatch z⟩ (λl g r e ξ h yy=>e1a4 yy λF y lF f1 f2 J hJ=>?_) λξ h yy=>e1a4 yy λF y lF f1 f2=>q n h F (x.fm.dr y) ⟨λw=>absurd s0 w,λ_=>⟨f1,λw=>x.noc (f2 w)⟩⟩ (aI lF (aI (h_ 5 x.hn) (by decide)));have lH:=x.hn;rw[e,aT] at lH;refine x.sm y rfl rfl (KH x y v.tl.tl (L _) (by rw[e];exact aX (.head _)) λm h F' y k1 k2 k3=>bT (x.fm.at y (.head _)) ?_);refine cb [15,79,83,82,47] rfl rfl (λl h=>P ((m,.list (F'.map pv))::(ln,.dict el)::(n,.list ((F++l).map pv))::R) h) (λ_ _ y=>bM (x.fm.at y (.head _))) (by rw[cq];exact y) (λl t r e ξ h y J' eI=>cN (x.fm.at y (.tail _ (.tail _ (.head _)))) rfl (uP [_,_] x.fm y ?_ λh y=>eI _ _ (by rw[<-bt,bA];exact y))) λξ h y=>hJ _ _ ⟨F++F',x.fm.dr y,?_,λz hz=>(bx.mp hz).elim (f1 z) (k1 z),λw g' wS=>?_⟩
 ·rw[aP,aT];have:l.length<=5:=aI (by rw[e,aT];exact b_ _ _) k3;exact aR (dF (aI lF (h_ 5 (aI (b_ _ _) lH))) this) (by decide)
 ·rw[aT,aT];exact dF lF k3
 ·refine aC (Bk.mp w) λw1 w2=>?_;exact(bx.mp wS).elim (f2 w1 g') λz=>aZ.mp z▸k2 w2
theorem Wv(q:∀h' o,P R h'->Fp ts C S p vl o->Q ((o.map pv).getD .none) h'):Cl 1032 [.ref (s 0),.ref vn,.ref (c 0)] Q Y h:=by
 refine ba (x.sm y rfl rfl (ME x y v λh y=>x.sm y rfl rfl (I8 x y v λn h y=>mR (x.fm.at y (.head _)) (aP ..) (dx (λz=>?_) λz=>?_))))
 ·obtain ⟨y0,r,e⟩:∃y r,fN p S vl S=y::r:=by
   cases e:fN p S vl S with
   |nil=>rw[e] at z;exact absurd z (by decide)
   |cons y r=>exact⟨y,r,rfl⟩
  rw[e] at y;exact cz (x.fm.at y (.head _)) rfl (q h (aa y0) (x.fm.dr y) (.inl (by rw[e];exact .head _)))
 have s0:fN p S vl S=[]:=na.mp (HH λw=>z (o9.mpr w));refine x.sm y rfl rfl (DP x y λh ln el y L=>x.adx y rfl rfl (bT (x.hl y) ?_));have y:=x.fm.sub y (.cons₂ _ (.cons _ (.refl _)));refine cb [15,79,83,82] rfl rfl (λl h=>P ((ln,.dict el)::R) h/\∀g∈l,pL ts S p vl (row ts C g)) (λ_ _ i=>bM (x.hl i.1)) ⟨y,λ_ z=>nomatch z⟩ (λl g r e ξ h yy=>aC yy λy f2 J hJ=>?_) λξ h yy=>aC yy λy f2=>q h ao (x.fm.dr y) ⟨s0,x.noc f2⟩;refine x.sm y rfl rfl (KH x y v.tl (L _) (by rw[e];exact aX (.head _)) λm h F' y k1 k2 k3=>mR (x.fm.at y (.head _)) (aP ..) (dx (λz=>?_) λz=>hJ _ _ ⟨x.fm.dr y,λg' wS=>(bx.mp wS).elim (f2 g') λw=>aZ.mp w▸k2 (na.mp (HH λw=>z (o9.mpr w)))⟩));obtain ⟨y0,r,e⟩:∃y r,F'=y::r:=by
  cases F' with
  |nil=>exact absurd z (by decide)
  |cons y0 r=>exact⟨y0,r,rfl⟩
 rw[e] at y k1;exact cz (x.fm.at y (.head _)) rfl (q h (aa y0) (x.fm.dr (x.fm.dr y)) (.inr ⟨s0,k1 y0 (.head _)⟩))
end
structure Wb(ts:List Tm)(C K S E:List Nat)(U0:Nat->List Nat)(M:List (Nat×Nat))(p:PS)(X:SX):Prop where
 k:Kn ts C K
 w:Cw ts E C K U0 M p
 o:qO ts K M
 S:iL ts C S
 sh:ik ts C (cM ts C) {X with T:=[]}
section
variable {z u n vn t:Nat}{c b s:Nat->Nat}{h:Hp}{ts ts' es:List Tm}{C K S E H:List Nat}{U0:Nat->List Nat}{M:List (Nat×Nat)}{p:PS}{X:SX}{R:aM}{vl:Nat->Nat}{A:Nat->Nat}{P:aM->Hp->Prop}
theorem Cg.sort(w:Wr ts C)(hM:qO ts K M){a a':Nat}(e:Cg ts C M a a'):(aF ts a).sort=(aF ts a').sort:=by
 refine e (λa a'=>(aF ts a).sort=(aF ts a').sort) ⟨λ_=>rfl,λ_ _ e=>e.symm,λ_ _ _ e e'=>e.trans e',λf cc hf hc hh _ _=>?_⟩ λq hq=>(hM q hq).2.2
 (refine be (w.cl f hf) λ_ _ aD=>?_;refine e2a3 aD λi so F h1 _=>?_)
 (refine be (w.cl cc hc) λ_ _ aD=>?_;refine e2a3 aD λi' rP F' Ah _=>?_)
 rw[mS h1,mS Ah] at hh;rw[<-hh] at F';exact(F.uniq F').2
theorem Cw.rt(w:Cw ts E C K U0 M p)(ht:t∈K):p.r t=aa (rt p t):=dS ((w.g.cl.wf.adw t).mpr ((w.e t).mpr ht))
theorem Cw.cg(w:Cw ts E C K U0 M p){a a':Nat}(ha:a∈K)(cA:a'∈K):Mine.rt p a=Mine.rt p a'↔Cg ts C M a a':=by rw[<-w.g.cl.full w.wd ((w.e a).mpr ha) ((w.e a').mpr cA),w.rt ha,w.rt cA];exact⟨congrArg aa,cP⟩
theorem Wb.sk(w:Wb ts C K S E U0 M p X):∀t∈S,t∈K:=λt ht=>(w.k.k t).mpr ((w.S.m t).mp ht).1
theorem Wb.rd(w:Wb ts C K S E U0 M p X)(l:LR z u c b s p X ts R h):∃A P,Rd ts C K S X.adu p c b s A P/\P R h/\∀R' h',P R' h'->LR z u c b s p X ts R' h':=by
 refine e3a4 l.nf λS' D E' hc a A y=>?_;refine e1a1 (Iw (c:=c) (b:=b) (s:=s) (p:=p) (z:=z) (u:=u) (ts:=ts) (X:=X) (S:=S') (D:=D) (E:=E')) λMm q=>?_;have kf:∀R' h',St h' (nf c b s S' p z u D ts E' X R')->LR z u c b s p X ts R' h':=λR' h' y=>.of hc a A y;refine⟨E'.A,λR h=>St h (nf c b s S' p z u D ts E' X R),⟨λR h y=>⟨(kf R h y).bh,Mm,y.perm (q R),λR' h' z=>z.perm (q R').symm⟩,λ{R h} y=>?_,λ{R h} y=>?_,λ{R h} y=>?_,λ{R h} y f hf=>⟨?_,λQ hQ=>?_⟩,w.sh.h2,w.k,λt ht=>⟨w.w.rt ht,?_⟩,w.S,?_,λf hf cc Gp hh em=>?_,λa ha a' cA e=>Cg.sort w.k.w w.o ((w.w.cg ha cA).mp e)⟩,y,kf⟩
 ·exact⟨_,S',DN▸y,A⟩
 ·refine e1a2 ((kf R h y).sh) λF z _=>?_;exact⟨X,_,z,w.sh.s⟩
 ·have:(s 66,O.list (X.hl.map iv))∈nf c b s S' p z u D ts E' X R:=aX (aX (aX (b8 (iQ 3 rfl))));rw[show X.hl=X.adu from w.sh.h1] at this;exact y.at_ _ this
 ·have:(E'.A f,O.list ((X.rw f).map iv))∈nf c b s S' p z u D ts E' X R:=aX (aX (aX (aX (aX (b8 (bz.mpr ⟨f,hf,rfl⟩))))));rw[show X.rw f=row ts C f from w.sh.c f hf] at this;exact y.at_ _ this
 ·have:(s 65,O.dict E'.C)∈nf c b s S' p z u D ts E' X R:=aX (aX (aX (b8 (iQ 4 rfl))));exact hG (y.at_ _ this) a.c (eF hf) hQ
 ·exact(w.w.e _).mp ((w.w.g.cl.wf.adw _).mp (by rw[w.w.g.cl.wf.rr _ _ (w.w.rt ht)];exact gH _))
 ·exact g_ 18 _ a.nd λg hg=>by refine e1a2 ((w.sh.h2 g).mp hg) λc hc e=>?_;rw[<-e];exact bY (w.k.w.call hc).2.2.1 (by decide)
 ·have uK:∀{f},f∈C->f∈K/\∀a∈ar ts f,a∈K:=λhf=>⟨(w.k.k _).mpr (.inl hf),λa ha=>(w.k.k a).mpr (.inr ⟨_,hf,ha⟩)⟩;refine(w.w.cg (uK hf).1 (uK Gp).1).mpr ((Cg.adT ts C M).cg f cc hf Gp hh (by have:=congrArg o_ em;rw[aP,aP] at this;exact this) λq hq=>?_);refine aC (Ba (a:=q.1) (b:=q.2) hq) λh1 h2=>?_;exact(w.w.cg ((uK hf).2 _ h1) ((uK Gp).2 _ h2)).mp (yA em q hq)
theorem Fp.ok{y:Nat×Nat}(x:Rd ts C K S H p c b s A P)(hy:Fp ts C S p vl (aa y)):y.1∈S/\y.2∈S/\y.1≠y.2/\(aF ts y.1).sort=(aF ts y.2).sort/\((rt p y.1=rt p y.2/\vl y.1≠vl y.2)\/(rt p y.1≠rt p y.2/\vl y.1=vl y.2)):=by
 rcases hy with hy|⟨h0,f,cc,hf,hc,hh,ek,er,a,a',hz,aS,m_,ar,e⟩
 ·refine e1a2 (bz.mp hy) λt ht e=>?_;refine aC (cW.mp ht) λtS hv=>?_;have hv:=of_decide_eq_true hv;refine be (lV (p:=p) tS) λ_ l2 l3=>?_;rw[<-e];exact⟨l2,tS,λz=>hv (congrArg vl z),x.so _ (x.sk l2) _ (x.sk tS) l3,.inl ⟨l3,hv⟩⟩
 ·refine be (lV (p:=p) aS) λ_ l2 l3=>?_;refine be (lV (p:=p) m_) λ_ wT Ai=>?_;have hr:rt p (dX p S a)≠rt p (dX p S a'):=by rw[l3,Ai];exact ar
  have ka:=yA (sV ek) (a,a') hz;rw[nE aS,nE m_] at ka;injection ka with _ ka;injection ka with k1 ka;injection ka with k2 _
  rw[e];refine⟨l2,wT,λz=>hr (congrArg (rt p) z),?_,.inr ⟨hr,EJ k2⟩⟩;rw[x.so _ (x.sk l2) _ (x.sk aS) l3,x.so _ (x.sk wT) _ (x.sk m_) Ai,ji k1]
theorem Cg.ag(h:∀t∈C,aF ts' t=aF ts t){a a':Nat}:Cg ts' C M a a'↔Cg ts C M a a':=by
 have key:∀{ts ts':List Tm},(∀t∈C,aF ts' t=aF ts t)->Cg ts C M a a'->Cg ts' C M a a':=λh e E I k=>
  e E ⟨I.aed,I.sym,I.tr,λs t hs ht e1 e2 e3=>I.cg s t hs ht (by rw[h s hs,h t ht];exact e1) (by rw[h s hs,h t ht];exact e2) (by rw[h s hs,h t ht];exact e3)⟩ k
 exact⟨key λt ht=>(h t ht).symm,key h⟩
theorem Q7(h:∀t∈C,aF ts' t=aF ts t):cM ts' C t↔cM ts C t:=
 or_congr_right (exists_congr λc=>and_congr_right λhc=>by rw[ar,h c hc])
end
section
variable {ts es:List Tm}{C K S E:List Nat}{U0:Nat->List Nat}{M:List (Nat×Nat)}{p:PS}{X:SX}
theorem Wb.grow(w:Wb ts C K S E U0 M p X):(∀t∈K,aF (ts++es) t=aF ts t)/\Wb (ts++es) C K S E U0 M p X:=by
 have hK:∀t∈K,aF (ts++es) t=aF ts t:=λt ht=>Kg (w.k.tm ht);have hC:∀t∈C,aF (ts++es) t=aF ts t:=λt ht=>hK t ((w.k.k t).mpr (.inl ht));have hU:∀t,cM (ts++es) C t↔cM ts C t:=λt=>Q7 hC;have OF:∀t,cM (ts++es) C t/\gK (ts++es) t↔cM ts C t/\gK ts t:=λt=>by rw[hU];exact and_congr_right λht=>by delta gK;rw[hK t ((w.k.k t).mpr ht)]
 have hN:(λt=>t∈E/\(aF (ts++es) t).op=195)= λt=>t∈E/\(aF ts t).op=195:=funext λt=>propext (and_congr_right λht=>by rw[hK t ((w.w.e t).mp ht)]);have Aj:∀t∈C,sg (ts++es) p t=sg ts p t:=λt ht=>by delta sg;rw[hC t ht]
 obtain ⟨k,⟨hE,lE,wd,g⟩,o,hS,sh⟩:=w;obtain ⟨cl,g2,g3,g4,g5,g6⟩:=g;obtain ⟨wf,c2,c3,c4,c5⟩:=cl;refine⟨hK,⟨k.w.grow,λt=>(k.k t).trans (hU t).symm,k.nd,k.ne⟩,⟨hE,lE,{wd with tm:=λt ht=>?_,cd:=λt ht=>?_,ar:=λt ht=>?_,u1:=λt ht=>?_,u3:=λa t ht=>?_},?_⟩,λy hy=>?_,{hS with m:=λt=>(hS.m t).trans (OF t).symm},{sh with w:=λt=>(sh.w t).trans (hU t).symm,s:=λt=>(sh.s t).trans (OF t).symm,h2:=λf=>(sh.h2 f).trans (exists_congr λc=>and_congr_right λhc=>by rw[hC c hc]),c:=λf hf=>(sh.c f hf).trans (ac0 λc hc=>by rw[hC c hc])}⟩
 ·rw[hC t ht];exact nD (wd.tm t ht)
 ·rw[hC t ht];exact wd.cd t ht
 ·rw[hC t ht];exact wd.ar t ht
 ·rw[hC t ht];exact wd.u1 t ht
 ·rw[hC t (wd.u2 a t ht)];exact wd.u3 a t ht
 ·rw[hN];exact⟨⟨{wf with tb:=λl o e=>⟨(wf.tb l o e).1,by rw[Aj o (wf.tb l o e).1];exact(wf.tb l o e).2⟩,adS:=λx y e=>have z:=wf.adS x y e;⟨z.1,z.2.1,by rw[Aj x z.1,Aj y z.2.1];exact z.2.2⟩},λa a' h1 h2=>(Cg.ag hC).mpr (c2 a a' h1 h2),λ_ z=>(nomatch z),λt ht=>by delta yS;rw[Aj t ht];exact c4 t ht,c5⟩,g2,g3,g4,g5,g6⟩
 ·refine be (o y hy) λh1 h2 h3=>?_;exact⟨h1,h2,by rw[hK _ h1,hK _ h2];exact h3⟩
end
noncomputable abbrev lo(y:Nat×Nat):Nat:=min y.1 y.2
noncomputable abbrev hi(y:Nat×Nat):Nat:=max y.1 y.2
noncomputable def iU(T:List ((Nat×Nat)×Nat)):List (V×V):=T.map λx=>(pv x.1,iv x.2)
section
variable {z u vn:Nat}{c b s:Nat->Nat}{h:Hp}{Q:PV}{Y:Hp->Prop}{ts:List Tm}{C K S E:List Nat}{U0:Nat->List Nat}{M:List (Nat×Nat)}{p:PS}{X:SX}{R:aM}{vl:Nat->Nat}{T:List ((Nat×Nat)×Nat)}{k:Nat×Nat}
theorem Zf{x y:Nat×Nat}(h:pv x=pv y):x=y:=by
 injection h with h1 h2;injection h2 with h2
 exact Bi (ji h1) (ji h2)
theorem Mi:∀{T:List ((Nat×Nat)×Nat)},k∉T.map (·.1)->bC (iU T) (pv k)=ao:=by
 intro T;induction T with
 |nil=>intro _;exact rfl
 |cons x T ih=>intro h;rw[bW,a_,not_or] at h;show(if pv x.1=pv k then _ else bC (iU T) (pv k))=ao;rw[if_neg λe=>h.1 (Zf e).symm,ih h.2]
theorem KT:b7 (pv k) (iU T)=ah:=by show((iU T).all λe=>kk e.1==3)=ah;delta iU;rw[adh];exact cQ.mpr λ_ _=>rfl
theorem UU{L:aM}{w v:V}{Qu:Hp->Prop}(x:SR s b X L h)(ko:b7 w X.T=ah)(l:X.T.length<aG)(q:∀h',SR s b {X with T:=bB X.T w v} L h'->Qu h'):dY (.ref (s 64)) w v Qu h:=
 e1a2 x λD x A=>f6 x 5 rfl ko l λh' x=>q h' ⟨D,x,{A with}⟩
theorem W_{n:Nat}{es:List (V×V)}{w:V}{Qt:Bool->Hp->Prop}(e:h.get n=aa (.dict es))(ko:b7 w es=ah)(z:bC es w=ao)(q:Qt au h):bZ .inn w (.ref n) Qt h:=Ct e ko (by rw[z];exact q)
theorem SR.told{L:aM}(x:SR s b X L h):h.get (s 64)=aa (.dict X.T):=e1a2 x λ_ y _=>y.ix 5 rfl
theorem LR.aer(l:LR z u c b s p X ts R h)(w:Wb ts C K S E U0 M p X)(v:Vs S vl vn R)(hT:X.T=iU T)(lT:T.length<1000)(lts:ts.length<1000)(hn:∀y,Fp ts C S p vl (aa y)->(lo y,hi y)∉T.map (·.1))
  (q1:∀h',LR z u c b s p X ts R h'->Fp ts C S p vl ao->Q .none h')
  (q2:∀h' y k ts',Fp ts C S p vl (aa y)->gf ts (fH (lo y) (hi y))=(k,ts')->LR z u c b s p {X with T:=iU (T++[((lo y,hi y),k)])} ts' R h'->Q (iv k) h'):Cl 1033 [.ref (s 0),.ref vn,.ref (c 0)] Q Y h:=by
 refine e2a3 (w.rd l) λA P x y kf=>?_;refine ba (x.sm y rfl rfl (Wv x y v λh o y ho=>?_));cases o with
 |none=>exact q1 h (kf _ _ y) ho
 |some a=>
  refine iX (ho.ok x) λy1 y2 y3 y4 _=>?_;have t1:=w.k.tm (w.sk _ y1);have t2:=w.k.tm (w.sk _ y2);have l:=kf _ _ y;clear y kf x;obtain ⟨Tl,Th,tl,th,so⟩:∃Tl Th,tm ts (lo a)=aa Tl/\tm ts (hi a)=aa Th/\Th.sort=Tl.sort:=by
   rcases A8 a.1 a.2 with e|e
   ·rw[lo,hi,o7 e,qy e];exact⟨_,_,t1,t2,y4.symm⟩
   ·rw[lo,hi,xg e,Bm e];exact⟨_,_,t2,t1,y4⟩
  have ne:lo a≠hi a:=by
   rcases A8 a.1 a.2 with e|e
   ·rw[lo,hi,o7 e,qy e];exact y3
   ·rw[lo,hi,xg e,Bm e];exact y3.symm
  refine kG [15,96] (λ_:Unit=>[.ref (s 0),pv a]) (λ_ h=>LR z u c b s p X ts R h) (λ_ ξ h l=>?_) λK' tail _=>tail () _ _ rfl l;refine kG [15,104,105] (λ_:Unit=>[.ref (s 0),iv (lo a),iv (hi a)]) (λ_ h=>LR z u c b s p X ts R h) (λ_ ξ h l=>?_) λK' tail _=>tail () _ _ (congr (congrArg (λm n=>aa [V.ref (s 0),V.int m,V.int n]) zn) xx:) l;refine e1a4 l.sh λF v hb _ _=>?_;have g:=v.told;rw[hT] at g;refine v.adx rfl rfl (W_ g (KT (k:=(lo a,hi a))) (Mi (hn a ho)) (v.adx rfl rfl (l.bh.k rfl rfl ?_)));refine e1a2 l.bk λG v kg=>?_;refine IL v tl th so ne lts λh v=>?_;refine e1a4 ((kg _ _ _ v).sh) λF v _ _ kf=>?_;generalize em:gf ts (fH (lo a) (hi a))=m at v kf;refine v.adx rfl rfl (UU v (by rw[hT];exact KT (k:=(lo a,hi a))) (by rw[hT,iU,aP];exact bY lT (by decide)) λh v=>q2 h a m.1 m.2 ho em ?_);have this:LR z u c b s p {X with T:=bB X.T (pv (lo a,hi a)) (iv m.1)} m.2 R h:=kf _ _ _ v;rw[hT,rq (Mi (hn a ho)),show iU T++[(pv (lo a,hi a),iv m.1)]=iU (T++[((lo a,hi a),m.1)]) by delta iU;rw[bA];rfl] at this;exact this
end
section
variable {z u vn n sn:Nat}{c b s A:Nat->Nat}{h:Hp}{Q:PV}{Y:Hp->Prop}{ts:List Tm}{C K S E H T:List Nat}{U0:Nat->List Nat}{M:List (Nat×Nat)}{p:PS}{X:SX}{R:aM}{vl:Nat->Nat}{P:aM->Hp->Prop}
theorem Ud(x:Rd ts C K S H p c b s A P)(y:P R h)(v:Vs T vl vn R)(hT:∃t∈S,t∉T)(q:∀h',P R h'->Y h'):Cl 1024 [.ref (s 0),.ref vn] Q Y h:=by
 refine e1a2 v λev gv D=>?_;refine ba (x.sm y rfl rfl (x.aea y λsl h y=>bT (x.fm.at y (.head _)) (cb [79] rfl rfl (λl h=>P ((sl,.list (S.map iv))::R) h/\∀t∈l,t∈T) (λ_ _ y=>bM (x.fm.at y.1 (.head _))) ⟨y,λ_ z=>nomatch z⟩ (λl t r e ξ h yy=>aC yy λy k J hJ=>BC (x.fm.at y (.tail _ gv)) D (λz=>?_) λ_ z=>hJ _ _ ⟨y,λa ha=>(bx.mp ha).elim (k a) λw=>?_⟩) λξ h yy=>aC yy λy k=>?_)))
 ·have lt:=x.k.lt t (x.sk (by rw[e];exact aX (.head _)));exact⟨⟨_,rfl,decide_eq_true (bY lt (by decide))⟩,rfl,q h (x.fm.dr y)⟩
 ·refine qh λy=>?_;rw[aZ.mp w] at y;exact zA ((show bj T _ t=ao from if_neg y).symm.trans z)
 ·refine e1a2 hT λt h1 h2=>?_;exact absurd (k t h1) h2
theorem UI(x:Rd ts C K S H p c b s A P)(y:P R h)(v:Vs T vl vn R)(hT:∃t∈S,t∉T)(q:∀h',P R h'->Y h'):Cl 1033 [.ref (s 0),.ref vn,.ref (c 0)] Q Y h:=
 ba (x.sm y rfl rfl (ba (x.sm y rfl rfl (Ud x y v hT q))))
theorem VY(l:LR z u c b s p X ts R h)(w:Wb ts C K S E U0 M p X)(hS:(sn,.list (S.map iv))∈R)(v:Vs S vl vn R)(bF:S≠[])(hu:u<1000000)(q:∀h',LR z (u+1) c b s p X ts R h'->Q (.bool ah) h'):Cl 229 [.ref z,.ref (s 0),.ref (c 0),.ref sn,.ref vn] Q Y h:=by refine e1a1 (Bl S bF) λt ht=>?_;refine ba (l.aef hS ht w.S.len hu λh Gq l hl=>?_);show kC _ _ _ _ _ _ (.ref sn) h;refine bT (l.at hS) (iJ (λt=>V.tup [iv t,vv (vl t)]) (λt=>t≠Gq) (bM (l.at hS)) (λt ht acc J q1 q0=>jo (ij (λz=>v.rd LR.fm l ht (q1 z)) λz=>q0 λw=>w z)) (fe l λn h l=>L6 (g:=λt=>vv (vl t)) (l.at (.head _)) (λt ht=>w.k.lt t (w.sk t (cW.mp ht).1)) (aI (jM _ _) w.S.len) λes D=>fe l λm h l=>?_));refine e2a3 (w.rd l) λA P x y kf=>?_;exact⟨rfl,x.sm y rfl rfl (UI x y (T:=S.filter λt=>decide (t≠Gq)) (vl:=vl) ⟨es,.head _,D⟩ ⟨Gq,hl,λz=>of_decide_eq_true (cW.mp z).2 rfl⟩ λh y=>q h ((kf _ _ y).sub (.cons _ (.cons _ (.refl _)))))⟩
end
noncomputable def rk(ts:List Tm)(S:List Nat)(vl lb:Nat->Nat)(a:Nat):V:=if a∈S then V.tup [.str 89,iv (aF ts a).sort,vv (vl a)] else V.tup [.str 87,iv (lb a)]
noncomputable def io(ts:List Tm)(S:List Nat)(vl lb:Nat->Nat)(c:Nat):List V:=iv (hd (aF ts c))::(ar ts c).map (rk ts S vl lb)
noncomputable abbrev jw(ts:List Tm)(S:List Nat)(vl lb:Nat->Nat)(q:Nat×Nat):Nat×O:=(q.1,.list (io ts S vl lb q.2))
section
variable {b:Nat->Nat}{ts:List Tm}{P:aM->Hp->Prop}{R R' A B:aM}{h:Hp}{n m vn t cl ln:Nat}{o:O}{K:PV}{Q:PV}{Y:Hp->Prop}{Qu:Hp->Prop}{xs ys:List V}{v w:V}{es ev:List (V×V)}{q:Nat×O}{C S Kk:List Nat}{vl lb:Nat->Nat}{gg:Nat->V}
theorem Fm.perm(F:Fm b ts P)(x:P R h)(e:R.Perm R'):P R' h:=aC (F _ _ x) λ_ aD=>e1a2 aD λ_ y k=>k _ _ (y.perm (e.append_right _))
theorem Fm.ne(F:Fm b ts P)(x:P ((n,o)::R) h){o':O}(e:(m,o')∈R):m≠n:=λz=>by
 (refine aC (F _ _ x) λ_ aD=>?_;refine e1a2 aD λ_ y _=>?_)
 exact(dK.mp y.nd).1 (z▸bz.mpr ⟨_,b8 e,rfl⟩)
theorem J5(A:aM)(F:Fm b ts P)(x:P (A++(n,.list xs)::B) h)(e:h.get m=aa (.list ys))(l:xs.length<aG)(l':ys.length<aG)(q:∀h',P (A++(n,.list (xs++ys))::B) h'->K .none h'):qT n (.ref m) K h:=
 Cp (F.at x (q:=(n,.list xs)) (aX (.head _))) e l l' (F.lk x) (q _ (uZ A F x _))
theorem Ms{Q:Option (Nat×O)->List V->Prop}(F:Fm b ts P)(x:P R h)(e:(vn,.dict ev)∈R)(D:DI ev (bj S gg))(q:∀l:List Nat,(∀t,t∈l↔t∈S)->l.length<=18->Q (aa (vn,.dict ev)) (l.map iv)):ke (.ref vn) Q h:=by refine e1a5 D.keys λl h1 h2 h3 h4 h5=>?_;refine .inr ⟨ev,F.at x e,h5,h1▸q l (λt=>(h3 t).trans ?_) h4⟩;delta bj;exact⟨λz=>qh λw=>z (if_neg w),λz=>by rw[if_pos z];exact gH _⟩
theorem Xz(F:Fm b ts P)(hl:h.lk=aa vn)(x:P ((n,.dict es)::B) (h.lock ao))(ne:vn≠n)(ko:b7 w es=ah)(l:es.length<aG)(q:∀h',h'.lk=aa vn->P ((n,.dict (bB es w v))::B) (h'.lock ao)->Qu h'):dY (.ref n) w v Qu h:=
 ⟨es,F.at x (.head _),ko,l,λz=>ne (cP (hl.symm.trans z)),q _ hl (uZ [] F x _)⟩
theorem Vf(a:Nat):(rk ts S vl lb a).data fk=ah:=by delta rk;split <;> rfl
theorem J_(c:Nat):gJ (io ts S vl lb c)=ah:=cQ.mpr λx hx=>by
 rcases a_.mp hx with e|hx
 ·rw[e];rfl
 ·refine e1a2 (bz.mp hx) λa _ e=>?_;rw[<-e];exact Vf a
theorem vj(e:t∈S):rk ts S vl lb t=V.tup [.str 89,iv (aF ts t).sort,vv (vl t)]:=if_pos e
theorem uT(e:t∉S):rk ts S vl lb t=V.tup [.str 87,iv (lb t)]:=if_neg e
end
def Lb(K:List Nat)(lb:Nat->Nat)(ln:Nat)(R:aM):Prop:=∃el,(ln,O.dict el)∈R/\DI el (bj K λt=>iv (lb t))
section
variable {b:Nat->Nat}{ts:List Tm}{P:aM->Hp->Prop}{R:aM}{h:Hp}{n m vn t cl ln:Nat}{o:Nat×O}{Q:PV}{Y:Hp->Prop}{C S K:List Nat}{vl lb:Nat->Nat}
theorem Lb.tl(v:Lb K lb ln R):Lb K lb ln (o::R):=e1a2 v λe a d=>⟨e,.tail _ a,d⟩
theorem Lb.rd(v:Lb K lb ln R)(F:Fm b ts P)(x:P R h)(ht:t∈K)(q:Q (iv (lb t)) h):eY (.ref ln) (iv t) Q h:=e1a2 v λ_ a d=>hG (F.at x a) d (eF ht) q
theorem Lb.app{L:aM}(v:Lb K lb ln R):Lb K lb ln (L++R):=e1a2 v λe a d=>⟨e,aX a,d⟩
theorem H7(e:h.lk=ao):(h.lock (aa n)).lock ao=h:=by obtain ⟨g,l⟩:=h;have e:l=ao:=e;rw[e];rfl
theorem WF(k:Kn ts C K)(hS:iL ts C S)(hK:∀t∈K,lb t<18)(F:Fm b ts P)(x:P R h)(hC:(cl,.list (C.map iv))∈R)(v:Vs S vl vn R)(L:Lb K lb ln R)(one:∀a∈S,∀a'∈S,lb a=lb a'->vl a=vl a')
  (q:∀h' n (L:List (Nat×Nat)),P ((n,.list (L.map λq=>V.ref q.1))::(L.map (jw ts S vl lb)++R)) h'->L.map (·.2)=C->Q (.ref n) h'):Cl 232 [.ref (b 0),.ref cl,.ref ln,.ref vn] Q Y h:=by
 have SK:∀{t},t∈S->t∈K:=λht=>(k.k _).mpr ((hS.m _).mp ht).1;refine e1a2 v λev gv Dv=>?_;refine ba (cH F x λwn h x=>Ms F x (.tail _ gv) Dv λl hl _=>⟨F.lk x,?_⟩);have ne:vn≠wn:=F.ne x gv;refine e1a2 L λel gl Dl=>?_;refine cb [63,65,216,79,231] rfl rfl (λp h=>∃es f,h.lk=aa vn/\P ((wn,.dict es)::R) (h.lock ao)/\DI es f/\∀a∈p,f (lb a)=aa (vv (vl a))) (λp h yy=>e2a3 yy λ_ _ _ x _=>bM (F.at x (.tail _ gv):)) ⟨[],λ_=>ao,rfl,by rw[H7 (F.lk x)];exact x,⟨.nil,λ_ h=>(nomatch h),λ_=>rfl⟩,λ_ z=>nomatch z⟩ (λp t r e ξ h yy=>e2a4 yy λes f hk x D kf J hJ=>?_) λξ h yy=>e2a4 yy λes f _ x D kf=>?_
 ·have tS:=(hl t).mp (by rw[e];exact aX (.head _));refine hG (h:=h) (F.at x (.tail _ gv):) Dv (eF tS) (hG (h:=h) (F.at x (.tail _ gl):) Dl (eF (SK tS)) (Xz F hk x ne (D.ko _) D.lim λh hk x=>hJ _ _ ⟨_,_,hk,x,D.put (hK t (SK tS)) (vv (vl t)),λa ha=>?_⟩));have aS:=(hl a).mp (by rw[e];exact(bx.mp ha).elim b8 λz=>by rw[aZ.mp z];exact aX (.head _));delta upd;by_cases z:lb a=lb t
  ·rw[if_pos z,one a aS t tS z]
  ·rw[if_neg z];exact(bx.mp ha).elim (kf a) λw=>absurd (congrArg lb (aZ.mp w)) z
 ·have kf:∀a∈S,f (lb a)=aa (vv (vl a)):=λa ha=>kf a ((hl a).mpr ha);have L:Lb K lb ln R:=⟨el,gl,Dl⟩;refine cH F x λn h x=>bT (F.at x (.tail _ (.tail _ hC))) ?_;refine cb [63,216,231,47] rfl rfl (λp h=>∃L:List (Nat×Nat),L.map (·.2)=p/\P ((n,.list (L.map λq=>V.ref q.1))::(L.map (jw ts S vl lb)++(wn,.dict es)::R)) h) (λp h yy=>e1a2 yy λ_ _ x=>bM (F.at x (.tail _ (aX (.tail _ hC))))) ⟨[],rfl,x⟩ (λp cc r e ξ h yy=>e1a2 yy λM em x J hJ=>?_) λξ h yy=>e1a2 yy λM em x=>q h n M (F.sub x (.cons₂ _ (.append (.refl _) (.cons _ (.refl _))))) em;have cC:cc∈C:=by rw[e];exact aX (.head _)
  have lp:M.length<aG:=by rw[<-aP (f:=(·.2)) (as:=M),em];exact aR (aI (by rw[e,aT];exact b_ _ _) k.w.adV) (by decide)
  have cO:=k.w.call cC;refine(F _ _ x).1.k rfl rfl (Cm k.w cC (F _ _ x).1 (cH F x λrn h x=>(F _ _ x).1.k rfl rfl (il (F _ _ x).1 cO.1.tm (n6 ?_))));refine cb [63,216,231,47,230] rfl rfl (λp h=>P ((rn,.list (iv (hd (aF ts cc))::p.map (rk ts S vl lb)))::(n,.list (M.map λq=>V.ref q.1))::(M.map (jw ts S vl lb)++(wn,.dict es)::R)) h) (λ_ _ _=>cY) x (λp t r e ξ h x J' eI=>?_) λξ h x=>cN (F.at x (.tail _ (.head _))) rfl (uP [_] F x (by rw[aP];exact lp) λh x=>hJ _ _ ⟨M++[(rn,cc)],by rw[bA,em];rfl,?_⟩)
  ·have e:ar ts cc=p++t::r:=e;have tU:cM ts C t:=.inr ⟨cc,cC,by rw[e];exact aX (.head _)⟩;have tK:=(k.k t).mpr tU;have ll:(iv (hd (aF ts cc))::p.map (rk ts S vl lb)).length <aG:=by rw[e_,aP];exact aR (dw (aI (m:=(ar ts cc).length) (by rw[e,aT];exact b_ _ _) cO.1.ar)) (show 3<aG by decide)
   have B:=(F _ _ x).1;have nx:∀v ρ,rk ts S vl lb t=v->iK rn v (λ_=>J' ρ) h:=λv ρ z=>q8 F x ll λh x=>eI _ _ (by rw[bA,show [t].map (rk ts S vl lb)=[v] from congrArg (·::[]) z];exact x);refine I_ B (k.tm tK) (λz=>cN (F.at x (.head _)) rfl (B.k rfl rfl (ky B (k.tm tK) (L.app (L:=_::_::(_++[_])) |>.rd F (by rw[qr,qr,bt];exact x) tK (hG (F.at x (.tail _ (.tail _ (aX (.head _))))) D (kf t ((hS.m t).mpr ⟨tU,z⟩)) (nx _ _ (vj ((hS.m t).mpr ⟨tU,z⟩)))))))) λz=>cN (F.at x (.head _)) rfl (L.app (L:=_::_::(_++[_])) |>.rd F (by rw[qr,qr,bt];exact x) tK (nx _ _ (uT λy=>z ((hS.m t).mp y).2)))
  ·rw[bA,bA];exact F.perm x (.trans (.swap _ _ _) (.cons _ (by rw[bt];exact mf.symm)))
end
noncomputable abbrev pX(S:List Nat)(lb:Nat->Nat)(c:Nat):List Nat:=S.filter λt=>decide (lb t=c)
noncomputable def re(S:List Nat)(lb:Nat->Nat)(c x:Nat):List (Nat×Nat):=(pX S lb c).map λy=>(min x y,max x y)
noncomputable def lh(S:List Nat)(lb:Nat->Nat)(q:Nat×Nat):List (Nat×Nat):=if lb q.1=lb q.2 then [] else(pX S lb (lb q.1)).flatMap (re S lb (lb q.2))
noncomputable def cF(ts:List Tm)(S:List Nat)(vl lb:Nat->Nat)(f c:Nat):List (Nat×Nat):=if io ts S vl lb f=io ts S vl lb c/\lb f≠lb c then((ar ts f).zip (ar ts c)).flatMap (lh S lb) else []
noncomputable abbrev eV(C:List Nat)(i:Nat):Nat:=C.getD i 0
noncomputable def iF(ts:List Tm)(C S:List Nat)(vl lb:Nat->Nat)(i:Nat):List (Nat×Nat):=(jE i).flatMap λj=>cF ts S vl lb (eV C i) (eV C j)
section
variable {b:Nat->Nat}{ts:List Tm}{P:aM->Hp->Prop}{R:aM}{h:Hp}{n m vn t cl ln tn rn i:Nat}{o:Nat×O}{Q:PV}{Y:Hp->Prop}{C S K:List Nat}{vl lb:Nat->Nat}{ρ:Env}{F0:List (Nat×Nat)}
theorem mB{α β:Type}{f:α->List β}{m:Nat}:∀{l:List α},(∀x∈l,(f x).length<=m)->(l.flatMap f).length<=l.length*m:=by
 intro l;induction l with
 |nil=>intro _;exact g0 _
 |cons x l ih=>intro h;rw[xn,aT,e_,HL,dB];exact dF (ih λy hy=>h y (.tail _ hy)) (h x (.head _))
theorem CK{c:Nat}(l:S.length<=18):(pX S lb c).length<=18:=aI (jM _ _) l
theorem Ey{c x:Nat}(l:S.length<=18):(re S lb c x).length<=18:=by delta re;rw[aP];exact CK l
theorem HZ{q:Nat×Nat}(l:S.length<=18):(lh S lb q).length<=324:=by
 delta lh;split
 ·exact g0 _
 ·exact aI (mB λx _=>Ey l) (nB 18 (CK l))
theorem Zq{f cc:Nat}{Q:PX}(k:Kn ts C K)(lS:S.length<=18)(hf:f∈C)(hc:cc∈C)(F:Fm b ts P)(x:P ((n,.list (F0.map pv))::R) h)(SK:∀t∈S,t∈K)(gt:(tn,.list (S.map iv))∈R)(L:Lb K lb ln R)(lF:F0.length<100000)
  (q:∀ξ h,P ((n,.list ((F0++((ar ts f).zip (ar ts cc)).flatMap (lh S lb)).map pv))::R) h->Q .next (bf [63,65,216,236,47,95,233] [.ref (b 0),.ref cl,.ref ln,.ref tn,.ref n,.ref rn,iv i] ξ) h)
  (e0:lk [63,65,216,236,47,95,233] ρ=aa [.ref (b 0),.ref cl,.ref ln,.ref tn,.ref n,.ref rn,iv i]):
  kF ah [122,92] [122,92,125,235,57] (vS Cl (.q (.i (.b (.c .ne) (.b .i (.v 216) (.v 122)) (.b .i (.v 216) (.v 92))) (.q (.e (.s au [125]) (.C (.v 57) au [57] (.v 236) (.b (.c .eq) (.b .i (.v 216) (.v 57)) (.b .i (.v 216) (.v 122))))) (.q (.e (.s au [235]) (.C (.v 58) au [58] (.v 236) (.b (.c .eq) (.b .i (.v 216) (.v 58)) (.b .i (.v 216) (.v 92))))) (.q (.f au [57] (.v 125) (.q (.e .x (.m (.v 47) 1 (.b .k (.C (.u .T (.b .k (.u (.B 12) (.b .k (.v 57) (.b .k (.v 58) (.l .adt)))) (.b .k (.u (.B 13) (.b .k (.v 57) (.b .k (.v 58) (.l .adt)))) (.l .adt)))) au [58] (.v 235) (.l (V.bool ah))) (.l .adt)))) .n)) .n))) .n) .n)) ρ Q h ao (((ar ts f).zip (ar ts cc)).map λp=>V.tup [iv p.1,iv p.2]):=by
 have lz:((ar ts f).zip (ar ts cc)).length<=2:=by rw[A7];exact aI (xm _ _) (k.w.call hf).1.ar
 refine cb [63,65,216,236,47,95,233] e0 rfl (λp h=>P ((n,.list ((F0++p.flatMap (lh S lb)).map pv))::R) h) (λ_ _ _=>cY) (by rw[Bj,cq];exact x) (λp a r e ξ h x J hJ=>?_) q;have hz:a∈(ar ts f).zip (ar ts cc):=by rw[e];exact aX (.head _)
 refine aC (Ba (a:=a.1) (b:=a.2) hz) λh1 h2=>?_;have aK:=(k.k a.1).mpr (.inr ⟨f,hf,h1⟩);have qe:=(k.k a.2).mpr (.inr ⟨cc,hc,h2⟩);rw[qu,uL,<-bt] at hJ;have lp:(F0++p.flatMap (lh S lb)).length <101000:=by rw[aT];refine c9 (xq lF (aI (mB λ_ _=>HZ lS) (nB 324 (aI (m:=((ar ts f).zip (ar ts cc)).length) ?_ lz)))) (show 100000+2*324<=101000 by decide);rw[e,aT];exact b_ _ _
 generalize F0++p.flatMap (lh S lb)=F1 at x hJ lp;refine L.tl.rd F x aK (L.tl.rd F x qe (jo (ij (λz=>?_) λz=>hJ _ _ (by rw[lh,if_pos z,cq];exact x))));rw[lh,if_neg z] at hJ;show kC _ _ _ _ _ _ (.ref tn) h;refine bT (F.at x (.tail _ gt)) (iJ iv (λt=>lb t=lb a.1) (bM (F.at x (.tail _ gt))) (λt ht acc J q1 q0=>L.tl.rd F x (SK t ht) (L.tl.rd F x aK (ff (dx q1 q0)))) (cH F x λhn h x=>?_));show kC _ _ _ _ _ _ (.ref tn) h;refine bT (F.at x (.tail _ (.tail _ gt))) (iJ iv (λt=>lb t=lb a.2) (bM (F.at x (.tail _ (.tail _ gt)))) (λt ht acc J q1 q0=>L.tl.tl.rd F x (SK t ht) (L.tl.tl.rd F x qe (ff (dx q1 q0)))) (cH F x λhm h x=>bT (F.at x (.tail _ (.head _))) ?_));refine cb [47,235] rfl rfl (λl h=>P ([(hm,.list ((pX S lb (lb a.2)).map iv)),(hn,.list ((pX S lb (lb a.1)).map iv))]++(n,.list ((F1++l.flatMap (re S lb (lb a.2))).map pv))::R) h) (λ_ _ x=>bM (F.at x (.tail _ (.head _)))) (by rw[Bj,cq];exact x) (λl y r e ξ h x J' eI=>?_) λξ h x=>hJ _ _ (F.dr (F.dr x));rw[qu,uL,<-bt] at eI;have e:pX S lb (lb a.1)=l++y::r:=e;have ll:(F1++l.flatMap (re S lb (lb a.2))).length <aG:=by rw[aT];refine c9 (xq lp (aI (mB λ_ _=>Ey lS) (nB 18 (aI (m:=(pX S lb (lb a.1)).length) ?_ (CK lS))))) (show 101000+18*18<=aG by decide);rw[e,aT];exact b_ _ _
 refine cN (F.at x (.tail _ (.tail _ (.head _)))) rfl ?_;show kC _ _ _ _ _ _ (.ref hm) h;refine bT (F.at x (.head _)) (uV (λt=>V.tup [.int (n7 y t),.int (nN y t)]) (bM (F.at x (.head _))) (λt _ acc J hJ=>hJ) (cH F x λm h x=>?_));rw[show(pX S lb (lb a.2)).map (λ(t:Nat)=>V.tup [.int (n7 y t),.int (nN y t)])=(re S lb (lb a.2) y).map pv by delta re;rw[iE];exact ma λt _=>by rw[zn,xx];rfl] at x;exact J5 [_,_,_] F x (F.at x (.head _)) (by rw[aP];exact ll) (by rw[aP];exact aR (Ey lS) (by decide)) λh x=>eI _ _ (by rw[bA];exact F.dr x)
end
noncomputable def s9(S:List Nat)(vl lb:Nat->Nat)(a:Nat):List (Nat×Nat):=(S.filter λb=>decide (a<b/\lb a=lb b/\vl a≠vl b)).map λb=>(a,b)
noncomputable def l1(S:List Nat)(vl lb:Nat->Nat)(l:List Nat):List (Nat×Nat):=l.flatMap (s9 S vl lb)
noncomputable def l2(ts:List Tm)(C S:List Nat)(vl lb:Nat->Nat):List (Nat×Nat):=(jE C.length).flatMap (iF ts C S vl lb)
noncomputable def gp(ts:List Tm)(C S:List Nat)(vl lb:Nat->Nat):List (Nat×Nat):=if l1 S vl lb S=[] then l2 ts C S vl lb else l1 S vl lb S
section
variable {b:Nat->Nat}{ts:List Tm}{P:aM->Hp->Prop}{R:aM}{h:Hp}{n m vn t cl ln tn rn i:Nat}{o:Nat×O}{Q:PV}{Y:Hp->Prop}{C S K:List Nat}{vl lb:Nat->Nat}
theorem CQ{a:Nat}(l:S.length<=18):(s9 S vl lb a).length<=18:=by delta s9;rw[aP];exact aI (jM _ _) l
theorem IK{f c:Nat}(k:Kn ts C K)(l:S.length<=18)(hf:f∈C):(cF ts S vl lb f c).length<=648:=by
 delta cF;split
 ·have lz:((ar ts f).zip (ar ts c)).length<=2:=by rw[A7];exact aI (xm _ _) (k.w.call hf).1.ar
  exact aI (mB λ_ _=>HZ l) (nB 324 lz)
 ·exact g0 _
theorem pG{i:Nat}(h:i<C.length):eV C i∈C:=by rw[eV,adl,oF h];exact GF h
theorem yL{i:Nat}(h:i<C.length):C[i]? =aa (eV C i):=by rw[eV,adl,oF h];rfl
theorem Mz{i:Nat}(k:Kn ts C K)(l:S.length<=18)(hi:i<C.length):(iF ts C S vl lb i).length<=3240:=by refine aI (mB λj _=>IK k l (pG hi)) ?_;rw[nj];exact nB 648 (aI (bP hi) k.w.adV)
theorem CD{i m:Nat}{p r:List Nat}(e:jE m=p++i::r):p.length=i/\i<m/\∀j∈p,j<i:=by
 have h1:(jE m)[p.length]? =aa i:=by rw[e,nA (bQ _),qx];rfl
 refine e1a1 (i8.mp h1) λl h2=>?_;rw[List.getElem_range] at h2;rw[nj] at l;refine⟨h2,h2▸l,λj hj=>?_⟩;have:=(List.pairwise_lt_range (n:=m));rw[e,List.pairwise_append] at this;exact this.2.2 j hj i (.head _)
theorem vi(z:l1 S vl lb S=[])(a:Nat)(ha:a∈S)(a':Nat)(cA:a'∈S)(e:lb a=lb a'):vl a=vl a':=by
 have key:∀{a a'},a∈S->a'∈S->a<a'->lb a=lb a'->vl a=vl a':=λha cA cD e=>qh λbF=>by have:(_,_)∈l1 S vl lb S:=gI.mpr ⟨_,ha,bz.mpr ⟨_,cW.mpr ⟨cA,decide_eq_true ⟨cD,e,bF⟩⟩,rfl⟩⟩;rw[z] at this;exact zE this
 exact(QC a a').elim (λh=>key ha cA h e) λh=>h.elim (λh=>congrArg vl h) λh=>(key cA ha h e.symm).symm
theorem SS(k:Kn ts C K)(hS:iL ts C S)(hK:∀t∈K,lb t<18)(F:Fm b ts P)(x:P R h)(hC:(cl,.list (C.map iv))∈R)(v:Vs S vl vn R)(L:Lb K lb ln R)(q:∀h' n,P ((n,.list ((gp ts C S vl lb).map pv))::R) h'->Q (.ref n) h'):Cl 237 [.ref (b 0),.ref cl,.ref ln,.ref vn] Q Y h:=by
 have SK:∀t∈S,t∈K:=λt ht=>(k.k t).mpr ((hS.m t).mp ht).1;have lS:=hS.len;have v0:=v;refine e1a2 v0 λev gv Dv=>?_;refine ba (K1 (F.at x gv) Dv λl p1 p2 p3=>?_);rw[Jk p1 hS.lt p2];clear p1 p2 p3 l;refine cH F x λtn h x=>cH F x λn h x=>bT (F.at x (.tail _ (.head _))) ?_;refine cb [63,65,216,79,236,47] rfl rfl (λl h=>P ((n,.list ((l1 S vl lb l).map pv))::(tn,.list (S.map iv))::R) h) (λ_ _ x=>bM (F.at x (.tail _ (.head _)))) x (λl a r e ξ h x J hJ=>?_) λξ h x=>?_
 ·have aS:a∈S:=by rw[e];exact aX (.head _)
  refine cN (F.at x (.head _)) rfl ?_;show kC _ _ _ _ _ _ (.ref tn) h;refine bT (F.at x (.tail _ (.head _))) (iJ (λb=>pv (a,b)) (λb=>a<b/\lb a=lb b/\vl a≠vl b) (bM (F.at x (.tail _ (.head _)))) (λt ht acc J q1 q0=>dx (λz=>L.tl.tl.rd F x (SK a aS) (L.tl.tl.rd F x (SK t ht) (ff (dx (λz'=>v.tl.tl.rd F x aS (v.tl.tl.rd F x ht (Jd (λGs=>q1 ⟨gC.mp z,z',Gs⟩) λGs=>q0 λw=>w.2.2 Gs))) λz'=>lO z' (q0 λw=>z' w.2.1))))) λz=>lO z (q0 λw=>z (gC.mpr w.1))) (cH F x λm h x=>?_));rw[show(S.filter λb=>decide (a<b/\lb a=lb b/\vl a≠vl b)).map (λb=>pv (a,b))=(s9 S vl lb a).map pv by delta s9;rw[iE];rfl] at x;rw[show l1 S vl lb (l++[a])=l1 S vl lb l++s9 S vl lb a by delta l1;rw[qu,uL],bA] at hJ;refine J5 [_] F x (F.at x (.head _)) ?_ (by rw[aP];exact aR (CQ lS) (by decide)) λh x=>hJ _ _ (F.dr x);rw[aP];exact aR (mB λ_ _=>CQ lS) (aR (nB 18 (aI (m:=S.length) (by rw[e,aT];exact b_ _ _) lS)) (show 18*18<aG by decide))
 ·refine cH F x λem h x=>pj (F.at x (.tail _ (.head _))) (F.at x (.head _)) (sU _) (λz=>q h n ?_) λz=>?_
  ·rw[show gp ts C S vl lb=l1 S vl lb S from if_neg λw=>z (by rw[w];rfl)];exact F.sub x (.cons _ (.cons₂ _ (.cons _ (.refl _))))
  have z0:=pg.mp z;have q:∀h,P ((n,.list ((l2 ts C S vl lb).map pv))::R) h->Q (.ref n) h:=λh x=>q h n (by rw[show gp ts C S vl lb=l2 ts C S vl lb from if_pos z0];exact x);have x:=F.dr x;rw[z0] at x;refine WF k hS hK F x (.tail _ (.tail _ hC)) v.tl.tl L.tl.tl (vi z0) λh rn M x em=>?_;have lM:M.length=C.length:=by rw[<-em,aP]
  have x:P ((n,.list [])::(rn,.list (M.map λq=>V.ref q.1))::(M.map (jw ts S vl lb)++(tn,.list (S.map iv))::R)) h:=F.perm x (.trans (.cons _ mf) (.swap _ _ _));have row:∀{i},i<C.length->∃a,iR (M.map λq=>V.ref q.1) (i:Int)=aa (.ref a)/\(a,O.list (io ts S vl lb (eV C i)))∈M.map (jw ts S vl lb):=λ{i} hi=>by have h1:=yL hi;rw[<-em,qq] at h1;refine e1a2 (iD.mp h1) λy h2 h3=>?_;rw[em] at h3;exact⟨y.1,lQ (by rw[qq,h2];rfl),bz.mpr ⟨y,AF h2,by rw[jw,h3]⟩⟩
  have Ak:∀{i},i<C.length->iR (C.map iv) (i:Int)=aa (iv (eV C i)):=λhi=>lQ (by rw[qq,yL hi];rfl);have L2:Lb K lb ln ((rn,.list (M.map λq=>V.ref q.1))::(M.map (jw ts S vl lb)++(tn,.list (S.map iv))::R)):=L.tl.app.tl;have ur:(cl,O.list (C.map iv))∈(rn,.list (M.map λq=>V.ref q.1))::(M.map (jw ts S vl lb)++(tn,.list (S.map iv))::R):=.tail _ (aX (.tail _ hC));have OG:(tn,O.list (S.map iv))∈(rn,.list (M.map λq=>V.ref q.1))::(M.map (jw ts S vl lb)++(tn,.list (S.map iv))::R):=.tail _ (aX (.head _));have Gu:∀{q},q∈M.map (jw ts S vl lb)->q∈(rn,.list (M.map λq=>V.ref q.1))::(M.map (jw ts S vl lb)++(tn,.list (S.map iv))::R):=λh=>.tail _ (b8 h);have Gv:(rn,O.list (M.map λq=>V.ref q.1))∈(rn,.list (M.map λq=>V.ref q.1))::(M.map (jw ts S vl lb)++(tn,.list (S.map iv))::R):=.head _;have q:∀h,P ((n,.list ((l2 ts C S vl lb).map pv))::(rn,.list (M.map λq=>V.ref q.1))::(M.map (jw ts S vl lb)++(tn,.list (S.map iv))::R)) h->Q (.ref n) h:=λh x=>q h (F.sub x (.cons₂ _ (.cons _ ((List.Sublist.cons _ (.refl _)).trans (Qp _ _)))));generalize (rn,O.list (M.map λq=>V.ref q.1))::(M.map (jw ts S vl lb)++(tn,.list (S.map iv))::R)=R2 at x L2 ur OG Gu Gv q;have l5:=k.w.adV;refine mR (F.at x (.tail _ ur)) (aP ..) (tR (k:=C.length) (aR l5 (by decide)) ?_);refine cb [63,65,216,236,47,95] rfl rfl (λp h=>P ((n,.list ((p.flatMap (iF ts C S vl lb)).map pv))::R2) h) (λ_ _ _=>cY) x (λp i r e ξ h x J hJ=>?_) λξ h x=>q h x;refine be (CD e) λe1 hi e3=>?_;refine tR (k:=i) (bY (c9 hi l5) (by decide)) (cb [63,65,216,236,47,95,233] rfl rfl (λp' h=>P ((n,.list ((p.flatMap (iF ts C S vl lb)++p'.flatMap λj=>cF ts S vl lb (eV C i) (eV C j)).map pv))::R2) h) (λ_ _ _=>cY) (by rw[Bj,cq];exact x) (λp' j r' e' ξ h x J' eI=>?_) λξ h x=>hJ _ _ (by rw[qu,uL];exact x));refine be (CD e') λmY hj e3'=>?_;have hj:=bY hj hi;refine e1a2 (row hi) λai ri mi=>?_;refine e1a2 (row hj) λaj rj mj=>?_;rw[qu,uL,<-bt] at eI;have lF:(p.flatMap (iF ts C S vl lb)++p'.flatMap λj=>cF ts S vl lb (eV C i) (eV C j)).length <100000:=by rw[aT];refine aR (dF (aI (mB λj hj=>Mz k lS (bY (e3 j hj) hi)) (nB 3240 (aI (bP (e1▸hi)) l5))) (aI (mB λj hj=>IK k lS (pG hi)) (nB 648 (aI (bP (mY▸hj)) l5)))) (by decide)
  generalize (p.flatMap (iF ts C S vl lb)++p'.flatMap λj=>cF ts S vl lb (eV C i) (eV C j))=F1 at x eI lF;have skip:¬(io ts S vl lb (eV C i)=io ts S vl lb (eV C j)/\lb (eV C i)≠lb (eV C j))->∀ρ,J' ρ h:=λz ρ=>eI _ _ (by rw[cF,if_neg z,cq];exact x);have fK:=(k.k _).mpr (.inl (pG hi));have cK:=(k.k _).mpr (.inl (pG hj));refine cz (F.at x (.tail _ Gv)) ri (cz (F.at x (.tail _ Gv)) rj (Ep (F.at x (.tail _ (Gu mi))) (F.at x (.tail _ (Gu mj))) (J_ _) (J_ _) (dx (λer=>?_) λer=>lO er (skip (λz=>er z.1) _))));refine cz (F.at x (.tail _ ur)) (Ak hi) (L2.tl.rd F x fK (cz (F.at x (.tail _ ur)) (Ak hj) (L2.tl.rd F x cK (jo (ij (λnr=>?_) λnr=>skip (λz=>z.2 nr) _)))));have B:=(F _ _ x).1;rw[cF,if_pos ⟨er,nr⟩] at eI;exact B.k rfl rfl (cz (F.at x (.tail _ ur)) (Ak hi) (il B (k.tm fK) (B.k rfl rfl (cz (F.at x (.tail _ ur)) (Ak hj) (il B (k.tm cK) (DZ (Zq k lS (pG hi) (pG hj) F x SK OG L2 lF (λξ h x=>eI _ _ x) rfl)))))))
end
section
variable {b:Nat->Nat}{ts:List Tm}{P:aM->Hp->Prop}{R:aM}{h:Hp}{vn t ln kv:Nat}{Q:PV}{Y:Hp->Prop}{C S K:List Nat}{vl lb:Nat->Nat}{ev:List (V×V)}
theorem Rq(k:Kn ts C K)(hS:iL ts C S)(F:Fm b ts P)(x:P ((vn,.dict ev)::R) h)(Dv:DI ev (bj S λt=>vv (vl t)))(L:Lb K lb ln R)(ht:t∈K)
  (q:∀h' dT nv,P ((vn,.dict dT)::R) h'->DI dT (bj S λa=>vv (if lb a=lb t then nv else vl a))->Q .none h'):Cl 239 [.ref (b 0),.ref vn,.ref ln,iv t,vv kv] Q Y h:=by
 have SK:∀{t},t∈S->t∈K:=λht=>(k.k _).mpr ((hS.m _).mp ht).1;refine e1a2 L λel gl Dl=>?_;refine ba ?_;show kC _ _ _ _ _ _ (.ref vn) h;refine Ms F x (.head _) Dv λks OH _=>⟨F.lk x,iJ iv (λj=>lb j=lb t) (bM (F.at x (.head _):)) (λj hj acc J q1 q0=>hG (h:=h.lock (aa vn)) (F.at x (.tail _ gl):) Dl (eF (SK ((OH j).mp hj))) (hG (h:=h.lock (aa vn)) (F.at x (.tail _ gl):) Dl (eF ht) (ff (dx q1 q0)))) ?_⟩;show cj _ _ ((h.lock (aa vn)).lock ao);rw[H7 (F.lk x)];have mL:∀j,j∈ks.filter (λj=>decide (lb j=lb t))↔j∈S/\lb j=lb t:=λj=>by rw[cW,OH,decide_eq_true_iff]
 generalize ks.filter (λj=>decide (lb j=lb t))=l at mL;refine cH F x λsm h x=>zi F x (.head _) (λj hj=>k.tm (SK ((mL j).mp hj).1)) λnm h x=>?_;have mN:∀j∈nL ts l,j∈K/\(aF ts j).op=195:=λj hj=>by refine aC (cW.mp hj) λa e=>?_;exact⟨SK ((mL j).mp a).1,of_decide_eq_true e⟩
 generalize nL ts l=N at x mN;obtain ⟨nv,n0,n1⟩:∃nv,(N=[]->nv=kv)/\∀j r,N=j::r->tm ts j=aa (aF ts j)/\(aF ts j).data=vv nv:=by
  cases N with
  |nil=>exact⟨kv,λ_=>rfl,λ_ _ h=>nomatch h⟩
  |cons j r=>refine aC (mN j (.head _)) λh1 h2=>?_;refine e1a1 (k.num h1 h2) λm e=>?_;exact⟨m,λh=>(nomatch h),λj' r' h=>by injection h with h _;rw[<-h];exact⟨k.tm h1,e⟩⟩
 refine bT (F.at x (.tail _ (.head _))) (cb [63,79,22,89] rfl rfl (λp h=>∃dT,P ([(nm,.list (N.map iv)),(sm,.list (l.map iv))]++(vn,.dict dT)::R) h/\DI dT (bj S λa=>vv (if a∈p then nv else vl a))) (λ_ _ yy=>e1a2 yy λ_ x _=>bM (F.at x (.tail _ (.head _)))) ⟨ev,x,Dv.cg λa _=>congrArg vv (if_neg fF).symm⟩ (λp j r e ξ h yy=>e1a2 yy λdT x D J hJ=>?_) λξ h yy=>e1a2 yy λdT x D=>q h dT nv (F.dr (F.dr x)) (D.cg λa ha=>congrArg vv (mJ ((mL a).trans (and_iff_right ha)))));refine aC ((mL j).mp (by rw[e];exact aX (.head _))) λjS jl=>?_;have D':DI (bB dT (iv j) (vv nv)) (bj S λa=>vv (if a∈p++[j] then nv else vl a)):=D.pt jS (k.lt j (SK jS)) (congrArg vv (if_pos (aX (.head _)))) λa _ ne=>congrArg vv (mJ (by rw[bx,aZ];exact⟨λz=>z.resolve_right ne,.inl⟩));refine cH F x λem h x=>pj (F.at x (.tail _ (.head _))) (F.at x (.head _)) (jh _) (λz=>?_) λz=>?_
 ·obtain ⟨j0,r0,eN⟩:∃j0 r0,N=j0::r0:=by
   cases N with
   |nil=>exact absurd rfl z
   |cons a r=>exact⟨a,r,rfl⟩
  refine aC (n1 j0 r0 eN) λt0 d0=>?_;have B:=(F _ _ x).1;refine B.k rfl rfl (cz (v:=iv j0) (F.at x (.tail _ (.head _))) (by rw[eN];rfl) (u8 B t0 ?_));rw[d0];exact tI [_,_,_] F x (D.ko _) D.lim λh x=>hJ _ _ ⟨_,F.dr x,D'⟩
 ·rw[<-n0 (pg.mp z)];exact tI [_,_,_] F x (D.ko _) D.lim λh x=>hJ _ _ ⟨_,F.dr x,D'⟩
end
structure jt(ts:List Tm)(C K S:List Nat)(p:PS)(lb:Nat->Nat):Prop where
 k:Kn ts C K
 S:iL ts C S
 e:∀a∈K,∀a'∈K,(rt p a=rt p a'↔lb a=lb a')
 so:∀a∈K,∀a'∈K,rt p a=rt p a'->(aF ts a).sort=(aF ts a').sort
section
variable {ts:List Tm}{C K S:List Nat}{p:PS}{vl lb:Nat->Nat}
theorem Uh:∀{l:List Nat},l.Pairwise (· < ·)->t∈l->P t=ah->l.find? P=aa y->y<=t:=by
 intro l;induction l with
 |nil=>exact nofun
 |cons x l ih=>
  intro hp ht pt e;rw[rU] at hp;rw[uz] at e;cases q:P x with
  |true=>rw[q] at e;rw[<-cP e];exact(a_.mp ht).elim (λz=>jD z.symm) λz=>bP (hp.1 t z)
  |false=>rw[q] at e;refine(a_.mp ht).elim (λz=>?_) λz=>ih hp.2 z pt e;rw[<-z,pt] at q;exact zD q
theorem Q_:∀{l l':List Nat},(a,a')∈l.zip l'->(a',a)∈l'.zip l:=by
 intro l;induction l with
 |nil=>exact nofun
 |cons x l ih=>
  intro z26';cases z26' with
  |nil=>exact nofun
  |cons y l'=>intro h;exact(a_.mp h).elim (λz=>by injection z with h1 h2;rw[h1,h2];exact .head _) λz=>.tail _ (ih z)
theorem JX(h:y∈l2 ts C S vl lb):∃f cc,f∈C/\cc∈C/\io ts S vl lb f=io ts S vl lb cc/\lb f≠lb cc/\∃q∈(ar ts f).zip (ar ts cc),lb q.1≠lb q.2/\∃x∈S,∃x'∈S,lb x=lb q.1/\lb x'=lb q.2/\y=(min x x',max x x'):=by
 refine e1a2 (gI.mp h) λi hi h=>?_;refine e1a2 (gI.mp h) λj hj h=>?_;have hi:=oA.mp hi;have hj:=bY (oA.mp hj) hi;unfold cF at h;split at h
 ·rename_i z;refine e1a2 (gI.mp h) λq hq h=>?_;unfold lh at h;split at h
  ·exact zE h
  ·rename_i w;refine e1a2 (gI.mp h) λx hx h=>?_;refine e1a2 (bz.mp h) λx' iZ h=>?_;refine aC (cW.mp hx) λa1 a2=>?_;refine aC (cW.mp iZ) λb1 b2=>?_;exact⟨_,_,pG hi,pG hj,z.1,z.2,q,hq,w,x,a1,x',b1,of_decide_eq_true a2,of_decide_eq_true b2,h.symm⟩
 ·exact zE h
theorem aag(hf:f∈C)(hc:cc∈C)(er:io ts S vl lb f=io ts S vl lb cc)(nr:lb f≠lb cc)(hz:(a,a')∈(ar ts f).zip (ar ts cc))(ne:lb a≠lb a')(hx:x∈S)(iZ:x'∈S)(e:lb x=lb a)(e':lb x'=lb a'):(min x x',max x x')∈l2 ts C S vl lb:=by
 have key:∀{i j a a' x x':Nat},j<i->i<C.length->io ts S vl lb (eV C i)=io ts S vl lb (eV C j)->lb (eV C i)≠lb (eV C j)->(a,a')∈(ar ts (eV C i)).zip (ar ts (eV C j))->lb a≠lb a'->x∈S->x'∈S->lb x=lb a->lb x'=lb a'->(min x x',max x x')∈l2 ts C S vl lb:=λhji hi er nr hz ne hx iZ e e'=>
  gI.mpr ⟨_,oA.mpr hi,gI.mpr ⟨_,oA.mpr hji,by rw[cF,if_pos ⟨er,nr⟩];refine gI.mpr ⟨_,hz,?_⟩;rw[lh,if_neg ne];exact gI.mpr ⟨_,cW.mpr ⟨hx,decide_eq_true e⟩,bz.mpr ⟨_,cW.mpr ⟨iZ,decide_eq_true e'⟩,rfl⟩⟩⟩⟩
 refine e1a1 (adm.mp hf) λi hi=>?_;refine e1a1 (adm.mp hc) λj hj=>?_;have li:=(i8.mp hi).1;have lj:=(i8.mp hj).1;have ei:=cP (hi.symm.trans (yL li));have ej:=cP (hj.symm.trans (yL lj));rw[ei,ej] at er nr hz;rcases QC i j with hh|hh|hh
 ·rw[Nat.min_comm,Nat.max_comm];exact key hh lj er.symm nr.symm (Q_ hz) ne.symm iZ hx e' e
 ·rw[hh] at nr;exact absurd rfl nr
 ·exact key hh li er nr hz ne hx iZ e e'
variable (x:jt ts C K S p lb)
include x
theorem jt.sk(ht:t∈S):t∈K:=(x.k.k t).mpr ((x.S.m t).mp ht).1
theorem jt.s_l(h0:fN p S vl S=[])(a:Nat)(ha:a∈S)(a':Nat)(cA:a'∈S)(e:lb a=lb a'):vl a=vl a':=by have v:∀t∈S,vl (dX p S t)=vl t:=λt ht=>qh λw=>si.mp (pg.mp h0) t ht (decide_eq_true w);rw[<-v a ha,<-v a' cA,Ss ((x.e a (x.sk ha) a' (x.sk cA)).mpr e)]
theorem jt.nil:fN p S vl S=[]↔l1 S vl lb S=[]:=by
 constructor
 ·intro h0;refine HG.mpr λy hy=>?_;refine e1a2 (gI.mp hy) λa ha hy=>?_;refine e1a2 (bz.mp hy) λa' cA _=>?_;refine aC (cW.mp cA) λcA e=>?_;have e:=of_decide_eq_true e;exact e.2.2 (x.s_l h0 a ha a' cA e.2.1)
 ·intro h0;refine pg.mpr (si.mpr λt ht w=>?_);refine be (lV (p:=p) ht) λ_ l2 l3=>?_;exact of_decide_eq_true w (vi h0 _ l2 t ht ((x.e _ (x.sk l2) t (x.sk ht)).mp l3))
theorem jt.row(one:∀a∈S,∀a'∈S,lb a=lb a'->vl a=vl a')(hf:f∈C)(hc:cc∈C):io ts S vl lb f=io ts S vl lb cc↔hd (aF ts f)=hd (aF ts cc)/\ck ts p S vl f=ck ts p S vl cc:=by
 have OI:∀a∈S,vl (dX p S a)=vl a:=λa ha=>by refine be (lV (p:=p) ha) λ_ l2 l3=>?_;exact one _ l2 a ha ((x.e _ (x.sk l2) a (x.sk ha)).mp l3)
 have Al:∀{n n':Nat} {l l':List V},n≠n'->V.tup (.str n::l)≠V.tup (.str n'::l'):=λh e=>by injection e with e;injection e with e;exact h e
 have OJ:∀{n a a':Nat} {l:List V},V.tup (.str n::iv a::l)=V.tup (.str n::iv a'::l)->a=a':=λe=>by injection e with _ e;injection e with e;exact ji e
 have pt:∀a∈K,∀a'∈K,(rk ts S vl lb a=rk ts S vl lb a'↔ak ts p S vl a=ak ts p S vl a'):=by
  intro a ha a' cA;by_cases h1:a∈S <;> by_cases h2:a'∈S
  ·rw[vj h1,vj h2,nE h1,nE h2,OI a h1,OI a' h2]
  ·rw[vj h1,uT h2,nE h1,nQ h2];exact⟨λe=>absurd e (Al (by decide)),λe=>absurd e (Al (by decide))⟩
  ·rw[uT h1,vj h2,nQ h1,nE h2];exact⟨λe=>absurd e (Al (by decide)),λe=>absurd e (Al (by decide))⟩
  ·rw[uT h1,uT h2,nQ h1,nQ h2];exact⟨λe=>by rw[(x.e a ha a' cA).mpr (OJ e)],λe=>by rw[(x.e a ha a' cA).mp (OJ e)]⟩
 have mp:∀{l l':List Nat},(∀a∈l,a∈K)->(∀a∈l',a∈K)->(l.map (rk ts S vl lb)=l'.map (rk ts S vl lb)↔l.map (ak ts p S vl)=l'.map (ak ts p S vl)):=by
  intro l;induction l with
  |nil=>intro l' _ _;cases l' <;> exact⟨λe=>(by first|rfl|cases e),λe=>(by first|rfl|cases e)⟩
  |cons a l ih=>
   intro l' h h';cases l' with
   |nil=>exact⟨λe=>(by cases e),λe=>by cases e⟩
   |cons a' l'=>rw[bW,bW,bW,bW,HD,HD,pt a (h _ (.head _)) a' (h' _ (.head _)),ih (λa ha=>h a (.tail _ ha)) λa ha=>h' a (.tail _ ha)]
 have aK:∀f∈C,∀a∈ar ts f,a∈K:=λf hf a ha=>(x.k.k a).mpr (.inr ⟨f,hf,ha⟩);delta io ck;rw[HD,mp (aK f hf) (aK cc hc)];exact⟨λh=>⟨ji h.1,by rw[h.2]⟩,λh=>⟨by rw[h.1],sV h.2⟩⟩
theorem jt.aej(hy:y∈fN p S vl S):(lo y,hi y)∈l1 S vl lb S:=by refine e1a2 (bz.mp hy) λt ht e=>?_;refine aC (cW.mp ht) λtS hv=>?_;have hv:=of_decide_eq_true hv;refine be (lV (p:=p) tS) λf l2 l3=>?_;have le:dX p S t<=t:=Uh x.S.lt tS (decide_eq_true rfl) f;rw[<-e];show(min (dX p S t) t,max (dX p S t) t)∈_;rw[o7 le,qy le];exact gI.mpr ⟨_,l2,bz.mpr ⟨t,cW.mpr ⟨tS,decide_eq_true ⟨Be le λz=>hv (congrArg vl z),(x.e _ (x.sk l2) t (x.sk tS)).mp l3,hv⟩⟩,rfl⟩⟩
theorem jt.aek(h0:fN p S vl S=[])(hy:qE ts C S p vl y):(lo y,hi y)∈gp ts C S vl lb:=by
 (refine e2a6 hy λf cc hf hc hh ek er aD=>?_;refine e2a5 aD λa a' hz aS m_ ar e=>?_)
 have z0:=x.nil.mp h0;refine be (lV (p:=p) aS) λ_ l2 l3=>?_;refine be (lV (p:=p) m_) λ_ wT Ai=>?_;have cK:∀{f},f∈C->f∈K:=λh=>(x.k.k _).mpr (.inl h);rw[e,gp,if_pos z0];exact aag hf hc ((x.row (vi z0) hf hc).mpr ⟨hh,ek⟩) (λe=>er ((x.e f (cK hf) cc (cK hc)).mpr e)) hz (λe=>ar ((x.e a (x.sk aS) a' (x.sk m_)).mpr e)) l2 wT ((x.e _ (x.sk l2) a (x.sk aS)).mp l3) ((x.e _ (x.sk wT) a' (x.sk m_)).mp Ai)
theorem jt.aes(hy:Fp ts C S p vl (aa y)):(lo y,hi y)∈gp ts C S vl lb:=by
 rcases hy with hy|⟨h0,hy⟩
 ·have:=x.aej hy;rw[gp,if_neg λe=>by rw[e] at this;exact zE this];exact this
 ·exact x.aek h0 hy
theorem jt.aet(h:Fp ts C S p vl ao):gp ts C S vl lb=[]:=by have z0:=x.nil.mp h.1;rw[gp,if_pos z0];refine HG.mpr λy hy=>?_;refine e2a5 (JX hy) λf cc hf hc er nr _=>?_;refine aC ((x.row (vi z0) hf hc).mp er) λhh ek=>?_;exact nr ((x.e f ((x.k.k f).mpr (.inl hf)) cc ((x.k.k cc).mpr (.inl hc))).mp (h.2 f hf cc hc hh ek))
theorem jt.aeu(P:IY ts C S p vl G):∀y∈G,(lo y,hi y)∈gp ts C S vl lb:=by
 intro y hy;by_cases h0:fN p S vl S=[]
 ·exact x.aek h0 ((P.b h0).1 y hy)
 ·rw[P.a h0] at hy;rw[gp,if_neg λe=>h0 (x.nil.mpr e)];exact x.aej hy
theorem jt.adW(hy:y∈gp ts C S vl lb):y.1∈S/\y.2∈S/\y.1≠y.2/\(aF ts y.1).sort=(aF ts y.2).sort:=by
 delta gp at hy;split at hy
 ·rename_i z0
  (refine e2a5 (JX hy) λf cc hf hc er nr aD=>?_;refine e1a3 aD λq hz ar jU=>?_;refine e1a2 jU λt ht FQ=>?_;refine e1a4 FQ λt' gb e e' ey=>?_)
  refine aC ((x.row (vi z0) hf hc).mp er) λhh _=>?_;refine aC (Ba (a:=q.1) (b:=q.2) hz) λha cA=>?_;have aK:=(x.k.k q.1).mpr (.inr ⟨f,hf,ha⟩);have qe:=(x.k.k q.2).mpr (.inr ⟨cc,hc,cA⟩);have s1:=x.so t (x.sk ht) q.1 aK ((x.e t (x.sk ht) q.1 aK).mpr e);have s2:=x.so t' (x.sk gb) q.2 qe ((x.e t' (x.sk gb) q.2 qe).mpr e');have s3:(aF ts q.1).sort=(aF ts q.2).sort:=by
   (refine be (x.k.w.cl f hf) λ_ _ aD=>?_;refine e2a4 aD λi so F1 h1 h2 _=>?_)
   (refine be (x.k.w.cl cc hc) λ_ _ aD=>?_;refine e2a4 aD λi' rP F2 Ah Gw _=>?_)
   rw[mS h1,mS Ah] at hh;rw[<-hh] at F2;rw[(F1.uniq F2).1] at h2;exact yA (h2.trans Gw.symm) q hz
  have ne:t≠t':=λz=>ar (by rw[<-e,<-e',z]);have so:=s1.trans (s3.trans s2.symm);rw[ey];rcases A8 t t' with g|g
  ·rw[o7 g,qy g];exact⟨ht,gb,ne,so⟩
  ·rw[xg g,Bm g];exact⟨gb,ht,ne.symm,so.symm⟩
 ·refine e1a2 (gI.mp hy) λa ha hy=>?_;refine e1a2 (bz.mp hy) λa' cA ey=>?_;refine aC (cW.mp cA) λcA e=>?_;have e:=of_decide_eq_true e;rw[<-ey];exact⟨ha,cA,fE e.1,x.so a (x.sk ha) a' (x.sk cA) ((x.e a (x.sk ha) a' (x.sk cA)).mpr e.2.1)⟩
end
def Ei(es:List Tm):Prop:=es.Nodup/\∀e∈es,∃a b,a<18/\b<18/\e=⟨59,[a,b],0,iv 0⟩
def Gr(tb ts:List Tm):Prop:=∃es,ts=tb++es/\Ei es
def Ge(ts ts':List Tm):Prop:=∃es,ts'=ts++es
section
variable {z u fa k x y:Nat}{c b s:Nat->Nat}{h:Hp}{Q:PV}{Y:Hp->Prop}{ts ts' tb es:List Tm}{p:PS}{X:SX}{R:aM}{F:List (Nat×Nat)}{ρ:Env}{t:Tm}
theorem Ei.len(x:Ei es):es.length<=324:=by
 have:(es.map λe=>18*e.args.headD 0+e.args.tail.headD 0).length<=324:=by
  refine g_ 324 _ ?_ λn hn=>?_
  ·refine Bf.mpr (x.1.imp_of_mem λ{e e'} he Gx bF h=>bF ?_);refine e2a3 (x.2 e he) λa b h1 h2 e1=>?_;refine e2a3 (x.2 e' Gx) λa' b' Ah Gw e2=>?_;rw[e1,e2] at h;have h:18*a+b=18*a'+b':=h;have eb:b=b':=by have z:(18*a+b) % 18=(18*a'+b') % 18:=congrArg (· % 18) h;rwa [HA,HA,Bh h2,Bh Gw] at z
   rw[eb] at h;rw[e1,e2,Nat.eq_of_mul_eq_mul_left (by decide) (Nat.add_right_cancel h),eb]
  ·refine e1a2 (bz.mp hn) λe he e0=>?_;refine e2a3 (x.2 e he) λa b h1 h2 e1=>?_;rw[<-e0,e1];exact c9 (ut h2 _) (h_ 18 h1)
 rw[aP] at this;exact this
theorem Gr.len(g:Gr tb ts)(l:tb.length<100):ts.length<1000:=by refine e1a2 g λes e o=>?_;rw[e,aT];exact c9 (xq l o.len) (by decide)
theorem Ge.refl:Ge ts ts:=⟨[],(cq _).symm⟩
theorem Ge.trans{OK:List Tm}(a:Ge ts ts')(b:Ge ts' OK):Ge ts OK:=e1a1 a λe h=>e1a1 b λe' h'=>⟨e++e',by rw[h',h,bt]⟩
theorem Wk{es:List Tm}:∀{ts:List Tm} {n k:Nat},adv n ts t=aa k->adv n (ts++es) t=aa k:=by
 intro ts;induction ts with
 |nil=>intro _ _ h;exact nomatch h
 |cons x r ih=>
  intro n k h;rw[vH] at h;show(if x=t then aa n else adv (n+1) (r++es) t)=aa k;split at h
  ·rename_i z;rw[if_pos z];exact h
  ·rename_i z;rw[if_neg z];exact ih h
theorem WL:∀{ts:List Tm} {n:Nat},adv n ts t=ao->adv n (ts++[t]) t=aa (n+ts.length):=by
 intro ts;induction ts with
 |nil=>intro n _;exact if_pos rfl
 |cons x r ih=>
  intro n h;rw[vH] at h;show(if x=t then aa n else adv (n+1) (r++[t]) t)=_;split at h
  ·exact zB h
  ·rename_i z;rw[if_neg z,ih h,e_,hZ,dB 1]
theorem Ge.adv(g:Ge ts ts')(h:Mine.adv 1 ts t=aa k):Mine.adv 1 ts' t=aa k:=by refine e1a1 g λes e=>?_;rw[e];exact Wk h
theorem IS(g:Gr tb ts)(hx:x<18)(hy:y<18)(e:gf ts (fH x y)=(k,ts')):Gr tb ts'/\Ge ts ts'/\Mine.adv 1 ts' (fH x y)=aa k:=by
 delta gf at e;cases f:Mine.adv 1 ts (fH x y) with
 |some j=>
  rw[f] at e;injection e with e1 e2
  rw[<-e1,<-e2];exact⟨g,.refl,f⟩
 |none=>
  rw[f] at e;injection e with e1 e2
  refine e1a2 g λes eg o=>?_;have hn:=Jf f;rw[<-e1,<-e2];refine⟨⟨es++[fH x y],by rw[eg,bt],?_,λa ha=>?_⟩,⟨_,rfl⟩,(WL f).trans (congrArg aa (dB _ _))⟩
  ·rw[fW];exact⟨o.1,dK.mpr ⟨fF,jG⟩,λa ha b hb z=>hn (by rw[eg,<-aZ.mp hb,<-z];exact aX ha)⟩
  ·exact(bx.mp ha).elim (o.2 a) λz=>⟨min x y,max x y,aR (xm _ _) hx,Nat.max_lt.mpr ⟨hx,hy⟩,aZ.mp z⟩
theorem LR.eqs(l:LR z u c b s p X ts R h)(g:Gr tb ts)(oz:tb.length<100)(hF:(fa,.list (F.map pv))∈R)(lF:F.length<aG)(kF:∀y∈F,∃T T',tm ts y.1=aa T/\tm ts y.2=aa T'/\T'.sort=T.sort/\y.1≠y.2/\y.1<18/\y.2<18)(r1:ρ 63=aa (.ref (b 0)))
  (q:∀h' n ts' (N:List Nat),LR z u c b s p X ts' ((n,.list (N.map iv))::R) h'->Gr tb ts'->Ge ts ts'->(∀y∈F,∃m∈N,Mine.adv 1 ts' (fH y.1 y.2)=aa m)->Q (.ref n) h'):
  kC ah [57,58] (vE Cl (.l (.bool ah)) nX) (vE Cl (.m (.v 63) 106 (.b .k (.v 57) (.b .k (.v 58) (.l .adt)))) nX) ρ Q (.ref fa) h:=by
 refine bT (l.at hF) (DH (λp acc h=>∃ts' N,acc=N.map iv/\LR z u c b s _ X ts' R h/\Gr tb ts'/\Ge ts ts'/\∀y∈p,∃m∈N,Mine.adv 1 ts' (fH y.1 y.2)=aa m) (λ_ _ _ yy=>e2a3 yy λ_ _ _ l _=>bM (l.at hF)) ⟨ts,[],rfl,l,g,.refl,λ_ z=>nomatch z⟩ (λp y r e acc h ⟨ts',N,ea,l,g,ge,kN⟩ J hJ=>?_) λacc h yy=>e2a5 yy λts' N ea l g ge kN=>?_)
 ·refine e2a6 (kF y (by rw[e];exact aX (.head _))) λT T' t1 t2 so ne l1 l2=>?_;show oG (ρ 63) _;rw[r1];refine e1a1 ge λes ee=>?_;refine e1a2 l.bk λG v kf=>?_;refine l.bh.k rfl rfl (IL v (by rw[ee];exact nD t1) (by rw[ee];exact nD t2) so ne (g.len oz) λh v=>?_);have l:=kf _ _ _ v;refine be (IS g l1 l2 rfl) λm1 m2 m3=>?_;exact hJ _ _ ⟨_,N++[_],by rw[ea,bA];rfl,l,m1,.trans ⟨es,ee⟩ m2,λw hw=>(bx.mp hw).elim (λz=>(kN w z).imp λm q=>⟨b8 q.1,m2.adv q.2⟩) λz=>⟨_,aX (.head _),by rw[aZ.mp z];exact m3⟩⟩
 ·rw[ea];exact fe l λn h l=>q h n ts' N l g ge kN
end
structure RD where
 u:Nat
 ts:List Tm
 M:List (Nat×Nat)
 p:PS
 X:SX
 vl:Nat->Nat
 T:List ((Nat×Nat)×Nat)
 ap:List (Nat×Nat)
 ev:List (V×V)
 mg:Nat
noncomputable def rc(vn sn an:Nat)(D:RD)(R:aM):aM:=[(an,.list (D.ap.map pv)),(sn,.list ((D.T.map (·.2)).map iv)),(vn,.dict D.ev),(D.mg,.list (D.M.map pv))]++R
structure Rn(tb:List Tm)(C K S E:List Nat)(U0:Nat->List Nat)(u0 n:Nat)(D:RD):Prop where
 w:Wb D.ts C K S E U0 D.M D.p D.X
 xt:D.X.T=iU D.T
 g:Gr tb D.ts
 tl:D.T.length=n
 tn:(D.T.map (·.1)).Nodup
 t:∀x∈D.T,x.1.1<x.1.2/\x.1.1∈S/\x.1.2∈S/\adv 1 D.ts (fH x.1.1 x.1.2)=aa x.2/\(x.1∈D.ap\/(Cg D.ts C D.M x.1.1 x.1.2/\D.vl x.1.1=D.vl x.1.2))
 a:∀y∈D.ap,y.1∈S/\y.2∈S
 al:D.ap.length<=n
 ml:D.M.length<=2+n
 Dv:DI D.ev (bj S λt=>vv (D.vl t))
 bu:D.u<=u0+n
section
variable {tb ts:List Tm}{C K S E H:List Nat}{U0:Nat->List Nat}{u0 n:Nat}{D D':RD}{p:PS}{X:SX}{M:List (Nat×Nat)}{lb vl:Nat->Nat}{c b s A:Nat->Nat}{P:aM->Hp->Prop}{y:Nat×Nat}
theorem Zl{a b a' b':Nat}(h:14*(a-3)+(b-4)=14*(a'-3)+(b'-4))(ha:3<=a)(hb:4<=b)(Am:b<18)(cA:3<=a')(qa:4<=b')(OL:b'<18):a=a'/\b=b':=by have l:∀{b},4<=b->b<18->b-4<14:=λg h=>HN g h;have d:=congrArg (· / 14) h;have m:=congrArg (· % 14) h;simp only [acR (show 0<14 by decide),HA,Qo (l hb Am),Qo (l qa OL),Bh (l hb Am),Bh (l qa OL)] at d m;have d:a-3=a'-3:=d;exact⟨by rw[<-sy ha,d,sy cA],by rw[<-sy hb,m,sy qa]⟩
theorem Rn.adM(r:Rn tb C K S E U0 u0 n D):n<=196:=by
 rw[<-r.tl];have hS:∀t∈S,3<=t/\t<18:=λt ht=>have:=r.w.k.w.adU ((r.w.k.k t).mp (r.w.sk t ht));⟨this.ge,this.lt⟩;have f:∀k∈D.T.map (·.1),3<=k.1/\k.1<17/\4<=k.2/\k.2<18:=λk hk=>e1a2 (bz.mp hk) λx hx e=>f9 (r.t x hx) λa1 a2 a3 _=>by rw[e] at a1 a2 a3;exact⟨(hS _ a2).1,c9 a1 (nz (hS _ a3).2),aR (hS _ a2).1 a1,(hS _ a3).2⟩
 have:((D.T.map (·.1)).map λk=>14*(k.1-3)+(k.2-4)).length<=196:=by
  refine g_ 196 _ ?_ λm hm=>?_
  ·refine Bf.mpr (r.tn.imp_of_mem λ{k k'} hk fh bF h=>bF ?_);have q:=Zl h (f k hk).1 (f k hk).2.2.1 (f k hk).2.2.2 (f k' fh).1 (f k' fh).2.2.1 (f k' fh).2.2.2;exact Bi q.1 q.2
  ·refine e1a2 (bz.mp hm) λk hk e=>?_;rw[<-e];exact c9 (ut (HN (f k hk).2.2.1 (f k hk).2.2.2:k.2-4<14) _) (by rw[<-GJ];exact h_ 14 (HN (f k hk).1 (f k hk).2.1:k.1-3<14))
 rw[aP,aP] at this;exact this
theorem Wb.lnk(w:Wb ts C K S E U0 M p X)(f:∀a∈K,∀a'∈K,(lb a=lb a'↔Cg ts C M a a')):jt ts C K S p lb:=
 ⟨w.k,w.S,λa ha a' cA=>(w.w.cg ha cA).trans (f a ha a' cA).symm,λa ha a' cA e=>Cg.sort w.k.w w.o ((w.w.cg ha cA).mp e)⟩
structure xY(ts:List Tm)(S:List Nat)(vl lb:Nat->Nat)(a b:Nat):Prop where
 lt:a<b
 aS:a∈S
 bS:b∈S
 so:(aF ts a).sort=(aF ts b).sort
 x:(lb a=lb b/\vl a≠vl b)\/(lb a≠lb b/\vl a=vl b)
theorem jt.ord(L:jt ts C K S p lb)(x:Rd ts C K S H p c b s A P)(hy:Fp ts C S p vl (aa y)):xY ts S vl lb (lo y) (hi y):=by
 refine iX (hy.ok x) λy1 y2 y3 y4 y5=>?_;have e1:=L.e y.1 (L.sk y1) y.2 (L.sk y2);have y5:(lb y.1=lb y.2/\vl y.1≠vl y.2)\/(lb y.1≠lb y.2/\vl y.1=vl y.2):=y5.imp (λh=>⟨e1.mp h.1,h.2⟩) λh=>⟨λw=>h.1 (e1.mpr w),h.2⟩;rcases A8 y.1 y.2 with g|g
 ·rw[lo,hi,o7 g,qy g];exact⟨Be g y3,y1,y2,y4,y5⟩
 ·rw[lo,hi,xg g,Bm g];exact⟨Be g y3.symm,y2,y1,y4.symm,y5.imp (λh=>⟨h.1.symm,h.2.symm⟩) λh=>⟨λw=>h.1 w.symm,h.2.symm⟩⟩
theorem Rn.new(r:Rn tb C K S E U0 u0 n D)(f:∀a∈K,∀a'∈K,(lb a=lb a'↔Cg D.ts C D.M a a'))(An:∀y∈D.ap,lb y.1≠lb y.2/\D.vl y.1≠D.vl y.2){a b:Nat}(o:xY D.ts S D.vl lb a b):(a,b)∉D.T.map (·.1):=λz=>by
 refine e1a2 (bz.mp z) λq hq e=>?_;refine iX (r.t q hq) λ_ q2 q3 _ q5=>?_;rw[e] at q2 q3 q5;rcases q5 with q5|⟨q5,q6⟩
 ·refine aC (An _ q5) λh1 h2=>?_;exact o.x.elim (λw=>h1 w.1) λw=>h2 w.2
 ·have:=(f _ (r.w.sk _ q2) _ (r.w.sk _ q3)).mpr q5;exact o.x.elim (λw=>w.2 q6) λw=>w.1 this
theorem Ty{A B:Tm}{k:Nat}(h:adv 1 ts A=aa k)(h':adv 1 ts B=aa k):A=B:=cP ((yi h).2.symm.trans (yi h').2)
theorem Kv{A:Tm}{k:Nat}(h:adv 1 ts A=aa k):tm ts k=aa A:=by refine aC (yi h) λh1 h2=>?_;delta tm;rw[if_neg (A5 h1)];exact h2
theorem Rn.step{a b' me:Nat}(r:Rn tb C K S E U0 u0 n D)(w:Wb D'.ts C K S E U0 D'.M D'.p D'.X)(xt:D'.X.T=iU D'.T)(eT:D'.T=D.T++[((a,b'),me)])(g:Gr tb D'.ts)(ge:Ge D.ts D'.ts)(hn:(a,b')∉D.T.map (·.1))(d_:a<b'/\a∈S/\b'∈S)(m3:adv 1 D'.ts (fH a b')=aa me)
  (hc:∀x y,Cg D.ts C D.M x y->Cg D'.ts C D'.M x y) (hv:∀x∈S,∀y∈S,Cg D.ts C D.M x y->D.vl x=D.vl y->D'.vl x=D'.vl y) (h1:∀y∈D.ap,y∈D'.ap) (h2:∀y∈D'.ap,y∈D.ap\/y=(a,b')) (h3:D'.ap.length<=D.ap.length+1) (h4:D'.M.length<=D.M.length+1)
  (h5:(a,b')∈D'.ap\/(Cg D'.ts C D'.M a b'/\D'.vl a=D'.vl b')) (Dv:DI D'.ev (bj S λt=>vv (D'.vl t))) (bu:D'.u<=D.u+1):Rn tb C K S E U0 u0 (n+1) D':=by
 refine⟨w,xt,g,by rw[eT,aT,r.tl];rfl,?_,λx hx=>?_,λy hy=>?_,aI h3 (dw r.al),aI h4 (dw r.ml),Dv,aI bu (dw r.bu)⟩
 ·rw[eT,bA,fW];exact⟨r.tn,dK.mpr ⟨fF,jG⟩,λx hx y hy e=>hn (by rw[e,aZ.mp hy] at hx;exact hx)⟩
 ·rw[eT] at hx;rcases bx.mp hx with hx|hx
  ·refine iX (r.t x hx) λq1 q2 q3 q4 q5=>?_;exact⟨q1,q2,q3,ge.adv q4,q5.imp (h1 _) λq5=>⟨hc _ _ q5.1,hv _ q2 _ q3 q5.1 q5.2⟩⟩
  ·rw[aZ.mp hx];exact⟨d_.1,d_.2.1,d_.2.2,m3,h5⟩
 ·exact(h2 y hy).elim (r.a y) λe=>e▸d_.2
theorem W0{α:Type}{g:α->V}{L:List α}{tup:Bool}{xs bs:List Nat}{tb:TS}{s:Option (Nat×O)}{Q:PX}{dH:Env}{h:Hp}(ls:List Nat){vs:List V}(e0:Mine.lk ls dH=aa vs)(ed:dj ls bs=ah){A:Type}(ns:List Nat)(vals:A->List V)(I:List α->A->Hp->Prop)(hs:∀p a h,I p a h->je s h)(a0:A)(e1:Mine.lk ns dH=aa (vals a0))(i0:I [] a0 h)
  (step:∀p x r,L=p++x::r->∀a ξ h,I p a h->∀J:Env->Hp->Prop,(∀a' aO h',Mine.lk ns aO=aa (vals a')->I (p++[x]) a' h'->J aO h')->js tup xs (g x) (bf ns (vals a) (bf ls vs ξ)) (λf_=>tb f_ (lq J Q) h) h)
  (fin:∀a ξ h,I L a h->Q .next (bf ns (vals a) (bf ls vs ξ)) h):mr tup xs bs tb s Q (L.map g) dH h:=by
 suffices ∀r p a ρ h,L=p++r->de bs dH ρ->Mine.lk ns ρ=aa (vals a)->I p a h->mr tup xs bs tb s Q (r.map g) ρ h from this L [] a0 dH h rfl .refl e1 i0
 intro r;induction r with
 |nil=>intro p a ρ h e o e1 i;rw[cq] at e;have:=fin a ρ h (e▸i);rw[vd e0 ed o,q7 (qW e1)] at this;exact⟨hs _ _ _ i,this⟩
 |cons x r ih=>intro p a ρ h e o e1 i;refine⟨hs _ _ _ i,?_⟩;have:=step p x r e a ρ h i (λaO h'=>de bs ρ aO->mr tup xs bs tb s Q (r.map g) aO h') λa' aO h' e' i' o'=>ih (p++[x]) a' aO h' (by rw[e,bt];rfl) (o.tr o') e' i';rw[vd e0 ed o,q7 (qW e1)] at this;exact this
end
noncomputable def rB:S:=BP (dW Jy)
noncomputable def rC:S:=dW (dW (dW (dW (dW (dW (dW (dW rB)))))))
section
variable {z u t n ll vn sn an cl kn kv u0 a b' me:Nat}{c b s:Nat->Nat}{h:Hp}{Q:PV}{Y:Hp->Prop}{R:aM}{ts tb:List Tm}{C K S E:List Nat}{U0:Nat->List Nat}{p:PS}{X:SX}{vl lb:Nat->Nat}{el:List (V×V)}{D:RD}
theorem Dd(l:LR z u c b s p X ts ((ll,.dict el)::rc vn sn an D R) h)(k:Kn ts C K)(hS:iL ts C S)(Dv:DI D.ev (bj S λt=>vv (vl t)))(Dl:DI el (bj K λt=>iv (lb t)))(ht:t∈K)
  (q:∀h' dT nv,LR z u c b s p X ts (rc vn sn an {D with ev:=dT} R) h'->DI dT (bj S λx=>vv (if lb x=lb t then nv else vl x))->Q .none h'):Cl 239 [.ref (b 0),.ref vn,.ref ll,iv t,vv kv] Q Y h:=
 Rq k hS LR.fm (l.perm (mf (l₁:=[_,_,_]))) Dv ⟨el,.head _,Dl⟩ ht λh' dT nv l Dw=>q h' dT nv ((l.perm (mf (l₁:=[_,_,_])).symm).sub (.cons _ (.refl _))) Dw
structure R3(tb:List Tm)(C K S E:List Nat)(U0:Nat->List Nat)(u0 n:Nat)(D:RD)(a b' me:Nat)(ts:List Tm)(X:SX)(lb:Nat->Nat)(el:List (V×V)):Prop where
 r:Rn tb C K S E U0 u0 n D
 w:Wb ts C K S E U0 D.M D.p X
 xt:X.T=iU (D.T++[((a,b'),me)])
 g:Gr tb ts
 ge:Ge D.ts ts
 hn:(a,b')∉D.T.map (·.1)
 o:xY D.ts S D.vl lb a b'
 m:adv 1 ts (fH a b')=aa me
 hk:∀t∈K,aF ts t=aF D.ts t
 f:∀x∈K,∀y∈K,(lb x=lb y↔Cg D.ts C D.M x y)
 Dl:DI el (bj K λt=>iv (lb t))
 l0:u0<500000
theorem R3.cg{M':List (Nat×Nat)}(x:R3 tb C K S E U0 u0 n D a b' me ts X lb el){y y':Nat}:Cg ts C M' y y'↔Cg D.ts C M' y y':=Cg.ag λt ht=>x.hk t ((x.w.k.k t).mpr (.inl ht))
noncomputable def RD.tl(D:RD)(ts:List Tm)(X:SX)(a b' me:Nat):RD:={D with ts:=ts,X:=X,T:=D.T++[((a,b'),me)]}
theorem R3.step(x:R3 tb C K S E U0 u0 n D a b' me ts X lb el){u:Nat}{M:List (Nat×Nat)}{p:PS}{vl:Nat->Nat}{ap:List (Nat×Nat)}{ev:List (V×V)}{mg:Nat}(w:Wb ts C K S E U0 M p X)(hc:∀x y,Cg D.ts C D.M x y->Cg ts C M x y)(hv:∀x∈S,∀y∈S,Cg D.ts C D.M x y->D.vl x=D.vl y->vl x=vl y)(h1:∀y∈D.ap,y∈ap)(h2:∀y∈ap,y∈D.ap\/y=(a,b'))(h3:ap.length<=D.ap.length+1)(h4:M.length<=D.M.length+1)
  (h5:(a,b')∈ap\/(Cg ts C M a b'/\vl a=vl b')) (Dv:DI ev (bj S λt=>vv (vl t))) (bu:u<=D.u+1):Rn tb C K S E U0 u0 (n+1) ⟨u,ts,M,p,X,vl,D.T++[((a,b'),me)],ap,ev,mg⟩:=
 x.r.step w x.xt rfl x.g x.ge x.hn ⟨x.o.lt,x.o.aS,x.o.bS⟩ x.m hc hv h1 h2 h3 h4 h5 Dv bu
theorem R3.set(x:R3 tb C K S E U0 u0 n D a b' me ts X lb el){t0 nv u:Nat}{dT:List (V×V)}(Dw:DI dT (bj S λx=>vv (if lb x=lb t0 then nv else D.vl x))){ap:List (Nat×Nat)}(h1:∀y∈D.ap,y∈ap)(h2:∀y∈ap,y∈D.ap\/y=(a,b'))(h3:ap.length<=D.ap.length+1)(h5:(a,b')∈ap\/(lb a=lb b'/\t0=a))(bu:u<=D.u+1):
  Rn tb C K S E U0 u0 (n+1) ⟨u,ts,D.M,D.p,X,λy=>if lb y=lb t0 then nv else D.vl y,D.T++[((a,b'),me)],ap,dT,D.mg⟩:=by
 have AK:=x.r.w.sk _ x.o.aS;have BK:=x.r.w.sk _ x.o.bS;refine x.step x.w (λx' y e=>x.cg.mpr e) (λx1 hx y hy e ev=>?_) h1 h2 h3 (gZ _) (h5.imp_right λz=>⟨x.cg.mpr ((x.f a AK b' BK).mp z.1),?_⟩) Dw bu
 ·rw[(x.f x1 (x.r.w.sk _ hx) y (x.r.w.sk _ hy)).mpr e,ev]
 ·rw[z.2,if_pos rfl,if_pos z.1.symm]
end
section
variable {z n ll vn sn an cl kn u0 a b' me:Nat}{c b s:Nat->Nat}{h:Hp}{R:aM}{ts tb:List Tm}{C K S E:List Nat}{U0:Nat->List Nat}{X:SX}{lb:Nat->Nat}{el:List (V×V)}{D:RD}{Q:PX}
theorem ZX(x:R3 tb C K S E U0 u0 n D a b' me ts X lb el)(l:LR z D.u c b s D.p X ts ((ll,.dict el)::rc vn sn an (D.tl ts X a b' me) R) h)(hC:(cl,.list (C.map iv))∈R)(hK:(kn,.list (K.map iv))∈R)
  (nx:∀D' aO h',lk [215] aO=aa [.ref D'.mg]->LR z D'.u c b s D'.p D'.X D'.ts (rc vn sn an D' R) h'->Rn tb C K S E U0 u0 (n+1) D'->Q .next aO h') (qt:∀ρ h,Q (.ret (.bool ah)) ρ h) (ξ:Env):
  vS Cl (dW (dW (dW rC))) (bf [187,63,225,65,214,79,118,193,216,57,58,248,215] [.ref z,.ref (b 0),.ref (c 0),.ref cl,.ref kn,.ref vn,.ref an,iv n,.ref ll,iv a,iv b',vv (100+n),.ref D.mg] ξ) Q h:=by
 have r:=x.r;have AK:=r.w.sk _ x.o.aS;have BK:=r.w.sk _ x.o.bS;have gl:=l.at (.head _);have adM:=r.adM;have lu:D.u<1000000:=aR r.bu (c9 (xq x.l0 adM) (by decide));refine hG gl x.Dl (eF AK) (hG gl x.Dl (eF BK) (ff (dx (λzz=>?_) λzz=>?_)))
 ·exact Dd l x.w.k x.w.S r.Dv x.Dl AK λh dT nv l Dw=>nx ⟨D.u,ts,D.M,D.p,X,λy=>if lb y=lb a then nv else D.vl y,D.T++[((a,b'),me)],D.ap,dT,D.mg⟩ _ _ rfl l (x.set Dw (λ_ h=>h) (λ_ h=>.inl h) (gZ _) (.inr ⟨zz,rfl⟩) (gZ _))
 have vab:D.vl a=D.vl b':=x.o.x.elim (λw=>absurd w.1 zz) (·.2);refine l.draw (m:=2) (by decide) (by decide) lu λh kd l _=>ff (b:=0) (dx (λzk=>?_) λzk=>?_)
 ·have lM:D.M.length<500:=aR r.ml (aR (ds adM 2) (by decide));have o':qO ts K (D.M++[(a,b')]):=x.w.o.add AK BK (by rw[x.hk a AK,x.hk b' BK];exact x.o.so);have gm:∀{q0},(D.mg,O.list (D.M.map pv))∈q0::(ll,.dict el)::rc vn sn an (D.tl ts X a b' me) R:=.tail _ (.tail _ (iQ 3 rfl));refine l.merge (k:=50+n) x.w.w lM AK BK (λh p' l w'=>?_) λh p' l w' tw=>?_
  ·refine cH LR.fm l λm1 h l=>Cr (y:=(a,b')) LR.fm l gm (.head _) (bY lM (by decide)) λm2 h l=>nx ⟨D.u+1,ts,D.M++[(a,b')],p',X,D.vl,D.T++[((a,b'),me)],D.ap,D.ev,m2⟩ _ h rfl ?_ ?_
   ·have l:=l.sub (R':=(m2,.list ((D.M++[(a,b')]).map pv))::([(an,.list (D.ap.map pv)),(sn,.list (((D.T++[((a,b'),me)]).map (·.2)).map iv)),(vn,.dict D.ev)]++R)) (.cons₂ _ (.cons _ (.cons _ (.cons₂ _ (.cons₂ _ (.cons₂ _ (.cons _ (.refl _))))))));exact l.perm (mf (l₁:=[_,_,_])).symm
   ·exact x.step ⟨x.w.k,w',o',x.w.S,x.w.sh⟩ (λx' y e=>(x.cg.mpr e).mono λq hq=>b8 hq) (λx _ y _ _ e=>e) (λ_ h=>h) (λ_ h=>.inl h) (gZ _) (by rw[aT];exact bQ _) (.inr ⟨λE _ k=>k (a,b') (aX (.head _)),vab⟩) r.Dv (bQ _)
  ·have inR:∀{q q0 q1},q∈R->q∈q0::q1::(ll,.dict el)::rc vn sn an (D.tl ts X a b' me) R:=λh=>.tail _ (.tail _ (.tail _ (aX h)));exact cH LR.fm l λm1 h l=>Cr (y:=(a,b')) LR.fm l gm (.head _) (bY lM (by decide)) λm2 h l=>xw x.w.k LR.fm (inR hC) (inR hK) (.head _) (λy hy=>⟨(o' y hy).1,(o' y hy).2.1⟩) (by rw[aT];exact bY (HJ lM 1) (by decide)) l λh l3 es lb3 l L=>JF x.w.k LR.fm l (.tail _ (inR hK)) (.head _) L (λh _ _=>qt _ h) λh _ w=>absurd tw w
 ·have fin:∀h dT nv t0 ρ,lk [215] ρ=aa [.ref D.mg]->LR z (D.u+1) c b s D.p X ts (rc vn sn an {D.tl ts X a b' me with ev:=dT} R) h->DI dT (bj S λx=>vv (if lb x=lb t0 then nv else D.vl x))->iK an (pv (a,b')) (λ_=>Q .next ρ) h:=λh dT nv t0 ρ e l Dw=>
   q8 LR.fm l (by rw[aP];exact aR (aI r.al adM) (by decide)) λh l=>nx ⟨D.u+1,ts,D.M,D.p,X,λy=>if lb y=lb t0 then nv else D.vl y,D.T++[((a,b'),me)],D.ap++[(a,b')],dT,D.mg⟩ ρ h e (by show LR _ _ _ _ _ _ _ _ ((an,.list ((D.ap++[(a,b')]).map pv))::_) h;rw[bA];exact l)
    (x.set Dw (λ_ h=>b8 h) (λ_ h=>(bx.mp h).imp_right aZ.mp) (by rw[aT];exact bQ _) (.inl (aX (.head _))) (bQ _))
  have kR:(kn,O.list (K.map iv))∈(ll,.dict el)::rc vn sn an (D.tl ts X a b' me) R:=.tail _ (aX hK);show kC _ _ _ _ _ _ (.ref kn) h;refine bT (l.at kR) (iJ iv (λt=>lb t=lb a) (bM (l.at kR)) (λt ht acc J q1 q0=>hG (l.at (.head _)) x.Dl (eF ht) (hG (l.at (.head _)) x.Dl (eF AK) (ff (dx q1 q0)))) (fe l λm h l=>zi LR.fm l (.head _) (λt ht=>x.w.k.tm (cW.mp ht).1) λm2 h l=>fe l λm3 h l=>pj (l.at (.tail _ (.head _))) (l.at (.head _)) (jh _) (λ_=>?_) λ_=>?_))
  ·exact Dd (l.sub (.cons _ (.cons _ (.cons _ (.refl _))))) x.w.k x.w.S r.Dv x.Dl BK λh dT nv l Dw=>cN (l.at (.head _)) rfl (fin h dT nv b' _ rfl l Dw)
  ·exact Dd (l.sub (.cons _ (.cons _ (.cons _ (.refl _))))) x.w.k x.w.S r.Dv x.Dl AK λh dT nv l Dw=>cN (l.at (.head _)) rfl (fin h dT nv a _ rfl l Dw)
end
section
variable {z n ll vn sn an cl kn u0 a b' me m:Nat}{c b s:Nat->Nat}{h:Hp}{R:aM}{ts tb:List Tm}{C K S E:List Nat}{U0:Nat->List Nat}{X:SX}{lb:Nat->Nat}{el:List (V×V)}{D:RD}{Q:PX}
theorem SU(x:R3 tb C K S E U0 u0 n D a b' me ts X lb el)(l:LR z D.u c b s D.p X ts ((ll,.dict el)::rc vn sn an D R) h)(hC:(cl,.list (C.map iv))∈R)(hK:(kn,.list (K.map iv))∈R)
  (nx:∀D' aO h',lk [215] aO=aa [.ref D'.mg]->LR z D'.u c b s D'.p D'.X D'.ts (rc vn sn an D' R) h'->Rn tb C K S E U0 u0 (n+1) D'->Q .next aO h') (qt:∀ρ h,Q (.ret (.bool ah)) ρ h) (ξ:Env):
  vS Cl rC (bf [187,63,225,65,214,79,118,193,216,215,164,64] [.ref z,.ref (b 0),.ref (c 0),.ref cl,.ref kn,.ref vn,.ref an,iv n,.ref ll,.ref D.mg,.ref sn,iv me] ξ) Q h:=by
 have lT:((D.T.map (·.2)).map iv).length <aG:=by rw[aP,aP,x.r.tl];exact aR x.r.adM (by decide)
 have l:LR z D.u c b s D.p X ts ([(ll,.dict el),(an,.list (D.ap.map pv))]++(sn,.list ((D.T.map (·.2)).map iv))::([(vn,.dict D.ev),(D.mg,.list (D.M.map pv))]++R)) h:=l;refine cN (l.at (.tail _ (.tail _ (.head _)))) rfl (uP [_,_] LR.fm l lT λh l=>?_);have l:LR z D.u c b s D.p X ts ((ll,.dict el)::rc vn sn an (D.tl ts X a b' me) R) h:=by
  have e:((D.T++[((a,b'),me)]).map (·.2)).map iv=(D.T.map (·.2)).map iv++[iv me]:=by rw[bA,bA];rfl
  rw[<-e] at l;exact l
 have et:aF ts me=fH a b':=mP (Kv x.m);have ea:ar ts me=[a,b']:=by rw[ar,et];show [min a b',max a b']=_;rw[o7 (bP x.o.lt),qy (bP x.o.lt)]
 refine l.bh.k rfl rfl (il l.bh (Kv x.m) ?_);rw[show(fH a b').args=[a,b'] from(congrArg Tm.args et).symm.trans ea];exact kG [187,63,225,65,214,79,118,193,216,57,58,248,215] (λ_:Unit=>[.ref z,.ref (b 0),.ref (c 0),.ref cl,.ref kn,.ref vn,.ref an,iv n,.ref ll,iv a,iv b',vv (100+n),.ref D.mg]) (λ_ h=>LR z D.u c b s D.p X ts ((ll,.dict el)::rc vn sn an (D.tl ts X a b' me) R) h) (λ_ ξ h l=>ZX x l hC hK nx qt ξ) λK' tail _=>tail () _ _ rfl l
theorem Dp{l:List Nat}{t:Nat}{Qt:Bool->Hp->Prop}(e:h.get m=aa (.list (l.map iv)))(q1:t∈l->Qt ah h)(q0:t∉l->Qt au h):bZ .inn (iv t) (.ref m) Qt h:=
 ZM e rfl (jh _) (by
  by_cases z:t∈l
  ·rw[decide_eq_true (qN.mpr z)];exact q1 z
  ·rw[decide_eq_false λy=>z (qN.mp y)];exact q0 z)
theorem aaL{a a':Nat}{Qt:Bool->Hp->Prop}(q1:a=a'->Qt ah h)(q0:a≠a'->Qt au h):bZ .eq (vv a) (vv a') Qt h:=
 .inl ⟨rfl,rfl,by
  by_cases z:a=a'
  ·rw[decide_eq_true (congrArg vv z)];exact q1 z
  ·rw[decide_eq_false λw=>z (EJ w)];exact q0 z⟩
theorem Ti{F:List (Nat×Nat)}{y:Nat×Nat}{Qt:Bool->Hp->Prop}(e:h.get m=aa (.list (F.map pv)))(hy:(lo y,hi y)∈F)(q:Qt au h):bZ .notin (V.tup [.int (n7 (y.1:Int) y.2),.int (nN (y.1:Int) y.2)]) (.ref m) Qt h:=by rw[zn,xx];exact xC e rfl (sU _) (by rw[decide_eq_true (bz.mpr ⟨_,hy,rfl⟩)];exact q)
end
section
variable {z n vn sn an cl kn u0 m:Nat}{c b s:Nat->Nat}{h:Hp}{R:aM}{ts tb:List Tm}{C K S E:List Nat}{U0:Nat->List Nat}{D:RD}{Q:PX}
theorem Tt{vl lb:Nat->Nat}(k:Kn ts C K)(l:S.length<=18):(gp ts C S vl lb).length <aG:=by
 delta gp;split
 ·refine aR (aI (mB λi hi=>Mz k l (oA.mp hi)) ?_) (show 5*3240<aG by decide);rw[nj];exact nB _ k.w.adV
 ·exact aR (aI (mB λ_ _=>CQ l) (nB 18 l)) (show 18*18<aG by decide)
theorem Zt{a b' x y:Nat}(h:a<b')(h':x<y)(e:fH a b'=fH x y):(a,b')=(x,y):=by
 have:[min a b',max a b']=[min x y,max x y]:=congrArg Tm.args e;rw[o7 (bP h),qy (bP h),o7 (bP h'),qy (bP h')] at this;injection this with e1 e2;injection e2 with e2
 rw[e1,e2]
theorem Rn.got(r:Rn tb C K S E U0 u0 n D){ts':List Tm}{a b' k:Nat}(ge:Ge D.ts ts')(h:a<b')(m:adv 1 ts' (fH a b')=aa k)(z:k∈D.T.map (·.2)):(a,b')∈D.T.map (·.1):=by refine e1a2 (bz.mp z) λq hq e=>?_;refine iX (r.t q hq) λq1 _ _ q4 _=>?_;rw[e] at q4;exact bz.mpr ⟨q,hq,Zt q1 h (Ty (ge.adv q4) m)⟩
theorem Wb.up{p:PS}{X:SX}{M:List (Nat×Nat)}{ts':List Tm}{T':List (V×V)}(w:Wb ts C K S E U0 M p X)(ge:Ge ts ts'):(∀t∈K,aF ts' t=aF ts t)/\Wb ts' C K S E U0 M p {X with T:=T'}:=by refine e1a1 ge λes e=>?_;rw[e];have:=w.grow (es:=es);exact⟨this.1,this.2.k,this.2.w,this.2.o,this.2.S,this.2.sh⟩
theorem Q0(r:Rn tb C K S E U0 u0 n D)(l0:u0<500000)(oz:tb.length<100)(l:LR z D.u c b s D.p D.X D.ts (rc vn sn an D R) h)(hC:(cl,.list (C.map iv))∈R)(hK:(kn,.list (K.map iv))∈R)
  (nx:∀D' aO h',lk [215] aO=aa [.ref D'.mg]->LR z D'.u c b s D'.p D'.X D'.ts (rc vn sn an D' R) h'->Rn tb C K S E U0 u0 (n+1) D'->Q .next aO h') (qt:∀ρ h,Q (.ret (.bool ah)) ρ h) (ξ:Env):
  vS Cl rB (bf [193] [iv n] (bf [215] [.ref D.mg] (bf [187,63,224,225,65,214,79,164,118] [.ref z,.ref (b 0),.ref (s 0),.ref (c 0),.ref cl,.ref kn,.ref vn,.ref sn,.ref an] ξ))) Q h:=by
 have adM:=r.adM;have lM:D.M.length<1000:=aR r.ml (aR (ds adM 2) (by decide));have SK:=r.w.sk;refine xw r.w.k LR.fm (aX hC) (aX hK) (iQ 3 rfl) (λy hy=>⟨(r.w.o y hy).1,(r.w.o y hy).2.1⟩) lM l λh ll el lb l L=>?_;have v:Vs S D.vl vn ((ll,.dict el)::rc vn sn an D R):=⟨D.ev,.tail _ (iQ 2 rfl),r.Dv⟩;have Lr:Lb K lb ll ((ll,.dict el)::rc vn sn an D R):=⟨el,.head _,L.D⟩;have gA:(an,O.list (D.ap.map pv))∈(ll,.dict el)::rc vn sn an D R:=.tail _ (.head _);show vS Cl (.q (.i (.b (.c .ne) (.C _ _ _ _ _) _) _ _) _) _ _ h;show kC _ _ _ _ _ _ (.ref an) h;refine bT (l.at gA) (iJ pv (λy=>lb y.1=lb y.2\/D.vl y.1=D.vl y.2) (bM (l.at gA)) (λy hy acc J q1 q0=>?_) (fe l λm1 h l=>fe l λm2 h l=>pj (l.at (.tail _ (.head _))) (l.at (.head _)) (sU _) (λ_=>qt _ h) λzz=>?_))
 ·refine aC (r.a y hy) λy1 y2=>?_;exact Lr.rd LR.fm l (SK _ y1) (Lr.rd LR.fm l (SK _ y2) (ff (dx (λzz=>mK zz (q1 (.inl zz))) λzz=>v.rd LR.fm l y1 (v.rd LR.fm l y2 (aaL (λw=>q1 (.inr w)) λw=>q0 λk=>k.elim zz w)))))
 have An:∀y∈D.ap,lb y.1≠lb y.2/\D.vl y.1≠D.vl y.2:=λy hy=>by have:=si.mp (pg.mp zz) y hy;exact⟨λw=>this (decide_eq_true (.inl w)),λw=>this (decide_eq_true (.inr w))⟩
 clear zz;have l:LR z D.u c b s D.p D.X D.ts ((ll,.dict el)::rc vn sn an D R) h:=l.sub (.cons _ (.cons _ (.refl _)));refine SS r.w.k r.w.S (λt ht=>r.w.k.lt _ (L.r t ht)) LR.fm l (.tail _ (aX hC)) v Lr λh fa l=>?_;refine e2a3 (r.w.rd l) λA P x y kf=>?_;refine x.sm y rfl rfl (Vz x y v.tl λga h G y PG lG=>x.sm y rfl rfl ?_);have Ln:=r.w.lnk L.f;have Ao:=Ln.aeu PG;have kL:=Ln.aet (vl:=D.vl);have jy:∀{y},Fp D.ts C S D.p D.vl (aa y)->(lo y,hi y)∈gp D.ts C S D.vl lb:=Ln.aes;have Gy:∀{y},Fp D.ts C S D.p D.vl (aa y)->xY D.ts S D.vl lb (lo y) (hi y):=Ln.ord x;have adW:∀{y},y∈gp D.ts C S D.vl lb->_:=Ln.adW;have lF:(gp D.ts C S D.vl lb).length <aG:=Tt r.w.k r.w.S.len;have l:=kf _ _ y;clear y kf x PG;generalize gp D.ts C S D.vl lb=F at l Ao kL jy adW lF;refine l.aer r.w v.tl.tl r.xt (by rw[r.tl];exact aR adM (by decide)) (r.g.len oz) (λy hy=>r.new L.f An (Gy hy)) (λh l ho=>?_) λh y k ts' ho ek l=>?_
 ·have F0:=kL ho;rw[F0] at l Ao;have G0:G=[]:=HG.mpr λy hy=>nomatch Ao y hy;rw[G0] at l;exact fe l λm3 h l=>x9 (l.at (.tail _ (.tail _ (.head _)))) (l.at (.head _)) rfl (λ_=>fe l λm4 h l=>x9 (l.at (.tail _ (.tail _ (.head _)))) (l.at (.head _)) rfl (λ_=>qt _ h) λw=>absurd rfl w) λw=>absurd rfl w
 ·have hy:=jy ho;have o:=Gy ho;have nw:=r.new L.f An o;have adB:∀{t},t∈S->t<18:=λh=>r.w.k.lt _ (SK _ h);refine be (IS r.g (adB o.aS) (adB o.bS) ek) λg1 Ap m1=>?_;clear jy Gy kL ho ek;have kF:∀y∈F,∃T T',tm ts' y.1=aa T/\tm ts' y.2=aa T'/\T'.sort=T.sort/\y.1≠y.2/\y.1<18/\y.2<18:=λy hy=>by refine aC (r.w.up (T':=[]) Ap) λhk w=>?_;refine f9 (adW hy) λf1 f2 f3 f4=>?_;exact⟨_,_,w.k.tm (SK _ f1),w.k.tm (SK _ f2),by rw[hk _ (SK _ f1),hk _ (SK _ f2)];exact f4.symm,f3,adB f1,adB f2⟩
  refine fe l λm3 h l=>x9 (l.at (.tail _ (.tail _ (.head _)))) (l.at (.head _)) (sU _) (λw=>?_) λ_=>?_
  ·rw[pg.mp w] at hy;exact zE hy
  have l:=l.sub (.cons _ (.refl _));refine Dp (l.at (.tail _ (.tail _ (.tail _ (iQ 1 rfl))))) (λw=>absurd (r.got Ap o.lt m1 w) nw) λ_=>?_;show kC _ _ _ _ _ _ (.ref fa) h;refine LR.eqs l g1 oz (.tail _ (.head _)) lF kF rfl λh nn t2 N l g2 Aq kN=>D3 (l.at (.head _)) (λw=>?_) λ_=>?_
  ·refine e1a2 (kN _ hy) λj j1 j2=>?_;exact absurd (cP (j2.symm.trans (Aq.adv m1))▸j1) w
  refine aC (r.w.up (T':=iU (D.T++[((lo y,hi y),k)])) (Ap.trans Aq)) λhk w=>?_;refine kG [187,63,225,65,214,79,118,193,216,215,164,64,249,250] (λ_:Unit=>[.ref z,.ref (b 0),.ref (c 0),.ref cl,.ref kn,.ref vn,.ref an,iv n,.ref ll,.ref D.mg,.ref sn,iv k,.ref ga,.ref fa]) (λ_ h=>LR z D.u c b s D.p _ t2 ((nn,.list (N.map iv))::(ga,.list (G.map pv))::(fa,.list (F.map pv))::(ll,.dict el)::rc vn sn an D R) h) (λ_ ξ h l=>?_) λK' tail _=>tail () _ _ rfl l;refine kG [187,63,225,65,214,79,118,193,216,215,164,64] (λ_:Unit=>[.ref z,.ref (b 0),.ref (c 0),.ref cl,.ref kn,.ref vn,.ref an,iv n,.ref ll,.ref D.mg,.ref sn,iv k]) (λ_ h=>LR z D.u c b s D.p _ t2 ((ll,.dict el)::rc vn sn an D R) h) (λ_ ξ h l=>SU ⟨r,w,rfl,g2,Ap.trans Aq,nw,o,Aq.adv m1,hk,L.f,L.D,l0⟩ l hC hK nx qt ξ) λK' tail _=>?_;show kC _ _ _ _ _ _ (.ref ga) h;refine bT (l.at (.tail _ (.head _))) (iJ pv (λ_=>False) (bM (l.at (.tail _ (.head _)))) (λy' Gj acc J _ q0=>Ti (l.at (.tail _ (.tail _ (.head _)))) (Ao y' Gj) (q0 id)) (fe l λm4 h l=>fe l λm5 h l=>pj (l.at (.tail _ (.head _))) (l.at (.head _)) (sU _) (λw=>?_) λ_=>tail () _ _ rfl (l.sub (.cons _ (.cons _ (.cons _ (.cons _ (.cons _ (.refl _)))))))));exact absurd (congrArg (QD pv) (si.mpr λ_ _ w=>of_decide_eq_true w)) w
end
section
variable {z u vn cl kn mg:Nat}{c b s:Nat->Nat}{h:Hp}{R:aM}{tb:List Tm}{C K S E:List Nat}{U0:Nat->List Nat}{M:List (Nat×Nat)}{p:PS}{X:SX}{vl:Nat->Nat}{ev:List (V×V)}{Q:PV}{Y:Hp->Prop}
theorem QW(l:LR z u c b s p X tb ((vn,.dict ev)::(mg,.list (M.map pv))::R) h)(hC:(cl,.list (C.map iv))∈R)(hK:(kn,.list (K.map iv))∈R)(w:Wb tb C K S E U0 M p X)(hX:X.T=[])(Dv:DI ev (bj S λt=>vv (vl t)))(lM:M.length<=2)(oz:tb.length<100)(hu:u<500000)
  (q:∀h',Q (.bool ah) h'):Cl 252 [.ref z,.ref (b 0),.ref (s 0),.ref (c 0),.ref cl,.ref kn,.ref mg,.ref vn] Q Y h:=by
 refine ba (fe l λsn h l=>fe l λan h l=>tR (k:=200) (by decide) ?_);refine W0 [187,63,224,225,65,214,79,164,118] rfl rfl [215] (λD:RD=>[.ref D.mg]) (λi D h=>LR z D.u c b s D.p D.X D.ts (rc vn sn an D R) h/\Rn tb C K S E U0 u i.length D) (λ_ _ _ _=>cY) ⟨u,tb,M,p,X,vl,[],[],ev,mg⟩ rfl ⟨l,w,hX,⟨[],(cq _).symm,.nil,λ_ z=>nomatch z⟩,rfl,.nil,λ_ z=>(nomatch z),λ_ z=>(nomatch z),bQ _,lM,Dv,bQ _⟩ (λi x r e D ξ h yy=>aC yy λl r0 J hJ=>?_) λD ξ h yy=>aC yy λ_ r=>?_
 ·refine be (CD e) λe1 _ _=>?_;rw[aT,show i.length+ [x].length=i.length+1 from rfl,e1] at hJ;rw[e1] at r0;exact Q0 r0 hu oz l hC hK (λD' aO h' e l r=>hJ D' aO h' e ⟨l,r⟩) (λρ h=>q _) ξ
 ·have:=r.adM;rw[nj] at this;exact absurd this (by decide)
end
section
variable {z u m f k n a:Nat}{c b s:Nat->Nat}{h:Hp}{Q:PV}{Y:Hp->Prop}{R R':aM}{ts:List Tm}{C K E:List Nat}{p:PS}{X:SX}
theorem LR.sk{Q:MK->Hp->Prop}(l:LR z u c b s p X ts R h)(g:(dR (tH s b) m).isNone=ah)(e:iM 253 m=aa f)(q:Q (.fn f) h):gh (.ref (s 0)) m Q h:=e1a2 l.sh λ_ y _=>y.k g e q
theorem LR.ck{Q:MK->Hp->Prop}(l:LR z u c b s p X ts R h)(g:∀S p,(dR (q9 c b S p) m).isNone=ah)(e:iM 254 m=aa f)(q:Q (.fn f) h):gh (.ref (c 0)) m Q h:=e1a2 l.cr λ_ y _=>cS y g e q
theorem CR.perm(x:CR c b p R h)(e:R.Perm R'):CR c b p R' h:=e1a2 x λS y A=>⟨S,y.perm (.append_left [_,_,_,_,_,_,_,_,_,_,_,_,_] (e.append_right _)),A⟩
theorem dy.cw(I:dy ts E p)(k:Kn ts C K)(hE:∀t,t∈E↔cM ts C t):Cw ts E C K (us ts E) [] p:=by
 have Gz:∀t,t∈C↔t∈E/\ar ts t≠[]:=λt=>by rw[hE t];refine⟨λh=>⟨.inl h,(k.w.call h).2.1⟩,λyy=>aC yy λh ne=>h.elim id λyy=>e1a2 yy λcc h1 h2=>(k.w.arg h1 h2).elim (λa=>absurd (k.w.leaf a.1 a.2).2.1 ne) (·.1)⟩
 have hn:nc ts E<=5:=by
  refine e1a2 k.w.cn λn hn hCn=>?_;have mem:∀c∈E.filter (λc=>decide (ar ts c≠[])),13<=c/\c<13+n:=λc hc=>by refine aC (cW.mp hc) λa1 a2=>?_;have:=(Gz c).mpr ⟨a1,of_decide_eq_true a2⟩;rw[hCn] at this;exact kb.mp this
  have:((E.filter λc=>decide (ar ts c≠[])).map (· -13)).length<=5:=by
   refine g_ 5 _ ?_ λm hm=>?_
   ·refine Bf.mpr ((I.nd.filter _).imp_of_mem λ{x y} hx hy bF h=>bF ?_);rw[<-sy (mem x hx).1,h,sy (mem y hy).1]
   ·refine e1a2 (bz.mp hm) λc hc e=>?_;rw[<-e];exact c9 (HN (mem c hc).1 (mem c hc).2) hn
  rw[aP] at this;exact this
 exact⟨λt=>(hE t).trans (k.k t).symm,g_ 18 E I.nd λx hx=>(I.ok x hx).1.lt.1,I.wd Gz hn,I.gd Gz⟩
theorem Sf{as bs:List Nat}{Qt:Bool->Hp->Prop}(e:h.get n=aa (.list (as.map iv)))(e':h.get m=aa (.list (bs.map iv)))(q1:as≠bs->Qt ah h)(q0:as=bs->Qt au h):bZ .ne (.ref n) (.ref m) Qt h:=
 ym e e' (jh _) (jh _) (by
  by_cases z:as=bs
  ·rw[decide_eq_true (congrArg _ z)];exact q0 z
  ·rw[decide_eq_false λy=>z (xW y)];exact q1 z)
theorem Iq{x y:Bool}{Qt:Bool->Hp->Prop}(q:Qt (!(x==y)) h):bZ .ne (.bool x) (.bool y) Qt h:=.inr (.inr (.inl ⟨x,y,rfl,rfl,q⟩))
theorem Tf{cl:Nat}{Q:PX}{ρ:Env}(w:Wr ts C)(l:LR z u c b s p0 X0 ts R h)(hC:(cl,.list (C.map iv))∈R)(e0:lk [187,63,65,224,225] ρ=aa [.ref z,.ref (b 0),.ref cl,.ref (s 0),.ref (c 0)])
  (q:∀ξ h p X E,LR z u c b s p X ts R h->dy ts E p->(∀x,x∈E↔cM ts C x)->ik ts C (cM ts C) X->Q .next (bf [187,63,65,224,225] [.ref z,.ref (b 0),.ref cl,.ref (s 0),.ref (c 0)] ξ) h):
  ke (.ref cl) (kF au [90] [90] (vS Cl (.q (.e .x (.m (.v 224) 136 (.b .k (.v 90) (.l .adt)))) (.q (.e .x (.m (.v 225) 136 (.b .k (.v 90) (.l .adt)))) .n))) ρ Q h) h:=by
 refine e1a2 w.cn λm hm eC=>?_;refine bT (l.at hC) (cb [187,63,65,224,225] e0 rfl (λi h=>∃p X E,LR z u c b s p X ts R h/\dy ts E p/\(∀x,x∈E↔cM ts (fc 13 i.length) x)/\ik ts (fc 13 i.length) (cM ts (fc 13 i.length)) X) (λ_ _ yy=>e3a2 yy λ_ _ _ l _=>bM (l.at hC)) ⟨p0,X0,[],l,ZG,λx=>?_,?_⟩ (λi x r e ξ h yy=>e3a4 yy λp X E l I hE O J hJ=>?_) λξ h yy=>e3a4 yy λp X E l I hE O=>?_)
 ·exact⟨λz=>(nomatch z),λz=>z.elim (λz=>nomatch z) λyy=>e1a2 yy λ_ z _=>nomatch z⟩
 ·exact⟨λt=>⟨λz=>(nomatch z),λz=>z.elim (λz=>nomatch z) λyy=>e1a2 yy λ_ z _=>nomatch z⟩,λt=>⟨λz=>(nomatch z),λz=>z.1.elim (λz=>nomatch z) λyy=>e1a2 yy λ_ z _=>nomatch z⟩,rfl,λf=>⟨λz=>(nomatch z),λyy=>e1a2 yy λ_ z _=>nomatch z⟩,λf z=>(nomatch z),rfl⟩
 ·have h1:C[i.length]? =aa x:=by rw[e,nA (bQ _),qx];rfl
  rw[eC] at h1;refine e1a1 (i8.mp h1) λhl h2=>?_;rw[List.getElem_range',QB] at h2;rw[xp] at hl;rw[aT,show i.length+ [x].length=i.length+1 from rfl] at hJ;rw[<-h2];exact l.sk rfl rfl (YN w eC hm hl l O λh X l O=>l.ck (λ_ _=>rfl) rfl (UT w eC hl l I hE λh p E l I hE=>hJ _ _ ⟨p,X,E,l,I,hE,O⟩))
 ·have:C.length=m:=by rw[eC,xp]
  rw[this,<-eC] at hE O;exact q ξ h p X E l I hE O
end
theorem Td(x:SD z 0 [] h)(q:∀h',Q (.bool ah) h'):vS Cl (dW sP) (bf [187] [.ref z] ξ) (fq Q Y) h:=by
 refine QT x λb h cl M5 cts u hu wo cne x=>?_;have w:=wo.wr;refine e1a2 x λD hc x=>?_;have oz:(bI++cts).length <100:=by rw[aT];exact aR (ds wo.len _) (by decide)
 have OM:fu cts≠[]:=λe=>cne (na.mp (by have:=congrArg o_ e;unfold fu at this;rw[xp] at this;exact this));generalize bI++cts=ts at x w oz;generalize fu cts=C at x w OM;refine e1a1 w.aeq λS hS=>?_;refine λn en=>ZP (x.new en) λs h es x=>?_;rw[<-es];refine e1a2 x λE x A=>?_;refine λn en=>Zg (x.new en) λc h ec x=>?_;rw[<-ec];have l:LR z u c b s p0 X0 ts [(cl,.list (C.map iv))] h:=⟨D,E,hc,A,x.perm (by show(lI s b E X0++((eH z u D++(bd fT b ts++[(cl,O.list (C.map iv))]))++eL E.A X0.rw X0.adu)).Perm (eH z u D++(bd fT b ts++(lI s b E X0++([(cl,O.list (C.map iv))]++eL E.A X0.rw X0.adu))));rw[bt,bt];exact(mv _ _ _).trans (.append_left _ (mv _ _ _)))⟩
 clear x A hc;refine Tf w l (.head _) rfl λξ h p X E l I hE O=>?_;refine UX w OM LR.fm l (.head _) λh kn K l k=>ZZ w hS LR.fm l (.tail _ (.head _)) λh sn l=>?_;have cw:=I.cw k hE;have sS:=O.s;refine l.sk rfl rfl (e1a2 l.sh λ_ y _=>IC y sS hS (fe l λm h l=>Sf (l.at (.head _)) (l.at (.tail _ (.head _))) (λw=>absurd rfl w) λ_=>?_));show kC _ _ _ _ _ _ (.ref kn) h;have l:=l.sub (.cons _ (.refl _));refine bT (l.at (.tail _ (.head _))) (iJ iv (λ_=>False) (bM (l.at (.tail _ (.head _)))) (λt ht acc J _ q0=>l.sk rfl rfl (e1a2 l.sh λ_ y _=>Io y (λw=>Dp (l.at (.head _)) (λ_=>Iq (q0 id)) λw'=>absurd ((hS.m t).mpr ((sS t).mp w)) w') λw=>Dp (l.at (.head _)) (λw'=>absurd ((sS t).mpr ((hS.m t).mp w')) w) λ_=>Iq (q0 id))) (fe l λm1 h l=>fe l λm2 h l=>pj (l.at (.tail _ (.head _))) (l.at (.head _)) (jh _) (λw=>?_) λ_=>?_))
 ·exact absurd (congrArg (QD iv) (si.mpr λ_ _ w=>of_decide_eq_true w)) w
 have l:LR z u c b s p X ts [(sn,.list (S.map iv)),(kn,.list (K.map iv)),(cl,.list (C.map iv))] h:=l.sub (.cons _ (.cons _ (.refl _)));refine ZQ l (.tail _ (.tail _ (.head _))) (.tail _ (.head _)) k cw (aI hu (by decide)) λh mg M p' u' B=>?_;obtain ⟨bm,bu,l,w',o⟩:=B;have lu:u'<=100:=aI bu (aI (fC (fC hu 1) 4) (by decide));refine xw k LR.fm (.tail _ (.tail _ (.tail _ (.head _)))) (.tail _ (.tail _ (.head _))) (.head _) (λy hy=>⟨(o y hy).1,(o y hy).2.1⟩) (aR bm (by decide)) l λh ll el lb l L=>?_;have SK:∀t∈S,t∈K:=λt ht=>(k.k t).mpr ((hS.m t).mp ht).1;refine R8 k l (sn:=sn) (.tail _ (.tail _ (.head _))) (.head _) L.D SK hS.len (aI lu (by decide)) λh vn ev vl u2 hu2 l Dv=>?_;have l:LR z u2 c b s p' X ts ((vn,.dict ev)::(mg,.list (M.map pv))::[(sn,.list (S.map iv)),(kn,.list (K.map iv)),(cl,.list (C.map iv))]) h:=l.sub (.cons₂ _ (.cons _ (.refl _)));have wb:Wb ts C K S E (us ts E) M p' X:=⟨k,w',o,hS,by obtain ⟨o1,o2,o3,o4,o5,o6⟩:=O;exact⟨o1,o2,o3,o4,o5,rfl⟩⟩;have GB:u2<1000:=aR hu2 (aR (fC lu 19) (by decide));refine kG [187,63,65,224,225,214,215,79] (λ_:Unit=>[.ref z,.ref (b 0),.ref cl,.ref (s 0),.ref (c 0),.ref kn,.ref mg,.ref vn]) (λ_ h=>∃u3,u3<=1000/\LR z u3 c b s p' X ts ((vn,.dict ev)::(mg,.list (M.map pv))::[(sn,.list (S.map iv)),(kn,.list (K.map iv)),(cl,.list (C.map iv))]) h) (λ_ ξ h yy=>e1a2 yy λu3 hu3 l=>?_) λK' tail _=>?_
 ·exact QW l (.tail _ (.tail _ (.head _))) (.tail _ (.head _)) wb O.t Dv bm oz (aR hu3 (by decide)) q
 ·refine fe l λm h l=>pj (l.at (.tail _ (.tail _ (.tail _ (.head _))))) (l.at (.head _)) (jh _) (λzz=>?_) λzz=>?_
  ·exact VY (l.sub (.cons _ (.refl _))) wb (.tail _ (.tail _ (.head _))) ⟨ev,.head _,Dv⟩ (λy=>zz (by rw[y];rfl)) (bY GB (by decide)) λh l=>tail () _ _ rfl ⟨_,GB,l⟩
  ·exact tail () _ _ rfl ⟨_,bP GB,l.sub (.cons _ (.refl _))⟩
end Mine
section
open PySem PySem.W PySem.Calls PyProof.Rows PySem.SeqAt
section
set_option maxHeartbeats 0
namespace Mine
noncomputable def sJ(ON:mn->sA->Option (mn×sA))(ok:sA->Bool):Nat->mn->sA->Option mn
 |0,_,_=>ao
 |n+1,s,t=>match through t with
  |true=>aa s
  |false=>match ok t with
   |false=>ao
   |true=>match ON s t with
    |some (s',t')=>sJ ON ok n s' t'
    |none=>ao
theorem UW{tb:String->Option e8}{p:i6}{w:dO}{m:Nat}{GC:Option av}:∀{n:Nat} {s s':mn} {t:sA},sJ (stepT (denote tb) p w) (stepOk m GC) n s t=aa s'->HO tb p w m GC n s.abs t=aa s'.abs:=by
 intro n;induction n with
 |zero=>intro _ _ _ h;exact by exact zA h
 |succ n ih=>
  intro s s' t h;unfold sJ at h;unfold HO;cases he:through t with
  |true=>rw[he] at h;cases zF h;rfl
  |false=>
   rw[he] at h;cases hk:stepOk m GC t with
   |false=>rw[hk] at h;exact zA h
   |true=>
    rw[hk] at h;cases hs:stepT (denote tb) p w s t with
    |none=>rw[hs] at h;exact zA h
    |some r=>obtain ⟨eU,t₂⟩:=r;rw[hs] at h;rw[stepT_spec hs];exact ih h
noncomputable def yj(p:i6)(w:dO):mn->sA->Option (mn×sA):=Fast.tw10156331382660048174 (Fast.tw11892475500146522536 Fast.tw14364793385576792824) p w
theorem YT(p:i6)(w:dO):stepT (denote Bq) p w=yj p w:=by rw[Fast.te10156331382660048174,Fast.te11892475500146522536,Fast.te14364793385576792824];rfl
noncomputable def yJ:sA->Bool:=Fast.tw6613529449190102663 11 (aa (.ref 6))
theorem aaP:stepOk 11 (aa (.ref 6))=yJ:=by rw[Fast.te6613529449190102663];rfl
noncomputable def QV(P:qA):BT:=([boot_o_0 P,boot_o_1 P,boot_o_2 P,boot_o_3 P,boot_o_4 P,boot_o_5 P,boot_o_6 P,boot_o_7 P,boot_o_8 P,boot_o_9 P,boot_o_10 P].foldl (λ(x:BT×Nat) o=>(x.1.ins x.2 o,x.2+1)) (.nil,0)).1
noncomputable def yU(P:qA)(os:k9):mn:=⟨QV P,11,{},#[],xr,xu,os⟩
theorem ZC(P:qA)(os:k9):(yU P os).abs=⟨kc P,#[],xr,xu,os⟩:=by
 kernel_rfl
noncomputable def pP:i6:=PySem.Challenge.pw_no0026_01
noncomputable def td(n:Nat)(w:dO)(os:k9):Option mn:=sJ (yj pP w) yJ n (yU w.params os) (Br pP)
end Mine
end
namespace Mine
noncomputable def eC(K:di)(w:dO)(h₀:aL):aY:=⟨pP,w,K,h₀,λ_=>False⟩
noncomputable def KM:List (Nat×Nat):=[(8,1),(8,3),(8,4),(8,7),(8,11),(8,14),(8,15),(8,16),(8,17),(8,20),(8,23),(8,28),(8,29),(9,7),(9,10),(11,1),(11,2),(11,3),(11,4),(11,5),(11,6),(11,7),(11,8),(11,9),(11,10),(11,11),(11,12),(11,13),(11,14),(11,15),(11,16),(15,1),(15,2),(15,4),(15,9),(15,10),(15,11),(15,12),(15,13),(15,14),(15,15),(15,16),(15,17),(15,18),(15,19),(15,20),(15,21),(15,23),(15,24),(15,25),(15,26),(15,34),(15,38),(15,39),(15,40),(15,42),(17,0),(18,0),(19,0),(20,0),(21,0),(22,0),(23,0),(24,0),(25,0),(26,0),(27,0),(28,0),(29,0),(30,0),(31,0),(32,0),(33,0),(34,0),(35,0)]
noncomputable def Mo(i:Nat):bL:=fz (pP.main.body.drop i)
noncomputable def MG(p:Nat×Nat):List bL:=match p.2 with
 |0=>jv (Mo p.1)
 |j+1=>jv (fz ((jv (Mo p.1)).drop j))
noncomputable def nC:List ((Nat×List Nat×S)×List bL):=Dj.zip (KM.map MG)
set_option backward.match.sparseCases true in
noncomputable def Kq:ph->Option jb
 | .func fd=>aa fd
 |_=>ao
set_option backward.match.sparseCases true in
noncomputable def Id:ph->Option ClassData
 | .cls c=>aa c
 |_=>ao
set_option backward.match.sparseCases true in
noncomputable def Lx:ph->Option (Array av)
 | .fields vs=>aa vs
 |_=>ao
set_option backward.match.sparseCases true in
noncomputable def JV:ph->Option (Option av)
 | .cell v=>aa v
 |_=>ao
set_option backward.match.sparseCases true in
noncomputable def MA:ph->Option (Array av)
 | .seq xs _=>aa xs
 |_=>ao
noncomputable def sI(K:di)(a:aB):Option jb:=(K.lookup a).bind λo=>Kq o.data
noncomputable def uY:FuncBody->Option (List bL)
 | .stmts b=>aa b
 |_=>ao
noncomputable def pz(K:di)(a:aB):List bL:=(((sI K a).bind λfd=>uY fd.body)).getD []
noncomputable def yT(fd:jb)(ps:List Str):Bool:=
 fd.params.posonlyargs.isEmpty&&(fd.params.args.map (·.arg)==ps&&(fd.params.kwonlyargs.isEmpty&&(fd.params.vararg.isNone&&(fd.params.kwarg.isNone&&(fd.defaults== .none &&decide ps.Nodup)))))
noncomputable def zo(fd:jb):Bool:=fd.scope.kind== .function &&(!fd.scope.isCoroutine&& !fd.scope.isGenerator)
noncomputable def DY(K:di)(ps:List Nat)(ck:dp->Bool)(fd:jb):Bool:=
 (uY fd.body).isSome &&(fd.closure.isEmpty&&(fd.globals==e9&&(fd.builtins==rR&&(codeIn K fd.code fd.qualname&&(yT fd (ps.map aE)&&(ps.all (λp=>gM p&&pK fd.scope.names (aE p) [.local,.cell])&&
    (zo fd&&(decide (fd.scope.names.map (·.1)).Nodup &&(fd.scope.names.all (λx=>x.2 != .free)&&ck fd.scope.names)))))))))
noncomputable def yD(K:di)(e:(Nat×List Nat×S)×List bL):Bool:=(sI K (dG e.1.1)).any (DY K e.1.2.1 λns=>(jQ (tX e.1.1) e.1.2.2 (wk e.1.1)).s ns e.2)
noncomputable def D2(K:di)(e:Nat×Nat):Bool:=gM e.2&&(GY K (cT e.1) (aE e.2)&&(hasDictIn K (cT e.1)&&((j7 K (.ref (cT e.1)) (aE e.2)==aa ao)&&
 (plainOver K (cT e.1)&&((takerIn K (cT e.1) (aE e.2)==aa ao)&&(j7 K (.ref (cT e.1)) "__setattr__" ==aa (aa (.builtin "object.__setattr__"))))))))
noncomputable def BW(K:di)(e:Nat×Nat×Nat):Bool:=gM e.2.1&&(GY K (cT e.1) (aE e.2.1)&&((j7 K (.ref (cT e.1)) (aE e.2.1)==aa (aa (.ref (dG e.2.2))))&&((GZ K (.ref (dG e.2.2))==aa (.type "function"))&&AH K (.ref (dG e.2.2)))))
noncomputable def yV(K:di)(x:Nat)(a:aB):Bool:=(iG K e9 (aE x)==aa (aa (.ref a)))&&AH K (.ref a)
noncomputable def C4(K:di)(e:Nat×av):Bool:=gM e.1&&((iG K e9 (aE e.1)==aa ao)&&((uB (aE e.1)==aa e.2)&& !(aE e.1== "__name__")))
noncomputable def DV(K:di)(t:String):Bool:=(iG K e9 (dD t)==aa ao)&&((uB (dD t)==aa (.type t))&&(!(dD t== "__name__")&& !(dD t==("__debug__" :Str))))
noncomputable def eG:List (Nat×av):=[(19,.int 0 259),(71,.int 1 261),(72,.int 2 263),(133,.str (aE 77) 895),(131,.ref 516)]
noncomputable def DG:List av:=[.str (aE 195) 890,.str (aE 258) 891,.str (aE 21) 892,.str (aE 18) 893]
noncomputable def Jn(K:di)(e:Nat×av):Bool:=gM e.1&&(iG K e9 (aE e.1)==aa (aa e.2))
noncomputable def Jp(o:Option Obj):Bool:=o.any λo=>o.cls== .type "type" &&(Id o.data).any λcd=>cd.mro== .ref 47::dm&&(cd.hasDict&&(!cd.hasDel&&(o.slots.toList.length==6&&o.slots.toList[4]? ==aa (aa (.builtin "Exception.__new__")))))
noncomputable def IM:List bL:=Bw ⟨8,8,8,13⟩ ⟨8,8,8,15⟩ ⟨8,8,8,24⟩ ⟨8,25,8,29⟩ ⟨8,8,8,30⟩ ⟨8,8,8,30⟩ ⟨9,8,9,12⟩ ⟨9,8,9,17⟩ ⟨9,20,9,24⟩ ⟨9,8,9,24⟩
set_option backward.match.sparseCases true in
noncomputable def Lz:av->Bool
 | .str f _=>(pP.main.file:Str)==f
 |_=>au
noncomputable def JT(o:Option Obj):Bool:=o.any λo=>(Lx o.data).any λvs=>(vs[2]? :Option av).any Lz
noncomputable def Jx(o:Option Obj):Bool:=o.any λo=>JV o.data==aa (aa (.ref 47))
noncomputable def Lp(K:di)(fd:jb):Bool:=
 yT fd [("self" :Str),"what"]&&(fd.scope.names==Dq&&(zo fd&&(fd.globals==e9&&(fd.builtins==rR&&(fd.closure==[(("__class__" :Str),25)]&&(fd.code== .ref 36&&((uY fd.body).isSome &&codeIn K fd.code fd.qualname)))))))
noncomputable def yq(K:di):Bool:=Jp (K.lookup 47)&&((sI K 37).any (Lp K)&&(JT (K.lookup 36)&&(Jx (K.lookup 25)&&((j7 K (.ref 47) "__init__" ==aa (aa (.ref 37)))&&((GZ K (.ref 37)==aa (.type "function"))&&((iG K e9 "super" ==aa ao)&&
 ((iG K cStatics "thirdparty.any" ==aa ao)&&((j7 K (.ref 47) "__setattr__" ==aa (aa (.builtin "object.__setattr__")))&&(j7 K (.ref 47) "what" ==aa ao)))))))))
noncomputable def JJ(K:di):Bool:=K.all λp=>!(p.2.cls== .type "list")
noncomputable def BS(o:Option Obj):Bool:=o.any λo=>o.cls== .type "tuple" &&(MA o.data).any λxs=>xs.toList==DG
noncomputable def B5(K:di):List (List bL)×List bL:=(nC.map λe=>pz K (dG e.1.1),pz K 37)
noncomputable def CB:List (List bL)×List bL:=(nC.map λe=>(gS e.1.2.2).s e.2,IM)
noncomputable def tC(K:di):Bool:=nC.all (yD K)&&(D9.all (D2 K)&&(xD.all (BW K)&&(tV.all (λe=>!gM e.1||yV K e.1 e.2)&&(lA.all (λe=>yV K e.1 e.2&&(dU e.1 81||makesIn K e.2))&&
 (qM.all (C4 K)&&(["range","zip","reversed","list"].all (DV K)&&(eG.all (Jn K)&&(BS (K.lookup 516)&&(yq K&&JJ K)))))))))
structure DD(K:di):Prop where
 ael:B5 K=CB
 all:tC K=ah
structure EH(K:di)(h:aL):Prop where
 ady:K.In h
 glob:∃mg,h.Ns e9 mg
 blt:∃mb,h.Ns rR mb/\∀x:Str,x≠"__name__"->mb x=uB x
 nolimit:h.NoLimit
 modules:h.get? jI≠ao
 all:DD K
theorem sN{α:Type}{l:List α}{n:Nat}{G:Prop}(h:l.length=n+1)(k:∀x r,l=x::r->r.length=n->G):G:=by
 cases l with
 |nil=>cases h
 |cons x r=>exact k x r rfl (jZ h)
theorem six{α:Type}{l:List α}{G:Prop}(h:l.length=6)(k:∀a b c d e f,l=[a,b,c,d,e,f]->G):G:=
 sN h λa _ e1 h=>sN h λb _ e2 h=>sN h λc _ e3 h=>sN h λd _ e4 h=>sN h λe _ e5 h=>sN h λf _ e6 h=>k a b c d e f (by rw[e1,e2,e3,e4,e5,e6,na.mp h])
theorem ye{α:Type}:∀{l:List (Nat×α)} {k:Nat} {v:α},eE l k=aa v->(k,v)∈l:=by
 intro l;induction l with
 |nil=>exact nofun
 |cons _ _ ih=>intro _ _ h;exact(pF h).elim (λz=>by rw[z.1,z.2];exact .head _) λz=>.tail _ (ih z)
theorem VW{α:Type}{l:List (Nat×α)}{k:Nat}(h:(eE l k).isSome=ah):∃v,eE l k=aa v/\(k,v)∈l:=by
 cases e:eE l k with
 |none=>rw[e] at h;exact zC h
 |some v=>exact⟨v,rfl,ye e⟩
theorem mQ{α:Type}{o:Option α}{p:α->Bool}(h:o.any p=ah):∃x,o=aa x/\p x=ah:=by
 cases o with
 |none=>exact zC h
 |some x=>exact⟨x,rfl,h⟩
theorem Tu{d:ph}{x:jb}(h:Kq d=aa x):d= .func x:=by cases d <;> cases h <;> rfl
theorem WJ{d:ph}{x:ClassData}(h:Id d=aa x):d= .cls x:=by cases d <;> cases h <;> rfl
theorem aah{d:ph}{x:Array av}(h:Lx d=aa x):d= .fields x:=by cases d <;> cases h <;> rfl
theorem Q8{d:ph}{x:Option av}(h:JV d=aa x):d= .cell x:=by cases d <;> cases h <;> rfl
theorem RZ{d:ph}{x:Array av}(h:MA d=aa x):∃n,d= .seq x n:=by cases d <;> cases h <;> exact⟨_,rfl⟩
theorem Ra{v:av}(h:Lz v=ah):∃f t,v= .str f t/\((pP.main.file:Str)==f)=ah:=by cases v <;> first|exact⟨_,_,rfl,h⟩|exact zC h
theorem aai{o:Option Obj}(h:Jp o=ah):∃nm q N bs sn sub ab col dd k0 k1 k2 k3 k5,o=aa (jK nm q 47 N bs dm ah sn sub ab col dd k0 k1 k2 k3 k5 "Exception.__new__"):=by refine e1a2 (mQ h) λob eo h=>?_;refine e1a2 (mQ (aH h)) λcd ec h'=>?_;rw[eo];obtain ⟨c,dd,da,⟨l⟩⟩:=ob;simp only [dE,beq_iff_eq,xo] at h';have h0:c=_:=beq_iff_eq.mp (aV h);have E5:da=_:=WJ ec;refine iX h' λh1 h2 h3 h4 h5=>?_;obtain ⟨nm,bs,mro,ns,q,hd,sn,sub,ab,col,del⟩:=cd;refine six (l:=l) h4 λk0 k1 k2 k3 k4 k5 e=>?_;have h5:l[4]? =aa (aa (.builtin "Exception.__new__")):=h5;rw[e] at h5;have h1:mro=_:=h1;have h2:hd=ah:=h2;have h3:del=au:=h3;have h5:k4=aa (GH "Exception.__new__"):=cP h5;exact⟨_,_,_,_,_,_,_,_,_,_,_,_,_,_,by rw[h0,E5,h1,h2,h3,e,h5]⟩
theorem Rz{o:Option Obj}(h:JT o=ah):∃oc vs file tf,o=aa oc/\oc.data= .fields vs/\vs[2]? =aa (.str file tf)/\((pP.main.file:Str)==file)=ah:=
 e1a2 (mQ h) λoc e h=>e1a2 (mQ h) λvs e2 h=>e1a2 (mQ h) λv e3 h=>e2a2 (Ra h) λf t e4 h=>⟨oc,vs,f,t,e,aah e2,e3.trans (congrArg aa e4),h⟩
theorem WX{o:Option Obj}(h:Jx o=ah):∃oc,o=aa oc/\oc.data= .cell (aa (.ref 47)):=
 e1a2 (mQ h) λoc e h=>⟨oc,e,Q8 (beq_iff_eq.mp h)⟩
theorem Ve{o:Option Obj}(h:BS o=ah):∃oc n,o=aa oc/\oc.cls= .type "tuple"/\oc.data= .seq DG.toArray n:=
 e1a2 (mQ h) λoc e h=>e1a2 (mQ (aH h)) λxs e2 h2=>e1a1 (RZ e2) λn e3=>⟨oc,n,e,beq_iff_eq.mp (aV h),by rw[e3,<-beq_iff_eq.mp h2]⟩
theorem Im{K:di}{a:aB}{fd:jb}(h:sI K a=aa fd):∃o,K.lookup a=aa o/\o.data= .func fd:=
 e1a2 (rS.mp h) λo e h=>⟨o,e,Tu h⟩
theorem KY{K:di}{a:aB}{fd:jb}(h:sI K a=aa fd)(hs:(uY fd.body).isSome=ah):fd.body= .stmts (pz K a):=by
 delta pz;rw[h];cases q:fd.body with
 |stmts b=>show _=FuncBody.stmts ((uY fd.body).getD []);rw[q];rfl
 |_=>rw[q] at hs;exact zC hs
theorem LE{fd:jb}{ps:List Str}(h:yT fd ps=ah):x8 fd ps:=by simp only [yT,dE,beq_iff_eq,adn,ab5,decide_eq_true_eq] at h;refine H3 h λa b c d e f g=>?_;exact⟨a,b,c,d,e,f,g⟩
theorem Lm{fd:jb}(h:zo fd=ah):fd.scope.kind= .function/\fd.scope.isCoroutine=au/\fd.scope.isGenerator=au:=by simp only [zo,dE,beq_iff_eq,xo] at h;exact h
variable {K:di}{w:dO}{h₀:aL}
theorem aaT(hK:K.In h₀){f:Nat}{ps:List Nat}{ck:dp->Bool}(h:(sI K (dG f)).any (DY K ps ck)=ah):∃fd,xZ h₀ f ps fd (pz K (dG f))/\ck fd.scope.names=ah:=by
 refine e1a2 (mQ h) λfd wU h=>?_;simp only [DY,dE,beq_iff_eq,adn,decide_eq_true_eq,cQ,bne_iff_ne,ne_eq] at h;refine Mw h λa0 a1 a2 a3 a4 a5 a6 a7 a10 a11 a12=>?_;refine e1a2 (Im wU) λo ho hd=>?_;refine be (Lm a7) λk1 k2 k3=>?_;refine⟨fd,⟨⟨o,hK _ _ ho,hd⟩,codeRec_of hK a4,KY wU a0,a1,a2,a3,LE a5,λp hp=>gq (a6 p hp).1,k1,k2,k3,λp hp=>?_,a10,λn e=>a11 _ (g7 e) rfl⟩,a12⟩;refine e1a2 (yn (a6 p hp).2) λk hk e=>?_;rcases a_.mp hk with z|z
 ·exact .inl (z▸e)
 ·exact .inr (aZ.mp z▸e)
theorem S4(h:yq K=ah)(hb:pz K 37=IM):tM pP K 47 37:=by simp only [yq,dE,beq_iff_eq] at h;refine J7 h λh1 h2 h3 h4 h5 h6 h7 h8 h9 h10=>?_;refine⟨aai h1,h5,h6,?_,h7,by kernel_rfl,h8,h9,h10⟩;refine e1a2 (mQ h2) λfd wU h2=>?_;simp only [Lp,dE,beq_iff_eq] at h2;refine W6 h2 λa3 a4 a5 a8 a9 b1 b2 b3 b5=>?_;refine be (Lm a5) λk1 k2 k3=>?_;have P:=LE a3;refine e4a4 (Rz h3) λoc vs file tf c1 c2 c3 c4=>?_;refine e1a2 (WX h4) λol c5 c6=>?_;refine e1a2 (Im wU) λo ho hd=>?_;have hB:=KY wU b3;rw[hb] at hB;refine⟨o,fd,25,36,oc,vs,file,tf,ol,_,_,_,_,_,_,_,_,_,_,ho,hd,P,a4,k1,k2,k3,a8,a9,b1,b2,hB,?_,b5,c1,c2,c3,c4,rfl,c5,c6⟩;rw[P.pos,List.nil_append,<-List.head?_map,P.args];rfl
theorem Zu(e:DD K)(hK:K.In h₀){x:Nat}{v:V}(q:DC x=aa v):x<eN/\∃pv,iG K e9 (aE x)=aa (aa pv)/\∀C:aY,(∀a,C.pr a->h₀.get? a=ao)->VR C h₀ v pv:=by
 have h:=e.all;simp only [tC,dE] at h;refine J7 h λ_ _ _ _ _ _ _ hg ht _=>?_;have g:∀{pv},(x,pv)∈eG->(∀C:aY,(∀a,C.pr a->h₀.get? a=ao)->VR C h₀ v pv)->x<eN/\∃pv,iG K e9 (aE x)=aa (aa pv)/\∀C:aY,(∀a,C.pr a->h₀.get? a=ao)->VR C h₀ v pv:=λ{pv} m r=>by have:=cQ.mp hg _ m;exact⟨gq (aV this),pv,beq_iff_eq.mp (aH this),r⟩
 have hn:∀{n},gM n=ah->n<eN:=gq;have m:=ye (show eE Cv x=aa v from q);simp only [Cv,a_,qz.injEq,fF,or_false] at m;rcases m with ⟨e1,e2⟩|⟨e1,e2⟩|⟨e1,e2⟩|⟨e1,e2⟩|⟨e1,e2⟩ <;> rw[e2] <;> rw[e2] at g
 ·exact g (pv:=.int 0 259) (by rw[e1];exact .head _) λC _=>.int _ _
 ·exact g (pv:=.int 1 261) (by rw[e1];exact .tail _ (.head _)) λC _=>.int _ _
 ·exact g (pv:=.int 2 263) (by rw[e1];exact .tail _ (.tail _ (.head _))) λC _=>.int _ _
 ·refine e2a3 (Ve ht) λoc n k1 k2 k3=>?_;refine g (pv:=.ref 516) (by rw[e1];exact .tail _ (.tail _ (.tail _ (.tail _ (.head _))))) λC hC=>?_;refine VR.ad8 (l:=DG) (vs:=[.str 195,.str 258,.str 21,.str 18]) (.cons (.str _ (hn (by kernel_rfl))) (.cons (.str _ (hn (by kernel_rfl))) (.cons (.str _ (hn (by kernel_rfl))) (.cons (.str _ (hn (by kernel_rfl))) .nil)))) rfl ⟨λz=>?_,oc,hK _ _ k1,k2,n,k3⟩ (by show 4<=_;decide);have:=hC _ z;exact zB ((hK _ _ k1).symm.trans this)
 ·exact g (pv:=.str (aE 77) 895) (by rw[e1];exact .tail _ (.tail _ (.tail _ (.head _)))) λC _=>.str _ (hn (by kernel_rfl))
theorem U2{α β:Type}{x:α}:∀{l:List α} {l':List β},l.length=l'.length->x∈l->∃y,(x,y)∈l.zip l':=by
 intro l;induction l with
 |nil=>exact nofun
 |cons a l ih=>
  intro z27';cases z27' with
  |nil=>exact nofun
  |cons b l'=>
   intro h m;rcases a_.mp m with z|m
   ·exact⟨b,z▸.head _⟩
   ·refine e1a1 (ih (jZ h) m) λy q=>?_;exact⟨y,.tail _ q⟩
theorem e_k(e:EH K h₀):J2 K h₀:=by
 have h:=e.all.all;simp only [tC,dE] at h;refine iX h λ_ hf hm hg _=>?_;refine⟨e.ady,e.glob,e.blt,e.nolimit,e.modules,λx v q=>Zu e.all e.ady q,λc f q=>?_,λc m f q=>?_,λf q=>?_⟩
 ·have:=cQ.mp hf _ (acb.mp q);simp only [D2,dE,beq_iff_eq] at this;exact⟨gq this.1,this.2⟩
 ·have:=cQ.mp hm _ (MS q);simp only [BW,dE,beq_iff_eq] at this;exact⟨gq this.1,this.2⟩
 ·refine e1a2 (VW q.2) λa ha hm=>?_;have:=BM (cQ.mp hg _ hm) (AQ.mpr q.1);rw[show dG f=a by delta dG;rw[ha];rfl];exact⟨beq_iff_eq.mp (aV this),aH this⟩
theorem LB{c:Nat}(h:(lA.any λe=>dU e.1 c)=ah):(c,cT c)∈lA:=by
 simp only [lA,abM,List.any_nil,qp,Nat.beq_eq_true_eq,acG] at h;rcases h with z|z|z|z|z <;> rw[<-AV z]
 ·exact .head _
 ·exact .tail _ (.head _)
 ·exact .tail _ (.tail _ (.head _))
 ·exact .tail _ (.tail _ (.tail _ (.head _)))
 ·exact .tail _ (.tail _ (.tail _ (.tail _ (.head _))))
theorem Kh(e:EH K h₀):bU (eC K w h₀):=by
 have h:=e.all.all;simp only [tC,dE] at h;refine Mw h λAd _ _ _ hc hb Am _ _ hs _=>?_;refine⟨e_k e,λf bv q=>?_,λt ht=>?_,λc q=>?_,λc q n=>?_,S4 hs (congrArg Prod.snd e.all.ael),λf p q=>?_⟩
 ·have:=cQ.mp hb _ (ye (show eE qM f=aa bv from q));simp only [C4,dE,beq_iff_eq,xo,beq_eq_false_iff_ne] at this;exact⟨gq this.1,this.2.1,this.2.2.1,this.2.2.2⟩
 ·have:=cQ.mp Am t ht;simp only [DV,dE,beq_iff_eq,xo] at this;exact⟨this.1,this.2.1,beq_eq_false_iff_ne.mp this.2.2.1,this.2.2.2⟩
 ·have:=cQ.mp hc _ (LB q);exact⟨beq_iff_eq.mp (aV (aV this)),aH (aV this)⟩
 ·have:=cQ.mp hc _ (LB q);rcases qp _ _▸aH this with z|z
  ·exact absurd (AV z) n
  ·exact z
 ·have m:=ye (show eE Dj f=aa p from q);refine e1a1 (U2 (l':=KM.map MG) (by rw[aP];rfl) m) λl hm=>?_;refine e1a2 (aaT e.ady (cQ.mp Ad _ hm)) λfd F ok=>?_;rw[show pz K (dG f)=(gS p.2).s l from List.map_inj_left.mp (show nC.map (λe=>pz K (dG e.1.1))=nC.map λe=>(gS e.1.2.2).s e.2 from congrArg Prod.fst e.all.ael) _ hm] at F;exact⟨fd,l,F,ok⟩
theorem Bv{h:aL}{a b:aB}{m:Str->Option av}{xs:Array av}(x:h.Ns b m)(l:h.IsList a xs):(k_ h [a]).Ns b m:=by
 refine e3a3 x λo es ep ho hd r=>?_
 (refine e1a3 l λo' bN _ aD=>?_;refine e1a1 aD λn d8=>?_)
 refine⟨o,es,ep,sq _ ho (λq=>?_),hd,r⟩;rw[aZ.mp q,bN] at ho;cases zF ho;rw[hd] at d8;cases d8
theorem EH.hide{h:aL}{a:aB}{xs:Array av}(e:EH K h)(l:h.IsList a xs)(ha:(a==jI)=au):EH K (k_ h [a]):=by
 refine⟨λb o q=>sq _ (e.ady b o q) λz=>?_,e1a1 e.glob λm x=>⟨m,Bv x l⟩,e1a2 e.blt λm x y=>⟨m,Bv x l,y⟩,e1a2 e.nolimit λm x y=>⟨m,Bv x l,y⟩,?_,e.all⟩
 ·have:=e.ady b o q;rw[aZ.mp z] at this;refine e1a3 l λo' bN hc _=>?_;cases zF (this.symm.trans bN);have h:=e.all.all;simp only [tC,dE] at h;have:=cQ.mp h.2.2.2.2.2.2.2.2.2.2 _ (g7 q);rw[show(o.cls==xi "list")=ah from beq_iff_eq.mpr hc] at this;exact zC this
 ·cases q:h.get? jI with
  |none=>exact absurd q e.modules
  |some o=>rw[sq _ q (λz=>by rw[<-aZ.mp z] at ha;exact absurd ha (by simp))];exact λz=>nomatch z
section
variable {h:Hp}{Q:PV}{X:Hp->Prop}{n a:Nat}{L:aM}
theorem yG{o:O}(x:St (h.lock ao) L)(q:∀n h',St (h'.lock ao) ((n,o)::L)->Q (.ref n) h'):cj o Q h:=λn e=>q n _ (x.new e)
theorem YE{xs:List Int}(x:St (h.lock ao) [(a,.list (xs.map V.int))])(hl:xs.length<=63)(q:∀h' z,SD z 0 [(a,.list (xs.map V.int))] (h'.lock ao)->Q (.ref z) h'):Cl 186 [.ref a] Q X h:=by
 have l1:(xs.map V.int).length <aG:=by rw[aP];exact aR hl (by decide)
 have l2:(xs.take 24).length<=24:=by rw[ach];exact xm _ _
 have e1:(xs.map V.int).take 24=(xs.take 24).map V.int:=acV.symm;have e2:∀l:List Int,l.map (λk=>V.int (if k<0 then -k else k))=(l.map QF).map iv:=λl=>by
  rw[iE];exact ma λk _=>congrArg V.int (by
   cases k with
   |ofNat n=>exact if_neg (G6.mpr (nk n))
   |negSucc n=>exact if_pos (Int.negSucc_lt_zero n))
 refine ba ⟨_,x.ix 0 rfl,by decide,l1,yG x λn h x=>bT (x.ix 0 rfl) (e1▸uV (g:=V.int) (λk=>V.int (if k<0 then -k else k)) (bM (e1▸x.ix 0 rfl)) (λk hk acc J q=>q) (yG x λca h x=>?_))⟩;rw[e2] at x;have l3:((xs.take 24).map QF).length<=24:=by rw[aP];exact l2
 generalize (xs.take 24).map QF=cs at x l3;have x:St (h.lock ao) [(ca,.list (cs.map iv)),(a,.list (xs.map V.int))]:=x.sub (.cons₂ _ (.cons _ (.refl _)));show kC _ _ _ _ _ _ (.ref ca) h;refine bT (x.ix 0 rfl) (uV (L:=cs) (g:=iv) (λk=>iv (k % 9973)) (bM (x.ix 0 rfl)) (λk hk acc J q=>(vo (Q:=λv h=>J (acc++[v]) h) (y:=9973) (by decide) q:)) (yG x λn h x=>aav (l:=cs.map (· % 9973)) (by rw[iE];exact x.ix 0 rfl) λe=>
  yG x λz h x=>q _ z ⟨⟨ca,cs,0,e⟩,l3,x.sub (.cons₂ _ (.cons _ (.refl _)))⟩))
end
variable {K:di}{w:dO}{H0 H:aL}{a L:aB}{env:bJ}{ns:dp}{g:Hp}{C:aY}
structure gn(ns:dp)(env:bJ)(L:aB):Prop where
 kind:env.scope.kind= .function
 gl:env.globals=e9
 bi:env.builtins=rR
 loc:env.locals=L
 frame:env.frame=aa L
 names:env.scope.names=ns
 cells:env.cells=[(("shared" :Str),L+2),("sharing",L+1)]
 adF:∀n,env.kindOf n=ns.lookup n
structure s6(ns:dp):Prop where
 free:ns.all (λx=>x.2 != .free)=ah
 cell:ns.all (λx=>x.2 != .cell ||x.1==("shared" :Str)||x.1==("sharing" :Str))=ah
 aew:ns.lookup (aE 181)=aa .local
 state:ns.lookup (aE 187)=aa .local
theorem gn.ad7(e:gn ns env L)(k:s6 ns){n:Str}(q:ns.lookup n=aa .free):False:=by have:=cQ.mp k.free _ (g7 q);exact zC this
theorem gn.nm(e:gn ns env L)(k:s6 ns):dk ns env:=
 ⟨λn q=>(e.adF n).trans q,λn q=>(e.adF n).trans q,λn q=>(e.ad7 k q).elim,λn q=>(e.adF n).trans q⟩
theorem gn.adW(e:gn ns env L):mA (xv.deeper env) env:=⟨⟨[],rfl⟩,by rw[e.frame,e.loc]⟩
theorem gn.lk(e:gn ns env L){n:Str}{c:aB}(q:env.cells.lookup n=aa c):(n= "shared"/\c=L+2)\/(n= "sharing"/\c=L+1):=by
 rw[e.cells] at q;have q:=g7 q;rcases a_.mp q with q|q
 ·cases q;exact .inl ⟨rfl,rfl⟩
 ·cases aZ.mp q;exact .inr ⟨rfl,rfl⟩
theorem gn.adJ(e:gn ns env L)(k:s6 ns){n:Str}(q:env.kindOf n=aa .cell\/env.kindOf n=aa .free):∃c,env.cells.lookup n=aa c:=by
 rw[e.adF] at q;rcases q with q|q
 ·have:=cQ.mp k.cell _ (g7 q);simp only [bne_self_eq_false,Bool.false_or,qp,beq_iff_eq] at this;rw[e.cells];rcases this with z|z <;> rw[z]
  ·exact⟨_,rfl⟩
  ·exact⟨_,rfl⟩
 ·exact(e.ad7 k q).elim
theorem gn.ek(e:gn ns env L):EK env:=⟨e.kind,e.gl,e.bi,λn n' c q q'=>by
 rcases e.lk q with ⟨a,b⟩|⟨a,b⟩ <;> rcases e.lk q' with ⟨c,d⟩|⟨c,d⟩ <;> rw[a,c] <;> rw[b] at d
 ·exact absurd (OU d) (by decide)
 ·exact absurd (OU d) (by decide)⟩
theorem gn.wof(e:gn ns env L){b:aB}(h:dc env b):b=L\/b=L+1\/b=L+2:=by
 rcases h with h|⟨n,h⟩
 ·exact .inl (h.trans e.loc)
 ·rcases e.lk h with ⟨_,z⟩|⟨_,z⟩
  ·exact .inr (.inr z)
  ·exact .inr (.inl z)
theorem gn.ffr(e:gn ns env L){m:Str->Option av}(hn:H.Ns L m)(h0:C.h₀.get? L=ao)(hL:¬b9 g L):gP C (xv.deeper env) g H:=
 ⟨[env],rfl,acK (by rw[e.kind];decide) e.frame hn h0 trivial,λenv' he L' OO=>by rw[aZ.mp he,e.frame] at OO;cases zF OO;refine e1a3 (Ns.data hn) λo' ho _ q=>?_;exact⟨hL,λo z=>by cases zF (ho.symm.trans z);exact q⟩⟩
theorem VT{P:qA}{h:aL}:∀{xs:List Int} {vs:List av},HP P h vs (xs.map λi=>qB (.int i))->∀{C:aY} {h':aL},VL C h' (xs.map V.int) vs:=by
 intro xs;induction xs with
 |nil=>intro _ x C h';exact by cases x;exact .nil
 |cons i xs ih=>
  intro _ x C h';cases x with
  |cons p q=>cases p;exact .cons (.int _ _) (ih q)
theorem WN{b:aB}(h:H0.get? b=ao):(k_ H0 [a]).get? b=ao:=by
 cases q:(k_ H0 [a]).get? b with
 |none=>rfl
 |some o=>exact zB ((Hw _ q).symm.trans h)
theorem IG{b:aB}{o:Obj}(h:H0.get? b=aa o)(hb:b≠a):(k_ H0 [a]).get? b=aa o:=sq _ h λz=>hb (aZ.mp z)
noncomputable def g1(a:aB)(xs:List Int):Hp:=⟨λb=>if b=a then aa (.list (xs.map V.int)) else ao,aa a⟩
theorem yY{xs:List Int}{b:aB}{o:O}(h:(g1 a xs).get b=aa o):b=a/\o= .list (xs.map V.int):=by
 have h:(if b=a then aa (O.list (xs.map V.int)) else ao)=aa o:=h;split at h
 ·cases zF h;exact⟨‹_›,rfl⟩
 ·exact zA h
theorem Et{xs:List Int}{b:aB}(h:b9 (g1 a xs) b):b=a:=by
 refine e2a2 h λn o e h=>?_;refine aC (yY e) λe1 e2=>?_;rcases h with h|⟨h,_⟩
 ·exact h.trans e1
 ·rw[e2] at h;exact zC h
theorem MJ{xs:List Int}{vs:List av}(hl:xs.length<=63)(h0:H0.get? a=aa {cls:=.type "list",data:=.seq vs.toArray})(hw:HP w.params H0 vs (xs.map λi=>qB (.int i)))(k:Kp H0 H):HR (eC K w (k_ H0 [a])) (g1 a xs) H where
 keep b o q:=k b o (Hw _ q)
 obj n o q:=by refine aC (yY q) λe1 e2=>?_;rw[e1,e2];exact⟨by rw[aP];exact aI hl (by decide),vs,0,k _ _ h0,VT hw⟩
 adO b hb:=by rw[Et hb];exact hideAll_none _ (.head _)
 ap n m o o' b e e' _ _:=(yY e).1.trans (yY e').1.symm
 adQ n e:=⟨_,by cases zF e;exact if_pos rfl⟩
 adI b z:=z.elim
noncomputable def r1(a:aB):Mine.Env:=bf [181] [.ref a] Env.nil
noncomputable def r2(z:aB):Mine.Env:=bf [187] [.ref z] Env.nil
theorem xJ{n x:Nat}{v v':V}(h:bf [n] [v'] Env.nil x=aa v):x=n/\v=v':=by
 have h:(if x=n then aa v' else ao)=aa v:=h;split at h
 ·cases zF h;exact⟨‹_›,rfl⟩
 ·exact zA h
theorem er1(e:gn ns env L)(k:s6 ns){xs:List Int}{h0:aL}{m:Str->Option av}(hn:H.Ns L m)(hm:m (aE 181)=aa (.ref a)){v1 v2:Option av}(c1:H.IsCell (L+2) v1)(c2:H.IsCell (L+1) v2)(ap:∀b,b=L\/b=L+1\/b=L+2->b≠a/\C.h₀.get? b=ao):ER C env (r1 a) (g1 a xs) H where
 loc:=⟨m,by rw[e.loc];exact hn,λx v q _ _=>by refine aC (xJ q) λe1 e2=>?_;rw[e1,e2];exact⟨_,hm,.ref a⟩⟩
 adJ n q:=e.adJ k q
 cells n c q:=by
  have no:(env.kindOf n=aa .cell\/env.kindOf n=aa .free)->∀x w,n=aE x->x<eN->r1 a x=aa w->False:=λq x w z _ y=>by rw[z,(xJ y).1,e.adF,k.aew] at q;rcases q with q|q <;> cases q
  rcases e.lk q with ⟨_,z⟩|⟨_,z⟩ <;> rw[z]
  ·exact⟨v1,c1,λq x w z l y=>(no q x w z l y).elim⟩
  ·exact⟨v2,c2,λq x w z l y=>(no q x w z l y).elim⟩
 apart b hb:=⟨λq=>(ap b (e.wof hb)).1 (Et q),(ap b (e.wof hb)).2⟩
noncomputable def g2(z c:aB)(o o':O):Hp:=⟨λb=>if b=z then aa o else if b=c then aa o' else ao,ao⟩
theorem V0{z c b:aB}{o o' q:O}(h:(g2 z c o o').get b=aa q):(b=z/\q=o)\/(b=c/\q=o'):=by
 have h:(if b=z then aa o else if b=c then aa o' else ao)=aa q:=h;split at h
 ·cases zF h;exact .inl ⟨‹_›,rfl⟩
 ·split at h
  ·cases zF h;exact .inr ⟨‹_›,rfl⟩
  ·exact zA h
theorem to2{ob:Obj}{z c:aB}{o o':O}{ρ:Mine.Env}(ha:H0.get? a=aa ob)(hp:H.get? a=aa ob)(gl:jr o=au)(gl':jr o'=au)(hr:HR (eC K w (k_ H0 [a])) g H)(za:z≠a)(ca:c≠a)(gz:g.get z=aa o)(gc:g.get c=aa o')
  (ev:gn ns env L) (k:s6 ns) (er:ER (eC K w (k_ H0 [a])) env ρ g H) (ga:b9 g a) (FW:ρ 187=aa (.ref z)):
  HR (eC K w H0) (g2 z c o o') H/\ER (eC K w H0) env (r2 z) (g2 z c o o') H/\gP (eC K w H0) (xv.deeper env) (g2 z c o o') H:=by
 have sub:∀{n q},(g2 z c o o').get n=aa q->g.get n=aa q/\n≠a/\jr q=au:=λe=>by
  rcases V0 e with ⟨e1,e2⟩|⟨e1,e2⟩ <;> rw[e1,e2]
  ·exact⟨gz,za,gl⟩
  ·exact⟨gc,ca,gl'⟩
 have own:∀{b},b9 (g2 z c o o') b->b9 g b/\b≠a:=λyy=>e2a2 yy λn q e h=>by
  refine be (sub e) λs1 s2 s3=>?_;rcases h with h'|⟨h',_⟩
  ·rw[h'];exact⟨⟨n,q,s1,.inl rfl⟩,s2⟩
  ·exact zC (s3.symm.trans h')
 have up:∀{b},(k_ H0 [a]).get? b=ao->b≠a->H0.get? b=ao:=λ{b} x y=>by
  cases z:H0.get? b with
  |none=>rfl
  |some o=>exact zB ((IG z y).symm.trans x)
 have ap:∀b,dc env b->¬b9 (g2 z c o o') b/\H0.get? b=ao:=λb hb=>by refine aC (er.apart b hb) λx1 x2=>?_;exact⟨λy=>x1 (own y).1,up x2 λy=>x1 (y▸ga)⟩
 refine e1a2 er.loc λm hm km=>?_;refine⟨⟨λb q e=>?_,λn q e=>OR.mono (h0:=H0) (X:=λ_=>False) (hr.obj n q (sub e).1) (λ_ _ t=>t) λ_ _=>rfl,λb hb=>up (hr.adO b (own hb).1) (own hb).2,λn m q q' b e e' h h'=>hr.ap n m q q' b (sub e).1 (sub e').1 h h',(λn e=>nomatch e),λb z=>z.elim⟩,
  ⟨⟨m,hm,λx v e _ kx=>?_⟩,er.adJ,λn b q=>?_,ap⟩,ev.ffr (ev.loc▸hm) (ap L (.inl ev.loc.symm)).2 (ap L (.inl ev.loc.symm)).1⟩
 ·rcases Nat.decEq b a with n|n
  ·exact hr.keep b q (IG e n)
  ·rw[n] at e ⊢;exact hp.trans (ha.symm.trans e)
 ·refine aC (xJ e) λe1 e2=>?_;rw[e1,e2];rw[e1] at kx;refine e1a2 (km 187 _ FW (gq (by kernel_rfl)) kx) λpv y1 y2=>?_;rw[y2.adY] at y1;exact⟨_,y1,.ref z⟩
 ·refine e1a2 (er.cells n b q) λv y1 _=>?_;refine⟨v,y1,λq x w e _ y=>?_⟩;rw[e,(xJ y).1,ev.adF,k.state] at q;rcases q with q|q <;> cases q
theorem LT:mG 10 (xv.deeper env):=⟨rfl,by show 1+claimMargin+1+40+20<GU;decide,by show 4+3+160+120<oH;decide⟩
noncomputable def B9:S:=match sP with
 | .q a _=>a
 |s=>s
noncomputable def X_(ns:dp)(l:List bL):Bool:=(jQ 10 B9 au).o ns (fz l)&&(jQ 10 (dW sP) ah).s ns l.tail
theorem e_main{body:List bL}{s:aA}{xs:List Int}{vs:List av}{m:Str->Option av}{v1 v2:Option av}{Q:nh->aA->Prop}{E:av->aA->Prop}(hb:(gS sP).s body=body)(hc:X_ ns body=ah)(kn:s6 ns)(ev:gn ns env L)(eh:EH K H0)
  (hl:xs.length<=63) (h0:H0.get? a=aa {cls:=.type "list",data:=.seq vs.toArray}) (hw:HP w.params H0 vs (xs.map λi=>qB (.int i))) (lo:(a==jI)=au) (k:Kp H0 s.heap)
  (hn:s.heap.Ns L m) (hm:m (aE 181)=aa (.ref a)) (c1:s.heap.IsCell (L+2) v1) (c2:s.heap.IsCell (L+1) v2) (n0:H0.get? L=ao) (n1:H0.get? (L+1)=ao) (n2:H0.get? (L+2)=ao)
  (hQ:∀s',Kp H0 s'.heap->fZ s s'->Q (.ret (.bool ah)) s'):ay (model pP w) (xv.deeper env) (execs body env) Q E s:=by
 have G1:=Kh (w:=w) (eh.hide ⟨_,h0,rfl,_,rfl⟩ lo);have G2:=Kh (w:=w) eh;have an:∀b,b=L\/b=L+1\/b=L+2->b≠a/\(k_ H0 [a]).get? b=ao:=λb hb=>by
  have n:H0.get? b=ao:=by rcases hb with e|e|e <;> rw[e] <;> assumption
  exact⟨λz=>(by rw[z,h0] at n;exact nomatch n),WN n⟩
 have hR:=MJ (K:=K) hl h0 hw k;have W1:Wz (eC K w (k_ H0 [a])) 10 (xv.deeper env) env (r1 a) (g1 a xs) s:=⟨LT,ev.ek,hR,er1 (h0:=H0) ev kn hn hm c1 c2 an,ev.ffr hn (an L (.inl rfl)).2 λq=>(an L (.inl rfl)).1 (Et q)⟩;have V1:vS Cl B9 (r1 a) (λf ρ h=>f= .next/\∃z,ρ 187=aa (.ref z)/\SD z 0 [(a,.list (xs.map V.int))] (h.lock ao)) (g1 a xs):=
  YE (xs:=xs) ⟨rfl,dK.mpr ⟨fF,.nil⟩,λp hp=>by rw[aZ.mp hp];exact if_pos rfl⟩ hl λh' z x=>⟨rfl,z,rfl,x⟩
 rw[<-hb];refine xa ((Cd 10 _ B9 au).o (aV hc) G1 (ev.nm kn) ev.adW W1 V1 ⟨λaO h' s' q _ W p=>?_,(λ_ _ _ q=>nomatch q.1),(λ_ _ _ _ _ q=>nomatch q.1),(λ_ _ _ q=>nomatch q.1)⟩)
 (refine aC q λ_ aD=>?_;refine e1a2 aD λz hz jU=>?_;refine e1a2 jU λS sl x=>?_)
 have nd:=x.nd;have pa:s'.heap.get? a=aa {cls:=.type "list",data:=.seq vs.toArray}:=p.tr.pin rfl a _ rfl (k _ _ h0);refine be (to2 h0 pa rfl rfl W.hr (λe=>(dK.mp nd).1 (by rw[e];exact .tail _ (.head _))) (λe=>(dK.mp (dK.mp nd).2).1 (by rw[e];exact .head _)) (x.ix 0 rfl) (x.ix 1 rfl) ev kn W.er ⟨a,_,x.ix 2 rfl,.inl rfl⟩ hz) λv5 er2 fr2=>?_
 ·refine(Cd 10 _ (dW sP) ah).s (aH hc) G2 (ev.nm kn) ev.adW ⟨LT,ev.ek,v5,er2,fr2⟩ (Td (Q:=λv _=>v= .bool ah) (Y:=λ_=>False) ⟨S,sl,⟨rfl,(x.sub (.cons₂ _ (.cons₂ _ (.cons _ (.refl _))))).nd,λp hp=>?_⟩⟩ λ_=>rfl) ⟨(λ_ _ _ q=>nomatch q),λ_ _ _ q=>q.elim,λv _ h2 pv s2 q r p2=>?_,λ_ _ _ q=>q.elim⟩
  ·rcases a_.mp hp with e|hp
   ·rw[e];exact if_pos rfl
   ·have e:=aZ.mp hp;rw[e];exact(if_neg λe'=>by have:=(dK.mp nd).1;exact this (by rw[<-e'];exact .head _)).trans (if_pos rfl)
  ·have q:v= .bool ah:=q;rw[q] at r;rw[r.ofBool];exact hQ s2 p2.hr.keep (p.sm.trans p2.sm)
end Mine
section
set_option maxHeartbeats 0
namespace Mine
noncomputable def Zc:List Nat:=[0,2,3,5,6,7,8,9,11,13,14,15,17,18,19,20,21,22,23,24,25,26,27,28,29,30,31,32,33,34,35]
noncomputable def qP:i6:=view pP Zc
noncomputable def CC:List Str:=QG pP.main.body
noncomputable def xtP(s:aA):Bool:=xlAt qP [] s&&recOk [] s
noncomputable def B6(P:qA)(s:aA):Bool:=QH CC (kc P) s.heap&&QI pP s.heap&&QJ s&&QK (kc P) s.heap
noncomputable def yI(s:aA):=ado qP [] CC xtP ah s
noncomputable def yk:List aB:=3::2::25::46::47::281::282::386::387::510::511::516::816::817::36::37::tV.flatMap λe=>[e.2,e.2-1]
noncomputable def vJ(as:List aB)(h:aL):di:=as.filterMap λa=>(h.get? a).map λo=>(a,o)
theorem Ca(h:aL):∀as,(vJ as h).In h
 |[],a,o,e=>by cases e
 |b::r,a,o,e=>by
  unfold vJ at e;rw[o0] at e;cases q:h.get? b with
  |none=>rw[q] at e;exact Ca h r a o e
  |some ob=>
   rw[q] at e;simp only [Qh,List.lookup] at e;split at e
   ·rename_i z;rw[beq_iff_eq] at z;subst z;injection e with e;subst e;exact q
   ·exact Ca h r a o e
noncomputable def Y5(K:di):Bool:=D9.all (D2 K)&&(xD.all (BW K)&&(tV.all (λe=>!gM e.1||yV K e.1 e.2)&&(lA.all (λe=>yV K e.1 e.2&&(dU e.1 81||makesIn K e.2))&&
 (qM.all (C4 K)&&(["range","zip","reversed","list"].all (DV K)&&(eG.all (Jn K)&&(BS (K.lookup 516)&&(yq K&&JJ K))))))))
noncomputable def obsP(s:aA):Bool×(List (List bL)×List bL):=(tC (vJ yk s.heap),B5 (vJ yk s.heap))
noncomputable def valP:Bool×(List (List bL)×List bL):=(ah,CB)
def saysP(_:dO)(h:aL):Prop:=∃K:di,K.In h/\DD K
noncomputable def uU(st:mn):di:=vJ yk st.abs.heap
noncomputable def D5:Seen:=⟨(Fast.tw3399658132070893891 qP).map λd=>aa d.shape,ah,[],ah,ah,ah,0⟩
noncomputable def DO:Option Str×List (Str×av):=(aa ("__name__" :Str),(Fast.tw15521713216982973386.map λy=>(dD y.1,bootValue y.2 y.1)).tail)
noncomputable def BA:List (Option FnShape)×Bool:=((adp qP).map λd=>aa d.1.shape,ah)
noncomputable def Ed:List (Option QL):=(Fast.tw210736558901404530 qP (adq qP [])).map λc=>aa (Fast.tw12515865711710729776 c).plainShape
noncomputable def Eh:List (Option (QL×Bool)):=(Fast.tw4354255287344443571 qP []).map λc=>aa (c.plainShape,ah)
noncomputable def Db:List (Option FnShape)×Bool:=((Fast.tw694669760492028198 qP).map λd=>aa d.1.shape,ah)
noncomputable def DA:List (Option (List (Option FnShape)×Bool)×Option (QL×Bool)):=(Fast.tw1571739515156823405 qP []).map λc=>(wclsGood c,aa (c.plainShape,ah))
theorem XQ:HQ qP []=(D5,DO,ah,ah,BA,Ed,Eh,Db,DA):=by delta HQ expectedOf bltViewBooted pinGoodD plainGoodE plainGoodD wideGood clsGoodW D5 DO BA Ed Eh Db DA;rw[<-Fast.te3399658132070893891,<-Fast.te15521713216982973386,<-Fast.te3247288618530077131,<-Fast.te210736558901404530,<-Fast.te821141287760084731,<-Fast.te12515865711710729776,<-Fast.te4354255287344443571,<-Fast.te694669760492028198,<-Fast.te1571739515156823405]
theorem UQ(w:dO)(os:k9):(td 10884 w os).map (λst=>((B6 w.params st.abs,(yI st.abs).2.2.1),(yI st.abs).1,(yI st.abs).2.1))=aa ((ah,ah),D5,DO):=by kernel_rfl
theorem SN(w:dO)(os:k9):(td 10884 w os).map (λst=>(Fast.tw479339242167458305 qP st.abs,Fast.tw16090120013241838585 qP (adp qP) st.abs,Fast.tw2386780881361962483 qP (adq qP []) st.abs,Fast.tw11698064438423848299 qP [] st.abs,Fast.tw7317090234206586261 qP st.abs,Fast.tw7369524293546568484 qP [] st.abs))=aa (ah,BA,Ed,Eh,Db,DA):=by kernel_rfl
theorem Wy(w:dO)(os:k9):(td 10884 w os).map (λst=>(nC.take 50).all (yD (uU st)))=aa ah:=by kernel_rfl
theorem RJ(w:dO)(os:k9):(td 10884 w os).map (λst=>((nC.drop 50).all (yD (uU st)),B5 (uU st)))=aa (ah,CB):=by kernel_rfl
theorem Ts(w:dO)(os:k9):(td 10884 w os).map (λst=>Y5 (uU st))=aa ah:=by kernel_rfl
end Mine
end
section
set_option maxHeartbeats 400000
namespace Mine
theorem XU:opening pP=plainProg pP.main.scope.names:=by kernel_rfl
theorem UH(s:aA):fenceModules? pP s=aa s:=by kernel_rfl
theorem Z4(P:qA):((kc P).isNs e9&&(#[]:Array Qi).size ==0)=ah:=by kernel_rfl
theorem WV(P:qA):(kc P).objs.size=11:=by kernel_rfl
theorem So(P:qA):(kc P).nsMap e9 "__annotations__" =aa (.ref 6):=by kernel_rfl
theorem SJ{w:dO}{os:k9}{st:mn}(r:HO Bq pP w 11 (aa (.ref 6)) 10884 ⟨kc w.params,#[],xr,xu,os⟩ (Br pP)=aa st.abs)(l1:B6 w.params st.abs=ah):topFrom Bq pP w 10884 ⟨kc w.params,#[],xr,xu,os⟩=aa st.abs:=by unfold topFrom;dsimp only;rw[Z4,WV,So,r];have l1:(QH (QG pP.main.body) (kc w.params) st.abs.heap&&QI pP st.abs.heap&&QJ st.abs&&QK (kc w.params) st.abs.heap)=ah:=l1;show(match QH (QG pP.main.body) (kc w.params) st.abs.heap&&QI pP st.abs.heap&&QJ st.abs&&QK (kc w.params) st.abs.heap with|true=>_|false=>_)=_;rw[l1]
theorem T7{w:dO}{os:k9}{st:mn}(t1:sJ (yj pP w) yJ 10884 (yU w.params os) (Br pP)=aa st):HO Bq pP w 11 (aa (.ref 6)) 10884 ⟨kc w.params,#[],xr,xu,os⟩ (Br pP)=aa st.abs:=by rw[<-ZC];refine UW ?_;rw[YT,aaP];exact t1
theorem map_some{α β:Type}{f:α->β}{x:Option α}{b:β}(h:x.map f=aa b):∃a,x=aa a/\f a=b:=iD.mp h
theorem yc{α β:Type}{f:α->β}{x:Option α}{b:β}{a:α}(e:x=aa a)(h:x.map f=aa b):f a=b:=by subst e;exact cP h
theorem Sd{A0 A1 A2 A3:Type}{a0 b0:A0}{a1 b1:A1}{a2 b2:A2}{a3 b3:A3}(h0:(a0,a1)=(b0,b1))(h2:a2=b2)(h3:a3=b3):(a0,a1,a2,a3)=(b0,b1,b2,b3):=by
 injection h0 with p0 p1
 subst p0 p1 h2 h3;rfl
theorem UF(w:dO):∃os,fencedOpening Bq pP w 10884=aa ⟨kc w.params,#[],xr,xu,os⟩:=by obtain ⟨⟨h,gs,d,k,os⟩,e,e'⟩:=map_some (boot_open (p:=pP) (N:=10884) XU rfl UH w);injection e' with a1 a2;injection a2 with a2 a3;injection a3 with a3 a4;have a1:h=_:=a1;have a2:gs=_:=a2;have a3:d=_:=a3;have a4:k=_:=a4;subst a1 a2 a3 a4;exact⟨os,e⟩
theorem Sq(w:dO)(os:k9):∃st,td 10884 w os=aa st/\B6 w.params st.abs=ah/\yI st.abs=HQ qP []/\obsP st.abs=valP:=by
 obtain ⟨st,e,ea⟩:=map_some (UQ w os);injection ea with e1 e2;injection e1 with e1 e3;have b:=yc e (SN w os);have d:=yc e (Wy w os);have c:=yc e (RJ w os);injection c with c c2;have f:=yc e (Ts w os);have g:nC.all (yD (uU st))=ah:=by rw[<-Qn 50 nC,List.all_append];exact sB.mpr ⟨d,c⟩
 refine⟨st,e,e1,?_,Bi (sB.mpr ⟨g,f⟩) c2⟩;rw[XQ];exact Sd e2 e3 b
theorem left_ok:LeftO pP qP [] xtP obsP (λ_=>valP) 10884:=λw=>by obtain ⟨os,e⟩:=UF w;obtain ⟨st,t1,l1,l2,t3⟩:=Sq w os;have t1:sJ (yj pP w) yJ 10884 (yU w.params os) (Br pP)=aa st:=t1;have l2:ado qP [] CC xtP ah st.abs=HQ qP []:=l2;rw[<-Fast.te4187177175401517315] at l2;unfold openEnds;rw[e,Option.bind_some,SJ (T7 t1) l1,Qh];exact congrArg aa (Bi l2 t3)
theorem obs_says:∀w s,obsP s=(λ_:dO=>valP) w->saysP w s.heap:=λw s e=>⟨_,Ca s.heap yk,⟨congrArg Prod.snd e,congrArg Prod.fst e⟩⟩
theorem says_keeps:∀w h h',saysP w h->(∀b o,h.get? b=aa o->h'.get? b=aa o)->saysP w h':=λw h h' ⟨K,a,b⟩ k=>⟨K,a.keeps k,b⟩
end Mine
end
section
set_option maxHeartbeats 8000000
namespace Mine
theorem Xn(xs:List Int):qB (.list (xs.map QM))= .list (xs.map λi=>qB (.int i)):=by
 show WData.list (ofPys _)=_;congr 1;induction xs with
 |nil=>rfl
 |cons x r ih=>show qB (.int x)::ofPys (r.map QM)=_;rw[ih];rfl
theorem e_low{R:WRecords}{cl:Str->Option aB}{h:aL}{vals:List av}{args:List WData}{as:List aB}(r:ReadsAllW R cl h vals args as)(lo:∀a∈as,(a==jI)=au)(a:aB)(e1:vals=[du a])(xs:List PyData)(e2:args=[qB (.list xs)]):(a==jI)=au:=by
 subst e1 e2;cases r with
 |cons p q=>
  cases p with
  |list _ _ _ _=>exact lo a (by simp)
theorem well_list{P:qA}{h:aL}{a:aB}{xs:List Int}(x:Well P h (.ref a) (qB (.list (xs.map QM)))):∃vs:List av,h.get? a=aa {cls:=.type "list",data:=.seq vs.toArray}/\HP P h vs (xs.map λi=>qB (.int i)):=by
 rw[Xn] at x;cases x with
 |list p q=>exact⟨_,p,q⟩
theorem size_none{h:aL}{n:Nat}:h.get? (h.objs.size+n)=ao:=oP (b_ _ _)
theorem size_some{h:aL}(x:h.NoSeer):h.get? jI≠ao:=by obtain ⟨_,⟨o,_,_,ho,_⟩,_⟩:=x.mods;rw[ho];simp
theorem YF:Fast.tw8377067652309620493 pP=ah:=by kernel_rfl
theorem Yk:(Fast.tw8326940854005059898 {strict:=!R.allR (Fast.tw5923862056798008813 pP.main.body) (Fast.tw3471404346716756564 Fast.tw17691160309236699985),foot:=ao,bare:=R.filterR (Fast.tw13343964577679436407 pP pP.main.body) [{cps:={toList:=[118,97,114,115]}},{cps:={toList:=[100,105,114]}},{cps:={toList:=[108,111,99,97,108,115]}}]} pP.main.body)=ah:=by kernel_rfl
theorem ZD:(Fast.tw17119622794617984870 pP pP.main.body λ_ n=>Fast.tw17868728402115742887 n)=ah:=by kernel_rfl
theorem Sa:looksOpen pP=ah:=by rw[Fast.te12908688711261696721];refine sB.mpr ⟨sB.mpr ⟨sB.mpr ⟨sB.mpr ⟨?_,YF⟩,?_⟩,Yk⟩,ZD⟩ <;> kernel_rfl
theorem said_ok:adr.wellSaid=ah:=by
 unfold OpenLaw.wellSaid OpenRow.wellSaid OpenRow.partSaid;rw[show looksOpen adr.row.prog=ah from Sa]
 kernel_rfl
end Mine
end
section
set_option maxHeartbeats 8000000
theorem PySem.Challenge.cw_no0026_01_holds : PySem.Challenge.rw_no0026_01.Holds := by
 w_on
 refine holds_law Mine.said_ok λsaid=>?_;refine holds_open (q:=Mine.qP) (loose:=[]) (Xt:=Mine.xtP) (XP:=XL Mine.qP []) (Yf:=Mine.obsP) (Ya:=λ_=>Mine.valP) (YP:=Mine.saysP) (N:=10884) Mine.left_ok Mine.obs_says Mine.says_keeps (λs e=>xl_of s (sB.mp e).1) XL.keeps (by rfl) (by rfl) (by rfl) (λs e=>recFacts_of (sB.mp e).2) (by rfl) (by assumption) (by decide+kernel) ⟨rfl,rfl,rfl,rfl,rfl,by decide+kernel⟩ ?hw ?hc
 case hw=>w_witness2
 case hc=>
  intro w s₀ aW mg mb G Y fa o pm cd doc dV kV ho d8 FN hD OP hg args vals as hpre hlay OQ hwl OT;have LO:=Mine.e_low OQ OT;have GW:=G.low;have GT:=G.T;have X:=(Ground.X G).1;have V:=(Ground.X G).2;refine Ground.open G ?_;intro T B D TE TW;try (refine guard_noD D (by decide+kernel) ?_;clear D)
  obtain ⟨_,_,M⟩:=bmod_of_top T;have TA:=at_of_top T;try (obtain ⟨_,_,he,B0⟩:=based_of_top T rfl OP ho d8;have Gx:cd=_:=he;subst Gx;clear he)
  clear OP
  wrow_args hpre hlay OQ hwl OT
  first|refine callC_kw (enter_call ?_)|refine enter_call ?_|refine callC_kw (enter_callW ?_)|refine enter_callW ?_|w_how
  w_top on
  try refine PH ?_ (λ_ _ g=>GoodW.toG g)
  have K0:=below_caller (Top.heap T)
  w_call any ho d8 FN hD T F
  clear d8 TA
  k_drop
  rename_i zs hs hlay0 NA MJ fR as6 as5 a vs as2 hL ra w1 r0 hI hr hc1 hc2 h1 jW o2 o1 dl dr N0 X0;clear X0;have lo:=LO a rfl _ rfl;obtain ⟨ws,q0,qw⟩:=Mine.well_list w1;obtain ⟨K,KX,KA⟩:=Y;have eh:Mine.EH K aW.heap:=⟨KX,⟨_,GT.g⟩,⟨_,GT.b,GT.builtins⟩,GT.nolimit,Mine.size_some (GT.seer (by kernel_rfl)),KA⟩;have nw:∀n,aW.heap.get? (aW.heap.objs.size+n)=ao:=λn=>Mine.size_none;refine Mine.e_main (H0:=aW.heap) (a:=a) (L:=aW.heap.objs.size) (xs:=zs) (vs:=ws) (by kernel_rfl) (by kernel_rfl) ⟨by kernel_rfl,by kernel_rfl,by kernel_rfl,by kernel_rfl⟩ ⟨rfl,rfl,rfl,rfl,rfl,rfl,by kernel_rfl,λ_=>rfl⟩ eh (by omega) q0 qw lo F.keep F.ns (by kernel_rfl) ⟨_,(N0.get (.head _)),dl⟩ ⟨_,(N0.get (.tail _ (.head _))),dr⟩ (nw 0) (nw 1) (nw 2) λs' k sm=>?_;refine⟨.inl ⟨_,.bool ah,[],rfl,λ_=>rfl,.bool ah,?_,λ_=>⟨jG,λ_ h=>nomatch h⟩⟩,k,sm.2.2,sm.1.trans hg⟩
  wrow_post
end
end
